import PyProof.Rows.All
import HandS.ForMost
import HandS.Wide
import HandS.IsInst
import HandS.TupSets
import HandS.Deep
import HandS.Evl
import HandS.TupAny
import PyProof.SetRoads
import PyProof.Rows.FactsN_isinstance
import PyProof.Rows.FactsN_abs
import PyProof.Rows.FactsT3
import PyProof.Rows.EnumRows
import PyProof.Rows.SeqGen
import PyProof.ReprRoads
import HandS.DictEq
import PyProof.FactsAll.dict
import PyProof.ReprLen
import PySem.Challenge.RW_nevercaught_k02_plain_values
set_option Elab.async false
set_option linter.all false
set_option maxRecDepth 100000
/-! NC1: data trees D over the hand layer, a store of mutable things, readings over (locals, store). -/
namespace NC
open PySem PySem.Spec PyProof.Rows L2
open Evl (Ex)

inductive D where
  | non | bl (b : Bool) | int (i : Int) | str (x : Str)
  | lst (xs : List D) | tup (xs : List D) | ro (xs : List D)
  | dic (kvs : List (Key × D))
  | dit (kvs : List (List Key × D))
  | ref (n : Nat)

inductive SO where
  | lst (xs : List D)

abbrev Store := List (Option SO)

mutual
inductive Rep (K : PySem.W.Frag) (B : Hp) (β : List Addr) : V → D → Prop
  | non : Rep K B β .non .non
  | bl (b : Bool) : Rep K B β (.bl b) (.bl b)
  | int (i : Int) : Rep K B β (.int i) (.int i)
  | str (x : Str) : Rep K B β (.str x) (.str x)
  | lst {a : Addr} {vs : List V} {ds : List D} : B a = some (.lst vs) → Reps K B β vs ds → Rep K B β (.ref a) (.lst ds)
  | ro {a : Addr} {vs : List V} {ds : List D} : SqL K B a vs → Reps K B β vs ds → Rep K B β (.ref a) (.ro ds)
  | tup {a : Addr} {vs : List V} {ds : List D} : SqT K B a vs → Reps K B β vs ds → Rep K B β (.ref a) (.tup ds)
  | dic {a : Addr} {kvs : List (Key × V)} {ds : List (Key × D)} : B a = some (.dK kvs) → RepK K B β kvs ds → Rep K B β (.ref a) (.dic ds)
  | dit {a : Addr} {kvs : List (List Key × V)} {ds : List (List Key × D)} : B a = some (.dT kvs) → RepT K B β kvs ds → Rep K B β (.ref a) (.dit ds)
  | ref {a : Addr} {n : Nat} : β[n]? = some a → Rep K B β (.ref a) (.ref n)
inductive Reps (K : PySem.W.Frag) (B : Hp) (β : List Addr) : List V → List D → Prop
  | nil : Reps K B β [] []
  | cons {v : V} {d : D} {vs : List V} {ds : List D} : Rep K B β v d → Reps K B β vs ds → Reps K B β (v :: vs) (d :: ds)
inductive RepK (K : PySem.W.Frag) (B : Hp) (β : List Addr) : List (Key × V) → List (Key × D) → Prop
  | nil : RepK K B β [] []
  | cons {k : Key} {v : V} {d : D} {vs : List (Key × V)} {ds : List (Key × D)} : Rep K B β v d → RepK K B β vs ds → RepK K B β ((k, v) :: vs) ((k, d) :: ds)
inductive RepT (K : PySem.W.Frag) (B : Hp) (β : List Addr) : List (List Key × V) → List (List Key × D) → Prop
  | nil : RepT K B β [] []
  | cons {k : List Key} {v : V} {d : D} {vs : List (List Key × V)} {ds : List (List Key × D)} : Rep K B β v d → RepT K B β vs ds → RepT K B β ((k, v) :: vs) ((k, d) :: ds)
end

section
variable {K : PySem.W.Frag} {B B' : Hp} {β β' : List Addr}
def Pre (β β' : List Addr) : Prop := ∃ γ, β' = β ++ γ
theorem Pre.refl (β : List Addr) : Pre β β := ⟨[], by simp⟩
theorem Pre.trans {a b c : List Addr} (x : Pre a b) (y : Pre b c) : Pre a c := by
  obtain ⟨g, rfl⟩ := x
  obtain ⟨g', rfl⟩ := y
  exact ⟨g ++ g', by simp⟩
theorem Pre.get (h : Pre β β') {n : Nat} {a : Addr} (e : β[n]? = some a) : β'[n]? = some a := by
  obtain ⟨g, rfl⟩ := h
  rw [List.getElem?_append_left (List.getElem?_eq_some_iff.mp e).1]
  exact e
mutual
theorem Rep.mono (e : Ex B B') (p : Pre β β') : ∀ {d : D} {v : V}, Rep K B β v d → Rep K B' β' v d
  | .non, _, h => by cases h; exact .non
  | .bl b, _, h => by cases h; exact .bl b
  | .int i, _, h => by cases h; exact .int i
  | .str x, _, h => by cases h; exact .str x
  | .lst ds, _, h => by
    cases h with
    | lst h1 h2 => exact .lst (e _ _ h1) (Reps.mono e p h2)
  | .ro ds, _, h => by
    cases h with
    | ro h1 h2 => exact .ro (Evl.ex_l e h1) (Reps.mono e p h2)
  | .tup ds, _, h => by
    cases h with
    | tup h1 h2 => exact .tup (Evl.ex_t e h1) (Reps.mono e p h2)
  | .dic ds, _, h => by
    cases h with
    | dic h1 h2 => exact .dic (e _ _ h1) (RepK.mono e p h2)
  | .dit ds, _, h => by
    cases h with
    | dit h1 h2 => exact .dit (e _ _ h1) (RepT.mono e p h2)
  | .ref n, _, h => by
    cases h with
    | ref h => exact .ref (p.get h)
theorem Reps.mono (e : Ex B B') (p : Pre β β') : ∀ {ds : List D} {vs : List V}, Reps K B β vs ds → Reps K B' β' vs ds
  | [], _, h => by cases h; exact .nil
  | d :: ds, _, h => by
    cases h with
    | cons h1 h2 => exact .cons (Rep.mono e p h1) (Reps.mono e p h2)
theorem RepK.mono (e : Ex B B') (p : Pre β β') : ∀ {ds : List (Key × D)} {vs : List (Key × V)}, RepK K B β vs ds → RepK K B' β' vs ds
  | [], _, h => by cases h; exact .nil
  | (k, d) :: ds, _, h => by
    cases h with
    | cons h1 h2 => exact .cons (Rep.mono e p h1) (RepK.mono e p h2)
theorem RepT.mono (e : Ex B B') (p : Pre β β') : ∀ {ds : List (List Key × D)} {vs : List (List Key × V)}, RepT K B β vs ds → RepT K B' β' vs ds
  | [], _, h => by cases h; exact .nil
  | (k, d) :: ds, _, h => by
    cases h with
    | cons h1 h2 => exact .cons (Rep.mono e p h1) (RepT.mono e p h2)
end
theorem Reps.len : ∀ {ds : List D} {vs : List V}, Reps K B β vs ds → vs.length = ds.length
  | [], _, h => by cases h; rfl
  | d :: ds, _, h => by
    cases h with
    | cons h1 h2 => simp [Reps.len h2]
theorem Reps.get : ∀ {ds : List D} {vs : List V} {i : Nat} {d : D}, Reps K B β vs ds → ds[i]? = some d → ∃ v, vs[i]? = some v ∧ Rep K B β v d
  | [], _, _, _, _, e => by simp at e
  | d :: ds, _, 0, x, h, e => by
    cases h with
    | cons h1 h2 =>
      have e' : d = x := by simpa using e
      subst e'
      exact ⟨_, rfl, h1⟩
  | d :: ds, _, i + 1, x, h, e => by
    cases h with
    | cons h1 h2 =>
      obtain ⟨v, q, r⟩ := Reps.get (i := i) h2 (by simpa using e)
      exact ⟨v, by simpa using q, r⟩
theorem Reps.getV : ∀ {vs : List V} {ds : List D} {i : Nat} {v : V}, Reps K B β vs ds → vs[i]? = some v → ∃ d, ds[i]? = some d ∧ Rep K B β v d := fun {vs ds i v} h e => by
  have hi := (List.getElem?_eq_some_iff.mp e).1
  have hd : i < ds.length := by rw [← h.len]; exact hi
  obtain ⟨v', e', r⟩ := h.get (List.getElem?_eq_getElem hd)
  rw [e] at e'
  cases e'
  exact ⟨_, List.getElem?_eq_getElem hd, r⟩
theorem Reps.append : ∀ {ds es : List D} {vs us : List V}, Reps K B β vs ds → Reps K B β us es → Reps K B β (vs ++ us) (ds ++ es)
  | [], _, _, _, h, k => by cases h; exact k
  | d :: ds, _, _, _, h, k => by
    cases h with
    | cons h1 h2 => exact .cons h1 (Reps.append h2 k)
theorem Reps.take : ∀ {ds : List D} {vs : List V} (n : Nat), Reps K B β vs ds → Reps K B β (vs.take n) (ds.take n)
  | [], _, n, h => by cases h; simp; exact .nil
  | d :: ds, _, 0, h => by simp; exact .nil
  | d :: ds, _, n + 1, h => by
    cases h with
    | cons h1 h2 => exact .cons h1 (Reps.take n h2)
theorem Reps.drop : ∀ {ds : List D} {vs : List V} (n : Nat), Reps K B β vs ds → Reps K B β (vs.drop n) (ds.drop n)
  | [], _, n, h => by cases h; simp; exact .nil
  | d :: ds, _, 0, h => h
  | d :: ds, _, n + 1, h => by
    cases h with
    | cons h1 h2 => exact Reps.drop n h2
theorem Reps.set {v : V} {d : D} (r : Rep K B β v d) : ∀ {ds : List D} {vs : List V} (n : Nat), Reps K B β vs ds → Reps K B β (vs.set n v) (ds.set n d)
  | [], _, n, h => by cases h; exact .nil
  | _ :: ds, _, 0, h => by
    cases h with
    | cons h1 h2 => exact .cons r h2
  | _ :: ds, _, n + 1, h => by
    cases h with
    | cons h1 h2 => exact .cons h1 (Reps.set r n h2)
theorem Reps.ints : ∀ {ns : List Int}, Reps K B β (ns.map V.int) (ns.map D.int)
  | [] => .nil
  | n :: ns => .cons (.int n) Reps.ints
end

/-! ### worlds -/
open Classical in
/-- what never changes: without the extra X and what the store holds -/
noncomputable def hid (X : List Addr) (β : List Addr) (S : Store) (H : Hp) : Hp := fun a => if a ∈ X ∨ ∃ (n : Nat) (o : SO), β[n]? = some a ∧ S[n]? = some (some o) then none else H a
def SRep (K : PySem.W.Frag) (B : Hp) (β : List Addr) (H : Hp) (a : Addr) : SO → Prop
  | .lst ds => ∃ vs, H a = some (.lst vs) ∧ Reps K B β vs ds
structure Ok (K : PySem.W.Frag) (X : List Addr) (β : List Addr) (S : Store) (H : Hp) : Prop where
  len : β.length = S.length
  nd : β.Nodup
  out : ∀ a ∈ β, a ∉ X
  trk : ∀ a ∈ β, H a ≠ none
  xtrk : ∀ a ∈ X, H a ≠ none
  obj : ∀ (n : Nat) (o : SO), S[n]? = some (some o) → ∃ a, β[n]? = some a ∧ SRep K (hid X β S H) β H a o
structure Step (K : PySem.W.Frag) (X : List Addr) (β : List Addr) (S : Store) (H : Hp) (β' : List Addr) (S' : Store) (H' : Hp) : Prop where
  pre : Pre β β'
  ex : Ex (hid X β S H) (hid X β' S' H')
  ext : ∀ a ∈ X, H' a = H a
  trk : ∀ a, H a ≠ none → H' a ≠ none
  ok : Ok K X β' S' H'
section
variable {K : PySem.W.Frag} {X : List Addr} {β β' β'' : List Addr} {S S' S'' : Store} {H H' H'' : Hp}
theorem Step.refl (o : Ok K X β S H) : Step K X β S H β S H := ⟨.refl _, Ex.refl _, fun _ _ => rfl, fun _ h => h, o⟩
theorem Step.trans (a : Step K X β S H β' S' H') (b : Step K X β' S' H' β'' S'' H'') : Step K X β S H β'' S'' H'' :=
  ⟨a.pre.trans b.pre, a.ex.trans b.ex, fun c hc => (b.ext c hc).trans (a.ext c hc), fun c h => b.trk c (a.trk c h), b.ok⟩
theorem Step.rep (a : Step K X β S H β' S' H') {v : V} {d : D} (r : Rep K (hid X β S H) β v d) : Rep K (hid X β' S' H') β' v d := r.mono a.ex a.pre
theorem Step.reps (a : Step K X β S H β' S' H') {v : List V} {d : List D} (r : Reps K (hid X β S H) β v d) : Reps K (hid X β' S' H') β' v d := r.mono a.ex a.pre
theorem hid_ex : Ex (hid X β S H) H := fun a o h => by
  unfold hid at h
  split at h
  · cases h
  · exact h
theorem hid_of {a : Addr} (h1 : a ∉ X) (h2 : ∀ (n : Nat) (o : SO), β[n]? = some a → S[n]? = some (some o) → False) : hid X β S H a = H a := by
  unfold hid
  rw [if_neg]
  rintro (h | ⟨n, o, e1, e2⟩)
  · exact h1 h
  · exact h2 n o e1 e2
theorem hid_none {a : Addr} (h : H a = none) : hid X β S H a = none := by
  unfold hid
  rw [h]
  split <;> rfl
theorem hid_live {a : Addr} {n : Nat} {o : SO} (h1 : β[n]? = some a) (h2 : S[n]? = some (some o)) : hid X β S H a = none := by
  unfold hid
  rw [if_pos (.inr ⟨n, o, h1, h2⟩)]
theorem SRep.keep {B B' : Hp} {a : Addr} {o : SO} (e : Ex B B') (p : Pre β β') (h : H a ≠ none → H' a = H a) (r : SRep K B β H a o) : SRep K B' β' H' a o := by
  cases o with
  | lst ds =>
    obtain ⟨vs, h1, h2⟩ := r
    exact ⟨vs, (h (by rw [h1]; simp)).trans h1, h2.mono e p⟩
/-- a new object, never to be changed -/
theorem Ok.new (o : Ok K X β S H) {p : Addr} (ob : HO) (hp : H p = none) : Step K X β S H β S (upd H p ob) := by
  have hx : ∀ a, H a ≠ none → a ≠ p := fun a h e => h (e ▸ hp)
  have he : ∀ a, H a ≠ none → upd H p ob a = H a := fun a h => upd_ne (hx a h)
  have ex : Ex (hid X β S H) (hid X β S (upd H p ob)) := fun a u h => by
    unfold hid at h ⊢
    split at h
    · cases h
    · rename_i hn
      rw [if_neg hn, he a (by rw [h]; simp)]
      exact h
  have tr : ∀ a, H a ≠ none → upd H p ob a ≠ none := fun a h => by rw [he a h]; exact h
  refine ⟨.refl _, ex, fun a ha => he a (o.xtrk a ha), tr, ⟨o.len, o.nd, o.out, fun a ha => tr a (o.trk a ha), fun a ha => tr a (o.xtrk a ha), fun n so e => ?_⟩⟩
  obtain ⟨a, e1, r⟩ := o.obj n so e
  exact ⟨a, e1, r.keep ex (.refl _) (he a)⟩
theorem Ok.new_at (o : Ok K X β S H) {p : Addr} (ob : HO) (hp : H p = none) : hid X β S (upd H p ob) p = some ob := by
  rw [hid_of, upd_same]
  · exact fun h => o.xtrk p h hp
  · exact fun n so h _ => o.trk p (List.mem_of_getElem? h) hp
/-- what the store holds, told by value -/
def drf (S : Store) : D → D
  | .ref n => match S[n]? with
    | some (some (.lst ds)) => .lst ds
    | _ => .ref n
  | d => d
theorem Ok.drf (o : Ok K X β S H) {v : V} {d : D} (r : Rep K (hid X β S H) β v d) : Rep K H β v (drf S d) := by
  have r' := r.mono hid_ex (.refl _)
  cases d with
  | ref n =>
    show Rep K H β v (match S[n]? with | some (some (.lst ds)) => .lst ds | _ => .ref n)
    split
    · rename_i ds e
      obtain ⟨a, e1, vs, h1, h2⟩ := o.obj n _ e
      cases r with
      | ref h =>
        rw [e1] at h
        cases h
        exact .lst h1 (h2.mono hid_ex (.refl _))
    · exact r'
  | _ => exact r'
/-- the mutable list n changes -/
theorem Ok.put (o : Ok K X β S H) {n : Nat} {so : SO} {a : Addr} {vs : List V} {ds : List D} (hs : S[n]? = some (some so)) (ha : β[n]? = some a) (hv : Reps K (hid X β S H) β vs ds) :
    Step K X β S H β (S.set n (some (.lst ds))) (upd H a (.lst vs)) := by
  have hn : n < S.length := (List.getElem?_eq_some_iff.mp hs).1
  have hlive : ∀ (m : Nat), (∃ o', (S.set n (some (SO.lst ds)))[m]? = some (some o')) ↔ ∃ o', S[m]? = some (some o') := fun m => by
    by_cases e : m = n
    · subst e
      rw [List.getElem?_set_self hn]
      exact ⟨fun _ => ⟨so, hs⟩, fun _ => ⟨_, rfl⟩⟩
    · rw [List.getElem?_set_ne (Ne.symm e)]
  have heq : ∀ b, b ≠ a → upd H a (.lst vs) b = H b := fun b h => upd_ne h
  have ex : Ex (hid X β S H) (hid X β (S.set n (some (.lst ds))) (upd H a (.lst vs))) := fun b u h => by
    have hb : b ≠ a := by
      rintro rfl
      rw [hid_live ha hs] at h
      cases h
    unfold hid at h ⊢
    split at h
    · cases h
    · rename_i hn'
      rw [if_neg, heq b hb]
      · exact h
      · rintro (hx | ⟨m, o', e1, e2⟩)
        · exact hn' (.inl hx)
        · obtain ⟨o'', e3⟩ := (hlive m).mp ⟨o', e2⟩
          exact hn' (.inr ⟨m, o'', e1, e3⟩)
  have tr : ∀ b, H b ≠ none → upd H a (.lst vs) b ≠ none := fun b h => by
    by_cases e : b = a
    · subst e
      rw [upd_same]
      simp
    · rw [heq b e]
      exact h
  have ham := List.mem_of_getElem? ha
  refine ⟨.refl _, ex, fun b hb => heq b fun e => o.out a ham (e ▸ hb), tr, ⟨by rw [List.length_set]; exact o.len, o.nd, o.out, fun b hb => tr b (o.trk b hb), fun b hb => tr b (o.xtrk b hb), fun m o' e => ?_⟩⟩
  by_cases e0 : m = n
  · subst e0
    rw [List.getElem?_set_self hn] at e
    cases e
    exact ⟨a, ha, vs, upd_same, hv.mono ex (.refl _)⟩
  · rw [List.getElem?_set_ne (Ne.symm e0)] at e
    obtain ⟨b, e1, r⟩ := o.obj m o' e
    have hb : b ≠ a := by
      rintro rfl
      have h1 := (List.getElem?_eq_some_iff.mp e1)
      have h2 := (List.getElem?_eq_some_iff.mp ha)
      obtain ⟨i1, q1⟩ := h1
      obtain ⟨i2, q2⟩ := h2
      exact e0 ((List.getElem_inj o.nd).mp (q1.trans q2.symm))
    exact ⟨b, e1, r.keep ex (.refl _) fun _ => heq b hb⟩
/-- the mutable list n is never changed again: a value from now on -/
theorem Ok.frz (o : Ok K X β S H) {n : Nat} {ds : List D} (hs : S[n]? = some (some (.lst ds))) : Step K X β S H β (S.set n none) H ∧ ∀ a, β[n]? = some a → Rep K (hid X β (S.set n none) H) β (.ref a) (.lst ds) := by
  have hn : n < S.length := (List.getElem?_eq_some_iff.mp hs).1
  have back : ∀ (m : Nat) (o' : SO), (S.set n none)[m]? = some (some o') → S[m]? = some (some o') ∧ m ≠ n := fun m o' e => by
    by_cases h : m = n
    · subst h
      rw [List.getElem?_set_self hn] at e
      cases e
    · rw [List.getElem?_set_ne (Ne.symm h)] at e
      exact ⟨e, h⟩
  have ex : Ex (hid X β S H) (hid X β (S.set n none) H) := fun b u h => by
    unfold hid at h ⊢
    split at h
    · cases h
    · rename_i hn'
      rw [if_neg]
      · exact h
      · rintro (hx | ⟨m, o', e1, e2⟩)
        · exact hn' (.inl hx)
        · exact hn' (.inr ⟨m, o', e1, (back m o' e2).1⟩)
  refine ⟨⟨.refl _, ex, fun _ _ => rfl, fun _ h => h, ⟨by rw [List.length_set]; exact o.len, o.nd, o.out, o.trk, o.xtrk, fun m o' e => ?_⟩⟩, fun a ha => ?_⟩
  · obtain ⟨b, e1, r⟩ := o.obj m o' (back m o' e).1
    exact ⟨b, e1, r.keep ex (.refl _) fun _ => rfl⟩
  · obtain ⟨b, e1, vs, h1, h2⟩ := o.obj n _ hs
    rw [ha] at e1
    cases e1
    refine .lst ?_ (h2.mono ex (.refl _))
    rw [hid_of]
    · exact h1
    · exact o.out a (List.mem_of_getElem? ha)
    · intro m o' e2 e3
      obtain ⟨e4, hne⟩ := back m o' e3
      obtain ⟨i1, q1⟩ := List.getElem?_eq_some_iff.mp e2
      obtain ⟨i2, q2⟩ := List.getElem?_eq_some_iff.mp ha
      exact hne ((List.getElem_inj o.nd).mp (q1.trans q2.symm))
/-- a new list that will be changed -/
theorem Ok.alloc (o : Ok K X β S H) {p : Addr} {vs : List V} {ds : List D} (hp : H p = none) (hv : Reps K (hid X β S H) β vs ds) :
    Step K X β S H (β ++ [p]) (S ++ [some (.lst ds)]) (upd H p (.lst vs)) := by
  have hx : ∀ a, H a ≠ none → a ≠ p := fun a h e => h (e ▸ hp)
  have he : ∀ a, H a ≠ none → upd H p (.lst vs) a = H a := fun a h => upd_ne (hx a h)
  have pre : Pre β (β ++ [p]) := ⟨[p], rfl⟩
  have ex : Ex (hid X β S H) (hid X (β ++ [p]) (S ++ [some (.lst ds)]) (upd H p (.lst vs))) := fun b u h => by
    have hb : H b ≠ none := by
      rw [hid_ex b u h]
      simp
    unfold hid at h ⊢
    split at h
    · cases h
    · rename_i hn
      rw [if_neg, he b hb]
      · exact h
      · rintro (h' | ⟨m, o', e1, e2⟩)
        · exact hn (.inl h')
        · by_cases hm : m < β.length
          · rw [List.getElem?_append_left hm] at e1
            rw [List.getElem?_append_left (by rw [← o.len]; exact hm)] at e2
            exact hn (.inr ⟨m, o', e1, e2⟩)
          · rw [List.getElem?_append_right (by omega)] at e1
            have e3 : b = p := by
              have := List.mem_of_getElem? e1
              simpa using this
            exact hx b hb e3
  have tr : ∀ a, H a ≠ none → upd H p (.lst vs) a ≠ none := fun a h => by rw [he a h]; exact h
  refine ⟨pre, ex, fun a ha => he a (o.xtrk a ha), tr, ⟨by simp [o.len], ?_, fun a ha => ?_, fun a ha => ?_, fun a ha => tr a (o.xtrk a ha), fun m o' e => ?_⟩⟩
  · rw [List.nodup_append]
    refine ⟨o.nd, by simp, fun a ha b hb => ?_⟩
    have e3 : b = p := by simpa using hb
    rw [e3]
    exact hx a (o.trk a ha)
  · rcases List.mem_append.mp ha with h | h
    · exact o.out a h
    · have e3 : a = p := by simpa using h
      subst e3
      exact fun hX => o.xtrk a hX hp
  · rcases List.mem_append.mp ha with h | h
    · exact tr a (o.trk a h)
    · have e3 : a = p := by simpa using h
      subst e3
      rw [upd_same]
      simp
  · by_cases hm : m < S.length
    · rw [List.getElem?_append_left hm] at e
      obtain ⟨a, e1, r⟩ := o.obj m o' e
      exact ⟨a, pre.get e1, r.keep ex pre (he a)⟩
    · rw [List.getElem?_append_right (by omega)] at e
      have hm' : m - S.length = 0 := by
        have := (List.getElem?_eq_some_iff.mp e).1
        simp at this
        omega
      rw [hm'] at e
      cases e
      refine ⟨p, ?_, vs, upd_same, hv.mono ex pre⟩
      rw [List.getElem?_append_right (by rw [o.len]; omega), o.len, hm']
      rfl
end
end NC

set_option Elab.async false
set_option linter.all false
set_option maxRecDepth 100000
set_option maxHeartbeats 1000000
/-! NC2: the judgements over data, the basic rules. -/
namespace NC
open PySem PySem.Spec PyProof.Rows L2
open Evl (Ex)

abbrev Rho := List (Option D)
abbrev QD := D → Store → Prop
abbrev TD := Rho → Store → QD → Prop
abbrev TB := Rho → Store → (Bool → Store → Prop) → Prop
abbrev TLs := Rho → Store → (List D → Store → Prop) → Prop

structure Rel (K : PySem.W.Frag) (X β : List Addr) (S : Store) (ρ : Rho) (σ : L2.St) (H : Hp) : Prop where
  ok : Ok K X β S H
  len : ρ.length = σ.length
  get : ∀ (i : Nat) (d : D), ρ[i]? = some (some d) → ∃ v, σ[i]? = some (some v) ∧ Rep K (hid X β S H) β v d
section
variable {K : PySem.W.Frag} {X β β' : List Addr} {S S' : Store} {ρ : Rho} {σ : L2.St} {H H' : Hp}
theorem Rel.step (r : Rel K X β S ρ σ H) (s : Step K X β S H β' S' H') : Rel K X β' S' ρ σ H' :=
  ⟨s.ok, r.len, fun i d e => let ⟨v, a, b⟩ := r.get i d e; ⟨v, a, s.rep b⟩⟩
theorem Rel.set (r : Rel K X β S ρ σ H) {v : V} {d : D} (q : Rep K (hid X β S H) β v d) (j : Nat) : Rel K X β S (ρ.set j (some d)) (σ.set j (some v)) H := by
  refine ⟨r.ok, by rw [List.length_set, List.length_set]; exact r.len, fun i e h => ?_⟩
  by_cases hj : j = i
  · subst hj
    have hl : j < ρ.length := by
      have := (List.getElem?_eq_some_iff.mp h).1
      rwa [List.length_set] at this
    rw [List.getElem?_set_self hl] at h
    have e' : d = e := by simpa using h
    subst e'
    exact ⟨v, by rw [List.getElem?_set_self (by rw [← r.len]; exact hl)], q⟩
  · rw [List.getElem?_set_ne hj] at h ⊢
    exact r.get i e h
end

def tE (K : PySem.W.Frag) (t : TD) : TE := fun σ H Q => ∃ X β S ρ Q', Rel K X β S ρ σ H ∧ t ρ S Q' ∧
  ∀ d S' v β' H', Step K X β S H β' S' H' → Rep K (hid X β' S' H') β' v d → Q' d S' → Q v H'
def tT (K : PySem.W.Frag) (t : TB) : TT := fun σ H Q => ∃ X β S ρ Q', Rel K X β S ρ σ H ∧ t ρ S Q' ∧
  ∀ b S' β' H', Step K X β S H β' S' H' → Q' b S' → Q b H'
def tA (K : PySem.W.Frag) (t : TLs) : TA := fun σ H Q => ∃ X β S ρ Q', Rel K X β S ρ σ H ∧ t ρ S Q' ∧
  ∀ ds S' vs β' H', Step K X β S H β' S' H' → Reps K (hid X β' S' H') β' vs ds → Q' ds S' → Q vs H'
/-- what an operation on values comes to -/
abbrev RD2 := D → D → Store → QD → Prop
abbrev RD1 := D → Store → QD → Prop
abbrev RDs := List D → Store → QD → Prop
def out (K : PySem.W.Frag) (X β : List Addr) (S : Store) (H : Hp) (Q' : QD) (Q : VK) : Prop :=
  ∀ d S' v β' H', Step K X β S H β' S' H' → Rep K (hid X β' S' H') β' v d → Q' d S' → Q v H'
def l2 (K : PySem.W.Frag) (r : RD2) : R2 := fun v u H Q => ∃ X β S x y Q', Ok K X β S H ∧ Rep K (hid X β S H) β v x ∧ Rep K (hid X β S H) β u y ∧ r x y S Q' ∧ out K X β S H Q' Q
def l1 (K : PySem.W.Frag) (r : RD1) : V → Hp → VK → Prop := fun v H Q => ∃ X β S x Q', Ok K X β S H ∧ Rep K (hid X β S H) β v x ∧ r x S Q' ∧ out K X β S H Q' Q
def ls (K : PySem.W.Frag) (r : RDs) : List V → Hp → VK → Prop := fun vs H Q => ∃ X β S xs Q', Ok K X β S H ∧ Reps K (hid X β S H) β vs xs ∧ r xs S Q' ∧ out K X β S H Q' Q

section
variable {X : Cx} {e a b c : Expr} {es rest : List Expr} {pos : Pos} {ta tb tc : TD} {tt tu : TB} {tl : TLs}
theorem _root_.L2.PE.imp {t t' : TE} (h : PE X e t) (i : ∀ σ H Q, t' σ H Q → t σ H Q) : PE X e t' := ⟨fun pins s σ H Q I q => h.run pins s σ H Q I (i σ H Q q)⟩
theorem _root_.L2.PT.imp {t t' : TT} (h : PT X e t) (i : ∀ σ H Q, t' σ H Q → t σ H Q) : PT X e t' := ⟨fun pins s σ H Q I q => h.run pins s σ H Q I (i σ H Q q)⟩
theorem _root_.L2.PW.imp {t t' : TT} (h : PW X e t) (i : ∀ σ H Q, t' σ H Q → t σ H Q) : PW X e t' := ⟨fun wh pins s σ H Q I q => h.run wh pins s σ H Q I (i σ H Q q)⟩
theorem _root_.L2.PA.imp {t t' : TA} (h : PA X es t) (i : ∀ σ H Q, t' σ H Q → t σ H Q) : PA X es t' := ⟨fun pos pins s σ H Q I q => h.run pos pins s σ H Q I (i σ H Q q)⟩
theorem _root_.L2.PS.imp {st : Stmt} {t t' : TS} (h : PS X st t) (i : ∀ D σ H, t' D σ H → t D σ H) : PS X st t' := ⟨fun pins s σ H D I q => h.run pins s σ H D I (i D σ H q)⟩
theorem _root_.L2.PSs.imp {st : List Stmt} {t t' : TS} (h : PSs X st t) (i : ∀ D σ H, t' D σ H → t D σ H) : PSs X st t' := ⟨fun pins s σ H D I q => h.run pins s σ H D I (i D σ H q)⟩

/-! names, constants -/
def eVar (i : Nat) : TD := fun ρ S Q => ∃ d, ρ[i]? = some (some d) ∧ Q d S
def eC (d : D) : TD := fun _ S Q => Q d S
theorem de_var (i : Nat) (h : PE X e (tVar i)) : PE X e (tE X.K (eVar i)) := h.imp fun σ H Q ⟨Y, β, S, ρ, Q', r, ⟨d, hd, q⟩, k⟩ => by
  obtain ⟨v, hv, rv⟩ := r.get i d hd
  exact ⟨v, hv, k d S v β H (.refl r.ok) rv q⟩
theorem de_c {v : V} {d : D} (h : PE X e (tC v)) (r : ∀ B β, Rep X.K B β v d) : PE X e (tE X.K (eC d)) := h.imp fun σ H Q ⟨Y, β, S, ρ, Q', rl, q, k⟩ =>
  k d S v β H (.refl rl.ok) (r _ _) q
theorem de_int {i : Int} {j} : PE X (.Constant (.int i) j pos) (tE X.K (eC (.int i))) := de_c pe_int fun _ _ => .int i
theorem de_bl {i : Bool} {j} : PE X (.Constant (.bool i) j pos) (tE X.K (eC (.bl i))) := de_c pe_bl fun _ _ => .bl i
theorem de_non {j} : PE X (.Constant .none j pos) (tE X.K (eC .non)) := de_c pe_non fun _ _ => .non
theorem de_str {x : Str} {j} : PE X (.Constant (.str x) j pos) (tE X.K (eC (.str x))) := de_c pe_str fun _ _ => .str x

/-! operators -/
def eOp (r : RD2) (ta tb : TD) : TD := fun ρ S Q => ta ρ S fun x S1 => tb ρ S1 fun y S2 => r x y S2 Q
theorem op_lift {r : RD2} {σ : L2.St} {H : Hp} {Q : VK} (h : tE X.K (eOp r ta tb) σ H Q) : tOp (l2 X.K r) (tE X.K ta) (tE X.K tb) σ H Q := by
  obtain ⟨Y, β, S, ρ, Q', rl, q, k⟩ := h
  refine ⟨Y, β, S, ρ, _, rl, q, fun x S1 v β1 H1 s1 r1 q1 => ?_⟩
  refine ⟨Y, β1, S1, ρ, _, rl.step s1, q1, fun y S2 u β2 H2 s2 r2 q2 => ?_⟩
  exact ⟨Y, β2, S2, x, y, Q', s2.ok, s2.rep r1, r2, q2, fun z S3 w β3 H3 s3 r3 q3 => k z S3 w β3 H3 ((s1.trans s2).trans s3) r3 q3⟩
theorem de_op {op : Operator} {r : RD2} (ho : OpR X (binaryOp op) (l2 X.K r)) (ha : PE X a (tE X.K ta)) (hb : PE X b (tE X.K tb)) : PE X (.BinOp a op b pos) (tE X.K (eOp r ta tb)) :=
  (pe_op ho ha hb).imp fun _ _ _ h => op_lift h
theorem de_cmp {op : CmpOp} {r : RD2} (ho : OpR X (compareOp op) (l2 X.K r)) (ha : PE X a (tE X.K ta)) (hb : PE X b (tE X.K tb)) (hm : behindInMarks op b = false) : PE X (.Compare a [op] [b] pos) (tE X.K (eOp r ta tb)) :=
  (pe_cmpR ho ha hb hm).imp fun _ _ _ h => op_lift h
/-- a truth as a test -/
def bOf (t : TD) : TB := fun ρ S Q => t ρ S fun x S1 => ∃ c, x = .bl c ∧ Q c S1
theorem bof_lift {σ : L2.St} {H : Hp} {Q : Bool → Hp → Prop} (h : tT X.K (bOf ta) σ H Q) : tE X.K ta σ H fun x H1 => ∃ k, x = .bl k ∧ Q k H1 := by
  obtain ⟨Y, β, S, ρ, Q', rl, q, k⟩ := h
  refine ⟨Y, β, S, ρ, _, rl, q, fun x S1 v β1 H1 s1 r1 ⟨c, e, q1⟩ => ?_⟩
  subst e
  cases r1
  exact ⟨c, rfl, k c S1 β1 H1 s1 q1⟩
theorem dt_val (h : PE X e (tE X.K ta)) (he : ∀ whole, isTrue e X.env whole = (do let v ← whole; standAt e.pos; holding [v] (truthy v)) := by intro _; rfl) : PT X e (tT X.K (bOf ta)) :=
  (pt_val h he).imp fun _ _ _ q => bof_lift q
theorem dt_cmp {op : CmpOp} {r : RD2} (ho : OpR X (compareOp op) (l2 X.K r)) (ha : PE X a (tE X.K ta)) (hb : PE X b (tE X.K tb)) (hm : behindInMarks op b = false) : PT X (.Compare a [op] [b] pos) (tT X.K (bOf (eOp r ta tb))) :=
  (pt_cmpR ho ha hb hm).imp fun σ H Q q => op_lift (bof_lift q)
/-! a op b op c -/
def eChain (r r' : RD2) (ta tb tc : TD) : TD := fun ρ S Q => ta ρ S fun x S1 => tb ρ S1 fun y S2 => r x y S2 fun z S3 => ∃ k, z = .bl k ∧ if k = true then tc ρ S3 fun w S4 => r' y w S4 Q else Q (.bl false) S3
/-! and, or, not -/
def bAnd (t u : TB) : TB := fun ρ S Q => t ρ S fun c S1 => if c = true then u ρ S1 Q else Q false S1
def bOr (t u : TB) : TB := fun ρ S Q => t ρ S fun c S1 => if c = true then Q true S1 else u ρ S1 Q
def bNot (t : TB) : TB := fun ρ S Q => t ρ S fun c S1 => Q (!c) S1
theorem dw_and1 (ha : PT X a (tT X.K tt)) : PW X (.BoolOp .And [a] pos) (tT X.K tt) := pw_and1 ha
theorem dw_or1 (ha : PT X a (tT X.K tt)) : PW X (.BoolOp .Or [a] pos) (tT X.K tt) := pw_or1 ha
theorem dw_and (ha : PT X a (tT X.K tt)) (hb : PW X (.BoolOp .And (b :: rest) pos) (tT X.K tu)) : PW X (.BoolOp .And (a :: b :: rest) pos) (tT X.K (bAnd tt tu)) :=
  (pw_and ha hb).imp fun σ H Q ⟨Y, β, S, ρ, Q', rl, q, k⟩ => ⟨Y, β, S, ρ, _, rl, q, fun c S1 β1 H1 s1 q1 => by
    cases c with
    | true => exact ⟨Y, β1, S1, ρ, Q', rl.step s1, q1, fun d S2 β2 H2 s2 q2 => k d S2 β2 H2 (s1.trans s2) q2⟩
    | false => exact k false S1 β1 H1 s1 q1⟩
theorem dw_or (ha : PT X a (tT X.K tt)) (hb : PW X (.BoolOp .Or (b :: rest) pos) (tT X.K tu)) : PW X (.BoolOp .Or (a :: b :: rest) pos) (tT X.K (bOr tt tu)) :=
  (pw_or ha hb).imp fun σ H Q ⟨Y, β, S, ρ, Q', rl, q, k⟩ => ⟨Y, β, S, ρ, _, rl, q, fun c S1 β1 H1 s1 q1 => by
    cases c with
    | true => exact k true S1 β1 H1 s1 q1
    | false => exact ⟨Y, β1, S1, ρ, Q', rl.step s1, q1, fun d S2 β2 H2 s2 q2 => k d S2 β2 H2 (s1.trans s2) q2⟩⟩
theorem dt_w (h : PW X e (tT X.K tt)) : PT X e (tT X.K tt) := h.pt
theorem dt_not (ha : PT X a (tT X.K tt)) : PT X (.UnaryOp .Not a pos) (tT X.K (bNot tt)) :=
  (pt_not ha).imp fun σ H Q ⟨Y, β, S, ρ, Q', rl, q, k⟩ => ⟨Y, β, S, ρ, _, rl, q, fun c S1 β1 H1 s1 q1 => k (!c) S1 β1 H1 s1 q1⟩
def eAnd (t u : TD) : TD := fun ρ S Q => t ρ S fun x S1 => ∃ c, x = .bl c ∧ if c = true then u ρ S1 Q else Q (.bl false) S1
def eOr (t u : TD) : TD := fun ρ S Q => t ρ S fun x S1 => ∃ c, x = .bl c ∧ if c = true then Q (.bl true) S1 else u ρ S1 Q
def eNot (t : TD) : TD := fun ρ S Q => t ρ S fun x S1 => ∃ c, x = .bl c ∧ Q (.bl (!c)) S1
theorem de_one {op} (h : PE X a (tE X.K ta)) : PE X (.BoolOp op [a] pos) (tE X.K ta) := pe_one h
theorem de_and (ha : PE X a (tE X.K ta)) (hb : PE X (.BoolOp .And (b :: rest) pos) (tE X.K tb)) : PE X (.BoolOp .And (a :: b :: rest) pos) (tE X.K (eAnd ta tb)) :=
  (pe_and ha hb).imp fun σ H Q ⟨Y, β, S, ρ, Q', rl, q, k⟩ => ⟨Y, β, S, ρ, _, rl, q, fun x S1 v β1 H1 s1 r1 ⟨c, e, q1⟩ => by
    subst e
    cases r1
    refine ⟨c, rfl, ?_⟩
    cases c with
    | true => exact ⟨Y, β1, S1, ρ, Q', rl.step s1, q1, fun d S2 u β2 H2 s2 r2 q2 => k d S2 u β2 H2 (s1.trans s2) r2 q2⟩
    | false => exact k _ S1 _ β1 H1 s1 (.bl false) q1⟩
theorem de_or (ha : PE X a (tE X.K ta)) (hb : PE X (.BoolOp .Or (b :: rest) pos) (tE X.K tb)) : PE X (.BoolOp .Or (a :: b :: rest) pos) (tE X.K (eOr ta tb)) :=
  (pe_or ha hb).imp fun σ H Q ⟨Y, β, S, ρ, Q', rl, q, k⟩ => ⟨Y, β, S, ρ, _, rl, q, fun x S1 v β1 H1 s1 r1 ⟨c, e, q1⟩ => by
    subst e
    cases r1
    refine ⟨c, rfl, ?_⟩
    cases c with
    | true => exact k _ S1 _ β1 H1 s1 (.bl true) q1
    | false => exact ⟨Y, β1, S1, ρ, Q', rl.step s1, q1, fun d S2 u β2 H2 s2 r2 q2 => k d S2 u β2 H2 (s1.trans s2) r2 q2⟩⟩
theorem de_not (ha : PE X a (tE X.K ta)) : PE X (.UnaryOp .Not a pos) (tE X.K (eNot ta)) :=
  (pe_not ha).imp fun σ H Q ⟨Y, β, S, ρ, Q', rl, q, k⟩ => ⟨Y, β, S, ρ, _, rl, q, fun x S1 v β1 H1 s1 r1 ⟨c, e, q1⟩ => by
    subst e
    cases r1
    exact ⟨c, rfl, k _ S1 _ β1 H1 s1 (.bl _) q1⟩⟩
def eIf (t : TB) (ta tb : TD) : TD := fun ρ S Q => t ρ S fun c S1 => if c = true then ta ρ S1 Q else tb ρ S1 Q
theorem de_if (hc : PT X c (tT X.K tt)) (ha : PE X a (tE X.K ta)) (hb : PE X b (tE X.K tb)) : PE X (.IfExp c a b pos) (tE X.K (eIf tt ta tb)) :=
  (pe_ifExp hc ha hb).imp fun σ H Q ⟨Y, β, S, ρ, Q', rl, q, k⟩ => ⟨Y, β, S, ρ, _, rl, q, fun c S1 β1 H1 s1 q1 => by
    cases c with
    | true => exact ⟨Y, β1, S1, ρ, Q', rl.step s1, q1, fun d S2 u β2 H2 s2 r2 q2 => k d S2 u β2 H2 (s1.trans s2) r2 q2⟩
    | false => exact ⟨Y, β1, S1, ρ, Q', rl.step s1, q1, fun d S2 u β2 H2 s2 r2 q2 => k d S2 u β2 H2 (s1.trans s2) r2 q2⟩⟩
def eUn (r : RD1) (t : TD) : TD := fun ρ S Q => t ρ S fun x S1 => r x S1 Q
theorem de_un {op : UnaryOp} {r : RD1} (ho : UnR X (unaryOp op) (l1 X.K r)) (ha : PE X a (tE X.K ta)) : PE X (.UnaryOp op a pos) (tE X.K (eUn r ta)) :=
  (pe_un ho ha).imp fun σ H Q ⟨Y, β, S, ρ, Q', rl, q, k⟩ => ⟨Y, β, S, ρ, _, rl, q, fun x S1 v β1 H1 s1 r1 q1 =>
    ⟨Y, β1, S1, x, Q', s1.ok, r1, q1, fun z S3 w β3 H3 s3 r3 q3 => k z S3 w β3 H3 (s1.trans s3) r3 q3⟩⟩

/-! argument lists -/
def aNil : TLs := fun _ S Q => Q [] S
def aCons (ta : TD) (tr : TLs) : TLs := fun ρ S Q => ta ρ S fun x S1 => tr ρ S1 fun xs S2 => Q (x :: xs) S2
theorem da_nil : PA X [] (tA X.K aNil) := pa_nil.imp fun σ H Q ⟨Y, β, S, ρ, Q', rl, q, k⟩ => k [] S [] β H (.refl rl.ok) .nil q
theorem da_cons (ha : PE X e (tE X.K ta)) (hr : PA X es (tA X.K tl)) (hs : starEach (e :: es) X.env = (false, eval e X.env) :: starEach es X.env := by rfl) : PA X (e :: es) (tA X.K (aCons ta tl)) :=
  (pa_cons ha hr hs).imp fun σ H Q ⟨Y, β, S, ρ, Q', rl, q, k⟩ => ⟨Y, β, S, ρ, _, rl, q, fun x S1 v β1 H1 s1 r1 q1 =>
    ⟨Y, β1, S1, ρ, _, rl.step s1, q1, fun xs S2 vs β2 H2 s2 r2 q2 => k (x :: xs) S2 (v :: vs) β2 H2 (s1.trans s2) (.cons (s2.rep r1) r2) q2⟩⟩
/-- a call of a built-in -/
def eB (r : RDs) (tl : TLs) : TD := fun ρ S Q => tl ρ S fun xs S1 => r xs S1 Q
theorem b_lift {r : RDs} {σ : L2.St} {H : Hp} {Q : VK} (h : tE X.K (eB r tl) σ H Q) : tCB (ls X.K r) (tA X.K tl) σ H Q := by
  obtain ⟨Y, β, S, ρ, Q', rl, q, k⟩ := h
  exact ⟨Y, β, S, ρ, _, rl, q, fun xs S1 vs β1 H1 s1 r1 q1 => ⟨Y, β1, S1, xs, Q', s1.ok, r1, q1, fun z S3 w β3 H3 s3 r3 q3 => k z S3 w β3 H3 (s1.trans s3) r3 q3⟩⟩

/-! displays -/
def eTup (tl : TLs) : TD := fun ρ S Q => tl ρ S fun xs S1 => xs.length ≤ sizeLine ∧ Q (.tup xs) S1
def eLst (tl : TLs) : TD := fun ρ S Q => tl ρ S fun xs S1 => xs.length ≤ sizeLine ∧ Q (.lst xs) S1
/-- a list that will be changed -/
def eLstM (tl : TLs) : TD := fun ρ S Q => tl ρ S fun xs S1 => xs.length ≤ sizeLine ∧ Q (.ref S1.length) (S1 ++ [some (.lst xs)])
theorem Ok.newTup {K : PySem.W.Frag} {Y β : List Addr} {S : Store} {H : Hp} (o : Ok K Y β S H) {p : Addr} {vs : List V} {ds : List D} (hp : H p = none) (r : Reps K (hid Y β S H) β vs ds) : Rep K (hid Y β S (upd H p (.tup vs))) β (.ref p) (.tup ds) :=
  .tup (.inl (.inl (o.new_at _ hp))) ((o.new _ hp).reps r)
theorem Ok.newLst {K : PySem.W.Frag} {Y β : List Addr} {S : Store} {H : Hp} (o : Ok K Y β S H) {p : Addr} {vs : List V} {ds : List D} (hp : H p = none) (r : Reps K (hid Y β S H) β vs ds) : Rep K (hid Y β S (upd H p (.lst vs))) β (.ref p) (.lst ds) :=
  .lst (o.new_at _ hp) ((o.new _ hp).reps r)
theorem de_tup {x1} (h : PA X es (tA X.K tl)) : PE X (.Tuple es x1 pos) (tE X.K (eTup tl)) := (pe_tup h).imp fun σ H Q ⟨Y, β, S, ρ, Q', rl, q, k⟩ =>
  ⟨Y, β, S, ρ, _, rl, q, fun xs S1 vs β1 H1 s1 r1 ⟨hl, q1⟩ => ⟨by rw [r1.len]; exact hl, fun p hp => k _ S1 _ β1 _ (s1.trans (s1.ok.new _ hp)) (s1.ok.newTup hp r1) q1⟩⟩
theorem de_lst (h : PA X es (tA X.K tl)) : PE X (.List es pos) (tE X.K (eLst tl)) := (pe_lst h).imp fun σ H Q ⟨Y, β, S, ρ, Q', rl, q, k⟩ =>
  ⟨Y, β, S, ρ, _, rl, q, fun xs S1 vs β1 H1 s1 r1 ⟨hl, q1⟩ => ⟨by rw [r1.len]; exact hl, fun p hp => k _ S1 _ β1 _ (s1.trans (s1.ok.new _ hp)) (s1.ok.newLst hp r1) q1⟩⟩
theorem Ok.allocRep {K : PySem.W.Frag} {Y β : List Addr} {S : Store} {H H' : Hp} (o : Ok K Y β S H) {p : Addr} {B : Hp} : Rep K B (β ++ [p]) (.ref p) (.ref S.length) :=
  .ref (by rw [← o.len, List.getElem?_append_right (Nat.le_refl _), Nat.sub_self]; rfl)
theorem de_lstM (h : PA X es (tA X.K tl)) : PE X (.List es pos) (tE X.K (eLstM tl)) := (pe_lst h).imp fun σ H Q ⟨Y, β, S, ρ, Q', rl, q, k⟩ =>
  ⟨Y, β, S, ρ, _, rl, q, fun xs S1 vs β1 H1 s1 r1 ⟨hl, q1⟩ => ⟨by rw [r1.len]; exact hl, fun p hp => k _ _ _ _ _ (s1.trans (s1.ok.alloc hp r1)) (s1.ok.allocRep (H' := H)) q1⟩⟩

/-! subscripts -/
theorem de_ix {r : RD2} (hr : IxR X (l2 X.K r)) (ha : PE X a (tE X.K ta)) (hb : PE X b (tE X.K tb)) (hs : PlainIx b) : PE X (.Subscript a b pos) (tE X.K (eOp r ta tb)) :=
  (pe_ix hr ha hb hs).imp fun _ _ _ h => op_lift h

/-! statements -/
structure DN where
  nx : Rho → Store → Prop
  rt : QD
  bk : Rho → Store → Prop := fun _ _ => False
  ct : Rho → Store → Prop := fun _ _ => False
abbrev TSd := DN → Rho → Store → Prop
structure Leads (K : PySem.W.Frag) (Y β : List Addr) (S : Store) (H : Hp) (N : DN) (D' : Ends) : Prop where
  nx : ∀ ρ' S' σ' β' H', Step K Y β S H β' S' H' → Rel K Y β' S' ρ' σ' H' → N.nx ρ' S' → D'.nx σ' H'
  rt : ∀ d S' v β' H', Step K Y β S H β' S' H' → Rep K (hid Y β' S' H') β' v d → N.rt d S' → D'.rt v H'
  bk : ∀ ρ' S' σ' β' H', Step K Y β S H β' S' H' → Rel K Y β' S' ρ' σ' H' → N.bk ρ' S' → D'.bk σ' H'
  ct : ∀ ρ' S' σ' β' H', Step K Y β S H β' S' H' → Rel K Y β' S' ρ' σ' H' → N.ct ρ' S' → D'.ct σ' H'
theorem Leads.step {K : PySem.W.Frag} {Y β β1 : List Addr} {S S1 : Store} {H H1 : Hp} {N : DN} {D' : Ends} (l : Leads K Y β S H N D') (s : Step K Y β S H β1 S1 H1) : Leads K Y β1 S1 H1 N D' :=
  ⟨fun ρ' S' σ' β' H' s' => l.nx ρ' S' σ' β' H' (s.trans s'), fun d S' v β' H' s' => l.rt d S' v β' H' (s.trans s'), fun ρ' S' σ' β' H' s' => l.bk ρ' S' σ' β' H' (s.trans s'), fun ρ' S' σ' β' H' s' => l.ct ρ' S' σ' β' H' (s.trans s')⟩
def tS (K : PySem.W.Frag) (t : TSd) : TS := fun D' σ H => ∃ Y β S ρ N, Rel K Y β S ρ σ H ∧ t N ρ S ∧ Leads K Y β S H N D'
variable {st : Stmt} {sts sts' : List Stmt} {su sv : TSd}
def sNil : TSd := fun N ρ S => N.nx ρ S
def sSeq (t u : TSd) : TSd := fun N ρ S => t { N with nx := u N } ρ S
theorem ds_nil : PSs X [] (tS X.K sNil) := pss_nil.imp fun D' σ H ⟨Y, β, S, ρ, N, rl, q, l⟩ => l.nx ρ S σ β H (.refl rl.ok) rl q
theorem ds_one (h : PS X st (tS X.K su)) : PSs X [st] (tS X.K su) := pss_one h
theorem ds_cons (h : PS X st (tS X.K su)) (h2 : PSs X sts (tS X.K sv)) : PSs X (st :: sts) (tS X.K (sSeq su sv)) := (pss_cons h h2).imp fun D' σ H ⟨Y, β, S, ρ, N, rl, q, l⟩ =>
  ⟨Y, β, S, ρ, { N with nx := sv N }, rl, q, ⟨fun ρ' S' σ' β' H' s' r' q' => ⟨Y, β', S', ρ', N, r', q', l.step s'⟩, l.rt, l.bk, l.ct⟩⟩
def sRet (t : TD) : TSd := fun N ρ S => t ρ S N.rt
theorem ds_ret (h : PE X e (tE X.K ta)) : PS X (.Return (some e) pos) (tS X.K (sRet ta)) := (ps_ret h).imp fun D' σ H ⟨Y, β, S, ρ, N, rl, q, l⟩ => ⟨Y, β, S, ρ, _, rl, q, l.rt⟩
/-- return of a list that was changed so far: a value from now on -/
def frzQ (Q : QD) : QD := fun d S => match d with
  | .ref n => ∃ ds, S[n]? = some (some (.lst ds)) ∧ Q (.lst ds) (S.set n none)
  | _ => False
def eFrz (t : TD) : TD := fun ρ S Q => t ρ S (frzQ Q)
theorem de_frz (h : PE X e (tE X.K ta)) : PE X e (tE X.K (eFrz ta)) := h.imp fun σ H Q ⟨Y, β, S, ρ, Q', rl, q, k⟩ => ⟨Y, β, S, ρ, _, rl, q, fun x S1 v β1 H1 s1 r1 q1 => by
  unfold frzQ at q1
  split at q1
  · rename_i n
    obtain ⟨ds, hs, q1⟩ := q1
    obtain ⟨s2, r2⟩ := s1.ok.frz hs
    cases r1 with
    | ref h => exact k _ _ _ _ _ (s1.trans s2) (r2 _ h) q1
  · exact q1.elim⟩
def sDrop (t : TD) : TSd := fun N ρ S => t ρ S fun _ S1 => N.nx ρ S1
theorem ds_expr (h : PE X e (tE X.K ta)) (hs : swapsWith e none pos.line X.env = pure false := by rfl) : PS X (.Expr e pos) (tS X.K (sDrop ta)) := (ps_expr h hs).imp fun D' σ H ⟨Y, β, S, ρ, N, rl, q, l⟩ =>
  ⟨Y, β, S, ρ, _, rl, q, fun d S' v β' H' s r q' => l.nx ρ S' σ β' H' s (rl.step s) q'⟩
def sIf (t : TB) (u v : TSd) : TSd := fun N ρ S => t ρ S fun c S1 => if c = true then u N ρ S1 else v N ρ S1
theorem ds_if (hc : PT X c (tT X.K tt)) (ha : PSs X sts (tS X.K su)) (hb : PSs X sts' (tS X.K sv)) : PS X (.If c sts sts' pos) (tS X.K (sIf tt su sv)) := (ps_if hc ha hb).imp fun D' σ H ⟨Y, β, S, ρ, N, rl, q, l⟩ =>
  ⟨Y, β, S, ρ, _, rl, q, fun c S1 β1 H1 s1 q1 => by
    cases c with
    | true => exact ⟨Y, β1, S1, ρ, N, rl.step s1, q1, l.step s1⟩
    | false => exact ⟨Y, β1, S1, ρ, N, rl.step s1, q1, l.step s1⟩⟩
/-! targets -/
inductive Tg where
  | nm (i : Nat) | tp (ts : List Tg)
mutual
def bindT : Tg → D → Rho → Option Rho
  | .nm i, d, ρ => some (ρ.set i (some d))
  | .tp ts, .tup ds, ρ => bindTs ts ds ρ
  | .tp _, _, _ => none
def bindTs : List Tg → List D → Rho → Option Rho
  | [], [], ρ => some ρ
  | t :: ts, d :: ds, ρ => (bindT t d ρ).bind (bindTs ts ds)
  | _, _, _ => none
end
mutual
def toG (K : PySem.W.Frag) : Tg → TG
  | .nm i => gName i
  | .tp ts => gTup K ts.length (toGs K ts)
def toGs (K : PySem.W.Frag) : List Tg → TGs
  | [] => gNil
  | t :: ts => gCons (toG K t) (toGs K ts)
end
mutual
def Tg.slots : Tg → List Nat
  | .nm i => [i]
  | .tp ts => slotss ts
def slotss : List Tg → List Nat
  | [] => []
  | t :: ts => t.slots ++ slotss ts
end
end
end NC

set_option Elab.async false
set_option linter.all false
set_option maxRecDepth 100000
set_option maxHeartbeats 1000000
/-! NC3: targets, what is walked, for, comprehensions, stores. -/
namespace NC
open PySem PySem.Spec PyProof.Rows L2
open Evl (Ex)

def wipeD (ρ : Rho) : List Nat → Rho
  | [] => ρ
  | v :: vs => (wipeD ρ vs).set v none
theorem wipeD_len (ρ : Rho) : ∀ vs : List Nat, (wipeD ρ vs).length = ρ.length
  | [] => rfl
  | v :: vs => by unfold wipeD; rw [List.length_set, wipeD_len ρ vs]
theorem wipeD_some {ρ : Rho} {i : Nat} {x : D} : ∀ {vs : List Nat}, (wipeD ρ vs)[i]? = some (some x) → ρ[i]? = some (some x) ∧ i ∉ vs
  | [], h => ⟨h, by simp⟩
  | v :: vs, h => by
    unfold wipeD at h
    by_cases hi : v = i
    · subst hi
      by_cases hv : v < (wipeD ρ vs).length
      · rw [List.getElem?_set_self hv] at h
        cases h
      · rw [List.getElem?_eq_none (by simpa using hv)] at h
        cases h
    · rw [List.getElem?_set_ne hi] at h
      obtain ⟨a, b⟩ := wipeD_some h
      exact ⟨a, by simp [Ne.symm hi, b]⟩
theorem wipe_keep {σ : L2.St} {i : Nat} {x : V} : ∀ {vs : List Nat}, i ∉ vs → σ[i]? = some (some x) → (wipe σ vs)[i]? = some (some x)
  | [], _, h => h
  | v :: vs, hn, h => by
    have h1 : v ≠ i := fun e => hn (by simp [e])
    unfold wipe
    rw [List.getElem?_set_ne h1]
    exact wipe_keep (fun e => hn (by simp [e])) h
theorem Rel.wipe {K : PySem.W.Frag} {X β : List Addr} {S : Store} {ρ : Rho} {σ : L2.St} {H : Hp} (r : Rel K X β S ρ σ H) (vs : List Nat) : Rel K X β S (wipeD ρ vs) (L2.wipe σ vs) H :=
  ⟨r.ok, by rw [wipeD_len, wipe_length]; exact r.len, fun i d h => by
    obtain ⟨h1, h2⟩ := wipeD_some h
    obtain ⟨v, e, q⟩ := r.get i d h1
    exact ⟨v, wipe_keep h2 e, q⟩⟩
theorem wipe_set {σ : L2.St} {j : Nat} {x : Option V} : ∀ {vs : List Nat}, j ∈ vs → L2.wipe (σ.set j x) vs = L2.wipe σ vs
  | v :: vs, h => by
    unfold L2.wipe
    by_cases e : j ∈ vs
    · rw [wipe_set e]
    · have e' : j = v := by
        rcases List.mem_cons.mp h with h | h
        · exact h
        · exact absurd h e
      subst e'
      clear h
      have : ∀ us : List Nat, j ∉ us → (L2.wipe (σ.set j x) us) = (L2.wipe σ us).set j x := by
        intro us
        induction us with
        | nil => intro _; rfl
        | cons u us ih =>
          intro hn
          have h1 : u ≠ j := fun e => hn (by simp [e])
          unfold L2.wipe
          rw [ih fun e => hn (by simp [e]), List.set_comm _ _ h1]
      rw [this vs e, List.set_set]
theorem wipe_wipe {σ : L2.St} {vs : List Nat} : ∀ {us : List Nat}, (∀ u ∈ us, u ∈ vs) → L2.wipe (L2.wipe σ us) vs = L2.wipe σ vs
  | [], _ => rfl
  | u :: us, h => by
    show L2.wipe ((L2.wipe σ us).set u none) vs = L2.wipe σ vs
    rw [wipe_set (h u (by simp)), wipe_wipe fun z hz => h z (by simp [hz])]

section
variable {K : PySem.W.Frag} {X β : List Addr} {S : Store} {H : Hp}
mutual
theorem bind_ok : ∀ {t : Tg} {d : D} {ρ ρ' : Rho} {σ : L2.St} {v : V}, bindT t d ρ = some ρ' → Rel K X β S ρ σ H → Rep K (hid X β S H) β v d →
    ∃ σ', (∀ Q : L2.St → Hp → Prop, Q σ' H → toG K t v σ H Q) ∧ Rel K X β S ρ' σ' H ∧ ∀ vs, (∀ i ∈ t.slots, i ∈ vs) → wipe σ' vs = wipe σ vs
  | .nm i, d, ρ, ρ', σ, v, h, r, q => by
    unfold bindT at h
    cases h
    refine ⟨σ.set i (some v), fun Q k => ?_, r.set q i, fun vs hv => wipe_set (hv i (by simp [Tg.slots]))⟩
    unfold toG
    exact k
  | .tp ts, d, ρ, ρ', σ, v, h, r, q => by
    cases d with
    | tup ds =>
      unfold bindT at h
      cases q with
      | tup h1 h2 =>
        rename_i a vs
        obtain ⟨σ', k, r', w, hl⟩ := binds_ok h r h2
        refine ⟨σ', fun Q hq => ?_, r', fun us hu => w us (by unfold Tg.slots at hu; exact hu)⟩
        unfold toG
        exact ⟨a, vs, rfl, Evl.ex_t hid_ex h1, hl, k Q hq⟩
    | _ => unfold bindT at h; cases h
theorem binds_ok : ∀ {ts : List Tg} {ds : List D} {ρ ρ' : Rho} {σ : L2.St} {vs : List V}, bindTs ts ds ρ = some ρ' → Rel K X β S ρ σ H → Reps K (hid X β S H) β vs ds →
    ∃ σ', (∀ Q : L2.St → Hp → Prop, Q σ' H → toGs K ts vs σ H Q) ∧ Rel K X β S ρ' σ' H ∧ (∀ us, (∀ i ∈ slotss ts, i ∈ us) → wipe σ' us = wipe σ us) ∧ vs.length = ts.length
  | [], ds, ρ, ρ', σ, vs, h, r, q => by
    cases ds with
    | nil =>
      unfold bindTs at h
      cases h
      cases q
      refine ⟨σ, fun Q k => ?_, r, fun _ _ => rfl, rfl⟩
      unfold toGs
      exact ⟨rfl, k⟩
    | cons d ds => unfold bindTs at h; cases h
  | t :: ts, ds, ρ, ρ', σ, vs, h, r, q => by
    cases ds with
    | nil => unfold bindTs at h; cases h
    | cons d ds =>
      unfold bindTs at h
      obtain ⟨ρ1, h1, h2⟩ := Option.bind_eq_some_iff.mp h
      cases q with
      | cons q1 q2 =>
        rename_i v vs
        obtain ⟨σ1, k1, r1, w1⟩ := bind_ok h1 r q1
        obtain ⟨σ2, k2, r2, w2, hl⟩ := binds_ok h2 r1 q2
        refine ⟨σ2, fun Q k => ?_, r2, fun us hu => ?_, by simp [hl]⟩
        · unfold toGs
          exact ⟨v, vs, rfl, k1 _ (k2 Q k)⟩
        · unfold slotss at hu
          exact (w2 us fun i hi => hu i (List.mem_append_right _ hi)).trans (w1 us fun i hi => hu i (List.mem_append_left _ hi))
end
end

/-! ### what is walked -/
/-- a later world, perhaps with more that is hidden -/
structure Lat (K : PySem.W.Frag) (Y β : List Addr) (S : Store) (H : Hp) (Z β' : List Addr) (S' : Store) (H' : Hp) : Prop where
  ok : Ok K Z β' S' H'
  pre : Pre β β'
  ex : Ex (hid Y β S H) (hid Z β' S' H')
theorem Step.lat {K : PySem.W.Frag} {Y β : List Addr} {S : Store} {H : Hp} {β' : List Addr} {S' : Store} {H' : Hp} (s : Step K Y β S H β' S' H') : Lat K Y β S H Y β' S' H' := ⟨s.ok, s.pre, s.ex⟩
structure IterOk (K : PySem.W.Frag) (Y β : List Addr) (S : Store) (H : Hp) (J : It) (items : List D) (stays : Store → Prop) : Prop where
  go : ∀ Z β' S' H', Lat K Y β S H Z β' S' H' → stays S' → ∀ (i : Nat) (d : D), items[i]? = some d → J.go i H' ∧ ∀ x H'', J.yld i H' x H'' → Step K Z β' S' H' β' S' H'' ∧ Rep K (hid Z β' S' H'') β' x d
  stop : ∀ Z β' S' H', Lat K Y β S H Z β' S' H' → stays S' → J.stop items.length H'
abbrev TSr := Rho → Store → (List D → (Store → Prop) → Store → Prop) → Prop
def tI (K : PySem.W.Frag) (ts : TSr) : TI := fun σ H R => ∃ Y β S ρ Q', Rel K Y β S ρ σ H ∧ ts ρ S Q' ∧ ∀ items stays S' β' H' J, Step K Y β S H β' S' H' → IterOk K Y β' S' H' J items stays → Q' items stays S' → R J H'

theorem drf_back {S : Store} {n : Nat} {ds : List D} (h : drf S (.ref n) = .lst ds) : S[n]? = some (some (.lst ds)) := by
  simp only [drf] at h
  split at h
  · rename_i h2
    rw [h2]
    cases h
    rfl
  · cases h
def seqOf : D → Option (List D)
  | .lst xs => some xs
  | .tup xs => some xs
  | .ro xs => some xs
  | _ => none
/-- a list or tuple by its name in the world -/
theorem seq_at {K : PySem.W.Frag} {Y β : List Addr} {S : Store} {H : Hp} (o : Ok K Y β S H) {v : V} {d : D} {xs : List D} (r : Rep K (hid Y β S H) β v d) (h : seqOf (drf S d) = some xs) :
    ∃ a vs, v = .ref a ∧ (SqL K H a vs ∨ SqT K H a vs) ∧ Reps K H β vs xs := by
  have r' := o.drf r
  generalize drf S d = e at h r'
  cases e with
  | lst ys =>
    cases h
    cases r' with
    | lst h1 h2 => exact ⟨_, _, rfl, .inl (.inl (.inl h1)), h2⟩
  | tup ys =>
    cases h
    cases r' with
    | tup h1 h2 => exact ⟨_, _, rfl, .inr h1, h2⟩
  | ro ys =>
    cases h
    cases r' with
    | ro h1 h2 => exact ⟨_, _, rfl, .inl h1, h2⟩
  | _ => cases h
def sSq (t : TD) : TSr := fun ρ S Q => t ρ S fun x S1 => ∃ xs, seqOf (drf S1 x) = some xs ∧ Q xs (fun S' => drf S' x = drf S1 x) S1
/-- it stands in every later world -/
theorem seq_kind {K : PySem.W.Frag} {Y β : List Addr} {S : Store} {H : Hp} (o : Ok K Y β S H) {v : V} {d : D} {xs : List D} (r : Rep K (hid Y β S H) β v d) (h : seqOf (drf S d) = some xs) :
    ∃ a, v = .ref a ∧ ((∃ vs, SqL K H a vs) ∧ IterOk K Y β S H (Itl K a) xs (fun S' => drf S' d = drf S d) ∨ (∃ vs, SqT K H a vs) ∧ IterOk K Y β S H (Itt K a) xs (fun S' => drf S' d = drf S d)) := by
  -- the items at a later world, in the hidden heap too
  have later : ∀ Z β' S' H', Lat K Y β S H Z β' S' H' → drf S' d = drf S d → ∃ vs, Reps K (hid Z β' S' H') β' vs xs ∧
      (match drf S d with | .tup _ => ∀ a, v = .ref a → SqT K H' a vs | _ => ∀ a, v = .ref a → SqL K H' a vs) := by
    intro Z β' S' H' l e
    have r' := r.mono l.ex l.pre
    cases d with
    | ref n =>
      cases hs : S[n]? with
      | none => simp [drf, hs, seqOf] at h
      | some so =>
        cases so with
        | none => simp [drf, hs, seqOf] at h
        | some so =>
          cases so with
          | lst ds =>
            have h1 : drf S (.ref n) = .lst ds := by simp [drf, hs]
            have hds : ds = xs := by
              rw [h1] at h
              exact Option.some.inj h
            subst hds
            rw [h1] at e
            have hs' : S'[n]? = some (some (.lst ds)) := by
              exact drf_back e
            obtain ⟨b, e1, vs, e2, e3⟩ := l.ok.obj n _ hs'
            cases r' with
            | ref hb =>
              rw [e1] at hb
              cases hb
              refine ⟨vs, e3, ?_⟩
              rw [h1]
              exact fun a ea => by cases ea; exact .inl (.inl e2)
    | lst ys =>
      cases h
      cases r' with
      | lst h1 h2 => exact ⟨_, h2, fun a ea => by cases ea; exact .inl (.inl (hid_ex _ _ h1))⟩
    | tup ys =>
      cases h
      cases r' with
      | tup h1 h2 => exact ⟨_, h2, fun a ea => by cases ea; exact Evl.ex_t hid_ex h1⟩
    | ro ys =>
      cases h
      cases r' with
      | ro h1 h2 => exact ⟨_, h2, fun a ea => by cases ea; exact Evl.ex_l hid_ex h1⟩
    | _ => simp [drf, seqOf] at h
  have l0 : Lat K Y β S H Y β S H := ⟨o, .refl _, Ex.refl _⟩
  obtain ⟨a, vs0, ev, hk, hr⟩ := seq_at o r h
  refine ⟨a, ev, ?_⟩
  by_cases ht : ∃ ys, drf S d = .tup ys
  · obtain ⟨ys, ht⟩ := ht
    refine .inr ⟨?_, ⟨fun Z β' S' H' l st i x hx => ?_, fun Z β' S' H' l st => ?_⟩⟩
    · obtain ⟨vs, _, q⟩ := later _ _ _ _ l0 rfl
      rw [ht] at q
      exact ⟨vs, q a ev⟩
    · obtain ⟨vs, q0, q⟩ := later _ _ _ _ l st
      rw [ht] at q
      obtain ⟨w, e1, e2⟩ := q0.get hx
      refine ⟨⟨vs, w, q a ev, e1⟩, fun y H'' hy => ?_⟩
      obtain ⟨rfl, hy⟩ := hy
      have := hy vs (q a ev)
      rw [e1] at this
      cases this
      exact ⟨.refl l.ok, e2⟩
    · obtain ⟨vs, q0, q⟩ := later _ _ _ _ l st
      rw [ht] at q
      exact ⟨vs, q a ev, by rw [q0.len]; exact Nat.le_refl _⟩
  · refine .inl ⟨?_, ⟨fun Z β' S' H' l st i x hx => ?_, fun Z β' S' H' l st => ?_⟩⟩
    · obtain ⟨vs, _, q⟩ := later _ _ _ _ l0 rfl
      split at q
      · rename_i ys e
        exact (ht ⟨ys, e⟩).elim
      · exact ⟨vs, q a ev⟩
    · obtain ⟨vs, q0, q⟩ := later _ _ _ _ l st
      split at q
      · rename_i ys e
        exact (ht ⟨ys, e⟩).elim
      · obtain ⟨w, e1, e2⟩ := q0.get hx
        refine ⟨⟨vs, w, q a ev, e1⟩, fun y H'' hy => ?_⟩
        obtain ⟨rfl, hy⟩ := hy
        have := hy vs (q a ev)
        rw [e1] at this
        cases this
        exact ⟨.refl l.ok, e2⟩
    · obtain ⟨vs, q0, q⟩ := later _ _ _ _ l st
      split at q
      · rename_i ys e
        exact (ht ⟨ys, e⟩).elim
      · exact ⟨vs, q a ev, by rw [q0.len]; exact Nat.le_refl _⟩
section
variable {X : Cx} {e tg : Expr} {ta : TD} {pos : Pos}
/-- a list or a tuple, whichever comes -/
theorem di_seq (h : PE X e (tE X.K ta)) : PI X tg e (tI X.K (sSq ta)) := by
  refine ⟨fun pins s σ H R I q => ?_⟩
  obtain ⟨Y, β, S, ρ, Q', rl, q, k⟩ := q
  refine thn (h.run pins s σ H (fun v H1 => ∃ a, v = .ref a ∧ ((∃ vs, SqL X.K H1 a vs) ∧ R (Itl X.K a) H1 ∨ (∃ vs, SqT X.K H1 a vs) ∧ R (Itt X.K a) H1)) I
    ⟨Y, β, S, ρ, _, rl, q, fun d S1 v β1 H1 s1 r1 ⟨xs, hx, q1⟩ => ?_⟩) fun v s1 ⟨x, H1, I1, r1, a, ea, q1⟩ => ?_
  · obtain ⟨a, ea, hk⟩ := seq_kind s1.ok r1 hx
    refine ⟨a, ea, ?_⟩
    rcases hk with ⟨h1, h2⟩ | ⟨h1, h2⟩
    · exact .inl ⟨h1, k _ _ _ _ _ _ s1 h2 q1⟩
    · exact .inr ⟨h1, k _ _ _ _ _ _ s1 h2 q1⟩
  · subst ea
    cases r1
    have fresh : ∀ b ∈ [s1.heap.objs.size], FpOk X pins H1 b := fun b hb => by
      have eb : b = s1.heap.objs.size := by simpa using hb
      rw [eb]
      exact I1.fpOk (Nat.le_refl _) (I1.hok.fresh (Nat.le_refl _))
    rcases q1 with ⟨⟨vs, hq⟩, q1⟩ | ⟨⟨vs, hq⟩, q1⟩
    · obtain ⟨us, ru, pl, _⟩ := I1.list hq
      exact wpAny_pyIter_list pl.isList ⟨_, _, _, _, H1, rfl, I1.kept (t' := s1.toks) fun b o z => Heap.get?_push_of_some _ z, turn_list a _, ⟨_, Heap.get?_push_size _ rfl, rfl, rfl⟩, fresh, q1⟩
    · obtain ⟨us, ru, pl, _⟩ := I1.tuple hq
      exact wpAny_pyIter_tuple (show s1.heap.IsTuple a us.toArray from pl) ⟨_, _, _, _, H1, rfl, I1.kept (t' := s1.toks) fun b o z => Heap.get?_push_of_some _ z, turn_tuple a _, ⟨_, Heap.get?_push_size _ rfl, rfl, rfl⟩, fresh, q1⟩
/-- a range of ints -/
def rangeD (lo hi : Int) : List D := (List.range (hi - lo).toNat).map fun i => .int (lo + (i : Nat))
theorem range_iter {K : PySem.W.Frag} {Y β : List Addr} {S : Store} {H : Hp} (lo : Int) (n : Nat) : IterOk K Y β S H (Itr lo n) ((List.range n).map fun i => .int (lo + (i : Nat))) fun _ => True :=
  ⟨fun Z β' S' H' l _ i d hd => by
    rw [List.getElem?_map] at hd
    obtain ⟨j, hj, ed⟩ := Option.map_eq_some_iff.mp hd
    have hi : i < n := by
      have := (List.getElem?_eq_some_iff.mp hj).1
      simpa using this
    have ej : j = i := by
      have := (List.getElem?_eq_some_iff.mp hj).2
      simpa using this.symm
    subst ej
    refine ⟨hi, fun x H'' hx => ?_⟩
    obtain ⟨rfl, rfl⟩ := hx
    subst ed
    exact ⟨.refl l.ok, .int _⟩, fun Z β' S' H' l _ => by show n ≤ _; simp⟩
def sRange1 (tl : TLs) : TSr := fun ρ S Q => tl ρ S fun xs S1 => ∃ n : Int, xs = [.int n] ∧ -(2 ^ 62) ≤ n ∧ n < 2 ^ 62 ∧ Q (rangeD 0 n) (fun _ => True) S1
def sRange2 (tl : TLs) : TSr := fun ρ S Q => tl ρ S fun xs S1 => ∃ m n : Int, xs = [.int m, .int n] ∧ (-(2 ^ 62) ≤ m ∧ m < 2 ^ 62 ∧ -(2 ^ 62) ≤ n ∧ n < 2 ^ 62) ∧ Q (rangeD m n) (fun _ => True) S1
theorem _root_.L2.PI.imp {t t' : TI} (h : PI X tg e t) (i : ∀ σ H R, t' σ H R → t σ H R) : PI X tg e t' := ⟨fun pins s σ H R I q => h.run pins s σ H R I (i σ H R q)⟩
theorem Reps.one {K : PySem.W.Frag} {B : Hp} {β : List Addr} {vs : List V} {d : D} (h : Reps K B β vs [d]) : ∃ v, vs = [v] ∧ Rep K B β v d := by
  cases h with
  | cons h1 h2 =>
    cases h2
    exact ⟨_, rfl, h1⟩
theorem Reps.two {K : PySem.W.Frag} {B : Hp} {β : List Addr} {vs : List V} {d d2 : D} (h : Reps K B β vs [d, d2]) : ∃ v v2, vs = [v, v2] ∧ Rep K B β v d ∧ Rep K B β v2 d2 := by
  cases h with
  | cons h1 h2 =>
    obtain ⟨v2, rfl, h3⟩ := h2.one
    exact ⟨_, _, rfl, h1, h3⟩
variable {a b : Expr} {tl : TLs} {p : Pos}
theorem di_range1 (hg : Gl X "range") (hm : X.mg "range" = none) (ha : PA X [a] (tA X.K tl)) (hs : starEach [a] X.env = [(false, eval a X.env)] := by rfl) : PI X tg (.Call (.Name "range" p) [a] [] pos) (tI X.K (sRange1 tl)) :=
  (pi_range1 hg hm ha hs).imp fun σ H R ⟨Y, β, S, ρ, Q', rl, q, k⟩ => ⟨Y, β, S, ρ, _, rl, q, fun xs S1 vs β1 H1 s1 r1 ⟨n, ex, h1, h2, q1⟩ => by
    subst ex
    obtain ⟨v, rfl, r⟩ := r1.one
    cases r
    refine ⟨n, rfl, h1, h2, k _ _ _ _ _ _ s1 (range_iter 0 n.toNat) ?_⟩
    unfold rangeD at q1
    rwa [show (n - 0).toNat = n.toNat by omega] at q1⟩
theorem di_range2 (hg : Gl X "range") (hm : X.mg "range" = none) (ha : PA X [a, b] (tA X.K tl)) (hs : starEach [a, b] X.env = [(false, eval a X.env), (false, eval b X.env)] := by rfl) (hs2 : starEach [b] X.env = [(false, eval b X.env)] := by rfl) :
    PI X tg (.Call (.Name "range" p) [a, b] [] pos) (tI X.K (sRange2 tl)) :=
  (pi_range2 hg hm ha hs hs2).imp fun σ H R ⟨Y, β, S, ρ, Q', rl, q, k⟩ => ⟨Y, β, S, ρ, _, rl, q, fun xs S1 vs β1 H1 s1 r1 ⟨m, n, ex, h1, q1⟩ => by
    subst ex
    obtain ⟨v, v2, rfl, r, r'⟩ := r1.two
    cases r
    cases r'
    exact ⟨m, n, rfl, h1, k _ _ _ _ _ _ s1 (range_iter m (n - m).toNat) q1⟩⟩
end

/-! ### for -/
def sFor (ts : TSr) (t : Tg) (tb : TSd) : TSd := fun N ρ S => ts ρ S fun items stays S1 => ∃ I : Nat → Rho → Store → Prop, I 0 ρ S1 ∧ (∀ i ρ' S', I i ρ' S' → stays S') ∧
  (∀ i d ρ' S', items[i]? = some d → I i ρ' S' → ∃ ρ'', bindT t d ρ' = some ρ'' ∧ tb { N with nx := I (i + 1), ct := I (i + 1), bk := N.nx } ρ'' S') ∧ ∀ ρ' S', I items.length ρ' S' → N.nx ρ' S'
section
variable {X : Cx} {iter tg : Expr} {pos : Pos} {body : List Stmt} {ts : TSr} {t : Tg} {tb : TSd}
theorem ds_for (hp : PassesOwn (model X.prog X.w) X.A X.env X.xe) (hc : X.calm = true) (hi : PI X tg iter (tI X.K ts)) (hg : PG X tg (toG X.K t)) (hb : PSs X body (tS X.K tb))
    (hs : ∀ x, foldedSetIterable iter X.env x = pure x := by intro _; rfl) : PS X (.For tg iter body [] pos) (tS X.K (sFor ts t tb)) := by
  refine (ps_for hp hc hi hg hb hs).imp fun D' σ H ⟨Y, β, S, ρ, N, rl, q, l⟩ => ⟨Y, β, S, ρ, _, rl, q, fun items stays S1 β1 H1 J s1 io ⟨I, i0, ist, istep, iend⟩ => ?_⟩
  refine ⟨fun i m σ' H' => m = items.length - i ∧ i ≤ items.length ∧ ∃ β' S' ρ', Step X.K Y β1 S1 H1 β' S' H' ∧ Rel X.K Y β' S' ρ' σ' H' ∧ I i ρ' S', ⟨items.length, by simp, Nat.zero_le _, β1, S1, ρ, .refl s1.ok, rl.step s1, i0⟩, ?_⟩
  rintro i m σ' H' ⟨rfl, hi', β', S', ρ', st, r', inv⟩
  by_cases hlt : i < items.length
  · have hx : items[i]? = some items[i] := List.getElem?_eq_getElem hlt
    obtain ⟨g1, g2⟩ := io.go _ _ _ _ st.lat (ist _ _ _ inv) i _ hx
    refine .inr ⟨g1, fun σ3 H3 => ∃ β3 S3 ρ3, Step _ Y β1 S1 H1 β3 S3 H3 ∧ Rel _ Y β3 S3 ρ3 σ3 H3 ∧ I (i + 1) ρ3 S3, fun σ3 H3 ⟨β3, S3, ρ3, a1, a2, a3⟩ => ⟨items.length - (i + 1), by omega, rfl, hlt, β3, S3, ρ3, a1, a2, a3⟩, fun x H'' hy => ?_⟩
    obtain ⟨s2, rx⟩ := g2 x H'' hy
    obtain ⟨ρ2, hb2, hbody⟩ := istep i _ ρ' S' hx inv
    obtain ⟨σ2, hset, r2, _⟩ := bind_ok hb2 (r'.step s2) rx
    refine hset _ ⟨Y, β', S', ρ2, _, r2, hbody, ?_⟩
    have s3 := st.trans s2
    exact ⟨fun ρ4 S4 σ4 β4 H4 s4 r4 q4 => ⟨β4, S4, ρ4, s3.trans s4, r4, q4⟩, fun d S4 v β4 H4 s4 => l.rt d S4 v β4 H4 ((s1.trans s3).trans s4),
      fun ρ4 S4 σ4 β4 H4 s4 r4 q4 => l.nx ρ4 S4 σ4 β4 H4 ((s1.trans s3).trans s4) r4 q4, fun ρ4 S4 σ4 β4 H4 s4 r4 q4 => ⟨β4, S4, ρ4, s3.trans s4, r4, q4⟩⟩
  · have e : i = items.length := by omega
    subst e
    exact .inl ⟨io.stop _ _ _ _ st.lat (ist _ _ _ inv), l.nx ρ' S' σ' β' H' (s1.trans st) r' (iend ρ' S' inv)⟩
end
end NC

set_option Elab.async false
set_option linter.all false
set_option maxRecDepth 100000
set_option maxHeartbeats 1000000
/-! NC4: comprehensions, stores, methods, defs. -/
namespace NC
open PySem PySem.Spec PyProof.Rows L2
open Evl (Ex)

section
variable {K : PySem.W.Frag} {Y β : List Addr} {S : Store} {H : Hp} {a : Addr}
theorem hid_more : hid (a :: Y) β S H = fun b => if b = a then none else hid Y β S H b := by
  funext b
  unfold hid
  by_cases h : b = a
  · rw [if_pos h, if_pos (.inl (by simp [h]))]
  · rw [if_neg h]
    have e : (b ∈ a :: Y ∨ ∃ (n : Nat) (o : SO), β[n]? = some b ∧ S[n]? = some (some o)) ↔ (b ∈ Y ∨ ∃ (n : Nat) (o : SO), β[n]? = some b ∧ S[n]? = some (some o)) := by simp [h]
    by_cases q : b ∈ Y ∨ ∃ (n : Nat) (o : SO), β[n]? = some b ∧ S[n]? = some (some o)
    · rw [if_pos q, if_pos (e.mpr q)]
    · rw [if_neg q, if_neg fun z => q (e.mp z)]
theorem hid_upd {o : HO} : hid (a :: Y) β S (upd H a o) = hid (a :: Y) β S H := by
  rw [hid_more, hid_more]
  funext b
  by_cases h : b = a
  · rw [if_pos h, if_pos h]
  · rw [if_neg h, if_neg h]
    unfold hid
    rw [upd_ne h]
theorem Ok.touch (o : Ok K (a :: Y) β S H) (ob : HO) : Ok K (a :: Y) β S (upd H a ob) := by
  have tr : ∀ b, H b ≠ none → upd H a ob b ≠ none := fun b h => by
    by_cases e : b = a
    · subst e
      rw [upd_same]
      simp
    · rw [upd_ne e]
      exact h
  refine ⟨o.len, o.nd, o.out, fun b hb => tr b (o.trk b hb), fun b hb => tr b (o.xtrk b hb), fun n so e => ?_⟩
  obtain ⟨b, e1, r⟩ := o.obj n so e
  refine ⟨b, e1, ?_⟩
  rw [hid_upd]
  refine r.keep (Ex.refl _) (.refl _) fun _ => upd_ne fun e2 => ?_
  exact o.out b (List.mem_of_getElem? e1) (by simp [e2])
theorem Ok.open (o : Ok K Y β S H) (hp : H a = none) (ob : HO) : Ok K (a :: Y) β S (upd H a ob) ∧ Ex (hid Y β S H) (hid (a :: Y) β S (upd H a ob)) := by
  have ne : ∀ b, H b ≠ none → b ≠ a := fun b h e => h (e ▸ hp)
  have ex : Ex (hid Y β S H) (hid (a :: Y) β S (upd H a ob)) := fun b u h => by
    have hb : b ≠ a := ne b (by rw [hid_ex b u h]; simp)
    rw [hid_upd, hid_more]
    show (if b = a then none else hid Y β S H b) = some u
    rw [if_neg hb]
    exact h
  refine ⟨⟨o.len, o.nd, fun b hb hm => ?_, fun b hb => ?_, fun b hb => ?_, fun n so e => ?_⟩, ex⟩
  · rcases List.mem_cons.mp hm with h | h
    · exact ne b (o.trk b hb) h
    · exact o.out b hb h
  · rw [upd_ne (ne b (o.trk b hb))]
    exact o.trk b hb
  · rcases List.mem_cons.mp hb with h | h
    · rw [h, upd_same]
      simp
    · rw [upd_ne (ne b (o.xtrk b h))]
      exact o.xtrk b h
  · obtain ⟨b, e1, r⟩ := o.obj n so e
    exact ⟨b, e1, r.keep ex (.refl _) fun h => upd_ne (ne b h)⟩
theorem Ok.close (o : Ok K (a :: Y) β S H) : Ok K Y β S H ∧ Ex (hid (a :: Y) β S H) (hid Y β S H) := by
  have ex : Ex (hid (a :: Y) β S H) (hid Y β S H) := fun b u h => by
    rw [hid_more] at h
    have h' : (if b = a then none else hid Y β S H b) = some u := h
    by_cases e : b = a
    · rw [if_pos e] at h'
      cases h'
    · rwa [if_neg e] at h'
  refine ⟨⟨o.len, o.nd, fun b hb hm => o.out b hb (by simp [hm]), o.trk, fun b hb => o.xtrk b (by simp [hb]), fun n so e => ?_⟩, ex⟩
  obtain ⟨b, e1, r⟩ := o.obj n so e
  exact ⟨b, e1, r.keep ex (.refl _) fun _ => rfl⟩
/-- a hidden list is taken into the store -/
theorem Ok.adopt (o : Ok K (a :: Y) β S H) (hY : a ∉ Y) {vs : List V} {ds : List D} (h : H a = some (.lst vs)) (r : Reps K (hid (a :: Y) β S H) β vs ds) :
    Ok K Y (β ++ [a]) (S ++ [some (.lst ds)]) H ∧ Ex (hid (a :: Y) β S H) (hid Y (β ++ [a]) (S ++ [some (.lst ds)]) H) := by
  have hb : a ∉ β := fun hm => o.out a hm (by simp)
  have ex : Ex (hid (a :: Y) β S H) (hid Y (β ++ [a]) (S ++ [some (.lst ds)]) H) := fun b u h => by
    unfold hid at h ⊢
    split at h
    · cases h
    · rename_i hn
      rw [if_neg]
      · exact h
      · rintro (h' | ⟨m, o', e1, e2⟩)
        · exact hn (.inl (by simp [h']))
        · by_cases hm : m < β.length
          · rw [List.getElem?_append_left hm] at e1
            rw [List.getElem?_append_left (by rw [← o.len]; exact hm)] at e2
            exact hn (.inr ⟨m, o', e1, e2⟩)
          · rw [List.getElem?_append_right (by omega)] at e1
            have e3 : b = a := by
              have := List.mem_of_getElem? e1
              simpa using this
            exact hn (.inl (by simp [e3]))
  have pre : Pre β (β ++ [a]) := ⟨[a], rfl⟩
  refine ⟨⟨by simp [o.len], ?_, fun b hm => ?_, fun b hm => ?_, fun b hb => o.xtrk b (by simp [hb]), fun m o' e => ?_⟩, ex⟩
  · rw [List.nodup_append]
    refine ⟨o.nd, by simp, fun b hb' c hc => ?_⟩
    have e3 : c = a := by simpa using hc
    rw [e3]
    intro e4
    exact hb (e4 ▸ hb')
  · rcases List.mem_append.mp hm with h' | h'
    · exact fun q => o.out b h' (by simp [q])
    · have e3 : b = a := by simpa using h'
      rw [e3]
      exact hY
  · rcases List.mem_append.mp hm with h' | h'
    · exact o.trk b h'
    · have e3 : b = a := by simpa using h'
      rw [e3, h]
      simp
  · by_cases hm : m < S.length
    · rw [List.getElem?_append_left hm] at e
      obtain ⟨b, e1, r'⟩ := o.obj m o' e
      exact ⟨b, pre.get e1, r'.keep ex pre fun _ => rfl⟩
    · rw [List.getElem?_append_right (by omega)] at e
      have hm' : m - S.length = 0 := by
        have := (List.getElem?_eq_some_iff.mp e).1
        simp at this
        omega
      rw [hm'] at e
      cases e
      refine ⟨a, ?_, vs, h, r.mono ex pre⟩
      rw [List.getElem?_append_right (by rw [o.len]; omega), o.len, hm']
      rfl
end

/-! ### list comprehensions -/
/-- what the turns of a comprehension come to -/
def lcW (ts : TSr) (t : Tg) (tt : TB) (te : TD) (vs : List Nat) (ρ : Rho) (S : Store) (R : List D → Store → Prop) : Prop := ts ρ S fun items stays S1 => ∃ I : Nat → List D → Store → Prop, I 0 [] S1 ∧ (∀ i acc S', I i acc S' → stays S') ∧ items.length ≤ sizeLine ∧
  (∀ i d acc S', items[i]? = some d → I i acc S' → ∃ ρ2, bindT t d (wipeD ρ vs) = some ρ2 ∧ tt ρ2 S' fun b S2 => if b = true then te ρ2 S2 fun y S3 => I (i + 1) (acc ++ [y]) S3 else I (i + 1) acc S2) ∧ ∀ acc S', I items.length acc S' → R acc S'
def eLc (ts : TSr) (t : Tg) (tt : TB) (te : TD) (vs : List Nat) : TD := fun ρ S Q => lcW ts t tt te vs ρ S fun acc S' => Q (.lst acc) S'
def eLcM (ts : TSr) (t : Tg) (tt : TB) (te : TD) (vs : List Nat) : TD := fun ρ S Q => lcW ts t tt te vs ρ S fun acc S' => Q (.ref S'.length) (S' ++ [some (.lst acc)])
def bYes : TB := fun _ S Q => Q true S
section
variable {K : PySem.W.Frag}
theorem lc_core' {ts : TSr} {t : Tg} {tt : TB} {te : TD} {vs : List Nat} {σ : L2.St} {H : Hp} {Q : VK} {Y β : List Addr} {S : Store} {ρ : Rho} {R : List D → Store → Prop} (hv : ∀ i ∈ t.slots, i ∈ vs) (rl : Rel K Y β S ρ σ H) (h : lcW ts t tt te vs ρ S R)
    (k : ∀ (acc : List D) (S' : Store) (us : List V) (p : Addr) (β' : List Addr) (H' : Hp), Ok K (p :: Y) β' S' H' → Pre β β' → Ex (hid Y β S H) (hid (p :: Y) β' S' H') → (∀ a ∈ Y, H' a = H a) → (∀ a, H a ≠ none → H' a ≠ none) → p ∉ Y →
      H' p = some (.lst us) → Reps K (hid (p :: Y) β' S' H') β' us acc → R acc S' → Q (.ref p) H') :
    tLc (tI K ts) (toG K t) (tT K tt) (tE K te) vs σ H Q := by
  refine ⟨Y, β, S, ρ, _, rl, h, fun items stays S1 β1 H1 J s1 io ⟨I, i0, ist, hlen, istep, iend⟩ => fun p hp => ?_⟩
  have hpY : p ∉ Y := fun hm => s1.ok.xtrk p hm hp
  obtain ⟨ok0, ex0⟩ := s1.ok.open hp (.lst [])
  have ne1 : ∀ b, H1 b ≠ none → b ≠ p := fun b h e => h (e ▸ hp)
  refine ⟨fun i m H' => m = items.length - i ∧ i ≤ items.length ∧ ∃ β' S' acc us, Lat K Y β1 S1 H1 (p :: Y) β' S' H' ∧ (∀ a ∈ Y, H' a = H1 a) ∧ (∀ a, H1 a ≠ none → H' a ≠ none) ∧ H' p = some (.lst us) ∧ Reps K (hid (p :: Y) β' S' H') β' us acc ∧ acc.length ≤ i ∧ I i acc S',
    ⟨items.length, by simp, Nat.zero_le _, β1, S1, [], [], ⟨ok0, .refl _, ex0⟩, fun a ha => upd_ne (ne1 a (s1.ok.xtrk a ha)), fun a ha => by rw [upd_ne (ne1 a ha)]; exact ha, upd_same, .nil, Nat.zero_le _, i0⟩, ?_⟩
  rintro i m H' ⟨rfl, hi, β', S', acc, us, lt, hx, htr, hpv, rp, hal, inv⟩
  by_cases hlt : i < items.length
  · have hit : items[i]? = some items[i] := List.getElem?_eq_getElem hlt
    obtain ⟨g1, g2⟩ := io.go _ _ _ _ lt (ist _ _ _ inv) i _ hit
    refine .inr ⟨g1, fun H3 => ∃ β' S' acc us, Lat K Y β1 S1 H1 (p :: Y) β' S' H3 ∧ (∀ a ∈ Y, H3 a = H1 a) ∧ (∀ a, H1 a ≠ none → H3 a ≠ none) ∧ H3 p = some (.lst us) ∧ Reps K (hid (p :: Y) β' S' H3) β' us acc ∧ acc.length ≤ i + 1 ∧ I (i + 1) acc S',
      fun H3 h3 => ⟨items.length - (i + 1), by omega, rfl, hlt, h3⟩, fun x H2 hy => ?_⟩
    obtain ⟨s2, rx⟩ := g2 x H2 hy
    obtain ⟨ρ2, hb2, hbody⟩ := istep i _ acc S' hit inv
    -- the frame's values, at this turn
    have rl1 : Rel K (p :: Y) β' S' ρ σ H2 := ⟨s2.ok, rl.len, fun j d e => let ⟨v, e1, q⟩ := rl.get j d e; ⟨v, e1, (((s1.rep q).mono lt.ex lt.pre)).mono s2.ex s2.pre⟩⟩
    obtain ⟨σ2, hset, r2, hw⟩ := bind_ok hb2 (rl1.wipe vs) rx
    refine hset _ ⟨?_, p :: Y, β', S', ρ2, _, r2, hbody, fun b S3 β3 H3 s3 q3 => ?_⟩
    · rw [hw vs hv, wipe_wipe fun u hu => hu]
    · have s23 := s2.trans s3
      have hp3 : ∀ {β4 : List Addr} {S4 : Store} {H4 : Hp}, Step K (p :: Y) β' S' H' β4 S4 H4 → H4 p = some (.lst us) := fun s4 => (s4.ext p (by simp)).trans hpv
      cases b with
      | true =>
        refine ⟨p :: Y, β3, S3, ρ2, _, r2.step s3, q3, fun y S4 v β4 H4 s4 r4 q4 => ?_⟩
        have s24 := s23.trans s4
        refine ⟨us, hp3 s24, by have := rp.len; omega, β4, S4, acc ++ [y], us ++ [v], ⟨s24.ok.touch _, lt.pre.trans s24.pre, ?_⟩, fun a ha => ?_, fun a ha => ?_, upd_same, ?_, by simp; omega, q4⟩
        · rw [hid_upd]
          exact lt.ex.trans s24.ex
        · rw [upd_ne (fun e : a = p => hpY (e ▸ ha)), s24.ext a (by simp [ha])]
          exact hx a ha
        · by_cases e : a = p
          · rw [e, upd_same]
            simp
          · rw [upd_ne e]
            exact s24.trk a (htr a ha)
        · rw [hid_upd]
          exact (s24.reps rp).append (.cons r4 .nil)
      | false =>
        exact ⟨β3, S3, acc, us, ⟨s23.ok, lt.pre.trans s23.pre, lt.ex.trans s23.ex⟩, fun a ha => (s23.ext a (by simp [ha])).trans (hx a ha), fun a ha => s23.trk a (htr a ha), hp3 s23, s23.reps rp, by omega, q3⟩
  · have e : i = items.length := by omega
    subst e
    refine .inl ⟨io.stop _ _ _ _ lt (ist _ _ _ inv), ?_⟩
    exact k acc S' us p β' H' lt.ok (s1.pre.trans lt.pre) (s1.ex.trans lt.ex) (fun a ha => (hx a ha).trans (s1.ext a ha)) (fun a ha => htr a (s1.trk a ha)) hpY hpv rp (iend _ _ inv)
theorem lc_lift {ts : TSr} {t : Tg} {tt : TB} {te : TD} {vs : List Nat} (hv : ∀ i ∈ t.slots, i ∈ vs) {σ : L2.St} {H : Hp} {Q : VK} (h : tE K (eLc ts t tt te vs) σ H Q) : tLc (tI K ts) (toG K t) (tT K tt) (tE K te) vs σ H Q := by
  obtain ⟨Y, β, S, ρ, Q', rl, q, k⟩ := h
  refine lc_core' hv rl q fun acc S' us p β' H' ok pre ex hx htr hpY hpv rp hq => ?_
  obtain ⟨ok', ex'⟩ := ok.close
  have hl : hid Y β' S' H' p = some (.lst us) := by
    rw [hid_of hpY fun n o e1 _ => ok.out p (List.mem_of_getElem? e1) (by simp)]
    exact hpv
  exact k _ S' _ β' H' ⟨pre, ex.trans ex', hx, htr, ok'⟩ (.lst hl (rp.mono ex' (.refl _))) hq
theorem lcM_lift {ts : TSr} {t : Tg} {tt : TB} {te : TD} {vs : List Nat} (hv : ∀ i ∈ t.slots, i ∈ vs) {σ : L2.St} {H : Hp} {Q : VK} (h : tE K (eLcM ts t tt te vs) σ H Q) : tLc (tI K ts) (toG K t) (tT K tt) (tE K te) vs σ H Q := by
  obtain ⟨Y, β, S, ρ, Q', rl, q, k⟩ := h
  refine lc_core' hv rl q fun acc S' us p β' H' ok pre ex hx htr hpY hpv rp hq => ?_
  obtain ⟨ok', ex'⟩ := ok.adopt hpY hpv rp
  have hl : S'.length = β'.length := ok.len.symm
  refine k _ _ _ (β' ++ [p]) H' ⟨pre.trans ⟨[p], rfl⟩, ex.trans ex', hx, htr, ok'⟩ (.ref ?_) hq
  rw [hl, List.getElem?_append_right (Nat.le_refl _), Nat.sub_self]
  rfl
end
section
variable {X : Cx} {elt tg iter e : Expr} {ifs : List Expr} {scope : Scope} {own : List (Str × Nat)} {pos spos : Pos} {ts : TSr} {t : Tg} {tt : TB} {te ta : TD} {vs : List Nat}
theorem dts_nil : PTs X [] (tT X.K bYes) := ⟨fun pins s σ H Q I ⟨Y, β, S, ρ, Q', rl, q, k⟩ => pts_nil.run pins s σ H Q I (k true S β H (.refl rl.ok) q)⟩
theorem dts_one {c : Expr} (h : PT X c (tT X.K tt)) : PTs X [c] (tT X.K tt) := pts_one h
theorem de_lcOf (h : PE X e (tLc (tI X.K ts) (toG X.K t) (tT X.K tt) (tE X.K te) vs)) (hv : ∀ i ∈ t.slots, i ∈ vs) : PE X e (tE X.K (eLc ts t tt te vs)) := h.imp fun _ _ _ q => lc_lift hv q
theorem de_lcMOf (h : PE X e (tLc (tI X.K ts) (toG X.K t) (tT X.K tt) (tE X.K te) vs)) (hv : ∀ i ∈ t.slots, i ∈ vs) : PE X e (tE X.K (eLcM ts t tt te vs)) := h.imp fun _ _ _ q => lcM_lift hv q

/-! ### stores -/
def sAsg (t : Tg) (ta : TD) : TSd := fun N ρ S => ta ρ S fun d S1 => ∃ ρ', bindT t d ρ = some ρ' ∧ N.nx ρ' S1
variable {st : Stmt}
theorem asg_lift {te' : TE} (i : ∀ σ H Q, tE X.K ta σ H Q → te' σ H Q) {D' : Ends} {σ : L2.St} {H : Hp} (h : tS X.K (sAsg t ta) D' σ H) : tAsg te' (toG X.K t) D' σ H := by
  obtain ⟨Y, β, S, ρ, N, rl, q, l⟩ := h
  refine i σ H _ ⟨Y, β, S, ρ, _, rl, q, fun d S1 v β1 H1 s1 r1 ⟨ρ', hb, hn⟩ => ?_⟩
  obtain ⟨σ', hset, r', _⟩ := bind_ok hb (rl.step s1) r1
  exact hset _ (l.nx ρ' S1 σ' β1 H1 s1 r' hn)
theorem ds_asgOf {te' : TE} (h : PS X st (tAsg te' (toG X.K t))) (i : ∀ σ H Q, tE X.K ta σ H Q → te' σ H Q) : PS X st (tS X.K (sAsg t ta)) := h.imp fun _ _ _ q => asg_lift i q
theorem ds_asg (h : PS X st (tAsg (tE X.K ta) (toG X.K t))) : PS X st (tS X.K (sAsg t ta)) := ds_asgOf h fun _ _ _ q => q
/-- a, b = x, y -/
def sPar (i j : Nat) (tl : TLs) : TSd := fun N ρ S => tl ρ S fun ds S1 => ∃ d e, ds = [d, e] ∧ N.nx ((ρ.set i (some d)).set j (some e)) S1
theorem ds_par {i j : Nat} {tl : TLs} (h : PS X st (tPar i j (tA X.K tl))) : PS X st (tS X.K (sPar i j tl)) := h.imp fun D' σ H ⟨Y, β, S, ρ, N, rl, q, l⟩ =>
  ⟨Y, β, S, ρ, _, rl, q, fun ds S1 vs β1 H1 s1 r1 ⟨d, e, ed, hn⟩ => by
    subst ed
    obtain ⟨v, w, rfl, rv, rw'⟩ := r1.two
    exact ⟨v, w, rfl, l.nx _ S1 _ β1 H1 s1 (((rl.step s1).set rv i).set rw' j) hn⟩⟩
/-- xs[i] = e, xs a list of the store -/
def sPut (to ti ta : TD) : TSd := fun N ρ S => ta ρ S fun d S1 => to ρ S1 fun o S2 => ti ρ S2 fun k S3 => ∃ n i ds j, o = .ref n ∧ k = .int i ∧ S3[n]? = some (some (.lst ds)) ∧ ixN ds.length i = some j ∧ N.nx ρ (S3.set n (some (.lst (ds.set j d))))
theorem ds_put {to ti : TD} (h : PS X st (tAsg (tE X.K ta) (gSub (tE X.K to) (tE X.K ti) rSetL))) : PS X st (tS X.K (sPut to ti ta)) := h.imp fun D' σ H ⟨Y, β, S, ρ, N, rl, q, l⟩ =>
  ⟨Y, β, S, ρ, _, rl, q, fun d S1 v β1 H1 s1 r1 q1 => ⟨Y, β1, S1, ρ, _, rl.step s1, q1, fun o S2 ov β2 H2 s2 r2 q2 => ⟨Y, β2, S2, ρ, _, (rl.step s1).step s2, q2, fun k S3 kv β3 H3 s3 r3 ⟨n, i, ds, j, eo, ek, hs, hj, hn⟩ => by
    subst eo
    subst ek
    cases r3
    obtain ⟨a, e1, us, hu, ru⟩ := s3.ok.obj n _ hs
    cases (s3.rep r2) with
    | ref e2 =>
      rw [e1] at e2
      cases e2
      have s4 := s3.ok.put hs e1 (ru.set (s3.rep (s2.rep r1)) j)
      exact ⟨a, us, i, j, rfl, rfl, hu, by rw [ru.len]; exact hj, l.nx ρ _ σ β3 _ (((s1.trans s2).trans s3).trans s4) ((((rl.step s1).step s2).step s3).step s4) hn⟩⟩⟩⟩

/-! ### methods of built-in types -/
def tyM (T : String) : D → Prop
  | .lst _ => T = "list"
  | .str _ => T = "str"
  | .int _ => T = "int"
  | .dic _ => T = "dict"
  | .dit _ => T = "dict"
  | _ => False
theorem tyM_ok {K : PySem.W.Frag} {Y β : List Addr} {S : Store} {H : Hp} {T : String} {v : V} {d : D} (o : Ok K Y β S H) (r : Rep K (hid Y β S H) β v d) (h : tyM T (drf S d)) : tyV K T v H := by
  have r' := o.drf r
  generalize drf S d = e at h r'
  cases e with
  | lst xs =>
    cases r' with
    | lst h1 h2 => exact .inl ⟨h, _, .inl (.inl h1)⟩
  | str x => cases r'; exact h
  | int i => cases r'; exact h
  | dic ks =>
    cases r' with
    | dic h1 h2 => exact .inr (.inr (.inl ⟨h, .inl ⟨_, h1⟩⟩))
  | dit ks =>
    cases r' with
    | dit h1 h2 => exact .inr (.inr (.inl ⟨h, .inr ⟨_, h1⟩⟩))
  | _ => exact h.elim
abbrev RDm := D → List D → Store → QD → Prop
def lm (K : PySem.W.Frag) (r : RDm) : V → List V → Hp → VK → Prop := fun v vs H Q => ∃ Y β S x xs Q', Ok K Y β S H ∧ Rep K (hid Y β S H) β v x ∧ Reps K (hid Y β S H) β vs xs ∧ r x xs S Q' ∧ out K Y β S H Q' Q
def eM (T : String) (r : RDm) (to : TD) (tl : TLs) : TD := fun ρ S Q => to ρ S fun x S1 => tyM T (drf S1 x) ∧ tl ρ S1 fun xs S2 => r x xs S2 Q
theorem de_mOf {T : String} {r : RDm} {to : TD} {tl : TLs} (h : PE X e (tBM X.K T (lm X.K r) (tE X.K to) (tA X.K tl))) : PE X e (tE X.K (eM T r to tl)) := h.imp fun σ H Q ⟨Y, β, S, ρ, Q', rl, q, k⟩ =>
  ⟨Y, β, S, ρ, _, rl, q, fun x S1 v β1 H1 s1 r1 ⟨ty, q1⟩ => ⟨tyM_ok s1.ok r1 ty, Y, β1, S1, ρ, _, rl.step s1, q1, fun xs S2 vs β2 H2 s2 r2 q2 =>
    ⟨Y, β2, S2, x, xs, Q', s2.ok, s2.rep r1, r2, q2, fun z S3 w β3 H3 s3 r3 q3 => k z S3 w β3 H3 ((s1.trans s2).trans s3) r3 q3⟩⟩⟩
theorem de_m0Of {T : String} {r : RDm} {to : TD} (h : PE X e (tBM0 X.K T (lm X.K r) (tE X.K to))) : PE X e (tE X.K (eM T r to aNil)) := h.imp fun σ H Q ⟨Y, β, S, ρ, Q', rl, q, k⟩ =>
  ⟨Y, β, S, ρ, _, rl, q, fun x S1 v β1 H1 s1 r1 ⟨ty, q1⟩ => ⟨tyM_ok s1.ok r1 ty, Y, β1, S1, x, [], Q', s1.ok, r1, .nil, q1, fun z S3 w β3 H3 s3 r3 q3 => k z S3 w β3 H3 (s1.trans s3) r3 q3⟩⟩
end
end NC

set_option Elab.async false
set_option linter.all false
set_option maxRecDepth 100000
set_option maxHeartbeats 1000000
/-! NC5: defs and their calls (nothing is shown by repr around them), the end of a law. -/
namespace NC
open PySem PySem.Spec PyProof.Rows L2
open Evl (Ex)

/-- the def at f keeps sp where no repr is under way -/
structure FnG (P : Program) (w : World) (K : PySem.W.Frag) (mg : Str → Option Value) (base : Heap) (CX : CXT) (k : Nat) (f : Addr) (fd : FuncData) (ps : List Str) (sp : Sp) : Prop where
  many : ∀ vs H Q E, sp vs H Q E → vs.length = ps.length
  go : ∀ (A : Around) (outer : List Env) (s : Shared) (H : Hp) (args : Args) (us : List Value) (vs : List V) (Q : VK) (E : XK),
    Room k A → A.guards = some [] → Env0 P w K mg base A outer s H → BindsTo s fd args (ps.zip us) → Vals vs us → sp vs H Q E →
    codeAny (model P w) A (.call (.ref f) args) (CR CX outer P w H s Q E) s
section
variable {P : Program} {w : World} {K : PySem.W.Frag} {mg : Str → Option Value} {base : Heap} {CX : CXT} {k : Nat} {f : Addr} {fd : FuncData} {ps : List Str} {sp sp' : Sp}
theorem _root_.L2.FnOk.toG (F : FnOk P w K mg base CX k f fd ps sp) : FnG P w K mg base CX k f fd ps sp :=
  ⟨F.len, fun A outer s H args us vs Q E hr _ => F.run A outer s H args us vs Q E hr⟩
theorem FnG.up (F : FnG P w K mg base CX k f fd ps sp) {j : Nat} (h : k ≤ j) : FnG P w K mg base CX j f fd ps sp :=
  ⟨F.many, fun A outer s H args us vs Q E hr => F.go A outer s H args us vs Q E (hr.mono h)⟩
theorem FnG.imp (F : FnG P w K mg base CX k f fd ps sp) (i : ∀ vs H Q E, sp' vs H Q E → sp vs H Q E) : FnG P w K mg base CX k f fd ps sp' :=
  ⟨fun vs H Q E q => F.many vs H Q E (i vs H Q E q), fun A outer s H args us vs Q E hr g e b v q => F.go A outer s H args us vs Q E hr g e b v (i vs H Q E q)⟩

/-- a def by its body -/
theorem fnG_of {N : List Str} {x qual : Str} {st : Stmt} (F : Fun K x qual st f fd) (Sc : FnScope N ps (defScope st)) (hl : ∀ vs H Q E, sp vs H Q E → vs.length = ps.length)
    (body : ∀ (cdv : Value) (A : Around) (outer : List Env) (s : Shared) (H : Hp) (vs : List V) (Q : VK) (E : XK), Room k (A.deeper (envOfC qual (defScope st) s.heap.objs.size f cdv)) → A.guards = some [] → sp vs H Q E →
      ∃ t, PSs (cxOf CX P w K mg base N qual (defScope st) f cdv A outer s H E) (defBody st) t ∧ t { nx := fun _ H' => Q .non H', rt := Q } (L2.start N vs) H) :
    FnG P w K mg base CX (k + 1) f fd ps sp := by
  obtain ⟨oc, od, kV, doc, pm, an, cdv, ct, osl, rfl, lk, hcd⟩ := F.ex
  refine ⟨hl, ?_⟩
  intro A outer s H args us vs Q E room grd e0 bnd rel hsp
  have size := hl _ _ _ _ hsp
  have kin : K.In s.heap := e0.mod.kin.keeps fun b o z => (e0.bs b o z).1
  have lim := e0.mod.nolimit.keeps (h' := s.heap) fun b o z => (e0.bs b o z).1
  have kinds : ∀ y ∈ ps.zip us, (defScope st).names.lookup y.1 = some .local ∨
      ((defScope st).names.lookup y.1 = some .cell ∧ ((cellsFrom (s.heap.objs.size + 1) (defScope st).names []).lookup y.1).isSome = true) := by
    rintro ⟨n, v⟩ hy
    cases Sc.par n (List.of_mem_zip hy).1 with
    | inl q => exact .inl q
    | inr q => exact .inr ⟨q, PySem.W.cellsFrom_some _ _ _ (.inl q)⟩
  apply codeAny_call_function room.depth (kin _ _ lk) rfl Sc.co Sc.gen rfl (PySem.W.codeRec_of kin hcd)
  apply bnd
  refine wpAny_newFunctionEnv_cells Sc.kind kinds ?_
  rintro env rfl s1 x
  refine ⟨lim.keeps x.toInCall.keep, codeAny_func ?_⟩
  obtain ⟨t, ht, hq⟩ := body cdv A outer s H vs Q E (room.deeper _) grd hsp
  have I := inv_start (CX := CX) (E := E) (f := f) (cd := cdv) (qual := qual) Sc room.hd e0 size rel x
  refine wpAny_mono (ht.run [] s1 (L2.start N vs) H _ I hq) ?_ fun e s' z => z
  rintro fl s' hs
  cases fl with
  | ret u =>
    obtain ⟨v, σ', H', J, rv, q⟩ := hs
    exact ⟨v, H', J.os, J.bare, J.base, J.hok, rv, q⟩
  | next =>
    obtain ⟨σ', H', J, q⟩ := hs
    exact ⟨.non, H', J.os, J.bare, J.base, J.hok, rfl, q⟩
  | brk => exact (hs.choose_spec.choose_spec.2).elim
  | cont => exact (hs.choose_spec.choose_spec.2).elim
end

/-! ### a def's promise over data -/
def lsp (K : PySem.W.Frag) (r : RDs) : Sp := fun vs H Q _ => ls K r vs H Q
/-- the values at the entry -/
def startD (n : Nat) (xs : List D) : Rho := xs.map some ++ List.replicate (n - xs.length) none
theorem start_rel {K : PySem.W.Frag} {Y β : List Addr} {S : Store} {H : Hp} {N : List Str} {vs : List V} {xs : List D} (o : Ok K Y β S H) (r : Reps K (hid Y β S H) β vs xs) : Rel K Y β S (startD N.length xs) (L2.start N vs) H := by
  refine ⟨o, ?_, fun i d e => ?_⟩
  · unfold startD L2.start
    rw [List.length_append, List.length_append, List.length_map, List.length_map, List.length_replicate, List.length_replicate, r.len]
  · unfold startD at e
    by_cases hi : i < xs.length
    · rw [List.getElem?_append_left (by simpa using hi), List.getElem?_map] at e
      obtain ⟨d', e1, e2⟩ := Option.map_eq_some_iff.mp e
      cases e2
      obtain ⟨v, e3, q⟩ := r.get e1
      refine ⟨v, ?_, q⟩
      unfold L2.start
      rw [List.getElem?_append_left (by rw [List.length_map, r.len]; exact hi), List.getElem?_map, e3]
      rfl
    · rw [List.getElem?_append_right (by simpa using hi), List.getElem?_replicate] at e
      split at e <;> cases e
section
variable {P : Program} {w : World} {K : PySem.W.Frag} {mg : Str → Option Value} {base : Heap} {k : Nat} {f : Addr} {fd : FuncData} {ps N : List Str} {r : RDs} {x qual : Str} {st : Stmt} {tb : TSd}
/-- what a body comes to, called with xs -/
def runD (n : Nat) (tb : TSd) : RDs := fun xs S Q => tb { nx := fun _ S' => Q .non S', rt := Q } (startD n xs) S
theorem def_ok (F : Fun K x qual st f fd) (Sc : FnScope N ps (defScope st)) (hl : ∀ xs S Q, r xs S Q → xs.length = ps.length)
    (hb : ∀ (cdv : Value) (A : Around) (outer : List Env) (s : Shared) (H : Hp) (E : XK), Room k (A.deeper (envOfC qual (defScope st) s.heap.objs.size f cdv)) → A.guards = some [] →
      PSs (cxOf CX0 P w K mg base N qual (defScope st) f cdv A outer s H E).nox (defBody st) (tS K tb))
    (hr : ∀ xs S Q, r xs S Q → runD N.length tb xs S Q) : FnG P w K mg base CX0 (k + 1) f fd ps (lsp K r) := by
  refine fnG_of F Sc (fun vs H Q E h => ?_) fun cdv A outer s H vs Q E room grd h => ⟨tS K tb, (hb cdv A outer s H E room grd).nox, ?_⟩
  · obtain ⟨Y, β, S, xs, Q', o, rr, q, _⟩ := h
    rw [rr.len]
    exact hl _ _ _ q
  · obtain ⟨Y, β, S, xs, Q', o, rr, q, kk⟩ := h
    exact ⟨Y, β, S, _, _, start_rel o rr, hr xs S Q' q, ⟨fun ρ' S' σ' β' H' s' r' q' => kk .non S' .non β' H' s' .non q', fun d S' v β' H' s' r' q' => kk d S' v β' H' s' r' q', fun _ _ _ _ _ _ _ z => z.elim, fun _ _ _ _ _ _ _ z => z.elim⟩⟩
end

theorem _root_.L2.PK.imp' {X : Cx} {kws : List Keyword} {t t' : TA} (h : PK X kws t) (i : ∀ σ H Q, t' σ H Q → t σ H Q) : PK X kws t' := ⟨fun pos pins s σ H Q I q => h.run pos pins s σ H Q I (i σ H Q q)⟩
theorem dk_cons {X : Cx} {e : Expr} {kws : List Keyword} {nm : Option Str} {kpos : Pos} {ta : TD} {tl : TLs} (ha : PE X e (tE X.K ta)) (hr : PK X kws (tA X.K tl)) : PK X (⟨nm, e, kpos⟩ :: kws) (tA X.K (aCons ta tl)) :=
  (pk_cons ha hr).imp' fun σ H Q ⟨Y, β, S, ρ, Q', rl, q, k⟩ => ⟨Y, β, S, ρ, _, rl, q, fun x S1 v β1 H1 s1 r1 q1 =>
    ⟨Y, β1, S1, ρ, _, rl.step s1, q1, fun xs S2 vs β2 H2 s2 r2 q2 => k (x :: xs) S2 (v :: vs) β2 H2 (s1.trans s2) (.cons (s2.rep r1) r2) q2⟩⟩
/-! ### calls -/
section
variable {X : Cx} {CX : CXT} {k : Nat} {f : Addr} {fd : FuncData} {ps : List Str} {sp : Sp} {dvs : List V} {ds : List Value} {E : XK} {x : Str} {p pos : Pos} {e : Expr} {es : List Expr} {t tk : TA} {kws : List Keyword} {ks : List Str}
theorem runG {pins : List (Addr × Obj)} {σ : L2.St} {H : Hp} {s : Shared} {Q : VK} {us : List Value} {vs : List V} {kw : List (Str × Value)} {as : List Value} (F : FnG X.prog X.w X.K X.mg X.base CX k f fd ps sp) (hr : Room k X.A) (hg : X.A.guards = some [])
    (hb : BindsTo s fd ⟨us, kw⟩ (ps.zip as)) (hx : Passes CX X E) (I : Inv X pins σ H s) (r : Vals vs as) (h : sp vs H Q E) : wpAny (model X.prog X.w) X.A (call (.ref f) us kw) (EP X pins σ Q) X.xe s := by
  apply wpAny_call
  refine codeAny_mono (F.go X.A X.stack s H ⟨us, kw⟩ as vs Q E hr hg I.env0 hb r h) ?_
  rintro (err | fl) s' hq
  · exact hx pins σ H s err s' I hq
  · cases fl with
    | ret u => exact I.after hq
    | next => exact hq.elim
    | brk => exact hq.elim
    | cont => exact hq.elim
def tCallG (sp : Sp) (dvs : List V) (E : XK) (t : TA) : TE := fun σ H Q => t σ H fun vs H1 => sp (vs ++ dvs) H1 Q E
theorem pe_callG (F : FnG X.prog X.w X.K X.mg X.base CX k f fd ps sp) (hr : Room k X.A) (hgd : X.A.guards = some []) (hg : Gl X x) (hm : X.mg x = some (.ref f)) (hk : PySem.W.keepIn X.K (.ref f) = true) (hb : Binds X.K fd ps ds) (hd : Vals dvs ds) (hx : Passes CX X E)
    (ha : PA X (e :: es) t) (hdb : (x == ("__debug__" : Str)) = false := by decide) (he : starEach (e :: es) X.env = (false, eval e X.env) :: starEach es X.env := by rfl) (hpl : (backTo pos (starEach es X.env)).any (·.1) = false := by rfl) :
    PE X (.Call (.Name x p) (e :: es) [] pos) (tCallG sp dvs E t) := by
  constructor
  intro pins s σ H Q I h
  apply wpAny_Call_Name_kw
  refine ld_glob I hg hm ?_ hdb
  apply PySem.W.callWith_K (h₀ := X.base) I.ok.mod.kin hk _ he hpl
  refine thn (ha.run pos pins s σ H _ I h) ?_
  rintro us s1 ⟨vs, H1, I1, r, q⟩
  have r2 := r.append hd
  exact ⟨I1.kIn, runG F hr hgd (hb s1 us I1.kIn (by rw [← r2.length]; exact F.many _ _ _ _ q)) hx I1 r2 q⟩
theorem pe_callG0 (F : FnG X.prog X.w X.K X.mg X.base CX k f fd ps sp) (hr : Room k X.A) (hgd : X.A.guards = some []) (hg : Gl X x) (hm : X.mg x = some (.ref f)) (hk : PySem.W.keepIn X.K (.ref f) = true) (hb : Binds X.K fd ps ds) (hd : Vals dvs ds) (hx : Passes CX X E)
    (hdb : (x == ("__debug__" : Str)) = false := by decide) : PE X (.Call (.Name x p) [] [] pos) (tCallG sp dvs E tNil) := by
  constructor
  intro pins s σ H Q I h
  apply wpAny_Call_Name_kw
  refine ld_glob I hg hm ?_ hdb
  apply PySem.W.callWith_K0 I.kIn hk
  have r2 : Vals ([] ++ dvs) ([] ++ ds) := Vals.append .nil hd
  exact runG F hr hgd (hb s [] I.kIn (by rw [← r2.length]; exact F.many _ _ _ _ h)) hx I r2 h
def tCallGK (sp : Sp) (gV : List V → List V → List V) (E : XK) (t tk : TA) : TE := fun σ H Q => t σ H fun vs H1 => tk σ H1 fun zs H2 => sp (gV vs zs) H2 Q E
theorem pe_callGK {g : List Value → List Value → List Value} {gV : List V → List V → List V} (F : FnG X.prog X.w X.K X.mg X.base CX k f fd ps sp) (hr : Room k X.A) (hgd : X.A.guards = some []) (hg : Gl X x) (hm : X.mg x = some (.ref f)) (hk : PySem.W.keepIn X.K (.ref f) = true)
    (hb : KBinds X.K fd ps ks g gV) (hx : Passes CX X E) (ha : PA X (e :: es) t) (hkw : PK X kws tk) (hall : (backToKw pos (keywordEach kws X.env)).all (·.1.isSome) = true := by rfl)
    (hks : (backToKw pos (keywordEach kws X.env)).filterMap (·.1) = ks := by rfl) (hdb : (x == ("__debug__" : Str)) = false := by decide) (he : starEach (e :: es) X.env = (false, eval e X.env) :: starEach es X.env := by rfl)
    (hpl : ((backTo pos (starEach (e :: es) X.env)).any (·.1) || (backToKw pos (keywordEach kws X.env)).any (·.1.isNone)) = false := by rfl) : PE X (.Call (.Name x p) (e :: es) kws pos) (tCallGK sp gV E t tk) := by
  constructor
  intro pins s σ H Q I h
  apply wpAny_Call_Name_kw
  refine ld_glob I hg hm ?_ hdb
  refine PySem.W.callWith_KW (h₀ := X.base) I.ok.mod.kin hk hall ?_ hpl he
  refine thn (ha.run pos pins s σ H _ I h) ?_
  rintro us s1 ⟨vs, H1, I1, r, q⟩
  refine thn (hkw.run pos pins s1 σ H1 _ I1 q) ?_
  rintro ws s2 ⟨zs, H2, I2, rz, q2⟩
  refine ⟨I2.kIn, ?_⟩
  rw [hks]
  have r2 := hb.rel r rz
  exact runG F hr hgd (hb.to s2 us ws I2.kIn (by rw [← r2.length]; exact F.many _ _ _ _ q2)) hx I2 r2 q2
/-- keywords too: n values by place, then those named ks; perm: for each parameter its place among all of them -/
def pick {α : Type} (perm : List Nat) (xs : List α) (z : α) : List α := perm.map fun i => xs.getD i z
structure KwB (K : PySem.W.Frag) (fd : FuncData) (ps : List Str) (n : Nat) (ks : List Str) (perm : List Nat) : Prop where
  to : ∀ (s : Shared) (us ws : List Value), K.In s.heap → us.length = n → ws.length = ks.length → BindsTo s fd ⟨us, ks.zip ws⟩ (ps.zip (pick perm (us ++ ws) .none))
def tCallKw (sp : Sp) (n m : Nat) (perm : List Nat) (E : XK) (t tk : TA) : TE := fun σ H Q => t σ H fun vs H1 => tk σ H1 fun zs H2 => vs.length = n ∧ zs.length = m ∧ sp (pick perm (vs ++ zs) .non) H2 Q E
theorem Vals.pick {vs : List V} {us : List Value} (r : Vals vs us) (perm : List Nat) : Vals (pick perm vs .non) (pick perm us .none) := by
  unfold NC.pick
  induction perm with
  | nil => exact .nil
  | cons i l ih =>
    refine .cons ?_ ih
    by_cases h : i < vs.length
    · have h' : i < us.length := by rw [← r.length]; exact h
      obtain ⟨u, e, q⟩ := r.get (List.getElem?_eq_getElem h)
      rw [List.getElem?_eq_getElem h'] at e
      cases e
      simpa [List.getD_eq_getElem?_getD, h, h'] using q
    · have h' : ¬ i < us.length := by rw [← r.length]; exact h
      have e1 : vs.getD i .non = .non := by simp [List.getD_eq_getElem?_getD, List.getElem?_eq_none (Nat.le_of_not_lt h)]
      have e2 : us.getD i .none = .none := by simp [List.getD_eq_getElem?_getD, List.getElem?_eq_none (Nat.le_of_not_lt h')]
      show RelV (vs.getD i .non) (us.getD i .none)
      rw [e1, e2]
      rfl
variable {n : Nat} {perm : List Nat}
theorem pe_callKw (F : FnG X.prog X.w X.K X.mg X.base CX k f fd ps sp) (hr : Room k X.A) (hgd : X.A.guards = some []) (hg : Gl X x) (hm : X.mg x = some (.ref f)) (hk : PySem.W.keepIn X.K (.ref f) = true)
    (hb : KwB X.K fd ps n ks perm) (hx : Passes CX X E) (ha : PA X (e :: es) t) (hkw : PK X kws tk) (hall : (backToKw pos (keywordEach kws X.env)).all (·.1.isSome) = true := by rfl)
    (hks : (backToKw pos (keywordEach kws X.env)).filterMap (·.1) = ks := by rfl) (hdb : (x == ("__debug__" : Str)) = false := by decide) (he : starEach (e :: es) X.env = (false, eval e X.env) :: starEach es X.env := by rfl)
    (hpl : ((backTo pos (starEach (e :: es) X.env)).any (·.1) || (backToKw pos (keywordEach kws X.env)).any (·.1.isNone)) = false := by rfl) : PE X (.Call (.Name x p) (e :: es) kws pos) (tCallKw sp n ks.length perm E t tk) := by
  constructor
  intro pins s σ H Q I h
  apply wpAny_Call_Name_kw
  refine ld_glob I hg hm ?_ hdb
  refine PySem.W.callWith_KW (h₀ := X.base) I.ok.mod.kin hk hall ?_ hpl he
  refine thn (ha.run pos pins s σ H _ I h) ?_
  rintro us s1 ⟨vs, H1, I1, r, q⟩
  refine thn (hkw.run pos pins s1 σ H1 _ I1 q) ?_
  rintro ws s2 ⟨zs, H2, I2, rz, l1, l2, q2⟩
  refine ⟨I2.kIn, ?_⟩
  rw [hks]
  have r2 : Vals (vs ++ zs) (us ++ ws) := r.append rz
  exact runG F hr hgd (hb.to s2 us ws I2.kIn (by rw [← r.length]; exact l1) (by rw [← rz.length]; exact l2)) hx I2 (Vals.pick r2 perm) q2
theorem pe_callKw0 (F : FnG X.prog X.w X.K X.mg X.base CX k f fd ps sp) (hr : Room k X.A) (hgd : X.A.guards = some []) (hg : Gl X x) (hm : X.mg x = some (.ref f)) (hk : PySem.W.keepIn X.K (.ref f) = true)
    (hb : KwB X.K fd ps 0 ks perm) (hx : Passes CX X E) (hkw : PK X kws tk) (hall : (backToKw pos (keywordEach kws X.env)).all (·.1.isSome) = true := by rfl)
    (hks : (backToKw pos (keywordEach kws X.env)).filterMap (·.1) = ks := by rfl) (hdb : (x == ("__debug__" : Str)) = false := by decide)
    (hpl : ((backTo pos (starEach [] X.env)).any (·.1) || (backToKw pos (keywordEach kws X.env)).any (·.1.isNone)) = false := by rfl) : PE X (.Call (.Name x p) [] kws pos) (tCallKw sp 0 ks.length perm E tNil tk) := by
  constructor
  intro pins s σ H Q I h
  apply wpAny_Call_Name_kw
  refine ld_glob I hg hm ?_ hdb
  refine PySem.W.callWith_KW0 (h₀ := X.base) I.ok.mod.kin hk hall ?_ hpl
  refine thn (hkw.run pos pins s σ H _ I h) ?_
  rintro ws s2 ⟨zs, H2, I2, rz, l1, l2, q2⟩
  refine ⟨I2.kIn, ?_⟩
  rw [hks]
  exact runG F hr hgd (hb.to s2 [] ws I2.kIn rfl (by rw [← rz.length]; exact l2)) hx I2 (Vals.pick (vs := [] ++ zs) (us := [] ++ ws) rz perm) q2

/-! ### over data -/
variable {r : RDs} {tl tk' : TLs}
def eCall (r : RDs) (tl : TLs) : TD := fun ρ S Q => tl ρ S fun xs S1 => r xs S1 Q
theorem de_call (F : FnG X.prog X.w X.K X.mg X.base CX0 k f fd ps (lsp X.K r)) (hr : Room k X.A) (hgd : X.A.guards = some []) (hg : Gl X x) (hm : X.mg x = some (.ref f)) (hk : PySem.W.keepIn X.K (.ref f) = true) (hb : Binds X.K fd ps [])
    (ha : PA X (e :: es) (tA X.K tl)) (hdb : (x == ("__debug__" : Str)) = false := by decide) (he : starEach (e :: es) X.env = (false, eval e X.env) :: starEach es X.env := by rfl) (hpl : (backTo pos (starEach es X.env)).any (·.1) = false := by rfl) :
    PE X (.Call (.Name x p) (e :: es) [] pos) (tE X.K (eCall r tl)) :=
  (pe_callG F hr hgd hg hm hk hb .nil pass0 ha hdb he hpl).imp fun σ H Q ⟨Y, β, S, ρ, Q', rl, q, kk⟩ => ⟨Y, β, S, ρ, _, rl, q, fun xs S1 vs β1 H1 s1 r1 q1 => by
    show lsp X.K r (vs ++ []) H1 Q E0
    rw [List.append_nil]
    exact ⟨Y, β1, S1, xs, Q', s1.ok, r1, q1, fun z S3 w β3 H3 s3 r3 q3 => kk z S3 w β3 H3 (s1.trans s3) r3 q3⟩⟩
theorem de_call0 (F : FnG X.prog X.w X.K X.mg X.base CX0 k f fd ps (lsp X.K r)) (hr : Room k X.A) (hgd : X.A.guards = some []) (hg : Gl X x) (hm : X.mg x = some (.ref f)) (hk : PySem.W.keepIn X.K (.ref f) = true) (hb : Binds X.K fd ps [])
    (hdb : (x == ("__debug__" : Str)) = false := by decide) : PE X (.Call (.Name x p) [] [] pos) (tE X.K (eCall r aNil)) :=
  (pe_callG0 F hr hgd hg hm hk hb .nil pass0 hdb).imp fun σ H Q ⟨Y, β, S, ρ, Q', rl, q, kk⟩ => ⟨Y, β, S, [], Q', rl.ok, .nil, q, kk⟩
def eCallKw (r : RDs) (n m : Nat) (perm : List Nat) (tl tk' : TLs) : TD := fun ρ S Q => tl ρ S fun xs S1 => tk' ρ S1 fun ys S2 => xs.length = n ∧ ys.length = m ∧ r (pick perm (xs ++ ys) .non) S2 Q
theorem Reps.pick {K : PySem.W.Frag} {B : Hp} {β : List Addr} {vs : List V} {us : List D} (r : Reps K B β vs us) (perm : List Nat) : Reps K B β (pick perm vs .non) (pick perm us .non) := by
  unfold NC.pick
  induction perm with
  | nil => exact .nil
  | cons i l ih =>
    refine .cons ?_ ih
    by_cases h : i < us.length
    · have h' : i < vs.length := by rw [r.len]; exact h
      obtain ⟨u, e, q⟩ := r.get (List.getElem?_eq_getElem h)
      rw [List.getElem?_eq_getElem h'] at e
      cases e
      simpa [List.getD_eq_getElem?_getD, h, h'] using q
    · have h' : ¬ i < vs.length := by rw [r.len]; exact h
      have e1 : vs.getD i .non = .non := by simp [List.getD_eq_getElem?_getD, List.getElem?_eq_none (Nat.le_of_not_lt h')]
      have e2 : us.getD i .non = .non := by simp [List.getD_eq_getElem?_getD, List.getElem?_eq_none (Nat.le_of_not_lt h)]
      show Rep K B β (vs.getD i .non) (us.getD i .non)
      rw [e1, e2]
      exact .non
theorem de_callKw (F : FnG X.prog X.w X.K X.mg X.base CX0 k f fd ps (lsp X.K r)) (hr : Room k X.A) (hgd : X.A.guards = some []) (hg : Gl X x) (hm : X.mg x = some (.ref f)) (hk : PySem.W.keepIn X.K (.ref f) = true)
    (hb : KwB X.K fd ps n ks perm) (ha : PA X (e :: es) (tA X.K tl)) (hkw : PK X kws (tA X.K tk')) (hall : (backToKw pos (keywordEach kws X.env)).all (·.1.isSome) = true := by rfl)
    (hks : (backToKw pos (keywordEach kws X.env)).filterMap (·.1) = ks := by rfl) (hdb : (x == ("__debug__" : Str)) = false := by decide) (he : starEach (e :: es) X.env = (false, eval e X.env) :: starEach es X.env := by rfl)
    (hpl : ((backTo pos (starEach (e :: es) X.env)).any (·.1) || (backToKw pos (keywordEach kws X.env)).any (·.1.isNone)) = false := by rfl) : PE X (.Call (.Name x p) (e :: es) kws pos) (tE X.K (eCallKw r n ks.length perm tl tk')) :=
  (pe_callKw F hr hgd hg hm hk hb pass0 ha hkw hall hks hdb he hpl).imp fun σ H Q ⟨Y, β, S, ρ, Q', rl, q, kk⟩ => ⟨Y, β, S, ρ, _, rl, q, fun xs S1 vs β1 H1 s1 r1 q1 =>
    ⟨Y, β1, S1, ρ, _, rl.step s1, q1, fun ys S2 us β2 H2 s2 r2 ⟨l1, l2, q2⟩ => ⟨by rw [r1.len]; exact l1, by rw [r2.len]; exact l2,
      Y, β2, S2, _, Q', s2.ok, Reps.pick ((s2.reps r1).append r2) perm, q2, fun z S3 w β3 H3 s3 r3 q3 => kk z S3 w β3 H3 ((s1.trans s2).trans s3) r3 q3⟩⟩⟩
theorem de_callKw0 (F : FnG X.prog X.w X.K X.mg X.base CX0 k f fd ps (lsp X.K r)) (hr : Room k X.A) (hgd : X.A.guards = some []) (hg : Gl X x) (hm : X.mg x = some (.ref f)) (hk : PySem.W.keepIn X.K (.ref f) = true)
    (hb : KwB X.K fd ps 0 ks perm) (hkw : PK X kws (tA X.K tk')) (hall : (backToKw pos (keywordEach kws X.env)).all (·.1.isSome) = true := by rfl)
    (hks : (backToKw pos (keywordEach kws X.env)).filterMap (·.1) = ks := by rfl) (hdb : (x == ("__debug__" : Str)) = false := by decide)
    (hpl : ((backTo pos (starEach [] X.env)).any (·.1) || (backToKw pos (keywordEach kws X.env)).any (·.1.isNone)) = false := by rfl) : PE X (.Call (.Name x p) [] kws pos) (tE X.K (eCallKw r 0 ks.length perm aNil tk')) :=
  (pe_callKw0 F hr hgd hg hm hk hb pass0 hkw hall hks hdb hpl).imp fun σ H Q ⟨Y, β, S, ρ, Q', rl, q, kk⟩ => ⟨Y, β, S, ρ, _, rl, q, fun ys S2 us β2 H2 s2 r2 ⟨l1, l2, q2⟩ => ⟨rfl, by rw [r2.len]; exact l2,
      Y, β2, S2, _, Q', s2.ok, Reps.pick (vs := [] ++ us) (us := [] ++ ys) r2 perm, q2, fun z S3 w β3 H3 s3 r3 q3 => kk z S3 w β3 H3 (s2.trans s3) r3 q3⟩⟩
theorem dk_nil : PK X [] (tA X.K aNil) := pk_nil.imp' fun σ H Q ⟨Y, β, S, ρ, Q', rl, q, k⟩ => k [] S [] β H (.refl rl.ok) .nil q
end
end NC

set_option Elab.async false
set_option linter.all false
set_option maxRecDepth 100000
set_option maxHeartbeats 1000000
/-! NC6: the operators over data. -/
namespace NC
open PySem PySem.Spec PyProof.Rows L2
open Evl (Ex)

theorem ok_lst {K : PySem.W.Frag} {Y β : List Addr} {S : Store} {H : Hp} (o : Ok K Y β S H) {v : V} {d : D} {xs : List D} (r : Rep K (hid Y β S H) β v d) (h : drf S d = .lst xs) :
    ∃ a vs, v = .ref a ∧ H a = some (.lst vs) ∧ Reps K (hid Y β S H) β vs xs := by
  cases d with
  | ref n =>
    have hs := drf_back h
    obtain ⟨a, e1, vs, h1, h2⟩ := o.obj n _ hs
    cases r with
    | ref e2 =>
      rw [e1] at e2
      cases e2
      exact ⟨a, vs, rfl, h1, h2⟩
  | lst ys =>
    have e : ys = xs := by
      have h' : D.lst ys = D.lst xs := h
      cases h'
      rfl
    subst e
    cases r with
    | lst h1 h2 => exact ⟨_, _, rfl, hid_ex _ _ h1, h2⟩
  | _ => simp [NC.drf] at h
theorem ok_tup {K : PySem.W.Frag} {Y β : List Addr} {S : Store} {H : Hp} (o : Ok K Y β S H) {v : V} {d : D} {xs : List D} (r : Rep K (hid Y β S H) β v d) (h : drf S d = .tup xs) :
    ∃ a vs, v = .ref a ∧ SqT K (hid Y β S H) a vs ∧ Reps K (hid Y β S H) β vs xs := by
  cases d with
  | ref n =>
    simp only [NC.drf] at h
    split at h <;> cases h
  | tup ys =>
    have e : ys = xs := by
      have h' : D.tup ys = D.tup xs := h
      cases h'
      rfl
    subst e
    cases r with
    | tup h1 h2 => exact ⟨_, _, rfl, h1, h2⟩
  | _ => simp [NC.drf] at h
/-- any sequence: where it stands, its items by the unchanging part -/
theorem ok_seq {K : PySem.W.Frag} {Y β : List Addr} {S : Store} {H : Hp} (o : Ok K Y β S H) {v : V} {d : D} {xs : List D} (r : Rep K (hid Y β S H) β v d) (h : seqOf (drf S d) = some xs) :
    ∃ a vs, v = .ref a ∧ (SqL K H a vs ∨ SqT K H a vs) ∧ Reps K (hid Y β S H) β vs xs := by
  cases hd : drf S d with
  | lst ys =>
    rw [hd] at h
    cases h
    obtain ⟨a, vs, e, h1, h2⟩ := ok_lst o r hd
    exact ⟨a, vs, e, .inl (.inl (.inl h1)), h2⟩
  | tup ys =>
    rw [hd] at h
    cases h
    obtain ⟨a, vs, e, h1, h2⟩ := ok_tup o r hd
    exact ⟨a, vs, e, .inr (Evl.ex_t hid_ex h1), h2⟩
  | ro ys =>
    rw [hd] at h
    cases h
    cases d with
    | ref n =>
      simp only [NC.drf] at hd
      split at hd <;> cases hd
    | ro zs =>
      have h' : zs = xs := by
        have h'' : D.ro zs = D.ro xs := hd
        cases h''
        rfl
      subst h'
      cases r with
      | ro h1 h2 => exact ⟨_, _, rfl, .inl (Evl.ex_l hid_ex h1), h2⟩
    | _ => simp [NC.drf] at hd
  | _ => rw [hd] at h; cases h

/-! ### data as the library's trees -/
def keyP : Key → PyData
  | .inl i => .int i
  | .inr x => .str x
mutual
def pd : D → PyData
  | .non => .none
  | .bl b => .bool b
  | .int i => .int i
  | .str x => .str x
  | .lst xs => .list (pds xs)
  | .tup xs => .tuple (pds xs)
  | .ro xs => .list (pds xs)
  | .dic kvs => .dict (pdk kvs)
  | .dit kvs => .dict (pdt kvs)
  | .ref _ => .none
def pds : List D → List PyData
  | [] => []
  | d :: ds => pd d :: pds ds
def pdk : List (Key × D) → List (PyData × PyData)
  | [] => []
  | (k, d) :: ds => (keyP k, pd d) :: pdk ds
def pdt : List (List Key × D) → List (PyData × PyData)
  | [] => []
  | (k, d) :: ds => (.tuple (k.map keyP), pd d) :: pdt ds
end
theorem pds_map : ∀ ds : List D, pds ds = ds.map pd
  | [] => rfl
  | d :: ds => by unfold pds; rw [pds_map ds]; rfl
/- plain data: nothing, truths, ints, texts, lists and tuples of them, at most n deep -/
mutual
def fl : Nat → D → Bool
  | _, .non => true
  | _, .bl _ => true
  | _, .int _ => true
  | _, .str x => PyData.strOk x
  | n + 1, .lst xs => fls n xs
  | n + 1, .tup xs => fls n xs
  | _, _ => false
def fls : Nat → List D → Bool
  | _, [] => true
  | n, d :: ds => fl n d && fls n ds
end
theorem fls_all : ∀ {n : Nat} {ds : List D}, fls n ds = true ↔ ∀ d ∈ ds, fl n d = true
  | n, [] => by simp [fls]
  | n, d :: ds => by simp [fls, fls_all (n := n) (ds := ds)]
section
variable {K : PySem.W.Frag} {H : Hp} {β : List Addr}
mutual
theorem fl_dp : ∀ {n : Nat} {d : D} {v : V}, fl n d = true → Rep K H β v d → Dp K H v (pd d) ∧ (pd d).canLay0 = true ∧ (pd d).depth ≤ n
  | n, .non, _, h, r => by cases r; exact ⟨.non, rfl, Nat.zero_le _⟩
  | n, .bl b, _, h, r => by cases r; exact ⟨.bl b, rfl, Nat.zero_le _⟩
  | n, .int i, _, h, r => by cases r; exact ⟨.int i, rfl, Nat.zero_le _⟩
  | n, .str x, _, h, r => by cases r; exact ⟨.str x, by simpa [fl, pd, PyData.canLay0] using h, Nat.zero_le _⟩
  | 0, .lst xs, _, h, r => by simp [fl] at h
  | 0, .tup xs, _, h, r => by simp [fl] at h
  | n + 1, .lst xs, _, h, r => by
    cases r with
    | lst h1 h2 =>
      obtain ⟨a, b, c⟩ := fls_dp (n := n) (by simpa [fl] using h) h2
      exact ⟨.lst (.inl (.inl h1)) a, by simpa [pd, PyData.canLay0] using b, by simp only [pd, PyData.depth]; omega⟩
  | n + 1, .tup xs, _, h, r => by
    cases r with
    | tup h1 h2 =>
      obtain ⟨a, b, c⟩ := fls_dp (n := n) (by simpa [fl] using h) h2
      exact ⟨.tup h1 a, by simpa [pd, PyData.canLay0] using b, by simp only [pd, PyData.depth]; omega⟩
  | n, .ro xs, _, h, r => by cases n <;> simp [fl] at h
  | n, .dic xs, _, h, r => by cases n <;> simp [fl] at h
  | n, .dit xs, _, h, r => by cases n <;> simp [fl] at h
  | n, .ref m, _, h, r => by cases n <;> simp [fl] at h
theorem fls_dp : ∀ {n : Nat} {ds : List D} {vs : List V}, fls n ds = true → Reps K H β vs ds → DpAll K H vs (pds ds) ∧ PyData.canLayAll0 (pds ds) = true ∧ PyData.depthAll (pds ds) ≤ n
  | n, [], _, h, r => by cases r; exact ⟨.nil, rfl, Nat.zero_le _⟩
  | n, d :: ds, _, h, r => by
    cases r with
    | cons r1 r2 =>
      have h' : fl n d = true ∧ fls n ds = true := by simpa [fls] using h
      obtain ⟨a, b, c⟩ := fl_dp h'.1 r1
      obtain ⟨a', b', c'⟩ := fls_dp h'.2 r2
      exact ⟨.cons a a', by simp [pds, PyData.canLayAll0, b, b'], by simp only [pds, PyData.depthAll]; omega⟩
end
end
theorem shaped_fl {K : PySem.W.Frag} {H : Hp} {β : List Addr} {d : D} {v : V} (h : fl 60 d = true) (r : Rep K H β v d) : SeqAt.shaped (pd d) = true := by
  obtain ⟨_, b, c⟩ := fl_dp h r
  unfold SeqAt.shaped
  rw [b]
  simp
  omega
/-- == of plain data -/
def eqd (x y : D) : Bool := PyData.eqv (pd x) (pd y)
def eqds (xs ys : List D) : Bool := PyData.eqvAll (pds xs) (pds ys)
/-- the answers of == -/
inductive EqR : D → D → Bool → Prop
  | data {x y : D} : fl 60 x = true → fl 60 y = true → EqR x y (eqd x y)
  | len {xs ys : List D} : xs.length ≠ ys.length → EqR (.lst xs) (.lst ys) false
def rEqD2 : RD2 := fun x y S Q => ∃ b, EqR (drf S x) (drf S y) b ∧ Q (.bl b) S
def rNeD2 : RD2 := fun x y S Q => ∃ b, EqR (drf S x) (drf S y) b ∧ Q (.bl (!b)) S
section
variable {X : Cx}
theorem lists_of {pins : List (Addr × Obj)} {σ : L2.St} {H : Hp} {s : Shared} {a : Addr} {xs : List V} (I : L2.Inv X pins σ H s) (h : H a = some (.lst xs)) : ∃ its : Array Value, s.heap.IsList a its ∧ its.size = xs.length := by
  obtain ⟨its, r, pl, _⟩ := I.list (.inl (.inl h))
  exact ⟨_, pl.isList, by simpa using r.length.symm⟩
theorem op_eq' (hu : X.A.units + 64 < cLine) : OpR X (compareOp .Eq) (l2 X.K rEqD2) := by
  intro pins s σ H x y v u Q I rx ry ⟨Y, β, S, dx, dy, Q', o, r1, r2, ⟨b, h, q⟩, k⟩
  have e1 := o.drf r1
  have e2 := o.drf r2
  have fin := k _ S _ β H (.refl o) (.bl b) q
  generalize drf S dx = x' at h e1
  generalize drf S dy = y' at h e2
  cases h with
  | data f1 f2 => exact op_eqD hu pins s σ H x y v u Q I rx ry ⟨_, _, (fl_dp f1 e1).1, (fl_dp f2 e2).1, shaped_fl f1 e1, shaped_fl f2 e2, fin⟩
  | len hl =>
    cases e1 with
    | lst h1 h1' =>
      cases e2 with
      | lst h2 h2' =>
        cases rx
        cases ry
        obtain ⟨i1, l1, n1⟩ := lists_of I h1
        obtain ⟨i2, l2, n2⟩ := lists_of I h2
        exact SeqAt.eq_list_lengthsAt l1 l2 (by rw [n1, n2, h1'.len, h2'.len]; simpa using hl) (by omega) ⟨.bl false, H, I, rfl, fin⟩
theorem op_ne' (hu : X.A.units + 64 < cLine) : OpR X (compareOp .NotEq) (l2 X.K rNeD2) := by
  intro pins s σ H x y v u Q I rx ry ⟨Y, β, S, dx, dy, Q', o, r1, r2, ⟨b, h, q⟩, k⟩
  have e1 := o.drf r1
  have e2 := o.drf r2
  have fin := k _ S _ β H (.refl o) (.bl (!b)) q
  generalize drf S dx = x' at h e1
  generalize drf S dy = y' at h e2
  cases h with
  | data f1 f2 => exact op_neD hu pins s σ H x y v u Q I rx ry ⟨_, _, (fl_dp f1 e1).1, (fl_dp f2 e2).1, shaped_fl f1 e1, shaped_fl f2 e2, fin⟩
  | len hl =>
    cases e1 with
    | lst h1 h1' =>
      cases e2 with
      | lst h2 h2' =>
        cases rx
        cases ry
        obtain ⟨i1, l1, n1⟩ := lists_of I h1
        obtain ⟨i2, l2, n2⟩ := lists_of I h2
        refine SeqAt.RcNeAt.lists_lengths l1 l2 (by rw [n1, n2, h1'.len, h2'.len]; simpa using hl) (by omega) _ _ _ _ ⟨.bl true, H, I, rfl, fin⟩
/-! in, not in -/
def itemsD : D → Option (List D)
  | .lst xs => some xs
  | .tup xs => some xs
  | _ => none
def rInD2 : RD2 := fun x y S Q => ∃ ys, itemsD (drf S y) = some ys ∧ fl 60 (drf S x) = true ∧ fls 59 ys = true ∧ Q (.bl (ys.any fun z => eqd z (drf S x))) S
def rNiD2 : RD2 := fun x y S Q => ∃ ys, itemsD (drf S y) = some ys ∧ fl 60 (drf S x) = true ∧ fls 59 ys = true ∧ Q (.bl (!ys.any fun z => eqd z (drf S x))) S
theorem any_pds {p : PyData → Bool} : ∀ ds : List D, (pds ds).any p = ds.any fun z => p (pd z)
  | [] => rfl
  | d :: ds => by simp [pds, any_pds ds]
theorem in_at {pins : List (Addr × Obj)} {σ : L2.St} {H : Hp} {s : Shared} {β : List Addr} {x y : V} {v u : Value} {dx dy : D} {ys : List D} (hu : X.A.units + 65 < cLine) (I : L2.Inv X pins σ H s) (rx : RelV x v) (ry : RelV y u) (e1 : Rep X.K H β x dx) (e2 : Rep X.K H β y dy)
    (hi : itemsD dy = some ys) (f1 : fl 60 dx = true) (f2 : fls 59 ys = true) :
    (∀ {E : Value → Shared → Prop} {Q : Value → Shared → Prop}, Q (.bool (ys.any fun z => eqd z dx)) s → wpAny (model X.prog X.w) X.A (compareOp .In v u) Q E s) ∧
    (∀ {E : Value → Shared → Prop} {Q : Value → Shared → Prop}, Q (.bool (!ys.any fun z => eqd z dx)) s → wpAny (model X.prog X.w) X.A (compareOp .NotIn v u) Q E s) := by
  obtain ⟨d1, c1, p1⟩ := fl_dp f1 e1
  obtain ⟨as, ra⟩ := Dp.reads I _ _ _ d1 rx
  have room : ∀ xs : List PyData, X.A.units + 1 + min (PyData.depthAll xs) (pd dx).depth < cLine := fun xs => by omega
  have hany : ∀ xs : List D, ((pds xs).any fun z => PyData.eqv z (pd dx)) = xs.any fun z => eqd z dx := fun xs => any_pds xs
  cases dy with
  | lst zs =>
    cases hi
    have f3 : fl 60 (.lst ys) = true := by simpa [fl] using f2
    obtain ⟨d2, c2, p2⟩ := fl_dp f3 e2
    obtain ⟨bs, rb⟩ := Dp.reads I _ _ _ d2 ry
    have c2' : PyData.canLayAll0 (pds ys) = true := by simpa [pd, PyData.canLay0] using c2
    exact ⟨fun q => SeqAt.in_list_reads rb ra c2' c1 (room _) (by rw [hany]; exact q), fun q => SeqAt.notIn_list_reads rb ra c2' c1 (room _) (by rw [hany]; exact q)⟩
  | tup zs =>
    cases hi
    have f3 : fl 60 (.tup ys) = true := by simpa [fl] using f2
    obtain ⟨d2, c2, p2⟩ := fl_dp f3 e2
    obtain ⟨bs, rb⟩ := Dp.reads I _ _ _ d2 ry
    have c2' : PyData.canLayAll0 (pds ys) = true := by simpa [pd, PyData.canLay0] using c2
    exact ⟨fun q => SeqAt.in_tuple_reads rb ra c2' c1 (room _) (by rw [hany]; exact q), fun q => SeqAt.notIn_tuple_reads rb ra c2' c1 (room _) (by rw [hany]; exact q)⟩
  | _ => cases hi
theorem op_in' (hu : X.A.units + 65 < cLine) : OpR X (compareOp .In) (l2 X.K rInD2) := by
  intro pins s σ H x y v u Q I rx ry ⟨Y, β, S, dx, dy, Q', o, r1, r2, ⟨ys, hi, f1, f2, q⟩, k⟩
  exact (in_at hu I rx ry (o.drf r1) (o.drf r2) hi f1 f2).1 ⟨.bl _, H, I, rfl, k _ S _ β H (.refl o) (.bl _) q⟩
theorem op_ni' (hu : X.A.units + 65 < cLine) : OpR X (compareOp .NotIn) (l2 X.K rNiD2) := by
  intro pins s σ H x y v u Q I rx ry ⟨Y, β, S, dx, dy, Q', o, r1, r2, ⟨ys, hi, f1, f2, q⟩, k⟩
  exact (in_at hu I rx ry (o.drf r1) (o.drf r2) hi f1 f2).2 ⟨.bl _, H, I, rfl, k _ S _ β H (.refl o) (.bl _) q⟩

/-! ints -/
def r2I (P : Int → Int → Prop) (g : Int → Int → D) : RD2 := fun x y S Q => ∃ i j, x = .int i ∧ y = .int j ∧ P i j ∧ Q (g i j) S
theorem op_int2 {f : Value → Value → Sem Value} {P : Int → Int → Prop} {gV : Int → Int → V} {g : Int → Int → D} (h : OpR X f (rI P gV)) (hr : ∀ i j B β, Rep X.K B β (gV i j) (g i j)) : OpR X f (l2 X.K (r2I P g)) := by
  intro pins s σ H x y v u Q I rx ry ⟨Y, β, S, dx, dy, Q', o, r1, r2, ⟨i, j, ex, ey, p, q⟩, k⟩
  subst ex
  subst ey
  cases r1
  cases r2
  exact h pins s σ H _ _ v u Q I rx ry ⟨i, j, rfl, rfl, p, k _ S _ β H (.refl o) (hr i j _ _) q⟩
theorem op_int0 {f : Value → Value → Sem Value} {gV : Int → Int → V} {g : Int → Int → D} (h : OpR X f (rI0 gV)) (hr : ∀ i j B β, Rep X.K B β (gV i j) (g i j)) : OpR X f (l2 X.K (r2I (fun _ _ => True) g)) := by
  intro pins s σ H x y v u Q I rx ry ⟨Y, β, S, dx, dy, Q', o, r1, r2, ⟨i, j, ex, ey, p, q⟩, k⟩
  subst ex
  subst ey
  cases r1
  cases r2
  exact h pins s σ H _ _ v u Q I rx ry ⟨i, j, rfl, rfl, k _ S _ β H (.refl o) (hr i j _ _) q⟩
abbrev T2 : Int → Int → Prop := fun _ _ => True
abbrev rSub : RD2 := r2I T2 fun i j => .int (i - j)
abbrev rLt : RD2 := r2I T2 fun i j => .bl (decide (i < j))
abbrev rLe : RD2 := r2I T2 fun i j => .bl (decide (i ≤ j))
abbrev rGt : RD2 := r2I T2 fun i j => .bl (decide (j < i))
abbrev rGe : RD2 := r2I T2 fun i j => .bl (decide (j ≤ i))
abbrev rDiv : RD2 := r2I CDivW fun i j => .int (i / j)
abbrev rMod : RD2 := r2I (fun _ j => 0 < j) fun i j => .int (i % j)
abbrev rPow : RD2 := r2I CPow fun i j => .int (i ^ j.toNat)
abbrev rMul : RD2 := r2I CMulW fun i j => .int (i * j)
theorem o_sub : OpR X (binaryOp .Sub) (l2 X.K rSub) := op_int0 op_sub fun _ _ _ _ => .int _
theorem o_lt : OpR X (compareOp .Lt) (l2 X.K rLt) := op_int0 op_lt fun _ _ _ _ => .bl _
theorem o_le : OpR X (compareOp .LtE) (l2 X.K rLe) := op_int0 op_le fun _ _ _ _ => .bl _
theorem o_gt : OpR X (compareOp .Gt) (l2 X.K rGt) := op_int0 op_gt fun _ _ _ _ => .bl _
theorem o_ge : OpR X (compareOp .GtE) (l2 X.K rGe) := op_int0 op_ge fun _ _ _ _ => .bl _
theorem o_div : OpR X (binaryOp .FloorDiv) (l2 X.K rDiv) := op_int2 op_fdivW fun _ _ _ _ => .int _
theorem o_mod : OpR X (binaryOp .Mod) (l2 X.K rMod) := op_int2 op_mod fun _ _ _ _ => .int _
theorem o_pow : OpR X (binaryOp .Pow) (l2 X.K rPow) := op_int2 op_pow fun _ _ _ _ => .int _
/-- * : one factor below 2^64, or both below a million bits together -/
def CMul3 (i j : Int) : Prop := CMul i j ∨ CMulW i j
abbrev rMulI : RD2 := r2I CMul3 fun i j => .int (i * j)
theorem o_mul : OpR X (binaryOp .Mult) (l2 X.K rMulI) := op_int2 (opI fun _ _ _ _ _ _ _ hc q => mul_int q (hc.elim CMul.ok CMulW.ok)) fun _ _ _ _ => .int _
theorem o_neg : UnR X (unaryOp .USub) (l1 X.K fun x S Q => ∃ i, x = .int i ∧ Q (.int (-i)) S) := by
  intro pins s σ H x v Q I rx ⟨Y, β, S, dx, Q', o, r1, ⟨i, ex, q⟩, k⟩
  subst ex
  cases r1
  exact un_neg pins s σ H _ v Q I rx ⟨i, rfl, k _ S _ β H (.refl o) (.int _) q⟩
/-! + -/
def rAdd : RD2 := fun x y S Q => match drf S x, drf S y with
  | .int i, .int j => Q (.int (i + j)) S
  | .str a, .str b => a.length + b.length ≤ sizeLine ∧ Q (.str (a ++ b)) S
  | .lst a, .lst b => a.length + b.length ≤ sizeLine ∧ Q (.lst (a ++ b)) S
  | _, _ => False
theorem o_add : OpR X (binaryOp .Add) (l2 X.K rAdd) := by
  intro pins s σ H x y v u Q I rx ry ⟨Y, β, S, dx, dy, Q', o, r1, r2, h, k⟩
  have e1 := o.drf r1
  have e2 := o.drf r2
  unfold rAdd at h
  generalize hx : drf S dx = x' at h e1
  generalize hy : drf S dy = y' at h e2
  cases x' <;> cases y' <;> try exact h.elim
  · cases e1
    cases e2
    exact op_add pins s σ H _ _ v u Q I rx ry ⟨_, _, rfl, rfl, k _ S _ β H (.refl o) (.int _) h⟩
  · cases e1
    cases e2
    exact op_add_str pins s σ H _ _ v u Q I rx ry ⟨_, _, rfl, rfl, h.1, k _ S _ β H (.refl o) (.str _) h.2⟩
  · rename_i xs ys
    obtain ⟨a, us, rfl, h1, q1⟩ := ok_lst o r1 hx
    obtain ⟨b, ws, rfl, h2, q2⟩ := ok_lst o r2 hy
    exact op_cat pins s σ H _ _ v u Q I rx ry ⟨a, b, us, ws, rfl, rfl, h1, h2, by rw [q1.len, q2.len]; exact h.1, fun p hp => k _ S _ β _ (o.new _ hp) (o.newLst hp (q1.append q2)) h.2⟩
end
end NC

set_option Elab.async false
set_option linter.all false
set_option maxRecDepth 100000
set_option maxHeartbeats 1000000
/-! NC7: items, slices, built-ins over data. -/
namespace NC
open PySem PySem.Spec PyProof.Rows L2
open Evl (Ex)

theorem Reps.atI {K : PySem.W.Frag} {B : Hp} {β : List Addr} {vs : List V} {xs : List D} {i : Int} {d : D} (r : Reps K B β vs xs) (h : atI xs i = some d) : ∃ v, L2.atI vs i = some v ∧ Rep K B β v d := by
  unfold L2.atI at h ⊢
  rw [r.len]
  obtain ⟨j, e1, e2⟩ := Option.bind_eq_some_iff.mp h
  obtain ⟨v, e3, q⟩ := r.get e2
  exact ⟨v, by rw [e1]; exact e3, q⟩
section
variable {X : Cx}
/-! items -/
def rIx2 : RD2 := fun x y S Q => ∃ xs i d, seqOf (drf S x) = some xs ∧ y = .int i ∧ atI xs i = some d ∧ Q d S
theorem o_ix : IxR X (l2 X.K rIx2) := by
  intro value slice pins s σ H x y v u Q I rx ry ⟨Y, β, S, dx, dy, Q', o, r1, r2, ⟨xs, i, d, hx, ey, hd, q⟩, k⟩ hs
  subst ey
  cases r2
  obtain ⟨a, vs, rfl, hk, rs⟩ := ok_seq o r1 hx
  obtain ⟨w, e, rw'⟩ := rs.atI hd
  have fin := k d S w β H (.refl o) rw' q
  rcases hk with hk | hk
  · exact ix_list value slice pins s σ H _ _ v u Q I rx ry ⟨a, vs, i, w, rfl, rfl, hk, e, fin⟩ hs
  · exact ix_tup value slice pins s σ H _ _ v u Q I rx ry ⟨a, vs, i, w, rfl, rfl, hk, e, fin⟩ hs
/-! slices -/
abbrev TOd := Rho → Store → (Option Int → Store → Prop) → Prop
def tOd (K : PySem.W.Frag) (t : TOd) : TO := fun σ H Q => ∃ Y β S ρ Q', Rel K Y β S ρ σ H ∧ t ρ S Q' ∧ ∀ d S' β' H', Step K Y β S H β' S' H' → Q' d S' → Q d H'
def oNone : TOd := fun _ S Q => Q none S
def oSome (t : TD) : TOd := fun ρ S Q => t ρ S fun x S1 => ∃ i, x = .int i ∧ Q (some i) S1
theorem do_none : PO X none (tOd X.K oNone) := ⟨fun pins s σ H Q I ⟨Y, β, S, ρ, Q', rl, q, k⟩ => po_none.run pins s σ H Q I (k none S β H (.refl rl.ok) q)⟩
theorem do_some {e : Expr} {ta : TD} (h : PE X e (tE X.K ta)) : PO X (some e) (tOd X.K (oSome ta)) := ⟨fun pins s σ H Q I ⟨Y, β, S, ρ, Q', rl, q, k⟩ => (po_some h).run pins s σ H Q I
  ⟨Y, β, S, ρ, _, rl, q, fun x S1 v β1 H1 s1 r1 ⟨i, ex, q1⟩ => by
    subst ex
    cases r1
    exact ⟨i, rfl, k _ S1 β1 H1 s1 q1⟩⟩⟩
def cutD (xs : List D) (lo hi : Option Int) : List D := (xs.drop (HT.sIx xs.length 0 lo)).take (HT.sIx xs.length xs.length hi - HT.sIx xs.length 0 lo)
theorem Reps.cut {K : PySem.W.Frag} {B : Hp} {β : List Addr} {vs : List V} {xs : List D} {lo hi : Option Int} (r : Reps K B β vs xs) : Reps K B β (cutV vs lo hi) (cutD xs lo hi) := by
  unfold cutV cutD
  rw [r.len]
  exact (r.drop _).take _
abbrev RDsl := D → Option Int → Option Int → Store → QD → Prop
def lsl (K : PySem.W.Frag) (r : RDsl) : V → Option Int → Option Int → Hp → VK → Prop := fun v lo hi H Q => ∃ Y β S x Q', Ok K Y β S H ∧ Rep K (hid Y β S H) β v x ∧ r x lo hi S Q' ∧ out K Y β S H Q' Q
def rCut : RDsl := fun x lo hi S Q => match drf S x with
  | .lst xs => Q (.lst (cutD xs lo hi)) S
  | .ro xs => Q (.lst (cutD xs lo hi)) S
  | .tup xs => Q (.tup (cutD xs lo hi)) S
  | _ => False
theorem cut_whole {xs : List D} {lo hi : Option Int} (h : HT.sIx xs.length 0 lo = 0 ∧ HT.sIx xs.length xs.length hi = xs.length) : cutD xs lo hi = xs := by
  unfold cutD
  rw [h.1, h.2, List.drop_zero, Nat.sub_zero, List.take_length]
theorem o_cut : SlR X (lsl X.K rCut) := by
  intro pins s σ H x v vl vu lo hi sl Q I rx hs pl pu ⟨Y, β, S, dx, Q', o, r1, h, k⟩
  unfold rCut at h
  cases hx : drf S dx with
  | lst xs =>
    rw [hx] at h
    obtain ⟨a, vs, rfl, h1, rs⟩ := ok_lst o r1 hx
    exact sl_list pins s σ H _ v vl vu lo hi sl Q I rx hs pl pu ⟨a, vs, rfl, .inl (.inl h1), fun p hp => k _ S _ β _ (o.new _ hp) (o.newLst hp rs.cut) h⟩
  | ro xs =>
    rw [hx] at h
    obtain ⟨a, vs, rfl, h1, rs⟩ := ok_seq o r1 (by rw [hx]; rfl)
    have h1' : SqL X.K H a vs := by
      rcases h1 with h1 | h1
      · exact h1
      · cases dx with
        | ref n =>
          simp only [NC.drf] at hx
          split at hx <;> cases hx
        | ro zs =>
          cases r1 with
          | ro q1 q2 =>
            obtain ⟨i1, v1, p1, _⟩ := I.list (Evl.ex_l hid_ex q1)
            obtain ⟨i2, v2, p2, _⟩ := I.tuple h1
            obtain ⟨o1, _, e1, c1, _, _⟩ := p1
            obtain ⟨o2, e2, c2, _⟩ := p2
            rw [e1] at e2
            cases e2
            exact absurd (c1.symm.trans c2) (by simp)
        | _ => simp [NC.drf] at hx
    exact sl_list pins s σ H _ v vl vu lo hi sl Q I rx hs pl pu ⟨a, vs, rfl, h1', fun p hp => k _ S _ β _ (o.new _ hp) (o.newLst hp rs.cut) h⟩
  | tup xs =>
    rw [hx] at h
    obtain ⟨a, vs, rfl, h1, rs⟩ := ok_tup o r1 hx
    refine sl_tupA pins s σ H _ v vl vu lo hi sl Q I rx hs pl pu ⟨a, vs, rfl, Evl.ex_t hid_ex h1, fun hw => ?_, fun hw p hp => k _ S _ β _ (o.new _ hp) (o.newTup hp rs.cut) h⟩
    rw [rs.len] at hw
    have h : Q' (.tup (cutD xs lo hi)) S := h
    rw [cut_whole hw] at h
    exact k _ S _ β H (.refl o) (.tup h1 rs) h
  | _ => rw [hx] at h; exact h.elim
def eCut (ta : TD) (lo hi : TOd) : TD := fun ρ S Q => ta ρ S fun x S1 => lo ρ S1 fun l S2 => hi ρ S2 fun u S3 => rCut x l u S3 Q
theorem de_cut {e : Expr} {lo hi : Option Expr} {p2 pos : Pos} {ta : TD} {tl th : TOd} (he : PE X e (tE X.K ta)) (hl : PO X lo (tOd X.K tl)) (hu : PO X hi (tOd X.K th)) : PE X (.Subscript e (.Slice lo hi none p2) pos) (tE X.K (eCut ta tl th)) :=
  (pe_slice o_cut he hl hu).imp fun σ H Q ⟨Y, β, S, ρ, Q', rl, q, k⟩ => ⟨Y, β, S, ρ, _, rl, q, fun x S1 v β1 H1 s1 r1 q1 => ⟨Y, β1, S1, ρ, _, rl.step s1, q1, fun l S2 β2 H2 s2 q2 => ⟨Y, β2, S2, ρ, _, (rl.step s1).step s2, q2, fun u S3 β3 H3 s3 q3 =>
    ⟨Y, β3, S3, x, Q', s3.ok, s3.rep (s2.rep r1), q3, fun d S4 w β4 H4 s4 r4 q4 => k d S4 w β4 H4 (((s1.trans s2).trans s3).trans s4) r4 q4⟩⟩⟩⟩

/-! built-ins by values -/
def rLen : RDs := fun xs S Q => match xs with
  | [x] => match drf S x with
    | .str z => z.length ≤ sizeLine ∧ Q (.int z.length) S
    | d => ∃ ys, seqOf d = some ys ∧ Q (.int ys.length) S
  | _ => False
theorem c_len : CallR X (.builtin "len") (ls X.K rLen) := by
  intro pins s σ H xs us Q I rv ⟨Y, β, S, ds, Q', o, rs, h, k⟩
  cases ds with
  | nil => exact h.elim
  | cons d ds =>
    cases ds with
    | cons _ _ => exact h.elim
    | nil =>
      obtain ⟨v, rfl, r⟩ := rs.one
      have seq : ∀ ys, seqOf (drf S d) = some ys → Q' (.int ys.length) S → wpAny (model X.prog X.w) X.A (call (.builtin "len") us) (EP X pins σ Q) X.xe s := fun ys hy q => by
        obtain ⟨a, ws, rfl, hk, rr⟩ := ok_seq o r hy
        exact call_len_seq pins s σ H _ us Q I rv ⟨a, ws, rfl, hk, by rw [rr.len]; exact k _ S _ β H (.refl o) (.int _) q⟩
      unfold rLen at h
      cases hd : drf S d with
      | str z =>
        simp only [hd] at h
        have e1 := o.drf r
        rw [hd] at e1
        cases e1
        exact call_len_str pins s σ H _ us Q I rv ⟨z, rfl, h.1, k _ S _ β H (.refl o) (.int _) h.2⟩
      | _ =>
        simp only [hd] at h
        obtain ⟨ys, hy, q⟩ := h
        exact seq ys (by rw [hd]; exact hy) q
def rInt1 : RDs := fun xs S Q => match xs with
  | [.int i] => Q (.int i) S
  | [.bl b] => Q (.int (if b then 1 else 0)) S
  | _ => False
theorem c_int : CallR X (.type "int") (ls X.K rInt1) := by
  intro pins s σ H xs us Q I rv ⟨Y, β, S, ds, Q', o, rs, h, k⟩
  unfold rInt1 at h
  split at h
  · obtain ⟨v, rfl, r⟩ := rs.one
    cases r
    exact call_int1 pins s σ H _ us Q I rv (.inl ⟨_, rfl, k _ S _ β H (.refl o) (.int _) h⟩)
  · obtain ⟨v, rfl, r⟩ := rs.one
    cases r
    exact call_int1 pins s σ H _ us Q I rv (.inr ⟨_, rfl, k _ S _ β H (.refl o) (.int _) h⟩)
  · exact h.elim
def rAbs : RDs := fun xs S Q => match xs with
  | [.int i] => Q (.int (if i < 0 then -i else i)) S
  | _ => False
theorem c_abs : CallR X (.builtin "abs") (ls X.K rAbs) := by
  intro pins s σ H xs us Q I rv ⟨Y, β, S, ds, Q', o, rs, h, k⟩
  unfold rAbs at h
  split at h
  · obtain ⟨v, rfl, r⟩ := rs.one
    cases r
    exact call_abs pins s σ H _ us Q I rv ⟨_, rfl, k _ S _ β H (.refl o) (.int _) h⟩
  · exact h.elim
def rTuple : RDs := fun xs S Q => match xs with
  | [x] => ∃ ys, itemsD (drf S x) = some ys ∧ Q (.tup ys) S
  | _ => False
theorem c_tuple : CallR X (.type "tuple") (ls X.K rTuple) := by
  intro pins s σ H xs us Q I rv ⟨Y, β, S, ds, Q', o, rs, h, k⟩
  unfold rTuple at h
  split at h
  · rename_i d
    obtain ⟨v, rfl, r⟩ := rs.one
    obtain ⟨ys, hy, q⟩ := h
    cases hd : drf S d with
    | lst zs =>
      rw [hd] at hy
      cases hy
      obtain ⟨a, ws, rfl, h1, rr⟩ := ok_lst o r hd
      exact call_tuple_of pins s σ H _ us Q I rv ⟨a, ws, rfl, .inl ⟨.inl (.inl h1), fun p hp => k _ S _ β _ (o.new _ hp) (o.newTup hp rr) q⟩⟩
    | tup zs =>
      rw [hd] at hy
      cases hy
      obtain ⟨a, ws, rfl, h1, rr⟩ := ok_tup o r hd
      exact call_tuple_of pins s σ H _ us Q I rv ⟨a, ws, rfl, .inr ⟨Evl.ex_t hid_ex h1, k _ S _ β H (.refl o) (.tup h1 rr) q⟩⟩
    | _ => rw [hd] at hy; cases hy
  · exact h.elim
def rList : RDs := fun xs S Q => match xs with
  | [x] => ∃ ys, seqOf (drf S x) = some ys ∧ Q (.lst ys) S
  | _ => False
def rListM : RDs := fun xs S Q => match xs with
  | [x] => ∃ ys, seqOf (drf S x) = some ys ∧ Q (.ref S.length) (S ++ [some (.lst ys)])
  | _ => False
theorem c_list : CallR X (.type "list") (ls X.K rList) := by
  intro pins s σ H xs us Q I rv ⟨Y, β, S, ds, Q', o, rs, h, k⟩
  unfold rList at h
  split at h
  · obtain ⟨v, rfl, r⟩ := rs.one
    obtain ⟨ys, hy, q⟩ := h
    obtain ⟨a, ws, rfl, hk, rr⟩ := ok_seq o r hy
    exact call_list_of pins s σ H _ us Q I rv ⟨a, ws, rfl, hk, fun p hp => k _ S _ β _ (o.new _ hp) (o.newLst hp rr) q⟩
  · exact h.elim
theorem c_listM : CallR X (.type "list") (ls X.K rListM) := by
  intro pins s σ H xs us Q I rv ⟨Y, β, S, ds, Q', o, rs, h, k⟩
  unfold rListM at h
  split at h
  · obtain ⟨v, rfl, r⟩ := rs.one
    obtain ⟨ys, hy, q⟩ := h
    obtain ⟨a, ws, rfl, hk, rr⟩ := ok_seq o r hy
    exact call_list_of pins s σ H _ us Q I rv ⟨a, ws, rfl, hk, fun p hp => k _ _ _ _ _ (o.alloc hp rr) (o.allocRep (H' := H)) q⟩
  · exact h.elim
theorem Reps.bls {K : PySem.W.Frag} {B : Hp} {β : List Addr} : ∀ {bs : List Bool} {vs : List V}, Reps K B β vs (bs.map D.bl) → vs = bs.map V.bl
  | [], _, h => by cases h; rfl
  | b :: bs, _, h => by
    cases h with
    | cons h1 h2 =>
      cases h1
      rw [Reps.bls h2]
      rfl
def rAll2 : RDs := fun xs S Q => match xs with
  | [x] => ∃ bs : List Bool, drf S x = .lst (bs.map D.bl) ∧ Q (.bl (bs.all id)) S
  | _ => False
def rAny2 : RDs := fun xs S Q => match xs with
  | [x] => ∃ bs : List Bool, drf S x = .lst (bs.map D.bl) ∧ Q (.bl (bs.any id)) S
  | _ => False
theorem c_all (hc : X.calm = true) : CallR X (.builtin "all") (ls X.K rAll2) := by
  intro pins s σ H xs us Q I rv ⟨Y, β, S, ds, Q', o, rs, h, k⟩
  unfold rAll2 at h
  split at h
  · obtain ⟨v, rfl, r⟩ := rs.one
    obtain ⟨bs, hb, q⟩ := h
    obtain ⟨a, ws, rfl, h1, rr⟩ := ok_lst o r hb
    have e := rr.bls
    subst e
    exact cr_all hc pins s σ H _ us Q I rv ⟨a, bs, rfl, .inl (.inl h1), k _ S _ β H (.refl o) (.bl _) q⟩
  · exact h.elim
theorem c_any (hc : X.calm = true) : CallR X (.builtin "any") (ls X.K rAny2) := by
  intro pins s σ H xs us Q I rv ⟨Y, β, S, ds, Q', o, rs, h, k⟩
  unfold rAny2 at h
  split at h
  · obtain ⟨v, rfl, r⟩ := rs.one
    obtain ⟨bs, hb, q⟩ := h
    obtain ⟨a, ws, rfl, h1, rr⟩ := ok_lst o r hb
    have e := rr.bls
    subst e
    exact cr_any hc pins s σ H _ us Q I rv ⟨a, bs, rfl, .inl (.inl h1), k _ S _ β H (.refl o) (.bl _) q⟩
  · exact h.elim

/-! isinstance of built-in types -/
def tyD : D → Option String
  | .non => some "NoneType"
  | .bl _ => some "bool"
  | .int _ => some "int"
  | .str _ => some "str"
  | .lst _ => some "list"
  | .ro _ => some "list"
  | .tup _ => some "tuple"
  | .dic _ => some "dict"
  | .dit _ => some "dict"
  | .ref _ => none
def isiD (d : D) (T : String) : Option Bool := (tyD d).bind fun t => kitB t T
theorem ty_ok {Y β : List Addr} {S : Store} {H : Hp} {K : PySem.W.Frag} {v : V} {d : D} {t : String} (o : Ok K Y β S H) (r : Rep K (hid Y β S H) β v d) (h : tyD (drf S d) = some t) : TyX K H v (.type t) := by
  have r' := o.drf r
  generalize drf S d = e at h r'
  cases e with
  | non => cases h; cases r'; exact .base .non
  | bl b => cases h; cases r'; exact .base (.bl b)
  | int i => cases h; cases r'; exact .base (.int i)
  | str x => cases h; cases r'; exact .base (.str x)
  | lst xs =>
    cases h
    cases r' with
    | lst h1 h2 => exact .base (.lst h1)
  | ro xs =>
    cases h
    cases r' with
    | ro h1 h2 =>
      rcases h1 with (h1 | ⟨_, h1⟩) | ⟨ob, _, _, e1, e2, _⟩
      · exact .base (.lst h1)
      · exact .base (.frz h1)
      · exact .kList e1 e2
  | tup xs =>
    cases h
    cases r' with
    | tup h1 h2 =>
      rcases h1 with (h1 | ⟨_, h1⟩) | ⟨ob, _, _, e1, e2, _⟩
      · exact .base (.tup h1)
      · exact .fTuple h1
      · exact .kTuple e1 e2
  | dic ks =>
    cases h
    cases r' with
    | dic h1 h2 => exact .base (.dK h1)
  | dit ks =>
    cases h
    cases r' with
    | dit h1 h2 => exact .base (.dT h1)
  | ref n => cases h
def eIsi (T : String) (ta : TD) : TD := fun ρ S Q => ta ρ S fun x S1 => ∃ b, isiD (drf S1 x) T = some b ∧ Q (.bl b) S1
def eIsi2 (T1 T2 : String) (ta : TD) : TD := fun ρ S Q => ta ρ S fun x S1 => ∃ b c, isiD (drf S1 x) T1 = some b ∧ isiD (drf S1 x) T2 = some c ∧ Q (.bl (b || c)) S1
variable {e f : Expr} {es : List Expr} {ta : TD} {p pos : Pos}
theorem de_isi {T : String} (h : PE X e (tCB (rIsi X.K) (tCons (tE X.K ta) (tCons (tC (.ty T)) tNil)))) : PE X e (tE X.K (eIsi T ta)) := h.imp fun σ H Q ⟨Y, β, S, ρ, Q', rl, q, k⟩ => ⟨Y, β, S, ρ, _, rl, q, fun x S1 v β1 H1 s1 r1 ⟨b, hb, q1⟩ => by
  obtain ⟨t, e1, e2⟩ := Option.bind_eq_some_iff.mp hb
  exact ⟨v, .ty T, _, _, b, rfl, .ty T, ty_ok s1.ok r1 e1, kit_ty e2, k _ S1 _ β1 H1 s1 (.bl _) q1⟩⟩
theorem de_isi2 {T1 T2 : String} (h : PE X e (tCB (rIsiT X.K) (tCons (tE X.K ta) (tCons (tTup (tCons (tC (.ty T1)) (tCons (tC (.ty T2)) tNil))) tNil)))) : PE X e (tE X.K (eIsi2 T1 T2 ta)) := h.imp fun σ H Q ⟨Y, β, S, ρ, Q', rl, q, k⟩ => ⟨Y, β, S, ρ, _, rl, q, fun x S1 v β1 H1 s1 r1 ⟨b, c, hb, hc, q1⟩ => by
  obtain ⟨t, e1, e2⟩ := Option.bind_eq_some_iff.mp hb
  obtain ⟨t', e1', e3⟩ := Option.bind_eq_some_iff.mp hc
  rw [e1] at e1'
  cases e1'
  refine ⟨by show 2 ≤ sizeLine; decide, fun p hp => ?_⟩
  have st := s1.ok.new (.tup [.ty T1, .ty T2]) hp
  refine ⟨v, p, _, _, [.type T1, .type T2], b || c, rfl, upd_same, .cons (.ty T1) (.cons (.ty T2) .nil), ty_ok st.ok (st.rep r1) e1, ?_, k _ S1 _ β1 _ (s1.trans st) (.bl _) q1⟩
  refine kitAny_cons (kit_ty e2) (fun hb => kitAny_cons (kit_ty e3) (fun hc => ?_) fun hc => ?_) fun hb => ?_
  · rw [hb, hc]
    exact kitAny_nil
  · rw [hb, hc]
    rfl
  · rw [hb]
    rfl⟩

/-! how many unlike tuples of ints -/
def tupI (ks : List Int) : D := .tup (ks.map D.int)
def rLenSet : RD1 := fun x S Q => ∃ kss : List (List Int), drf S x = .lst (kss.map tupI) ∧ kss.length < 64 ∧ ∀ L : List (List Int), L.Nodup → (∀ y, y ∈ L ↔ y ∈ kss) → Q (.int L.length) S
theorem Reps.int' {K : PySem.W.Frag} {B : Hp} {β : List Addr} : ∀ {ns : List Int} {vs : List V}, Reps K B β vs (ns.map D.int) → vs = ns.map V.int
  | [], _, h => by cases h; rfl
  | b :: bs, _, h => by
    cases h with
    | cons h1 h2 =>
      cases h1
      rw [Reps.int' h2]
      rfl
theorem tups_of {K : PySem.W.Frag} {B : Hp} {β : List Addr} : ∀ {kss : List (List Int)} {vs : List V}, Reps K B β vs (kss.map tupI) → ∃ ks : List (Addr × List Int), vs = ks.map (fun p => V.ref p.1) ∧ ks.map (·.2) = kss ∧ ∀ p ∈ ks, SqT K B p.1 (p.2.map V.int)
  | [], _, h => by cases h; exact ⟨[], rfl, rfl, fun p hp => nomatch hp⟩
  | k :: kss, _, h => by
    cases h with
    | cons h1 h2 =>
      obtain ⟨ks, rfl, e2, h3⟩ := tups_of h2
      cases h1 with
      | tup h4 h5 =>
        rename_i a ws
        have e := h5.int'
        subst e
        refine ⟨(a, k) :: ks, rfl, by simp [e2], fun p hp => ?_⟩
        rcases List.mem_cons.mp hp with z | z
        · rw [z]
          exact h4
        · exact h3 p z
def rLenSetV (K : PySem.W.Frag) (P : Program) (w : World) : List V → Hp → VK → Prop := fun xs H Q => ∃ (a : Addr) (L : List (Addr × List Int)), xs = [V.ref a] ∧ H a = some (SetTO P w a L) ∧ (∀ p ∈ L, SqT K H p.1 (p.2.map V.int)) ∧ ((L.map (·.2)).Nodup → Q (.int L.length) H)
theorem c_lenSet : CallR X (.builtin "len") (rLenSetV X.K X.prog X.w) := by
  intro pins s σ H xs us Q I rv ⟨a, L, ex, ha, hk, q⟩
  subst ex
  have R0 : SetT0 X.prog X.w s.heap a L := (I.hok a _ ha).1
  obtain ⟨es, ep, t, R⟩ := R0.full fun p hp => I.isT (hk p hp)
  rw [Vals.ref1 rv]
  obtain ⟨o, ho, hex, hd⟩ := R.ob
  have hsz := R.size
  have hfew := R.few
  exact call_len_set ho hex hd R.fits (by rw [hsz]; omega) ⟨.int L.length, H, I.tok _, ⟨_, by rw [hsz]⟩, q R.nd⟩
theorem de_lenSet (h : PE X e (tCB (rLenSetV X.K X.prog X.w) (tCons (tCB (rSetOfT X.K X.prog X.w) (tCons (tE X.K ta) tNil)) tNil))) : PE X e (tE X.K (eUn rLenSet ta)) := h.imp fun σ H Q ⟨Y, β, S, ρ, Q', rl, q, k⟩ => ⟨Y, β, S, ρ, _, rl, q, fun x S1 v β1 H1 s1 r1 ⟨kss, hx, hl, q1⟩ => by
  obtain ⟨a, ws, rfl, h1, rr⟩ := ok_lst s1.ok r1 hx
  obtain ⟨ks, rfl, e2, h3⟩ := tups_of rr
  refine ⟨a, ks, rfl, .inl (.inl h1), fun p hp => Evl.ex_t hid_ex (h3 p hp), by rw [← e2, List.length_map] at hl; exact hl, fun b L hb l1 l2 => ?_⟩
  have st := s1.ok.new (SetTO X.prog X.w b L) hb
  refine ⟨b, L, rfl, upd_same, fun p hp => Evl.ex_t (Ex.trans st.ex hid_ex) (h3 p (l1 p hp)), fun nd => ?_⟩
  refine k _ S1 _ β1 _ (s1.trans st) (.int _) ?_
  have := q1 (L.map (·.2)) nd fun y => ⟨fun hy => ?_, fun hy => ?_⟩
  · rwa [List.length_map] at this
  · obtain ⟨p, hp, rfl⟩ := List.mem_map.mp hy
    rw [← e2]
    exact List.mem_map_of_mem (l1 p hp)
  · rw [← e2] at hy
    obtain ⟨p, hp, rfl⟩ := List.mem_map.mp hy
    exact l2 p hp⟩

/-! enumerate of a list -/
def enumD (xs : List D) : List D := xs.mapIdx fun i d => .tup [.int i, d]
def sEnum (ta : TD) : TSr := fun ρ S Q => aCons ta aNil ρ S fun ds S1 => ∃ d xs, ds = [d] ∧ drf S1 d = .lst xs ∧ Q (enumD xs) (fun S' => drf S' d = drf S1 d) S1
theorem enum_iter {K : PySem.W.Frag} {Y β : List Addr} {S : Store} {H : Hp} {a : Addr} {d : D} {xs : List D} (r : Rep K (hid Y β S H) β (.ref a) d) (h : drf S d = .lst xs) : IterOk K Y β S H (Ite K a) (enumD xs) fun S' => drf S' d = drf S d := by
  refine ⟨fun Z β' S' H' l st i t ht => ?_, fun Z β' S' H' l st => ?_⟩
  · obtain ⟨b, vs, eb, h1, rr⟩ := ok_lst l.ok (r.mono l.ex l.pre) (st.trans h)
    cases eb
    have hi : i < xs.length := by
      have := (List.getElem?_eq_some_iff.mp ht).1
      simpa [enumD] using this
    have et : t = .tup [.int i, xs[i]] := by
      have := (List.getElem?_eq_some_iff.mp ht).2
      simpa [enumD] using this.symm
    obtain ⟨v, e1, rv⟩ := rr.get (List.getElem?_eq_getElem hi)
    have sq : SqL K H' a vs := .inl (.inl h1)
    refine ⟨⟨vs, v, sq, e1⟩, fun x H'' hy => ?_⟩
    obtain ⟨T, y, rfl, hT, rfl, hy⟩ := hy
    have := hy vs sq
    rw [e1] at this
    cases this
    subst et
    exact ⟨l.ok.new _ hT, l.ok.newTup hT (.cons (.int _) (.cons rv .nil))⟩
  · obtain ⟨b, vs, eb, h1, rr⟩ := ok_lst l.ok (r.mono l.ex l.pre) (st.trans h)
    cases eb
    exact ⟨vs, .inl (.inl h1), by rw [rr.len]; simp [enumD]⟩
theorem di_enum {elts : List Expr} {kk : Nat} {tpos : Pos} (hg : Gl X "enumerate") (hm : X.mg "enumerate" = none) (ha : PE X e (tE X.K ta)) (hs1 : starEach [e] X.env = (false, eval e X.env) :: starEach [] X.env := by rfl) (hs : starEach [e] X.env = [(false, eval e X.env)] := by rfl) :
    PI X (.Tuple elts kk tpos) (.Call (.Name "enumerate" p) [e] [] pos) (tI X.K (sEnum ta)) :=
  (pi_enum hg hm (da_cons ha da_nil hs1) hs).imp fun σ H R ⟨Y, β, S, ρ, Q', rl, q, k⟩ => ⟨Y, β, S, ρ, fun ds S1 => ∃ d xs, ds = [d] ∧ drf S1 d = .lst xs ∧ Q' (enumD xs) (fun S' => drf S' d = drf S1 d) S1, rl, q, fun ds S1 vs β1 H1 s1 r1 ⟨d, xs, ed, hd, q1⟩ => by
    subst ed
    obtain ⟨v, rfl, r⟩ := r1.one
    obtain ⟨a, ws, rfl, h1, rr⟩ := ok_lst s1.ok r hd
    exact ⟨a, ws, rfl, .inl (.inl h1), k _ _ _ _ _ _ s1 (enum_iter r hd) q1⟩⟩
end
end NC

set_option Elab.async false
set_option linter.all false
set_option maxRecDepth 100000
set_option maxHeartbeats 1000000
/-! NC8: repr over data. -/
namespace NC
open PySem PySem.Spec PyProof.Rows L2
open Evl (Ex)

section
variable {P : Program} {w : World} {h : Heap}
/-- a value that reads as d, and how it is shown -/
def Shw (P : Program) (w : World) (h : Heap) (v : Value) (d : PyData) : Prop :=
  ∃ as bs, Reads h v d as ∧ ReadAtMost h d.depth bs ∧ ReprK P w bs h d.depth v d.shown ∧ ∀ a, v = .ref a → ∃ T idr, ShowsBy P w h a d T idr
def ShwAll (P : Program) (w : World) (h : Heap) (vs : List Value) (ds : List PyData) : Prop :=
  ∃ as bs, ReadsAll h vs ds as ∧ ReadAtMost h (PyData.depthAll ds) bs ∧ ReprAllK P w bs h (PyData.depthAll ds) vs (PyData.shownAll ds)
theorem shwAll_nil : ShwAll P w h [] [] := ⟨_, [], .nil, fun _ h => (nomatch h), by simp only [PyData.shownAll]; exact .nil⟩
theorem shwAll_cons {v : Value} {d : PyData} {vs : List Value} {ds : List PyData} (x : Shw P w h v d) (y : ShwAll P w h vs ds) : ShwAll P w h (v :: vs) (d :: ds) := by
  obtain ⟨as, bs, r, hb, hk, _⟩ := x
  obtain ⟨as', bs', r', hb', hk'⟩ := y
  refine ⟨_, bs ++ bs', .cons r r', ?_, ?_⟩
  · simp only [PyData.depthAll]
    exact (hb.mono (Nat.le_max_left _ _)).append (hb'.mono (Nat.le_max_right _ _))
  · simp only [PyData.depthAll, PyData.shownAll]
    exact .cons ((hk.more fun b hb => List.mem_append_left _ hb).level_le (Nat.le_max_left _ _)) (hk'.more_le (fun b hb => List.mem_append_right _ hb) (Nat.le_max_right _ _))
theorem shw_list {a : Addr} {o : Obj} {l : List Value} {n : Nat} {xs : List PyData} (h1 : h.get? a = some o) (h2 : o.cls = .type "list") (h3 : o.data = .seq l.toArray n) (y : ShwAll P w h l xs)
    (hz : (PyData.shown (.list xs)).length ≤ sizeLine) : Shw P w h (.ref a) (.list xs) := by
  obtain ⟨as, bs, r', hb, hk⟩ := y
  have r : Reads h (.ref a) (.list xs) (a :: as) := .list h1 h2 h3 r'
  have hna : a ∉ bs := not_mem_of_deeper r (by simp only [PyData.depth]; omega) hb
  refine ⟨_, a :: bs, r, ReadAtMost.cons r (by simp only [PyData.depth]; omega) hb, ?_, ?_⟩
  · simp only [PyData.depth, PyData.shown]
    cases l with
    | nil =>
      cases r'
      simp only [PyData.shownAll, listText_nil]
      exact ReprK.listEmpty h1 h2 h3
    | cons x l => exact ReprK.list h1 h2 h3 hna (by simpa using hk.length_eq) (fun i y e => hk.item i y (by simpa using e))
  · intro b eb
    cases eb
    refine ⟨"list", "list.__repr__", F.slot_list_repr.toG, F.slot_list_str, F.slot_list_format, fun s hk0 => ⟨o, hk0 _ _ h1, h2⟩, fun A E s Q hg hu hk0 hQ => ?_⟩
    simp only [PyData.depth] at hu
    simp only [PyData.shown] at hQ hz
    cases l with
    | nil =>
      cases r'
      simp only [PyData.shownAll, listText_nil] at hQ
      exact call_list_repr_empty ⟨o, hk0 _ _ h1, h2⟩ (hk0 _ _ h1) h3 (hQ s.heap _ _ fun _ _ e => e)
    | cons x l => exact call_list_reprK h1 h2 h3 hna (by simpa using hk.length_eq) (fun i y e => hk.item i y (by simpa using e)) hg (fun b _ => Clear.nil b) hu hk0 hQ hz
theorem shw_tuple {a : Addr} {o : Obj} {l : List Value} {n : Nat} {xs : List PyData} (h1 : h.get? a = some o) (h2 : o.cls = .type "tuple") (h3 : o.data = .seq l.toArray n) (y : ShwAll P w h l xs)
    (hz : (PyData.shown (.tuple xs)).length ≤ sizeLine) : Shw P w h (.ref a) (.tuple xs) := by
  obtain ⟨as, bs, r', hb, hk⟩ := y
  have r : Reads h (.ref a) (.tuple xs) as := .tuple h1 h2 h3 r'
  have hna : a ∉ bs := not_mem_of_deeper r (by simp only [PyData.depth]; omega) hb
  refine ⟨_, a :: bs, r, ReadAtMost.cons r (by simp only [PyData.depth]; omega) hb, ?_, ?_⟩
  · simp only [PyData.depth, PyData.shown]
    exact ReprK.tuple h1 h2 h3 hna hk
  · intro b eb
    cases eb
    refine ⟨"tuple", "tuple.__repr__", F.slot_tuple_repr, F.slot_tuple_str, F.slot_tuple_format, fun s hk0 => ⟨o, hk0 _ _ h1, h2⟩, fun A E s Q hg hu hk0 hQ => ?_⟩
    simp only [PyData.depth] at hu
    simp only [PyData.shown] at hQ hz
    exact call_tuple_reprK h1 h2 h3 hna hk hg (fun b _ => Clear.nil b) hu hk0 hQ hz
theorem shw_dict {a : Addr} {o : Obj} {es : List DictEntry} {n : Nat} {kvs : List (PyData × PyData)} (h1 : h.get? a = some o) (h2 : o.cls = .type "dict") (h3 : o.data = .dict es.toArray n) (hsys : (a == sysModules) = false)
    (y : ShwAll P w h (es.map (·.key)) (kvs.map (·.1))) (z : ShwAll P w h (es.map (·.val)) (kvs.map (·.2)))
    (hz : (PyData.shown (.dict kvs)).length ≤ sizeLine) : Shw P w h (.ref a) (.dict kvs) := by
  obtain ⟨as, b1, r1, hb1, k1⟩ := y
  obtain ⟨as', b2, r2, hb2, k2⟩ := z
  have r : Reads h (.ref a) (.dict kvs) _ := .dict h1 h2 h3 r1 r2
  have hb : ReadAtMost h (PyData.depthKv kvs) (b1 ++ b2) := (hb1.mono (PyData.depthAll_keys_le kvs)).append (hb2.mono (PyData.depthAll_vals_le kvs))
  have hna : a ∉ b1 ++ b2 := not_mem_of_deeper r (by simp only [PyData.depth]; omega) hb
  have hE := ReprEntriesK.of_two (prog := P) (w := w) es _ _ (k1.more_le (fun b hb => List.mem_append_left _ hb) (PyData.depthAll_keys_le kvs)) (k2.more_le (fun b hb => List.mem_append_right _ hb) (PyData.depthAll_vals_le kvs))
  refine ⟨_, a :: (b1 ++ b2), r, ReadAtMost.cons r (by simp only [PyData.depth]; omega) hb, ?_, ?_⟩
  · simp only [PyData.depth, PyData.shown, PyData.shownKv_eq]
    exact ReprK.dict h1 h2 h3 hsys hna hE
  · intro b eb
    cases eb
    refine ⟨"dict", "dict.__repr__", F.slot_dict_repr, F.slot_dict_str, F.slot_dict_format, fun s hk0 => ⟨o, hk0 _ _ h1, h2⟩, fun A E s Q hg hu hk0 hQ => ?_⟩
    simp only [PyData.depth] at hu
    simp only [PyData.shown, PyData.shownKv_eq] at hQ hz
    exact call_dict_reprK h1 h2 h3 hsys hna hE hg (fun b _ => Clear.nil b) hu hk0 hQ hz
theorem shw_int {i : Int} {t : Tok} (hs : i.natAbs.log2 < 1920) : Shw P w h (.int i t) (.int i) :=
  ⟨_, [], .int i t, fun _ h => (nomatch h), by simp only [PyData.shown]; exact .of_is (ReprIs.int t hs) _ _ _, fun a e => nomatch e⟩
theorem shw_str {x : Str} {t : Tok} (hz : (reprText x).length ≤ sizeLine) : Shw P w h (.str x t) (.str x) :=
  ⟨_, [], .str x t, fun _ h => (nomatch h), by simp only [PyData.shown]; exact .of_is (ReprIs.str x t hz) _ _ _, fun a e => nomatch e⟩
theorem shw_none : Shw P w h .none .none := ⟨_, [], .none, fun _ h => (nomatch h), by simp only [PyData.shown]; exact .of_is ReprIs.none _ _ _, fun a e => nomatch e⟩
theorem shw_bool (b : Bool) : Shw P w h (.bool b) (.bool b) := ⟨_, [], .bool b, fun _ h => (nomatch h), by simp only [PyData.shown]; exact .of_is (ReprIs.bool b) _ _ _, fun a e => nomatch e⟩
end
/- what can be shown, to depth n -/
def kshw : Key → Bool
  | .inl i => decide (i.natAbs.log2 < 1920)
  | .inr _ => true
mutual
def shw : Nat → D → Bool
  | _, .non => true
  | _, .bl _ => true
  | _, .int i => decide (i.natAbs.log2 < 1920)
  | _, .str _ => true
  | n + 1, .lst xs => shws n xs
  | n + 1, .tup xs => shws n xs
  | n + 1, .dic kvs => shwk n kvs
  | n + 2, .dit kvs => shwt (n + 1) kvs
  | _, _ => false
def shws : Nat → List D → Bool
  | _, [] => true
  | n, d :: ds => shw n d && shws n ds
def shwk : Nat → List (Key × D) → Bool
  | _, [] => true
  | n, (k, d) :: ds => kshw k && shw n d && shwk n ds
def shwt : Nat → List (List Key × D) → Bool
  | _, [] => true
  | n, (k, d) :: ds => k.all kshw && shw n d && shwt n ds
end
/-- the text of a datum -/
def shn (d : D) : Str := (pd d).shown
section
variable {X : Cx} {pins : List (Addr × Obj)} {σ : L2.St} {H : Hp} {s : Shared} {β : List Addr}
theorem pdk_fst : ∀ kvs : List (Key × D), (pdk kvs).map (·.1) = kvs.map fun p => keyP p.1
  | [] => rfl
  | (k, d) :: r => by simp [pdk, pdk_fst r]
theorem pdk_snd : ∀ kvs : List (Key × D), (pdk kvs).map (·.2) = pds (kvs.map (·.2))
  | [] => rfl
  | (k, d) :: r => by simp [pdk, pds, pdk_snd r]
theorem pdt_fst : ∀ kvs : List (List Key × D), (pdt kvs).map (·.1) = kvs.map fun p => PyData.tuple (p.1.map keyP)
  | [] => rfl
  | (k, d) :: r => by simp [pdt, pdt_fst r]
theorem pdt_snd : ∀ kvs : List (List Key × D), (pdt kvs).map (·.2) = pds (kvs.map (·.2))
  | [] => rfl
  | (k, d) :: r => by simp [pdt, pds, pdt_snd r]
theorem shw_key {h : Heap} {k : Key} {v : Value} (hk : keyIs k v = true) (hs : kshw k = true) (hz : (keyP k).shown.length ≤ sizeLine) : Shw X.prog X.w h v (keyP k) := by
  rcases keyIs_shape hk with ⟨i, t, rfl, rfl⟩ | ⟨x, t, rfl, rfl⟩
  · exact shw_int (by simpa [kshw] using hs)
  · exact shw_str (by simpa only [keyP, PyData.shown] using hz)
theorem shown_mem {d : PyData} {ds : List PyData} (h : d ∈ ds) : d.shown ∈ PyData.shownAll ds := by
  induction ds with
  | nil => exact nomatch h
  | cons x ds ih =>
    simp only [PyData.shownAll]
    rcases List.mem_cons.mp h with e | e
    · rw [e]; exact List.mem_cons_self ..
    · exact List.mem_cons_of_mem _ (ih e)
mutual
theorem rep_shw (I : L2.Inv X pins σ H s) : ∀ {n : Nat} {d : D} {v : V} {u : Value}, shw n d = true → Rep X.K H β v d → RelV v u → (pd d).shown.length ≤ sizeLine → Shw X.prog X.w s.heap u (pd d) ∧ (pd d).depth ≤ n
  | n, .non, _, _, h, r, rv, hz => by cases r; cases rv; exact ⟨shw_none, Nat.zero_le _⟩
  | n, .bl b, _, _, h, r, rv, hz => by cases r; cases rv; exact ⟨shw_bool b, Nat.zero_le _⟩
  | n, .int i, _, _, h, r, rv, hz => by
    cases r
    obtain ⟨t, rfl⟩ := rv
    exact ⟨shw_int (by simpa [shw] using h), Nat.zero_le _⟩
  | n, .str x, _, _, h, r, rv, hz => by
    cases r
    obtain ⟨t, rfl⟩ := rv
    exact ⟨shw_str (by simpa only [pd, PyData.shown] using hz), Nat.zero_le _⟩
  | 0, .lst xs, _, _, h, r, rv, hz => by simp [shw] at h
  | 0, .tup xs, _, _, h, r, rv, hz => by simp [shw] at h
  | 0, .dic xs, _, _, h, r, rv, hz => by simp [shw] at h
  | 0, .dit xs, _, _, h, r, rv, hz => by simp [shw] at h
  | 1, .dit xs, _, _, h, r, rv, hz => by simp [shw] at h
  | n + 1, .lst xs, _, _, h, r, rv, hz => by
    cases r with
    | lst h1 h2 =>
      cases rv
      obtain ⟨its, rr, ⟨o, m, e1, e2, e3, e4⟩, _⟩ := I.list (.inl (.inl h1))
      have hz' : (listText (PyData.shownAll (pds xs))).length ≤ sizeLine := by simpa only [pd, PyData.shown] using hz
      obtain ⟨a, b⟩ := reps_shw I (n := n) (by simpa [shw] using h) h2 rr fun t ht => Nat.le_trans (listText_mem_le ht) hz'
      refine ⟨?_, by simp only [pd, PyData.depth]; omega⟩
      simp only [pd]
      exact shw_list e1 e2 e4 a (by simpa only [pd] using hz)
  | n + 1, .tup xs, _, _, h, r, rv, hz => by
    cases r with
    | tup h1 h2 =>
      cases rv
      obtain ⟨its, rr, ⟨o, e1, e2, m, e4⟩, _⟩ := I.tuple h1
      have hz' : (tupleText (PyData.shownAll (pds xs))).length ≤ sizeLine := by simpa only [pd, PyData.shown] using hz
      obtain ⟨a, b⟩ := reps_shw I (n := n) (by simpa [shw] using h) h2 rr fun t ht => Nat.le_trans (tupleText_mem_le ht) hz'
      refine ⟨?_, by simp only [pd, PyData.depth]; omega⟩
      simp only [pd]
      exact shw_tuple e1 e2 e4 a (by simpa only [pd] using hz)
  | n + 1, .dic kvs, _, _, h, r, rv, hz => by
    cases r with
    | dic h1 h2 =>
      cases rv
      obtain ⟨_, hsys, vs, kv, o, es, ep, e1, e2, e3, _, pr, _⟩ := I.hok _ _ h1
      have hz' : (dictText (PyData.shownKv (pdk kvs))).length ≤ sizeLine := by simpa only [pd, PyData.shown] using hz
      obtain ⟨a, b, c⟩ := repk_shw I (n := n) (by simpa [shw] using h) h2 kv pr (fun t ht => let ⟨p, hp, hl⟩ := PyData.shownKv_key_le _ t ht; Nat.le_trans hl (Nat.le_trans (dictText_mem_le hp) hz'))
        fun t ht => let ⟨p, hp, hl⟩ := PyData.shownKv_val_le _ t ht; Nat.le_trans hl (Nat.le_trans (dictText_mem_le hp) hz')
      refine ⟨?_, by simp only [pd, PyData.depth]; omega⟩
      simp only [pd]
      obtain ⟨es⟩ := es
      exact shw_dict e1 e2.1 e3 hsys a b (by simpa only [pd] using hz)
  | n + 2, .dit kvs, _, _, h, r, rv, hz => by
    cases r with
    | dit h1 h2 =>
      cases rv
      obtain ⟨_, hsys, xs, pp, o, es, ep, e1, e2, e3, e4, _⟩ := I.hok _ _ h1
      have hz' : (dictText (PyData.shownKv (pdt kvs))).length ≤ sizeLine := by simpa only [pd, PyData.shown] using hz
      obtain ⟨a, b, c⟩ := rept_shw I (n := n) (by simpa [shw] using h) h2 pp (fun t ht => let ⟨p, hp, hl⟩ := PyData.shownKv_key_le _ t ht; Nat.le_trans hl (Nat.le_trans (dictText_mem_le hp) hz'))
        fun t ht => let ⟨p, hp, hl⟩ := PyData.shownKv_val_le _ t ht; Nat.le_trans hl (Nat.le_trans (dictText_mem_le hp) hz')
      refine ⟨?_, by simp only [pd, PyData.depth]; omega⟩
      simp only [pd]
      obtain ⟨es⟩ := es
      have e4' : es = xs.map (entryOfKey (tupleKind (mixKind X.prog X.w))) := e4
      subst e4'
      exact shw_dict e1 e2.1 e3 hsys a b (by simpa only [pd] using hz)
  | n, .ro xs, _, _, h, r, _, _ => by cases n <;> simp [shw] at h
  | n, .ref m, _, _, h, r, _, _ => by cases n <;> simp [shw] at h
theorem reps_shw (I : L2.Inv X pins σ H s) : ∀ {n : Nat} {ds : List D} {vs : List V} {us : List Value}, shws n ds = true → Reps X.K H β vs ds → Vals vs us → (∀ t ∈ PyData.shownAll (pds ds), t.length ≤ sizeLine) →
    ShwAll X.prog X.w s.heap us (pds ds) ∧ PyData.depthAll (pds ds) ≤ n
  | n, [], _, _, h, r, rv, hz => by cases r; cases rv; exact ⟨shwAll_nil, Nat.zero_le _⟩
  | n, d :: ds, _, _, h, r, rv, hz => by
    cases r with
    | cons r1 r2 =>
      cases rv with
      | cons q1 q2 =>
        have h' : shw n d = true ∧ shws n ds = true := by simpa [shws] using h
        simp only [pds, PyData.shownAll] at hz
        obtain ⟨a, b⟩ := rep_shw I h'.1 r1 q1 (hz _ (List.mem_cons_self ..))
        obtain ⟨a', b'⟩ := reps_shw I h'.2 r2 q2 fun t ht => hz t (List.mem_cons_of_mem _ ht)
        exact ⟨shwAll_cons a a', by simp only [pds, PyData.depthAll]; omega⟩
theorem repk_shw (I : L2.Inv X pins σ H s) : ∀ {n : Nat} {ds : List (Key × D)} {kvs : List (Key × V)} {vs : List (Key × Value)} {es : List DictEntry}, shwk n ds = true → RepK X.K H β kvs ds → KV kvs vs → Pairs (mixKind X.prog X.w) es vs →
    (∀ t ∈ PyData.shownAll ((pdk ds).map (·.1)), t.length ≤ sizeLine) → (∀ t ∈ PyData.shownAll ((pdk ds).map (·.2)), t.length ≤ sizeLine) →
    ShwAll X.prog X.w s.heap (es.map (·.key)) ((pdk ds).map (·.1)) ∧ ShwAll X.prog X.w s.heap (es.map (·.val)) ((pdk ds).map (·.2)) ∧ PyData.depthKv (pdk ds) ≤ n
  | n, [], _, _, _, h, r, kv, pr, hz, hz' => by cases r; cases kv; cases pr; exact ⟨shwAll_nil, shwAll_nil, Nat.zero_le _⟩
  | n, (k, d) :: ds, _, _, _, h, r, kv, pr, hz, hz' => by
    cases r with
    | cons r1 r2 =>
      cases kv with
      | cons q1 q2 =>
        cases pr with
        | cons p1 p2 p3 =>
          have h' : (kshw k = true ∧ shw n d = true) ∧ shwk n ds = true := by simpa [shwk] using h
          simp only [pdk, List.map_cons, PyData.shownAll] at hz hz'
          obtain ⟨e1, e2⟩ := q1
          obtain ⟨a, b⟩ := rep_shw I h'.1.2 r1 e2 (hz' _ (List.mem_cons_self ..))
          obtain ⟨a1, a2, b'⟩ := repk_shw I h'.2 r2 q2 p3 (fun t ht => hz t (List.mem_cons_of_mem _ ht)) fun t ht => hz' t (List.mem_cons_of_mem _ ht)
          rw [← p2] at a
          rw [← e1] at p1
          refine ⟨shwAll_cons (shw_key (k := k) p1 h'.1.1 (hz _ (List.mem_cons_self ..))) a1, shwAll_cons a a2, ?_⟩
          have kd : (keyP k).depth = 0 := by cases k <;> rfl
          simp only [pdk, PyData.depthKv]
          omega
theorem rept_shw (I : L2.Inv X pins σ H s) : ∀ {n : Nat} {ds : List (List Key × D)} {kvs : List (List Key × V)} {xs : List (List Key × Addr × Value)}, shwt (n + 1) ds = true → RepT X.K H β kvs ds →
    Paired (fun (p : List Key × V) (q : List Key × Addr × Value) => p.1 = q.1 ∧ H q.2.1 = some (.tup (p.1.map kV)) ∧ RelV p.2 q.2.2) kvs xs →
    (∀ t ∈ PyData.shownAll ((pdt ds).map (·.1)), t.length ≤ sizeLine) → (∀ t ∈ PyData.shownAll ((pdt ds).map (·.2)), t.length ≤ sizeLine) →
    ShwAll X.prog X.w s.heap ((xs.map (entryOfKey (tupleKind (mixKind X.prog X.w)))).map (·.key)) ((pdt ds).map (·.1)) ∧ ShwAll X.prog X.w s.heap ((xs.map (entryOfKey (tupleKind (mixKind X.prog X.w)))).map (·.val)) ((pdt ds).map (·.2)) ∧ PyData.depthKv (pdt ds) ≤ n + 1
  | n, [], _, _, h, r, pp, hz, hz' => by cases r; cases pp; exact ⟨shwAll_nil, shwAll_nil, Nat.zero_le _⟩
  | n, (k, d) :: ds, _, _, h, r, pp, hz, hz' => by
    cases r with
    | cons r1 r2 =>
      cases pp with
      | cons q1 q2 =>
        have h' : (k.all kshw = true ∧ shw (n + 1) d = true) ∧ shwt (n + 1) ds = true := by simpa [shwt] using h
        simp only [pdt, List.map_cons, PyData.shownAll] at hz hz'
        obtain ⟨e1, e2, e3⟩ := q1
        obtain ⟨a, b⟩ := rep_shw I h'.1.2 r1 e3 (hz' _ (List.mem_cons_self ..))
        obtain ⟨a1, a2, b'⟩ := rept_shw I h'.2 r2 q2 (fun t ht => hz t (List.mem_cons_of_mem _ ht)) fun t ht => hz' t (List.mem_cons_of_mem _ ht)
        have hzk := hz _ (List.mem_cons_self ..)
        have hzk' : (tupleText (PyData.shownAll (k.map keyP))).length ≤ sizeLine := by simpa only [PyData.shown] using hzk
        obtain ⟨_, its, rr, o, f1, f2, m, f4⟩ := I.hok _ _ e2
        obtain ⟨c1, c2⟩ := keys_shw k h'.1.1 rr (fun t ht => Nat.le_trans (tupleText_mem_le ht) hzk')
        refine ⟨shwAll_cons (shw_tuple f1 f2 f4 c1 hzk) a1, shwAll_cons a a2, ?_⟩
        simp only [pdt, PyData.depthKv, PyData.depth]
        omega
theorem keys_shw : ∀ (ks : List Key) {us : List Value}, ks.all kshw = true → Vals (ks.map kV) us → (∀ t ∈ PyData.shownAll (ks.map keyP), t.length ≤ sizeLine) →
    ShwAll X.prog X.w s.heap us (ks.map keyP) ∧ PyData.depthAll (ks.map keyP) = 0
  | [], _, h, r, hz => by cases r; exact ⟨shwAll_nil, rfl⟩
  | k :: ks, _, h, r, hz => by
    have h' : kshw k = true ∧ ks.all kshw = true := by simpa using h
    cases r with
    | cons r1 r2 =>
      simp only [List.map_cons, PyData.shownAll] at hz
      obtain ⟨a, b⟩ := keys_shw ks h'.2 r2 fun t ht => hz t (List.mem_cons_of_mem _ ht)
      have kd : (keyP k).depth = 0 := by cases k <;> rfl
      refine ⟨shwAll_cons (shw_key ?_ h'.1 (hz _ (List.mem_cons_self ..))) a, by simp only [List.map_cons, PyData.depthAll]; omega⟩
      cases k with
      | inl i =>
        obtain ⟨t, rfl⟩ := r1
        exact keyIs_int i t
      | inr x =>
        obtain ⟨t, rfl⟩ := r1
        exact keyIs_str x t
end
/-- repr -/
def rRepr : RDs := fun xs S Q => match xs with
  | [x] => shw 60 (drf S x) = true ∧ (shn (drf S x)).length ≤ sizeLine ∧ Q (.str (shn (drf S x))) S
  | _ => False
theorem c_repr (hg : X.A.guards = some []) (hu : X.A.units + 64 < cLine) : CallR X (.builtin "repr") (ls X.K rRepr) := by
  intro pins s σ H xs us Q I rv ⟨Y, β, S, ds, Q', o, rs, h, k⟩
  unfold rRepr at h
  split at h
  · rename_i x
    obtain ⟨v, rfl, r⟩ := rs.one
    obtain ⟨h1, h2, q⟩ := h
    have fin := k _ S _ β H (.refl o) (.str _) q
    have r' := o.drf r
    generalize drf S x = y at h1 h2 q fin r'
    cases rv with
    | cons rv rn =>
      cases rn
      obtain ⟨⟨as, bs, rd, _, _, hs⟩, hd⟩ := rep_shw I h1 r' rv h2
      have fin' : ∀ t s', L2.Inv X pins σ H s' → EP X pins σ Q (.str (shn y) t) s' := fun t s' I' => ⟨.str (shn y), H, I', ⟨t, rfl⟩, fin⟩
      cases hy : y with
      | non =>
        subst hy
        cases r'
        cases rv
        exact P.repr_of_none (fin' _ _ (I.tok _))
      | bl b =>
        subst hy
        cases r'
        cases rv
        exact P.repr_of_bool (fin' _ _ (I.tok _))
      | int i =>
        subst hy
        cases r'
        obtain ⟨t, rfl⟩ := rv
        exact P.repr_of_int (by simpa [shw] using h1) (fin' _ _ (I.tok _))
      | str z =>
        subst hy
        cases r'
        obtain ⟨t, rfl⟩ := rv
        exact P.repr_of_str (fin' _ _ (I.tok _)) h2
      | ref m => subst hy; simp [shw] at h1
      | ro m => subst hy; simp [shw] at h1
      | _ =>
        subst hy
        cases r'
        cases rv
        obtain ⟨T, idr, sh⟩ := hs _ rfl
        exact call_repr_slot (by omega) (sh.typeIs s fun _ _ e => e) sh.slotRepr (sh.call X.A.in1 _ s _ hg (by show X.A.units + 1 + _ < cLine; omega) (fun _ _ e => e) fun h' u tk hk => ⟨_, _, rfl, fin' _ _ (I.kept (t' := tk) hk)⟩)
  · exact h.elim
end
end NC

set_option Elab.async false
set_option linter.all false
set_option maxRecDepth 100000
set_option maxHeartbeats 1000000
/-! NC9: None tests, list methods, dict displays, a dict beside a list, chains. -/
namespace NC
open PySem PySem.Spec PyProof.Rows L2
open Evl (Ex)
open MeetsSeq SeqAt AutoSeq1

section
variable {X : Cx}
/-! is None -/
def isN : D → Bool
  | .non => true
  | _ => false
theorem isN_v {K : PySem.W.Frag} {B : Hp} {β : List Addr} {v : V} {d : D} (r : Rep K B β v d) : decide (v = .non) = isN d := by
  cases r <;> rfl
def rIs : RD2 := fun x y S Q => y = .non ∧ Q (.bl (isN x)) S
def rIsn : RD2 := fun x y S Q => y = .non ∧ Q (.bl (!isN x)) S
theorem o_is : OpR X (compareOp .Is) (l2 X.K rIs) := by
  intro pins s σ H x y v u Q I rx ry ⟨Y, β, S, dx, dy, Q', o, r1, r2, ⟨ey, q⟩, k⟩
  subst ey
  cases r2
  exact op_isN pins s σ H _ _ v u Q I rx ry ⟨rfl, by rw [isN_v r1]; exact k _ S _ β H (.refl o) (.bl _) q⟩
theorem o_isn : OpR X (compareOp .IsNot) (l2 X.K rIsn) := by
  intro pins s σ H x y v u Q I rx ry ⟨Y, β, S, dx, dy, Q', o, r1, r2, ⟨ey, q⟩, k⟩
  subst ey
  cases r2
  exact op_notN pins s σ H _ _ v u Q I rx ry ⟨rfl, by rw [isN_v r1]; exact k _ S _ β H (.refl o) (.bl _) q⟩
/-! chains -/
variable {a b c : Expr} {ta tb tc : TD} {pos : Pos}
theorem de_chain {op op' : CmpOp} {r r' : RD2} (ho : OpR X (compareOp op) (l2 X.K r)) (ho' : OpR X (compareOp op') (l2 X.K r')) (ha : PE X a (tE X.K ta)) (hb : PE X b (tE X.K tb)) (hc : PE X c (tE X.K tc))
    (hm : lastMarks [op, op'] [b, c] = false := by with_unfolding_all rfl) : PE X (.Compare a [op, op'] [b, c] pos) (tE X.K (eChain r r' ta tb tc)) :=
  (pe_chain ho ho' ha hb hc hm).imp fun σ H Q ⟨Y, β, S, ρ, Q', rl, q, k⟩ => ⟨Y, β, S, ρ, _, rl, q, fun x S1 v β1 H1 s1 r1 q1 =>
    ⟨Y, β1, S1, ρ, _, rl.step s1, q1, fun y S2 u β2 H2 s2 r2 q2 => ⟨Y, β2, S2, x, y, _, s2.ok, s2.rep r1, r2, q2, fun z S3 w β3 H3 s3 r3 ⟨kk, ez, q3⟩ => by
      subst ez
      cases r3
      refine ⟨kk, rfl, ?_⟩
      cases kk with
      | true => exact ⟨Y, β3, S3, ρ, _, ((rl.step s1).step s2).step s3, q3, fun w S4 wv β4 H4 s4 r4 q4 => ⟨Y, β4, S4, y, w, Q', s4.ok, s4.rep (s3.rep r2), r4, q4,
          fun d S5 dv β5 H5 s5 r5 q5 => k d S5 dv β5 H5 ((((s1.trans s2).trans s3).trans s4).trans s5) r5 q5⟩⟩
      | false => exact k _ S3 _ β3 H3 ((s1.trans s2).trans s3) (.bl _) q3⟩⟩⟩
/-! methods of a list of the store -/
def rApp : RDm := fun x xs S Q => ∃ n ys y, x = .ref n ∧ xs = [y] ∧ S[n]? = some (some (.lst ys)) ∧ ys.length < sizeLine ∧ Q .non (S.set n (some (.lst (ys ++ [y]))))
def rIns : RDm := fun x xs S Q => ∃ n ys i y, x = .ref n ∧ xs = [.int i, y] ∧ S[n]? = some (some (.lst ys)) ∧ ys.length < sizeLine ∧ 0 ≤ i ∧ i < 2 ^ 63 ∧ Q .non (S.set n (some (.lst (ys.take i.toNat ++ [y] ++ ys.drop i.toNat))))
def rPop0 : RDm := fun x xs S Q => ∃ n ys y, x = .ref n ∧ xs = [] ∧ S[n]? = some (some (.lst ys)) ∧ ys[ys.length - 1]? = some y ∧ Q y (S.set n (some (.lst ys.dropLast)))
theorem ref_at {K : PySem.W.Frag} {Y β : List Addr} {S : Store} {H : Hp} {n : Nat} {v : V} {ys : List D} (o : Ok K Y β S H) (r : Rep K (hid Y β S H) β v (.ref n)) (h : S[n]? = some (some (.lst ys))) :
    ∃ a us, v = .ref a ∧ β[n]? = some a ∧ H a = some (.lst us) ∧ Reps K (hid Y β S H) β us ys := by
  obtain ⟨a, e1, us, h1, h2⟩ := o.obj n _ h
  cases r with
  | ref e2 =>
    rw [e1] at e2
    cases e2
    exact ⟨a, us, rfl, e1, h1, h2⟩
theorem m_app : MtR X "list.append" (lm X.K rApp) := by
  intro pins s σ H x vs v us Q I rx rv ⟨Y, β, S, dx, xs, Q', o, r1, rs, ⟨n, ys, y, ex, exs, hS, hl, q⟩, k⟩
  subst ex
  subst exs
  obtain ⟨a, ws, rfl, e1, h1, rr⟩ := ref_at o r1 hS
  obtain ⟨w, rfl, rw1⟩ := rs.one
  have st := o.put hS e1 (rr.append (.cons rw1 .nil))
  exact mt_append pins s σ H _ _ v us Q I rx rv ⟨a, ws, w, rfl, rfl, h1, by rw [rr.len]; exact hl, k _ _ _ _ _ st .non q⟩
theorem m_ins : MtR X "list.insert" (lm X.K rIns) := by
  intro pins s σ H x vs v us Q I rx rv ⟨Y, β, S, dx, xs, Q', o, r1, rs, ⟨n, ys, i, y, ex, exs, hS, hl, h0, h63, q⟩, k⟩
  subst ex
  subst exs
  obtain ⟨a, ws, rfl, e1, h1, rr⟩ := ref_at o r1 hS
  obtain ⟨w1, w2, rfl, ri, rw1⟩ := rs.two
  cases ri
  have st := o.put hS e1 (((rr.take i.toNat).append (.cons rw1 .nil)).append (rr.drop i.toNat))
  exact mt_insert pins s σ H _ _ v us Q I rx rv ⟨a, ws, i, w2, rfl, rfl, h1, by rw [rr.len]; exact hl, h0, h63, k _ _ _ _ _ st .non q⟩
theorem m_pop0 : MtR X "list.pop" (lm X.K rPop0) := by
  intro pins s σ H x vs v us Q I rx rv ⟨Y, β, S, dx, xs, Q', o, r1, rs, ⟨n, ys, y, ex, exs, hS, hy, q⟩, k⟩
  subst ex
  subst exs
  obtain ⟨a, ws, rfl, e1, h1, rr⟩ := ref_at o r1 hS
  cases rs
  obtain ⟨w, ew, rw1⟩ := rr.get hy
  have rd : Reps X.K (hid Y β S H) β ws.dropLast ys.dropLast := by
    rw [List.dropLast_eq_take, List.dropLast_eq_take, rr.len]
    exact rr.take _
  have st := o.put hS e1 rd
  exact mt_pop pins s σ H _ _ v us Q I rx rv ⟨a, ws, w, rfl, rfl, h1, by rw [rr.len]; exact ew, k _ _ _ _ _ st (st.rep rw1) q⟩
/-! dict displays -/
theorem de_dnew : PE X (.Dict [] [] pos) (tE X.K (eC (.dic []))) := pe_dnewK.imp fun σ H Q ⟨Y, β, S, ρ, Q', rl, q, k⟩ => fun p hp =>
  k _ S _ β _ (rl.ok.new _ hp) (.dic (rl.ok.new_at _ hp) .nil) q
/-- {key: value, ..}, keys ints or texts, written as constants -/
def putD (kvs : List (Key × D)) (k : Key) (v : D) : List (Key × D) :=
  if (kvs.any fun p => decide (p.1 = k)) = true then kvs.map (fun p => if p.1 = k then (p.1, v) else p) else kvs ++ [(k, v)]
def kD : Key → D
  | .inl i => .int i
  | .inr x => .str x
def dispD : List (Key × TD) → Rho → Store → (List D → Store → Prop) → Prop
  | [], _, S, Q => Q [] S
  | p :: ps, ρ, S, Q => p.2 ρ S fun d S1 => dispD ps ρ S1 fun ds S2 => Q (d :: ds) S2
def zipD (ps : List (Key × TD)) (ds : List D) : List (Key × D) := List.zipWith (fun p d => (p.1, d)) ps ds
def eDisp (ps : List (Key × TD)) : TD := fun ρ S Q => dispD ps ρ S fun ds S1 => Q (.dic ((zipD ps ds).foldl (fun acc kv => putD acc kv.1 kv.2) [])) S1
theorem RepK.any {K : PySem.W.Frag} {B : Hp} {β : List Addr} {p : Key → Bool} : ∀ {ds : List (Key × D)} {kvs : List (Key × V)}, RepK K B β kvs ds → (kvs.any fun x => p x.1) = ds.any fun x => p x.1
  | [], _, h => by cases h; rfl
  | d :: ds, _, h => by
    cases h with
    | cons h1 h2 => simp [RepK.any (p := p) h2]
theorem RepK.upd' {K : PySem.W.Frag} {B : Hp} {β : List Addr} {k : Key} {v : V} {d : D} (r : Rep K B β v d) : ∀ {ds : List (Key × D)} {kvs : List (Key × V)}, RepK K B β kvs ds →
    RepK K B β (kvs.map fun x => if x.1 = k then (x.1, v) else x) (ds.map fun x => if x.1 = k then (x.1, d) else x)
  | [], _, h => by cases h; exact .nil
  | (k', e) :: ds, _, h => by
    cases h with
    | cons h1 h2 =>
      rw [List.map_cons, List.map_cons]
      by_cases hk : k' = k
      · rw [if_pos hk, if_pos hk]
        exact .cons r (RepK.upd' r h2)
      · rw [if_neg hk, if_neg hk]
        exact .cons h1 (RepK.upd' r h2)
theorem RepK.snoc {K : PySem.W.Frag} {B : Hp} {β : List Addr} {k : Key} {v : V} {d : D} (r : Rep K B β v d) : ∀ {ds : List (Key × D)} {kvs : List (Key × V)}, RepK K B β kvs ds → RepK K B β (kvs ++ [(k, v)]) (ds ++ [(k, d)])
  | [], _, h => by cases h; exact .cons r .nil
  | _ :: ds, _, h => by
    cases h with
    | cons h1 h2 => exact .cons h1 (RepK.snoc r h2)
theorem RepK.put {K : PySem.W.Frag} {B : Hp} {β : List Addr} {k : Key} {v : V} {d : D} (r : Rep K B β v d) {ds : List (Key × D)} {kvs : List (Key × V)} (h : RepK K B β kvs ds) : RepK K B β (putK kvs k v) (putD ds k d) := by
  have e := h.any (p := fun x => decide (x = k))
  unfold putK putD
  by_cases q : (ds.any fun x => decide (x.1 = k)) = true
  · rw [if_pos (e.trans q), if_pos q]
    exact RepK.upd' r h
  · rw [if_neg (by rw [e]; exact q), if_neg q]
    exact RepK.snoc r h
theorem RepK.all {K : PySem.W.Frag} {B : Hp} {β : List Addr} : ∀ {ps : List (Key × TD)} {vs : List V} {ds : List D} {kvs : List (Key × V)} {kds : List (Key × D)}, Reps K B β vs ds → RepK K B β kvs kds →
    RepK K B β ((List.zipWith (fun (p : Key × TD) v => (p.1, v)) ps vs).foldl (fun acc kv => putK acc kv.1 kv.2) kvs) ((zipD ps ds).foldl (fun acc kv => putD acc kv.1 kv.2) kds)
  | [], _, _, _, _, r, h => by simpa [zipD] using h
  | p :: ps, _, _, _, _, r, h => by
    cases r with
    | nil => simpa [zipD] using h
    | cons r1 r2 => exact RepK.all (ps := ps) r2 (h.put r1)
theorem pairs_lift : ∀ {ps : List (Key × TD)} {Y β : List Addr} {S : Store} {ρ : Rho} {σ : L2.St} {H : Hp} {K : PySem.W.Frag} {Q : List (V × V) → Hp → Prop} {R : List D → Store → Prop}, Rel K Y β S ρ σ H → dispD ps ρ S R →
    (∀ ds S' vs β' H', Step K Y β S H β' S' H' → Reps K (hid Y β' S' H') β' vs ds → vs.length = ps.length → R ds S' → Q (List.zipWith (fun (p : Key × TD) v => (kV p.1, v)) ps vs) H') →
    tPairs (ps.map fun p => (tE K (eC (kD p.1)), tE K p.2)) σ H Q
  | [], Y, β, S, ρ, σ, H, K, Q, R, rl, h, k => k [] S [] β H (.refl rl.ok) .nil rfl h
  | (ky, t) :: ps, Y, β, S, ρ, σ, H, K, Q, R, rl, h, k => by
    refine ⟨Y, β, S, ρ, fun d S1 => d = kD ky ∧ S1 = S, rl, ⟨rfl, rfl⟩, fun d S1 v β1 H1 s1 r1 ⟨ed, eS⟩ => ?_⟩
    subst ed
    subst eS
    have ev : v = kV ky := by
      cases ky <;> cases r1 <;> rfl
    subst ev
    refine ⟨Y, β1, S1, ρ, _, rl.step s1, h, fun y S2 w β2 H2 s2 r2 q2 => pairs_lift (ps := ps) ((rl.step s1).step s2) q2 fun ds S3 vs β3 H3 s3 r3 hl q3 => ?_⟩
    exact k (y :: ds) S3 (w :: vs) β3 H3 ((s1.trans s2).trans s3) (.cons (s3.rep r2) r3) (by simp [hl]) q3
theorem de_disp {keys : List (Option Expr)} {values : List Expr} {ps : List (Key × TD)} (h : PPs X pos keys values (ps.map fun p => (tE X.K (eC (kD p.1)), tE X.K p.2))) (hall : keys.all (·.isSome) = true) (hl : keys.length = values.length) (h0 : keys ≠ [])
    (h15 : keys.length ≤ 15) (hn : ps.length ≤ 15) : PE X (.Dict keys values pos) (tE X.K (eDisp ps)) :=
  (pe_disp h hall hl h0 h15).imp fun σ H Q ⟨Y, β, S, ρ, Q', rl, q, k⟩ => fun p hp => by
    have hpY : p ∉ Y := fun hm => rl.ok.xtrk p hm hp
    obtain ⟨ok0, ex0⟩ := rl.ok.open hp (.dK [])
    have ne1 : ∀ b, H b ≠ none → b ≠ p := fun b h e => h (e ▸ hp)
    have rl1 : Rel X.K (p :: Y) β S ρ σ (upd H p (.dK [])) := ⟨ok0, rl.len, fun j d e => let ⟨v, e1, r⟩ := rl.get j d e; ⟨v, e1, r.mono ex0 (.refl _)⟩⟩
    refine pairs_lift rl1 q fun ds S1 vs β1 H1 s1 r1 hv q1 => ⟨(s1.ext p (by simp)).trans upd_same, List.zipWith (fun (p : Key × TD) v => (p.1, v)) ps vs, ?_, ?_, ?_⟩
    · rw [List.map_zipWith]
    · rw [List.length_zipWith]
      omega
    · have o1 := s1.ok.touch (.dK (mergeK [] (List.zipWith (fun (p : Key × TD) v => (p.1, v)) ps vs)))
      obtain ⟨ok', ex'⟩ := o1.close
      have eh : hid (p :: Y) β1 S1 (upd H1 p (.dK (mergeK [] (List.zipWith (fun (p : Key × TD) v => (p.1, v)) ps vs)))) = hid (p :: Y) β1 S1 H1 := hid_upd
      have hl' : hid Y β1 S1 (upd H1 p (.dK (mergeK [] (List.zipWith (fun (p : Key × TD) v => (p.1, v)) ps vs)))) p = some (.dK (mergeK [] (List.zipWith (fun (p : Key × TD) v => (p.1, v)) ps vs))) := by
        rw [hid_of hpY fun n o e1 _ => s1.ok.out p (List.mem_of_getElem? e1) (by simp)]
        exact upd_same
      refine k _ S1 _ β1 _ ⟨s1.pre, ?_, fun a ha => ?_, fun a ha => ?_, ok'⟩ (.dic hl' (RepK.all (r1.mono (by rw [← eh]; exact ex') (.refl _)) .nil)) q1
      · exact (ex0.trans s1.ex).trans (by rw [← eh]; exact ex')
      · have e : a ≠ p := fun e => hpY (e ▸ ha)
        rw [upd_ne e, s1.ext a (by simp [ha]), upd_ne e]
      · by_cases e : a = p
        · rw [e, upd_same]
          simp
        · rw [upd_ne e]
          exact s1.trk a (by rw [upd_ne e]; exact ha)
end
/-! a dict beside a list -/
section
variable {A : Around} {s : Shared} {prog : Program} {w : World}
theorem list_dict_declines (l b : Addr) (items : Array Value) (n n2 : Nat) (dd : Option Addr) (sl : Array (Option Value)) (es : Array DictEntry) :
    Meets (Builtin.«list.__eq__» ⟨[.ref l, .ref b], []⟩) (fun _ R s => s.heap.get? l = some { cls := .type "list", dict := dd, data := .seq items n, slots := sl } ∧ s.heap.get? b = some { cls := .type "dict", data := .dict es n2 } ∧ R (.ok (.ret .notImplemented)) s) :=
  .of_wp fun prog w A R s h => by obtain ⟨hp, g, d, tk, os⟩ := s; obtain ⟨hl, hb, h⟩ := h; have f1 := F.sub_dict_list; wp_walk using wpAny_loadPart' hl, wpAny_loadPart' hb; exact ⟨_, rfl, h⟩
theorem dict_list_declines {a b : Addr} {Q : Value → Shared → Prop} {E : Value → Shared → Prop} (ha : s.TypeIs (.ref a) "dict") (hb : s.TypeIs (.ref b) "list") (h : Q .notImplemented s) :
    wpAny (model prog w) A (call (.builtin "dict.__eq__") [.ref a, .ref b]) Q E s := by
  refine wpAny_call_entry F.slot_dict_eq ha F.entry_dict_eq ?_ (F.args_dict_eq_2 _ _)
  refine wpAny_bind (m := Builtin.Dict.dictSlotArgs "__eq__" ⟨[.ref a, .ref b], []⟩) ?_
  unfold Builtin.Dict.dictSlotArgs
  refine wpAny_bind (wpAny_notOrdered_dict ha ?_)
  refine wpAny_bind (m := pure _) (wpAny_pure (wpAny_pure ?_))
  refine wpAny_bind (wpAny_isInstance (T := "list") hb F.sub_list_dict ?_)
  exact wpAny_bind (wpAny_rule (wpAny_pure ⟨_, rfl, h⟩))
theorem eq_dict_list {a b : Addr} {oa : Obj} {items : Array Value} (ha : s.heap.get? a = some oa) (hx : oa.ExactDict) {es : Array DictEntry} {n : Nat} (hd : oa.data = .dict es n) (hb : s.heap.IsList b items) (hu : A.units < cLine) : RcAt A s (.ref a) (.ref b) false := fun prog w E Q h => by
  obtain ⟨⟨cls, dd, data, sl⟩, ho, hc, m, he⟩ := id hb
  simp only at hc he
  subst hc he
  have ta : s.TypeIs (.ref a) "dict" := ⟨oa, ha, hx.1⟩
  have tb : s.TypeIs (.ref b) "list" := ⟨_, ho, rfl⟩
  have ne : a ≠ b := fun e => by
    subst e
    rw [ho] at ha
    cases ha
    exact absurd hx.1 (by simp)
  obtain ⟨ac, ad, adt, asl⟩ := oa
  obtain ⟨x1, x2, x3⟩ := hx
  simp only at x1 x2 x3 hd
  subst x1 x2 x3 hd
  exact rc_eq_decline_or (k := false) ta tb (by decide) F.sub_list_dict F.slot_dict_eq F.slot_list_eq_refl
    (fun _ hq => dict_list_declines ta tb hq)
    (fun _ hq => call_meets F.slot_list_eq_refl tb F.entry_list_eq (F.args_list_eq_2 _ _) (list_dict_declines b a items m n dd sl es) ⟨ho, ha, hq⟩)
    (fun _ hq => wpAny_isSame_ref_other' ne ha ho (by simp) hq) (.inr hu) h
end
/-- the answers of == : plain data, lists of unlike lengths, a dict beside a list -/
def isDict : D → Bool
  | .dic _ => true
  | .dit _ => true
  | _ => false
inductive EqR3 : D → D → Bool → Prop
  | of {x y : D} {b : Bool} : EqR x y b → EqR3 x y b
  | dl {x : D} {ys : List D} : isDict x = true → EqR3 x (.lst ys) false
  | txt {x y : Str} : EqR3 (.str x) (.str y) (decide (x = y))
theorem dec_V {x y : Str} : decide (V.str x = V.str y) = decide (x = y) := by
  by_cases h : x = y
  · rw [h]
    simp
  · rw [decide_eq_false h, decide_eq_false fun e => h (V.str.inj e)]
inductive NeR3 : D → D → Bool → Prop
  | of {x y : D} {b : Bool} : EqR x y b → NeR3 x y b
  | txt {x y : Str} : NeR3 (.str x) (.str y) (decide (x = y))
def rNe3 : RD2 := fun x y S Q => ∃ b, NeR3 (drf S x) (drf S y) b ∧ Q (.bl (!b)) S
theorem op_ne3 {X : Cx} (hu : X.A.units + 64 < cLine) : OpR X (compareOp .NotEq) (l2 X.K rNe3) := by
  intro pins s σ H x y v u Q I rx ry ⟨Y, β, S, dx, dy, Q', o, r1, r2, ⟨b, h, q⟩, k⟩
  have e1 := o.drf r1
  have e2 := o.drf r2
  generalize hx : drf S dx = x' at h e1
  generalize hy : drf S dy = y' at h e2
  cases h with
  | of h => exact op_ne' hu pins s σ H x y v u Q I rx ry ⟨Y, β, S, dx, dy, Q', o, r1, r2, ⟨b, by rw [hx, hy]; exact h, q⟩, k⟩
  | txt =>
    have fin := k _ S _ β H (.refl o) (.bl _) q
    cases e1
    cases e2
    exact op_ne pins s σ H _ _ v u Q I rx ry ⟨rfl, by rw [dec_V]; exact fin⟩
def rEq3 : RD2 := fun x y S Q => ∃ b, EqR3 (drf S x) (drf S y) b ∧ Q (.bl b) S
theorem op_eq3 {X : Cx} (hu : X.A.units + 64 < cLine) : OpR X (compareOp .Eq) (l2 X.K rEq3) := by
  intro pins s σ H x y v u Q I rx ry ⟨Y, β, S, dx, dy, Q', o, r1, r2, ⟨b, h, q⟩, k⟩
  have e1 := o.drf r1
  have e2 := o.drf r2
  generalize hx : drf S dx = x' at h e1
  generalize hy : drf S dy = y' at h e2
  cases h with
  | of h => exact op_eq' hu pins s σ H x y v u Q I rx ry ⟨Y, β, S, dx, dy, Q', o, r1, r2, ⟨b, by rw [hx, hy]; exact h, q⟩, k⟩
  | txt =>
    have fin := k _ S _ β H (.refl o) (.bl _) q
    cases e1
    cases e2
    exact op_eq pins s σ H _ _ v u Q I rx ry ⟨rfl, by rw [dec_V]; exact fin⟩
  | dl hd =>
    have fin := k _ S _ β H (.refl o) (.bl false) q
    cases e2 with
    | lst h3 h4 =>
      cases ry
      obtain ⟨its, l, _⟩ := lists_of I h3
      cases x' with
      | dic ks =>
        cases e1 with
        | dic h1 h2 =>
          cases rx
          obtain ⟨_, _, _, _, ob, es, ep, g1, g2, g3, _⟩ := I.hok _ _ h1
          exact eq_dict_list g1 g2 g3 l (by omega) _ _ _ _ ⟨.bl false, H, I, rfl, fin⟩
      | dit ks =>
        cases e1 with
        | dit h1 h2 =>
          cases rx
          obtain ⟨_, _, _, _, ob, es, ep, g1, g2, g3, _⟩ := I.hok _ _ h1
          exact eq_dict_list g1 g2 g3 l (by omega) _ _ _ _ ⟨.bl false, H, I, rfl, fin⟩
      | _ => simp [isDict] at hd
end NC

set_option Elab.async false
set_option linter.all false
set_option maxRecDepth 100000
set_option maxHeartbeats 1000000
/-! NC10: a law's end. -/
namespace NC
open PySem PySem.Spec PyProof.Rows L2
open Evl (Ex)

theorem hid_nil {S : Store} {H : Hp} : hid [] [] S H = H := by
  funext b
  refine hid_of (by simp) fun n o e _ => ?_
  simp at e
theorem ok_nil {K : PySem.W.Frag} {H : Hp} : Ok K [] [] [] H := ⟨rfl, List.nodup_nil, fun _ h => (nomatch h), fun _ h => (nomatch h), fun _ h => (nomatch h), fun n o e => by simp at e⟩
theorem Reps.ofInts {K : PySem.W.Frag} {B : Hp} {β : List Addr} : ∀ ns : List Int, Reps K B β (ns.map V.int) (ns.map D.int)
  | [] => .nil
  | n :: ns => .cons (.int n) (Reps.ofInts ns)
/-- what is asked of a law's def: at each script it answers True -/
def TrueAt (r : RDs) (n : Nat) : Prop := ∀ ns : List Int, ns.length ≤ n → r [.ro (ns.map D.int)] [] fun d _ => d = .bl true
theorem top_sp {K : PySem.W.Frag} {r : RDs} {n : Nat} (h : TrueAt r n) {H : Hp} {a : Addr} {ns : List Int} (hl : ns.length ≤ n) (hS : SqL K H a (ns.map V.int)) : lsp K r [.ref a] H (fun v _ => v = .bl true) fun _ _ _ => False := by
  refine ⟨[], [], [], [.ro (ns.map D.int)], _, ok_nil, .cons (.ro ?_ (Reps.ofInts ns)) .nil, h ns hl, fun d S v β H' _ r1 e => ?_⟩
  · rw [hid_nil]
    exact hS
  · subst e
    cases r1
    rfl
/-- the law's own call -/
theorem asked {P : Program} {w : World} {K : PySem.W.Frag} {mg mb : Str → Option Value} {k n : Nat} {fa a : Addr} {fd : FuncData} {x : Str} {r : RDs} {s : Shared} {vs : List Value} {ns : List Int}
    (kin : K.In s.heap) (gl : s.heap.Ns mainGlobals mg) (bl : s.heap.Ns builtinsNs mb) (bb : ∀ z : Str, z ≠ "__name__" → mb z = bootBuiltins z) (lim : s.heap.NoLimit) (gens : s.gens = #[])
    (ha : s.heap.get? a = some { cls := .type "list", data := .seq vs.toArray }) (isInts : IntsAre vs ns) (few : ns.length ≤ n) (small : n ≤ sizeLine) (room : Room k callerA)
    (F : ∀ base : Heap, K.In base → base.Ns mainGlobals mg → FnG P w K mg base CX0 k fa fd [x] (lsp K r)) (bind : ∀ (t : Shared) (u : Value), BindsTo t fd ⟨[u], []⟩ [(x, u)]) (ht : TrueAt r n) :
    codeAny (model P w) callerA (.call (.ref fa) ⟨[.ref a], []⟩) (fun z t => z = .ok (.ret (.bool true)) ∧ OldK s.heap t.heap ∧ t.os = s.os ∧ AllBare t.gens) s := by
  have size := isInts.length
  have vals := vals_ints isInts
  have one : ∀ H : Hp, Only H → SqL K H a (ns.map V.int) → HOk P w H s.heap → (∀ b, H b ≠ none → b = a ∧ K.lookup a = none) →
      codeAny (model P w) callerA (.call (.ref fa) ⟨[.ref a], []⟩) (fun z t => z = .ok (.ret (.bool true)) ∧ OldK s.heap t.heap ∧ t.os = s.os ∧ AllBare t.gens) s := by
    intro H only hS hok at_a
    -- what H doesn't track is in the base
    have keep : ∀ {b : Addr} {o : Obj}, s.heap.get? b = some o → (b = a → K.lookup a ≠ none ∨ o.cls ≠ .type "list") → (hidT s.heap H).get? b = some o := fun {b o} e hne => by
      refine hidT_get e (Classical.byContradiction fun q => ?_)
      obtain ⟨eb, kn⟩ := at_a b q
      subst eb
      rcases hne rfl with h | h
      · exact h kn
      · rw [ha] at e
        cases e
        exact h rfl
    have space : ∀ {b : Addr} {m : Str → Option Value}, s.heap.Ns b m → (hidT s.heap H).Ns b m := fun {b m} ⟨o, es, ep, e, d, q⟩ => by
      refine ⟨o, es, ep, keep e fun eb => .inr fun hc => ?_, d, q⟩
      subst eb
      rw [ha] at e
      cases e
      cases d
    have base_in : K.In (hidT s.heap H) := fun b o e => keep (kin b o e) fun eb => .inl (by rw [← eb, e]; simp)
    have module : Mod K mg (hidT s.heap H) := ⟨base_in, space gl, ⟨mb, space bl, bb⟩, by
      obtain ⟨mc, h1, h2⟩ := lim
      exact ⟨mc, space h1, h2⟩⟩
    have env : Env0 P w K mg (hidT s.heap H) callerA [] s H := ⟨rfl, module, fun b o e => of_hidT e, Nat.le_of_eq (hidT_size _ _), trivial, fun b hb => (List.not_mem_nil (show b ∈ ([] : List Addr) from hb)).elim, hok, .of_eq gens⟩
    refine codeAny_mono ((F _ base_in (space gl)).go callerA [] s H ⟨[.ref a], []⟩ [.ref a] [.ref a] _ _ room rfl env (bind s (.ref a)) (.cons rfl .nil) (top_sp ht few hS)) ?_
    rintro (err | fl) t ht
    · exact ht.elim
    · cases fl with
      | ret u =>
        obtain ⟨v, H', os, bare, un, hok', rv, ev⟩ := ht
        have ev' : v = .bl true := ev
        subst ev'
        have eu : u = Value.bool true := rv
        subst eu
        refine ⟨rfl, OldK.of_keep fun b o e => ?_, os, bare⟩
        rcases only b with hn | ⟨ob, xs, hf⟩
        · exact un.keep b o e hn (fun z => (List.not_mem_nil (show b ∈ ([] : List Addr) from z)).elim) (by simp)
        · have before := (hok b _ hf).1
          have after := (hok' b _ (un.frzs b ob _ hf)).1
          rw [e] at before
          cases before
          exact after
      | next => exact ht.elim
      | brk => exact ht.elim
      | cont => exact ht.elim
  cases hk : K.lookup a with
  | some o =>
    have e := kin a o hk
    rw [ha] at e
    cases e
    refine one (fun _ => none) (fun _ => .inl rfl) (.inr ⟨_, vs.toArray, _, hk, rfl, rfl, rfl, ?_, by simpa using vals⟩) (fun b u z => absurd (show (none : Option HO) = some u from z) (by simp)) fun b z => (z rfl).elim
    rw [List.size_toArray, size]
    exact Nat.le_trans few small
  | none =>
    have track : ∀ b u, upd (fun _ => none) a (.frz { cls := .type "list", data := .seq vs.toArray } (.lst (ns.map V.int))) b = some u → b = a ∧ u = .frz { cls := .type "list", data := .seq vs.toArray } (.lst (ns.map V.int)) := fun b u z => by
      by_cases eb : b = a
      · subst eb
        rw [upd_same] at z
        cases z
        exact ⟨rfl, rfl⟩
      · rw [upd_ne eb] at z
        cases z
    refine one (upd (fun _ => none) a (.frz { cls := .type "list", data := .seq vs.toArray } (.lst (ns.map V.int)))) (fun b => ?_) (.inl (.inr ⟨_, upd_same⟩)) (fun b u z => ?_) fun b z => ?_
    · by_cases eb : b = a
      · subst eb
        exact .inr ⟨_, _, upd_same⟩
      · exact .inl (upd_ne eb)
    · obtain ⟨rfl, rfl⟩ := track b u z
      exact ⟨ha, by rw [List.length_map]; exact Nat.le_trans few small, vs, _, vals, ha⟩
    · obtain ⟨u, hu⟩ := Option.ne_none_iff_exists'.mp z
      exact ⟨(track b u hu).1, hk⟩
/-- the goal that k_head leaves -/
theorem end_of {l : PySem.W.OpenLaw} {n k : Nat} {q : Program} {loose : List Str} {XP : (Str → Option Value) → Heap → Prop} {YP : World → Heap → Prop} {d : DefRec} {K : Params → PySem.W.Frag} {r : RDs} {x : Str}
    (most : l.most = some n) (small : n ≤ sizeLine) (nodef : d.params.defaults = []) (room : Room k callerA) (kin : ∀ (w : World) (h : Heap), YP w h → (K w.params).In h) (ht : TrueAt r n)
    (F : ∀ (w : World) (mg : Str → Option Value) (fa : Addr) (h : Heap), (K w.params).In h → h.Ns mainGlobals mg → mg d.name = some (.ref fa) →
      ∃ fd : FuncData, (∀ (s : Shared) (u : Value), BindsTo s fd ⟨[u], []⟩ [(x, u)]) ∧ ∀ base : Heap, (K w.params).In base → base.Ns mainGlobals mg → FnG l.prog w (K w.params) mg base CX0 k fa fd [x] (lsp (K w.params) r)) :
    PySem.W.WalkO q loose XP YP l.row.toRowW d [] (fun f vs => PySem.call f vs) := by
  refine Att.attach_call most nodef fun w s₀ s mg mb fa o pm cd doc a vs ns G Y ho hd hcd hmg hobj hints few gens => ?_
  obtain ⟨fd, hb, hF⟩ := F w mg fa _ (kin w _ Y) G.T.g hmg
  exact asked (kin w _ Y) G.T.g G.T.b G.T.builtins G.T.nolimit gens hobj hints few small room hF hb ht
end NC

set_option Elab.async false
set_option linter.all false
set_option maxRecDepth 100000
set_option maxHeartbeats 1000000
/-! NC11: the rules as a printer writes them. -/
namespace NC
open PySem PySem.Spec PyProof.Rows L2
open Evl (Ex)

section
variable {X : Cx} {e tg iter elt : Expr} {es ifs : List Expr} {x y : Str} {p pos spos py : Pos} {ta te : TD} {tl : TLs} {T id : String} {r : RDs} {i : Nat} {t : Tg} {ts : TSr} {tt : TB} {scope : Scope} {own : List (Str × Nat)}
/-- a built-in function of values -/
theorem de_B (hc : CallR X (.builtin id) (ls X.K r)) (hm : X.mg x = none) (hv : bootBuiltins x = some (.builtin id)) (ha : PA X (e :: es) (tA X.K tl)) (hg : Gl X x := by rfl) (hn : x ≠ "__name__" := by decide) (hdb : (x == ("__debug__" : Str)) = false := by decide)
    (he : starEach (e :: es) X.env = (false, eval e X.env) :: starEach es X.env := by rfl) (hpl : (backTo pos (starEach es X.env)).any (·.1) = false := by rfl) : PE X (.Call (.Name x p) (e :: es) [] pos) (tE X.K (eB r tl)) :=
  (pe_callB hc hg hm hv ha hn hdb he hpl).imp fun _ _ _ h => b_lift h
theorem de_Ty (hc : CallR X (.type T) (ls X.K r)) (hm : X.mg x = none) (hv : bootBuiltins x = some (.type T)) (ha : PA X (e :: es) (tA X.K tl)) (hg : Gl X x := by rfl) (hn : x ≠ "__name__" := by decide) (hdb : (x == ("__debug__" : Str)) = false := by decide)
    (he : starEach (e :: es) X.env = (false, eval e X.env) :: starEach es X.env := by rfl) (hpl : (backTo pos (starEach es X.env)).any (·.1) = false := by rfl) : PE X (.Call (.Name x p) (e :: es) [] pos) (tE X.K (eB r tl)) :=
  (pe_callTy hc hg hm hv ha hn hdb he hpl).imp fun _ _ _ h => b_lift h
/-- the name of a built-in type -/
theorem pe_T (hm : X.mg x = none) (hv : bootBuiltins x = some (.type T)) (hg : Gl X x := by rfl) (hn : x ≠ "__name__" := by decide) (hdb : (x == ("__debug__" : Str)) = false := by decide) : PE X (.Name x p) (tC (.ty T)) := pe_bltn hg hm hv rfl hn hdb
/-! targets -/
theorem dg_nm (hN : X.N.Nodup) (hi : X.N[i]? = some x) (hx : Loc X.env.scope x) (hf : X.fn x = true ∨ X.env.scope.names.lookup x = some .local) : PG X (.Name x pos) (toG X.K (.nm i)) := by
  unfold toG
  exact pg_name hN hi hx hf
theorem dgs_nil : PGs X [] (toGs X.K []) := by
  unfold toGs
  exact pgs_nil
theorem dgs_cons {tgs : List Tg} (h1 : PG X e (toG X.K t)) (h2 : PGs X es (toGs X.K tgs)) (hs : (assignEach (e :: es) X.env).map (·.2) = assign e X.env :: (assignEach es X.env).map (·.2) := by rfl) : PGs X (e :: es) (toGs X.K (t :: tgs)) := by
  unfold toGs
  exact pgs_cons h1 h2 hs
theorem dg_tp {k : Nat} {tgs : List Tg} (hc : X.calm = true) (h : PGs X es (toGs X.K tgs)) (hn : (assignEach es X.env).length = tgs.length := by rfl) (hst : (assignEach es X.env).findIdx? (·.1) = none := by rfl) : PG X (.Tuple es k pos) (toG X.K (.tp tgs)) := by
  unfold toG
  exact pg_tup hc h hn hst
/-! stores -/
theorem ds_set (hN : X.N.Nodup) (hi : X.N[i]? = some x) (hx : Loc X.env.scope x) (he : PE X e (tE X.K ta)) (hs : swapsWith e (some (.Name x py)) pos.line X.env = pure false := by rfl) (hf : X.fn x = true ∨ X.env.scope.names.lookup x = some .local := by first | exact .inl rfl | exact .inr rfl) :
    PS X (.Assign [.Name x py] e pos) (tS X.K (sAsg (.nm i) ta)) := ds_asg (by
  unfold toG
  exact ps_set hN hi hx he hs hf)
theorem lcS {i : Nat} {te' : TE} {st : Stmt} (h : PS X st (tAsg te' (gName i))) (l : ∀ σ H Q, tE X.K ta σ H Q → te' σ H Q) : PS X st (tS X.K (sAsg (.nm i) ta)) := ds_asgOf (by
  unfold toG
  exact h) l
end
section
variable {X : Cx} {k n m : Nat} {f : Addr} {fd : FuncData} {ps ks : List Str} {r : RDs} {x : Str} {p pos : Pos} {e : Expr} {es : List Expr} {kws : List Keyword} {perm : List Nat} {tl tk' : TLs}
theorem de_kw (F : FnG X.prog X.w X.K X.mg X.base CX0 k f fd ps (lsp X.K r)) (hr : Room k X.A) (hgd : X.A.guards = some []) (hm : X.mg x = some (.ref f)) (hk : PySem.W.keepIn X.K (.ref f) = true)
    (hb : KwB X.K fd ps n ks perm) (ha : PA X (e :: es) (tA X.K tl)) (hkw : PK X kws (tA X.K tk')) (hl : ks.length = m) (hg : Gl X x := by rfl) (hall : (backToKw pos (keywordEach kws X.env)).all (·.1.isSome) = true := by rfl)
    (hks : (backToKw pos (keywordEach kws X.env)).filterMap (·.1) = ks := by rfl) (hdb : (x == ("__debug__" : Str)) = false := by decide) (he : starEach (e :: es) X.env = (false, eval e X.env) :: starEach es X.env := by rfl)
    (hpl : ((backTo pos (starEach (e :: es) X.env)).any (·.1) || (backToKw pos (keywordEach kws X.env)).any (·.1.isNone)) = false := by rfl) : PE X (.Call (.Name x p) (e :: es) kws pos) (tE X.K (eCallKw r n m perm tl tk')) := by
  subst hl
  exact de_callKw F hr hgd hg hm hk hb ha hkw hall hks hdb he hpl
theorem de_kw0 (F : FnG X.prog X.w X.K X.mg X.base CX0 k f fd ps (lsp X.K r)) (hr : Room k X.A) (hgd : X.A.guards = some []) (hm : X.mg x = some (.ref f)) (hk : PySem.W.keepIn X.K (.ref f) = true)
    (hb : KwB X.K fd ps 0 ks perm) (hkw : PK X kws (tA X.K tk')) (hl : ks.length = m) (hg : Gl X x := by rfl) (hall : (backToKw pos (keywordEach kws X.env)).all (·.1.isSome) = true := by rfl)
    (hks : (backToKw pos (keywordEach kws X.env)).filterMap (·.1) = ks := by rfl) (hdb : (x == ("__debug__" : Str)) = false := by decide)
    (hpl : ((backTo pos (starEach [] X.env)).any (·.1) || (backToKw pos (keywordEach kws X.env)).any (·.1.isNone)) = false := by rfl) : PE X (.Call (.Name x p) [] kws pos) (tE X.K (eCallKw r 0 m perm aNil tk')) := by
  subst hl
  exact de_callKw0 F hr hgd hg hm hk hb hkw hall hks hdb hpl
end
abbrev rNeg : RD1 := fun x S Q => ∃ i, x = .int i ∧ Q (.int (-i)) S
theorem bt_int : bootBuiltins "int" = some (.type "int") := by decide +kernel
theorem bt_bool : bootBuiltins "bool" = some (.type "bool") := by decide +kernel
theorem bt_list : bootBuiltins "list" = some (.type "list") := by decide +kernel
theorem bt_tuple : bootBuiltins "tuple" = some (.type "tuple") := by decide +kernel
theorem bt_str : bootBuiltins "str" = some (.type "str") := by decide +kernel
theorem bt_dict : bootBuiltins "dict" = some (.type "dict") := by decide +kernel
theorem bt_set : bootBuiltins "set" = some (.type "set") := by decide +kernel
theorem bt_abs : bootBuiltins "abs" = some (.builtin "abs") := by decide +kernel
theorem bt_repr : bootBuiltins "repr" = some (.builtin "repr") := by decide +kernel
theorem bt_all : bootBuiltins "all" = some (.builtin "all") := by decide +kernel
theorem bt_any : bootBuiltins "any" = some (.builtin "any") := by decide +kernel
theorem bt_isinstance : bootBuiltins "isinstance" = some (.builtin "isinstance") := by decide +kernel
theorem _root_.L2.Room.u65 {k : Nat} {A : Around} (r : Room k A) : A.units + 65 < cLine := by
  have := r.un
  omega
end NC

set_option Elab.async false
set_option linter.all false
set_option maxRecDepth 100000
set_option maxHeartbeats 1000000
/-! NC12: reasoning over readings; the jar that the laws draw from. -/
namespace NC
open PySem PySem.Spec PyProof.Rows L2

/-- a statement, then the rest, by what holds between them -/
theorem cut {su sv : TSd} {N : DN} {ρ : Rho} {S : Store} (P : Rho → Store → Prop) (h : ∀ N' : DN, N'.rt = N.rt → (∀ ρ' S', P ρ' S' → N'.nx ρ' S') → su N' ρ S) (k : ∀ ρ' S', P ρ' S' → sv N ρ' S') : sSeq su sv N ρ S := h _ rfl k
/-- as cut, where what stands between may also go out of the body by break or continue -/
theorem cut' {su sv : TSd} {N : DN} {ρ : Rho} {S : Store} (P : Rho → Store → Prop) (h : ∀ N' : DN, N'.rt = N.rt → N'.bk = N.bk → N'.ct = N.ct → (∀ ρ' S', P ρ' S' → N'.nx ρ' S') → su N' ρ S) (k : ∀ ρ' S', P ρ' S' → sv N ρ' S') : sSeq su sv N ρ S := h _ rfl rfl rfl k
section
variable {ρ : Rho} {S : Store} {Q : QD} {N : DN} {ta tb tc : TD} {tt tu : TB} {tl tk : TLs} {su sv : TSd} {r r' : RD2} {r1 : RD1} {rs : RDs} {rm : RDm} {QB : Bool → Store → Prop} {QL : List D → Store → Prop} {i j n m : Nat} {d : D} {t : Tg} {T : String} {pm : List Nat} {ts : TSr} {te : TD} {vs : List Nat} {lo hi : TOd} {xs : List D} {QO : Option Int → Store → Prop} {QI : List D → (Store → Prop) → Store → Prop}
theorem ap_runD : runD n su xs S Q = su { nx := fun _ S' => Q .non S', rt := Q } (startD n xs) S := rfl
theorem ap_sSeq : sSeq su sv N ρ S = su { N with nx := sv N } ρ S := rfl
theorem ap_sIf : sIf tt su sv N ρ S = tt ρ S fun c S1 => if c = true then su N ρ S1 else sv N ρ S1 := rfl
theorem ap_sNil : sNil N ρ S = N.nx ρ S := rfl
theorem ap_sRet : sRet ta N ρ S = ta ρ S N.rt := rfl
theorem ap_sAsg : sAsg t ta N ρ S = ta ρ S fun d S1 => ∃ ρ', bindT t d ρ = some ρ' ∧ N.nx ρ' S1 := rfl
theorem ap_sDrop : sDrop ta N ρ S = ta ρ S fun _ S1 => N.nx ρ S1 := rfl
theorem ap_sPut : sPut tb tc ta N ρ S = ta ρ S fun d S1 => tb ρ S1 fun o S2 => tc ρ S2 fun k S3 => ∃ n i ds j, o = .ref n ∧ k = .int i ∧ S3[n]? = some (some (.lst ds)) ∧ ixN ds.length i = some j ∧ N.nx ρ (S3.set n (some (.lst (ds.set j d)))) := rfl
theorem ap_sPar : sPar i j tl N ρ S = tl ρ S fun ds S1 => ∃ d e, ds = [d, e] ∧ N.nx ((ρ.set i (some d)).set j (some e)) S1 := rfl
theorem ap_nm : bindT (.nm i) d ρ = some (ρ.set i (some d)) := by unfold bindT; rfl
theorem ap_eVar : eVar i ρ S Q = ∃ d, ρ[i]? = some (some d) ∧ Q d S := rfl
theorem ap_eC : eC d ρ S Q = Q d S := rfl
theorem ap_eOp : eOp r ta tb ρ S Q = ta ρ S fun x S1 => tb ρ S1 fun y S2 => r x y S2 Q := rfl
theorem ap_eChain : eChain r r' ta tb tc ρ S Q = ta ρ S fun x S1 => tb ρ S1 fun y S2 => r x y S2 fun z S3 => ∃ k, z = .bl k ∧ if k = true then tc ρ S3 fun w S4 => r' y w S4 Q else Q (.bl false) S3 := rfl
theorem ap_eB : eB rs tl ρ S Q = tl ρ S fun xs S1 => rs xs S1 Q := rfl
theorem ap_eUn : eUn r1 ta ρ S Q = ta ρ S fun x S1 => r1 x S1 Q := rfl
theorem ap_eTup : eTup tl ρ S Q = tl ρ S fun xs S1 => xs.length ≤ sizeLine ∧ Q (.tup xs) S1 := rfl
theorem ap_eLst : eLst tl ρ S Q = tl ρ S fun xs S1 => xs.length ≤ sizeLine ∧ Q (.lst xs) S1 := rfl
theorem ap_eLstM : eLstM tl ρ S Q = tl ρ S fun xs S1 => xs.length ≤ sizeLine ∧ Q (.ref S1.length) (S1 ++ [some (.lst xs)]) := rfl
theorem ap_eAnd : eAnd ta tb ρ S Q = ta ρ S fun x S1 => ∃ c, x = .bl c ∧ if c = true then tb ρ S1 Q else Q (.bl false) S1 := rfl
theorem ap_eOr : eOr ta tb ρ S Q = ta ρ S fun x S1 => ∃ c, x = .bl c ∧ if c = true then Q (.bl true) S1 else tb ρ S1 Q := rfl
theorem ap_eNot : eNot ta ρ S Q = ta ρ S fun x S1 => ∃ c, x = .bl c ∧ Q (.bl (!c)) S1 := rfl
theorem ap_eIf : eIf tt ta tb ρ S Q = tt ρ S fun c S1 => if c = true then ta ρ S1 Q else tb ρ S1 Q := rfl
theorem ap_bOf : bOf ta ρ S QB = ta ρ S fun x S1 => ∃ c, x = .bl c ∧ QB c S1 := rfl
theorem ap_bAnd : bAnd tt tu ρ S QB = tt ρ S fun c S1 => if c = true then tu ρ S1 QB else QB false S1 := rfl
theorem ap_bOr : bOr tt tu ρ S QB = tt ρ S fun c S1 => if c = true then QB true S1 else tu ρ S1 QB := rfl
theorem ap_bNot : bNot tt ρ S QB = tt ρ S fun c S1 => QB (!c) S1 := rfl
theorem ap_bYes : bYes ρ S QB = QB true S := rfl
theorem ap_aNil : aNil ρ S QL = QL [] S := rfl
theorem ap_aCons : aCons ta tl ρ S QL = ta ρ S fun x S1 => tl ρ S1 fun xs S2 => QL (x :: xs) S2 := rfl
theorem ap_eCall : eCall rs tl ρ S Q = tl ρ S fun xs S1 => rs xs S1 Q := rfl
theorem ap_eCallKw : eCallKw rs n m pm tl tk ρ S Q = tl ρ S fun xs S1 => tk ρ S1 fun ys S2 => xs.length = n ∧ ys.length = m ∧ rs (pick pm (xs ++ ys) .non) S2 Q := rfl
theorem ap_eCut : eCut ta lo hi ρ S Q = ta ρ S fun x S1 => lo ρ S1 fun l S2 => hi ρ S2 fun u S3 => rCut x l u S3 Q := rfl
theorem ap_oNone : oNone ρ S QO = QO none S := rfl
theorem ap_oSome : oSome ta ρ S QO = ta ρ S fun x S1 => ∃ i, x = .int i ∧ QO (some i) S1 := rfl
theorem ap_eM : eM T rm ta tl ρ S Q = ta ρ S fun x S1 => tyM T (drf S1 x) ∧ tl ρ S1 fun xs S2 => rm x xs S2 Q := rfl
theorem ap_sSq : sSq ta ρ S QI = ta ρ S fun x S1 => ∃ xs, seqOf (drf S1 x) = some xs ∧ QI xs (fun S' => drf S' x = drf S1 x) S1 := rfl
theorem ap_sRange1 : sRange1 tl ρ S QI = tl ρ S fun xs S1 => ∃ n : Int, xs = [.int n] ∧ -(2 ^ 62) ≤ n ∧ n < 2 ^ 62 ∧ QI (rangeD 0 n) (fun _ => True) S1 := rfl
theorem ap_sRange2 : sRange2 tl ρ S QI = tl ρ S fun xs S1 => ∃ m n : Int, xs = [.int m, .int n] ∧ (-(2 ^ 62) ≤ m ∧ m < 2 ^ 62 ∧ -(2 ^ 62) ≤ n ∧ n < 2 ^ 62) ∧ QI (rangeD m n) (fun _ => True) S1 := rfl
theorem ap_sEnum : sEnum ta ρ S QI = aCons ta aNil ρ S fun ds S1 => ∃ d xs, ds = [d] ∧ drf S1 d = .lst xs ∧ QI (enumD xs) (fun S' => drf S' d = drf S1 d) S1 := rfl
theorem ap_eIsi : eIsi T ta ρ S Q = ta ρ S fun x S1 => ∃ b, isiD (drf S1 x) T = some b ∧ Q (.bl b) S1 := rfl
/-- the turns of a comprehension -/
def Lc1 (t : Tg) (tt : TB) (te : TD) (vs : List Nat) (ρ : Rho) (items : List D) (stays : Store → Prop) (S1 : Store) (R : List D → Store → Prop) : Prop := ∃ I : Nat → List D → Store → Prop, I 0 [] S1 ∧ (∀ i acc S', I i acc S' → stays S') ∧ items.length ≤ sizeLine ∧
  (∀ i d acc S', items[i]? = some d → I i acc S' → ∃ ρ2, bindT t d (wipeD ρ vs) = some ρ2 ∧ tt ρ2 S' fun b S2 => if b = true then te ρ2 S2 fun y S3 => I (i + 1) (acc ++ [y]) S3 else I (i + 1) acc S2) ∧ ∀ acc S', I items.length acc S' → R acc S'
theorem ap_eLc : eLc ts t tt te vs ρ S Q = ts ρ S fun items stays S1 => Lc1 t tt te vs ρ items stays S1 fun acc S' => Q (.lst acc) S' := rfl
theorem ap_eLcM : eLcM ts t tt te vs ρ S Q = ts ρ S fun items stays S1 => Lc1 t tt te vs ρ items stays S1 fun acc S' => Q (.ref S'.length) (S' ++ [some (.lst acc)]) := rfl
/-- the turns of a loop -/
def For1 (t : Tg) (su : TSd) (N : DN) (ρ : Rho) (items : List D) (stays : Store → Prop) (S1 : Store) : Prop := ∃ I : Nat → Rho → Store → Prop, I 0 ρ S1 ∧ (∀ i ρ' S', I i ρ' S' → stays S') ∧
  (∀ i d ρ' S', items[i]? = some d → I i ρ' S' → ∃ ρ'', bindT t d ρ' = some ρ'' ∧ su { N with nx := I (i + 1), ct := I (i + 1), bk := N.nx } ρ'' S') ∧ ∀ ρ' S', I items.length ρ' S' → N.nx ρ' S'
theorem ap_sFor : sFor ts t su N ρ S = ts ρ S fun items stays S1 => For1 t su N ρ items stays S1 := rfl
end
/-- the law's jar: its cells, the place, the rest -/
def jar (cells : List Int) (at_ rest : Int) : SO := .lst [.lst (cells.map .int), .int at_, .int rest]
/-- the jar after at most k draws -/
def Urn (k : Nat) (o : SO) : Prop := ∃ (cells : List Int) (at_ rest : Int), o = jar cells at_ rest ∧ 0 ≤ at_ ∧ at_ ≤ k ∧ 0 ≤ rest ∧ cells.length ≤ 63
theorem Urn.mono {k j : Nat} {o : SO} (h : Urn k o) (l : k ≤ j) : Urn j o := by
  obtain ⟨c, a, r, e, h1, h2, h3, h4⟩ := h
  exact ⟨c, a, r, e, h1, by omega, h3, h4⟩
/-- a draw below many -/
def rDraw : RDs := fun xs S Q => ∃ (k : Nat) (o : SO) (T : Store) (many : Int), xs = [.ref 0, .int many] ∧ S = some o :: T ∧ Urn k o ∧ k < 1000000 ∧ 0 < many ∧ many ≤ 10 ^ 100 ∧
  ∀ (o' : SO) (n : Int), Urn (k + 1) o' → 0 ≤ n → n < many → Q (.int n) (some o' :: T)
theorem rDraw_len (xs : List D) (S : Store) (Q : QD) (h : rDraw xs S Q) : xs.length = 2 := by
  obtain ⟨_, _, _, _, rfl, _⟩ := h
  rfl
def drawB (c1 c2 m1 c3 m2 c4 m3 : Int) : TSd := (sSeq (sIf (bOf (eOp rGt (eOp rIx2 (eVar 0) (eC (.int 2))) (eC (.int 0))))
    (sSeq (sAsg (.nm 5) (eB rInt1 (aCons (eOp rIx2 (eVar 0) (eC (.int 2))) aNil)))
    (sSeq (sPut (eVar 0) (eC (.int 2)) (eOp rDiv (eVar 5) (eVar 1)))
    (sRet (eOp rMod (eB rInt1 (aCons (eVar 5) aNil)) (eVar 1)))))
    sNil)
    (sSeq (sAsg (.nm 2) (eOp rIx2 (eVar 0) (eC (.int 1))))
    (sSeq (sPut (eVar 0) (eC (.int 1)) (eOp rAdd (eVar 2) (eC (.int 1))))
    (sSeq (sAsg (.nm 3) (eOp rAdd (eOp rMulI (eC (.int c1)) (eVar 2)) (eC (.int c2))))
    (sSeq (sIf (bOf (eOp rNe3 (eOp rIx2 (eVar 0) (eC (.int 0))) (eLst aNil)))
    (sAsg (.nm 3) (eOp rIx2 (eOp rIx2 (eVar 0) (eC (.int 0))) (eOp rMod (eB rInt1 (aCons (eVar 2) aNil)) (eB rLen (aCons (eOp rIx2 (eVar 0) (eC (.int 0))) aNil)))))
    sNil)
    (sSeq (sIf (bAnd (bOf (eOp rLt (eVar 2) (eB rLen (aCons (eOp rIx2 (eVar 0) (eC (.int 0))) aNil)))) (bOf (eOp rGe (eB rAbs (aCons (eVar 3) aNil)) (eOp rPow (eC (.int 10)) (eC (.int 18))))))
    (sSeq (sAsg (.nm 5) (eOp rAdd (eOp rMulI (eC (.int 2)) (eOp rSub (eB rAbs (aCons (eVar 3) aNil)) (eOp rPow (eC (.int 10)) (eC (.int 18))))) (eB rInt1 (aCons (eOp rLt (eVar 3) (eC (.int 0))) aNil))))
    (sSeq (sPut (eVar 0) (eC (.int 2)) (eOp rDiv (eB rInt1 (aCons (eVar 5) aNil)) (eVar 1)))
    (sRet (eOp rMod (eB rInt1 (aCons (eVar 5) aNil)) (eVar 1)))))
    sNil)
    (sSeq (sAsg (.nm 4) (eOp rMod (eB rInt1 (aCons (eOp rPow (eOp rAdd (eOp rAdd (eOp rMod (eB rInt1 (aCons (eVar 3) aNil)) (eC (.int m1))) (eOp rMulI (eC (.int c3)) (eVar 2))) (eC (.int c2))) (eC (.int 5))) aNil)) (eC (.int m2))))
    (sSeq (sAsg (.nm 4) (eOp rMod (eB rInt1 (aCons (eOp rPow (eOp rAdd (eOp rAdd (eOp rMulI (eVar 4) (eOp rAdd (eOp rMulI (eC (.int 2)) (eVar 2)) (eC (.int c4)))) (eOp rMulI (eOp rMulI (eC (.int c1)) (eVar 2)) (eVar 2))) (eC (.int c3))) (eC (.int 3))) aNil)) (eC (.int m3))))
    (sRet (eOp rMod (eB rInt1 (aCons (eOp rDiv (eVar 4) (eC (.int 64))) aNil)) (eVar 1)))))))))))
def small17 (c : Int) : Bool := decide (0 ≤ c) && decide (c < 131072)
def small31 (c : Int) : Bool := decide (0 < c) && decide (c < 2147483648)

theorem drf_jar {cells : List Int} {a r : Int} {T : Store} : drf (some (jar cells a r) :: T) (.ref 0) = .lst [.lst (cells.map .int), .int a, .int r] := rfl
theorem ix_jar {cells : List Int} {a r : Int} {T : Store} {Q : QD} {i : Nat} {d : D} (h : ([.lst (cells.map .int), .int a, .int r] : List D)[i]? = some d) (q : Q d (some (jar cells a r) :: T)) : rIx2 (.ref 0) (.int (i : Int)) (some (jar cells a r) :: T) Q :=
  ⟨_, _, d, by rw [drf_jar]; rfl, rfl, atI_nat h, q⟩

theorem ne_nil {x : D} {xs : List D} {S : Store} {Q : QD} (h : drf S x = .lst xs) (q : Q (.bl (!xs.isEmpty)) S) : rNe3 x (.lst []) S Q := by
  cases xs with
  | nil => exact ⟨true, by rw [h]; exact .of (.data (x := .lst []) (y := .lst []) rfl rfl), q⟩
  | cons y ys => exact ⟨false, by rw [h]; exact .of (.len (by simp)), q⟩
theorem len_seq {x : D} {xs : List D} {S : Store} {Q : QD} (h : seqOf (drf S x) = some xs) (q : Q (.int xs.length) S) : rLen [x] S Q := by
  unfold rLen
  cases hd : drf S x with
  | str z => rw [hd] at h; cases h
  | _ =>
    simp only [hd]
    exact ⟨xs, by rw [hd] at h; exact h, q⟩
theorem int2 {P : Int → Int → Prop} {g : Int → Int → D} {i j : Int} {S : Store} {Q : QD} (p : P i j) (q : Q (g i j) S) : r2I P g (.int i) (.int j) S Q := ⟨i, j, rfl, rfl, p, q⟩
theorem add_int {i j : Int} {S : Store} {Q : QD} (q : Q (.int (i + j)) S) : rAdd (.int i) (.int j) S Q := q
theorem ix_of {x d : D} {xs : List D} {i : Nat} {S : Store} {Q : QD} (h : seqOf (drf S x) = some xs) (e : xs[i]? = some d) (q : Q d S) : rIx2 x (.int (i : Int)) S Q := ⟨_, _, d, h, rfl, atI_nat e, q⟩
theorem ix_at {x d : D} {xs : List D} {i : Int} {S : Store} {Q : QD} (h : seqOf (drf S x) = some xs) (h0 : 0 ≤ i) (e : xs[i.toNat]? = some d) (q : Q d S) : rIx2 x (.int i) S Q := by
  have := ix_of (Q := Q) h e q
  rwa [Int.toNat_of_nonneg h0] at this
theorem log_of {m : Int} (h0 : 0 < m) (h : m ≤ 10 ^ 100) : m.natAbs.log2 < 9000 := by
  have h2 : m.natAbs ≠ 0 := by omega
  have h1 : m.natAbs < 2 ^ 400 := Nat.lt_of_le_of_lt (show m.natAbs ≤ 10 ^ 100 by omega) (by decide +kernel)
  have h3 := (Nat.log2_lt h2 (k := 400)).mpr h1
  omega
set_option maxHeartbeats 4000000 in
theorem draw_run {c1 c2 m1 c3 m2 c4 m3 : Int} (hc : (small17 c1 && small17 c2 && small31 m1 && small17 c3 && small31 m2 && small17 c4 && small31 m3) = true) (xs : List D) (S : Store) (Q : QD) (h : rDraw xs S Q) : runD 6 (drawB c1 c2 m1 c3 m2 c4 m3) xs S Q := by
  obtain ⟨k, o, T, many, rfl, rfl, ⟨cells, a, r, rfl, ha, hak, hr, hcl⟩, hk, hm0, hm1, q⟩ := h
  have hlog := log_of hm0 hm1
  simp only [small17, small31, Bool.and_eq_true, decide_eq_true_eq] at hc
  obtain ⟨⟨⟨⟨⟨⟨⟨c10, c11⟩, c20, c21⟩, m10, m11⟩, c30, c31⟩, m20, m21⟩, c40, c41⟩, m30, m31⟩ := hc
  have done : ∀ (a' r' i : Int), 0 ≤ a' → a' ≤ k + 1 → 0 ≤ r' → Q (.int (i % many)) (some (jar cells a' r') :: T) := fun a' r' i h1 h2 h3 =>
    q _ _ ⟨cells, a', r', rfl, h1, by omega, h3, hcl⟩ (Int.emod_nonneg _ (by omega)) (Int.emod_lt_of_pos _ hm0)
  have dv : ∀ i : Int, 0 ≤ i → 0 ≤ i / many := fun i h => Int.ediv_nonneg h (by omega)
  unfold drawB
  show sSeq _ _ _ _ _
  refine cut (fun ρ' S' => ρ' = startD 6 [.ref 0, .int many] ∧ S' = some (jar cells a r) :: T) (fun N' hrt hnx => ?_) (fun ρ' S' hP => ?_)
  · simp only [ap_runD, ap_sSeq, ap_sIf, ap_sNil, ap_sRet, ap_sAsg, ap_sDrop, ap_sPut, ap_sPar, ap_nm, ap_eVar, ap_eC, ap_eOp, ap_eChain, ap_eB, ap_eUn, ap_eTup, ap_eLst, ap_eLstM, ap_eAnd, ap_eOr, ap_eNot, ap_eIf, ap_bOf, ap_bAnd, ap_bOr, ap_bNot, ap_bYes, ap_aNil, ap_aCons, ap_eCall, ap_eCallKw, ap_eCut, ap_oNone, ap_oSome, ap_eM, ap_sSq, ap_sRange1, ap_sRange2, ap_sEnum, ap_eIsi, ap_eLc, ap_eLcM, ap_sFor, startD, List.map_cons, List.map_nil, List.length_cons, List.length_nil, List.getElem?_cons_zero, List.getElem?_cons_succ, List.set_cons_zero, List.set_cons_succ, List.replicate, List.cons_append, List.nil_append, Option.some.injEq, exists_eq_left', Option.bind_some, Nat.sub_self, Nat.reduceAdd, Nat.reduceSub, Nat.reduceLeDiff]
    refine ix_jar (i := 2) rfl (int2 trivial ⟨_, rfl, ?_⟩)
    by_cases hr0 : 0 < r
    · simp only [hr0, decide_true, if_true]
      refine ix_jar (i := 2) rfl ?_
      simp only [ap_runD, ap_sSeq, ap_sIf, ap_sNil, ap_sRet, ap_sAsg, ap_sDrop, ap_sPut, ap_sPar, ap_nm, ap_eVar, ap_eC, ap_eOp, ap_eChain, ap_eB, ap_eUn, ap_eTup, ap_eLst, ap_eLstM, ap_eAnd, ap_eOr, ap_eNot, ap_eIf, ap_bOf, ap_bAnd, ap_bOr, ap_bNot, ap_bYes, ap_aNil, ap_aCons, ap_eCall, ap_eCallKw, ap_eCut, ap_oNone, ap_oSome, ap_eM, ap_sSq, ap_sRange1, ap_sRange2, ap_sEnum, ap_eIsi, ap_eLc, ap_eLcM, ap_sFor, startD, List.map_cons, List.map_nil, List.length_cons, List.length_nil, List.getElem?_cons_zero, List.getElem?_cons_succ, List.set_cons_zero, List.set_cons_succ, List.replicate, List.cons_append, List.nil_append, Option.some.injEq, exists_eq_left', Option.bind_some, Nat.sub_self, Nat.reduceAdd, Nat.reduceSub, Nat.reduceLeDiff, rInt1]
      refine int2 ⟨hm0, hlog⟩ ⟨0, 2, _, 2, rfl, rfl, rfl, rfl, int2 hm0 ?_⟩
      rw [hrt]
      exact done a (r / many) r ha (by omega) (dv r (by omega))
    · simp only [hr0, decide_false, Bool.false_eq_true, if_false]
      exact hnx _ _ ⟨rfl, rfl⟩
  obtain ⟨rfl, rfl⟩ := hP
  refine cut (fun ρ' S' => ρ' = [some (.ref 0), some (.int many), some (.int a), none, none, none] ∧ S' = some (jar cells a r) :: T) (fun N' hrt hnx => ?_) (fun ρ' S' hP => ?_)
  · simp only [ap_runD, ap_sSeq, ap_sIf, ap_sNil, ap_sRet, ap_sAsg, ap_sDrop, ap_sPut, ap_sPar, ap_nm, ap_eVar, ap_eC, ap_eOp, ap_eChain, ap_eB, ap_eUn, ap_eTup, ap_eLst, ap_eLstM, ap_eAnd, ap_eOr, ap_eNot, ap_eIf, ap_bOf, ap_bAnd, ap_bOr, ap_bNot, ap_bYes, ap_aNil, ap_aCons, ap_eCall, ap_eCallKw, ap_eCut, ap_oNone, ap_oSome, ap_eM, ap_sSq, ap_sRange1, ap_sRange2, ap_sEnum, ap_eIsi, ap_eLc, ap_eLcM, ap_sFor, startD, List.map_cons, List.map_nil, List.length_cons, List.length_nil, List.getElem?_cons_zero, List.getElem?_cons_succ, List.set_cons_zero, List.set_cons_succ, List.replicate, List.cons_append, List.nil_append, Option.some.injEq, exists_eq_left', Option.bind_some, Nat.sub_self, Nat.reduceAdd, Nat.reduceSub, Nat.reduceLeDiff]
    exact ix_jar (i := 1) rfl (hnx _ _ ⟨rfl, rfl⟩)
  obtain ⟨rfl, rfl⟩ := hP
  refine cut (fun ρ' S' => ρ' = [some (.ref 0), some (.int many), some (.int a), none, none, none] ∧ S' = some (jar cells (a + 1) r) :: T) (fun N' hrt hnx => ?_) (fun ρ' S' hP => ?_)
  · simp only [ap_runD, ap_sSeq, ap_sIf, ap_sNil, ap_sRet, ap_sAsg, ap_sDrop, ap_sPut, ap_sPar, ap_nm, ap_eVar, ap_eC, ap_eOp, ap_eChain, ap_eB, ap_eUn, ap_eTup, ap_eLst, ap_eLstM, ap_eAnd, ap_eOr, ap_eNot, ap_eIf, ap_bOf, ap_bAnd, ap_bOr, ap_bNot, ap_bYes, ap_aNil, ap_aCons, ap_eCall, ap_eCallKw, ap_eCut, ap_oNone, ap_oSome, ap_eM, ap_sSq, ap_sRange1, ap_sRange2, ap_sEnum, ap_eIsi, ap_eLc, ap_eLcM, ap_sFor, startD, List.map_cons, List.map_nil, List.length_cons, List.length_nil, List.getElem?_cons_zero, List.getElem?_cons_succ, List.set_cons_zero, List.set_cons_succ, List.replicate, List.cons_append, List.nil_append, Option.some.injEq, exists_eq_left', Option.bind_some, Nat.sub_self, Nat.reduceAdd, Nat.reduceSub, Nat.reduceLeDiff]
    exact add_int ⟨0, 1, _, 1, rfl, rfl, rfl, rfl, hnx _ _ ⟨rfl, rfl⟩⟩
  obtain ⟨rfl, rfl⟩ := hP
  refine cut (fun ρ' S' => ∃ c : Int, ρ' = [some (.ref 0), some (.int many), some (.int a), some (.int c), none, none] ∧ S' = some (jar cells (a + 1) r) :: T) (fun N' hrt hnx => ?_) (fun ρ' S' hP => ?_)
  · simp only [ap_runD, ap_sSeq, ap_sIf, ap_sNil, ap_sRet, ap_sAsg, ap_sDrop, ap_sPut, ap_sPar, ap_nm, ap_eVar, ap_eC, ap_eOp, ap_eChain, ap_eB, ap_eUn, ap_eTup, ap_eLst, ap_eLstM, ap_eAnd, ap_eOr, ap_eNot, ap_eIf, ap_bOf, ap_bAnd, ap_bOr, ap_bNot, ap_bYes, ap_aNil, ap_aCons, ap_eCall, ap_eCallKw, ap_eCut, ap_oNone, ap_oSome, ap_eM, ap_sSq, ap_sRange1, ap_sRange2, ap_sEnum, ap_eIsi, ap_eLc, ap_eLcM, ap_sFor, startD, List.map_cons, List.map_nil, List.length_cons, List.length_nil, List.getElem?_cons_zero, List.getElem?_cons_succ, List.set_cons_zero, List.set_cons_succ, List.replicate, List.cons_append, List.nil_append, Option.some.injEq, exists_eq_left', Option.bind_some, Nat.sub_self, Nat.reduceAdd, Nat.reduceSub, Nat.reduceLeDiff]
    exact int2 (.inl (.inl ⟨by omega, by omega⟩)) (add_int (hnx _ _ ⟨_, rfl, rfl⟩))
  obtain ⟨c, rfl, rfl⟩ := hP
  refine cut (fun ρ' S' => ∃ c : Int, ρ' = [some (.ref 0), some (.int many), some (.int a), some (.int c), none, none] ∧ S' = some (jar cells (a + 1) r) :: T) (fun N' hrt hnx => ?_) (fun ρ' S' hP => ?_)
  · simp only [ap_runD, ap_sSeq, ap_sIf, ap_sNil, ap_sRet, ap_sAsg, ap_sDrop, ap_sPut, ap_sPar, ap_nm, ap_eVar, ap_eC, ap_eOp, ap_eChain, ap_eB, ap_eUn, ap_eTup, ap_eLst, ap_eLstM, ap_eAnd, ap_eOr, ap_eNot, ap_eIf, ap_bOf, ap_bAnd, ap_bOr, ap_bNot, ap_bYes, ap_aNil, ap_aCons, ap_eCall, ap_eCallKw, ap_eCut, ap_oNone, ap_oSome, ap_eM, ap_sSq, ap_sRange1, ap_sRange2, ap_sEnum, ap_eIsi, ap_eLc, ap_eLcM, ap_sFor, startD, List.map_cons, List.map_nil, List.length_cons, List.length_nil, List.getElem?_cons_zero, List.getElem?_cons_succ, List.set_cons_zero, List.set_cons_succ, List.replicate, List.cons_append, List.nil_append, Option.some.injEq, exists_eq_left', Option.bind_some, Nat.sub_self, Nat.reduceAdd, Nat.reduceSub, Nat.reduceLeDiff]
    refine ix_jar (i := 0) rfl ⟨Nat.zero_le _, ne_nil rfl ⟨_, rfl, ?_⟩⟩
    cases hcs : cells with
    | nil => exact hnx _ _ ⟨_, rfl, by rw [hcs]⟩
    | cons z zs =>
      simp only [List.map_cons, List.isEmpty_cons, Bool.not_false, if_true]
      refine ix_jar (i := 0) rfl ?_
      simp only [ap_runD, ap_sSeq, ap_sIf, ap_sNil, ap_sRet, ap_sAsg, ap_sDrop, ap_sPut, ap_sPar, ap_nm, ap_eVar, ap_eC, ap_eOp, ap_eChain, ap_eB, ap_eUn, ap_eTup, ap_eLst, ap_eLstM, ap_eAnd, ap_eOr, ap_eNot, ap_eIf, ap_bOf, ap_bAnd, ap_bOr, ap_bNot, ap_bYes, ap_aNil, ap_aCons, ap_eCall, ap_eCallKw, ap_eCut, ap_oNone, ap_oSome, ap_eM, ap_sSq, ap_sRange1, ap_sRange2, ap_sEnum, ap_eIsi, ap_eLc, ap_eLcM, ap_sFor, startD, List.map_cons, List.map_nil, List.length_cons, List.length_nil, List.getElem?_cons_zero, List.getElem?_cons_succ, List.set_cons_zero, List.set_cons_succ, List.replicate, List.cons_append, List.nil_append, Option.some.injEq, exists_eq_left', Option.bind_some, Nat.sub_self, Nat.reduceAdd, Nat.reduceSub, Nat.reduceLeDiff, rInt1]
      have hp : (0 : Int) < ((D.int z :: zs.map D.int).length : Int) := by
        simp
      refine ix_jar (i := 0) rfl (len_seq rfl (int2 hp ?_))
      have hlt := Int.emod_lt_of_pos a hp
      have hge := Int.emod_nonneg a (show ((D.int z :: zs.map D.int).length : Int) ≠ 0 by omega)
      have hl : (a % ((D.int z :: zs.map D.int).length : Int)).toNat < (z :: zs).length := by
        simp at hlt hge ⊢
        omega
      refine ix_at (d := .int ((z :: zs)[(a % ((D.int z :: zs.map D.int).length : Int)).toNat])) rfl hge ?_ (hnx _ _ ⟨_, rfl, by rw [hcs]⟩)
      show ((z :: zs).map D.int)[(a % ((D.int z :: zs.map D.int).length : Int)).toNat]? = _
      rw [List.getElem?_map, List.getElem?_eq_getElem hl]
      rfl
  obtain ⟨c, rfl, rfl⟩ := hP
  refine cut (fun ρ' S' => ρ' = [some (.ref 0), some (.int many), some (.int a), some (.int c), none, none] ∧ S' = some (jar cells (a + 1) r) :: T) (fun N' hrt hnx => ?_) (fun ρ' S' hP => ?_)
  · simp only [ap_runD, ap_sSeq, ap_sIf, ap_sNil, ap_sRet, ap_sAsg, ap_sDrop, ap_sPut, ap_sPar, ap_nm, ap_eVar, ap_eC, ap_eOp, ap_eChain, ap_eB, ap_eUn, ap_eTup, ap_eLst, ap_eLstM, ap_eAnd, ap_eOr, ap_eNot, ap_eIf, ap_bOf, ap_bAnd, ap_bOr, ap_bNot, ap_bYes, ap_aNil, ap_aCons, ap_eCall, ap_eCallKw, ap_eCut, ap_oNone, ap_oSome, ap_eM, ap_sSq, ap_sRange1, ap_sRange2, ap_sEnum, ap_eIsi, ap_eLc, ap_eLcM, ap_sFor, startD, List.map_cons, List.map_nil, List.length_cons, List.length_nil, List.getElem?_cons_zero, List.getElem?_cons_succ, List.set_cons_zero, List.set_cons_succ, List.replicate, List.cons_append, List.nil_append, Option.some.injEq, exists_eq_left', Option.bind_some, Nat.sub_self, Nat.reduceAdd, Nat.reduceSub, Nat.reduceLeDiff]
    refine ix_jar (i := 0) rfl (len_seq rfl (int2 trivial ⟨_, rfl, ?_⟩))
    by_cases h1 : a < ((cells.map D.int).length : Int)
    · simp only [h1, decide_true, if_true]
      simp only [ap_runD, ap_sSeq, ap_sIf, ap_sNil, ap_sRet, ap_sAsg, ap_sDrop, ap_sPut, ap_sPar, ap_nm, ap_eVar, ap_eC, ap_eOp, ap_eChain, ap_eB, ap_eUn, ap_eTup, ap_eLst, ap_eLstM, ap_eAnd, ap_eOr, ap_eNot, ap_eIf, ap_bOf, ap_bAnd, ap_bOr, ap_bNot, ap_bYes, ap_aNil, ap_aCons, ap_eCall, ap_eCallKw, ap_eCut, ap_oNone, ap_oSome, ap_eM, ap_sSq, ap_sRange1, ap_sRange2, ap_sEnum, ap_eIsi, ap_eLc, ap_eLcM, ap_sFor, startD, List.map_cons, List.map_nil, List.length_cons, List.length_nil, List.getElem?_cons_zero, List.getElem?_cons_succ, List.set_cons_zero, List.set_cons_succ, List.replicate, List.cons_append, List.nil_append, Option.some.injEq, exists_eq_left', Option.bind_some, Nat.sub_self, Nat.reduceAdd, Nat.reduceSub, Nat.reduceLeDiff, rAbs]
      refine int2 ⟨by decide, by decide, by decide⟩ (int2 trivial ⟨_, rfl, ?_⟩)
      by_cases h2 : (10 : Int) ^ (18 : Int).toNat ≤ (if c < 0 then -c else c)
      · simp only [h2, decide_true, if_true]
        simp only [ap_runD, ap_sSeq, ap_sIf, ap_sNil, ap_sRet, ap_sAsg, ap_sDrop, ap_sPut, ap_sPar, ap_nm, ap_eVar, ap_eC, ap_eOp, ap_eChain, ap_eB, ap_eUn, ap_eTup, ap_eLst, ap_eLstM, ap_eAnd, ap_eOr, ap_eNot, ap_eIf, ap_bOf, ap_bAnd, ap_bOr, ap_bNot, ap_bYes, ap_aNil, ap_aCons, ap_eCall, ap_eCallKw, ap_eCut, ap_oNone, ap_oSome, ap_eM, ap_sSq, ap_sRange1, ap_sRange2, ap_sEnum, ap_eIsi, ap_eLc, ap_eLcM, ap_sFor, startD, List.map_cons, List.map_nil, List.length_cons, List.length_nil, List.getElem?_cons_zero, List.getElem?_cons_succ, List.set_cons_zero, List.set_cons_succ, List.replicate, List.cons_append, List.nil_append, Option.some.injEq, exists_eq_left', Option.bind_some, Nat.sub_self, Nat.reduceAdd, Nat.reduceSub, Nat.reduceLeDiff, rInt1]
        refine int2 ⟨by decide, by decide, by decide⟩ (int2 trivial (int2 (.inl (.inl ⟨by decide, by decide⟩)) (int2 trivial (add_int ?_))))
        generalize hx : 2 * ((if c < 0 then -c else c) - (10 : Int) ^ (18 : Int).toNat) + (if decide (c < 0) = true then 1 else 0) = x
        have hx0 : 0 ≤ x := by
          rw [← hx]
          have : (0 : Int) ≤ (if decide (c < 0) = true then 1 else 0) := by split <;> decide
          omega
        refine int2 ⟨hm0, hlog⟩ ⟨0, 2, _, 2, rfl, rfl, rfl, rfl, int2 hm0 ?_⟩
        rw [hrt]
        exact done (a + 1) (x / many) x (by omega) (by omega) (dv x hx0)
      · simp only [h2, decide_false, Bool.false_eq_true, if_false]
        exact hnx _ _ ⟨rfl, rfl⟩
    · simp only [h1, decide_false, Bool.false_eq_true, if_false]
      exact hnx _ _ ⟨rfl, rfl⟩
  obtain ⟨rfl, rfl⟩ := hP
  have big : ∀ x y : Int, 0 ≤ x → 0 ≤ y → 0 ≤ x * y := fun x y => Int.mul_nonneg
  have ca : 0 ≤ c3 * a ∧ c3 * a < 131072 * 1000001 := ⟨big _ _ c30 ha, Int.lt_of_le_of_lt (Int.mul_le_mul_of_nonneg_right (by omega : c3 ≤ 131071) ha) (by omega)⟩
  have cb : 0 ≤ c1 * a ∧ c1 * a < 131072 * 1000001 := ⟨big _ _ c10 ha, Int.lt_of_le_of_lt (Int.mul_le_mul_of_nonneg_right (by omega : c1 ≤ 131071) ha) (by omega)⟩
  refine cut (fun ρ' S' => ∃ x : Int, 0 ≤ x ∧ x < m2 ∧ ρ' = [some (.ref 0), some (.int many), some (.int a), some (.int c), some (.int x), none] ∧ S' = some (jar cells (a + 1) r) :: T) (fun N' hrt hnx => ?_) (fun ρ' S' hP => ?_)
  · simp only [ap_runD, ap_sSeq, ap_sIf, ap_sNil, ap_sRet, ap_sAsg, ap_sDrop, ap_sPut, ap_sPar, ap_nm, ap_eVar, ap_eC, ap_eOp, ap_eChain, ap_eB, ap_eUn, ap_eTup, ap_eLst, ap_eLstM, ap_eAnd, ap_eOr, ap_eNot, ap_eIf, ap_bOf, ap_bAnd, ap_bOr, ap_bNot, ap_bYes, ap_aNil, ap_aCons, ap_eCall, ap_eCallKw, ap_eCut, ap_oNone, ap_oSome, ap_eM, ap_sSq, ap_sRange1, ap_sRange2, ap_sEnum, ap_eIsi, ap_eLc, ap_eLcM, ap_sFor, startD, List.map_cons, List.map_nil, List.length_cons, List.length_nil, List.getElem?_cons_zero, List.getElem?_cons_succ, List.set_cons_zero, List.set_cons_succ, List.replicate, List.cons_append, List.nil_append, Option.some.injEq, exists_eq_left', Option.bind_some, Nat.sub_self, Nat.reduceAdd, Nat.reduceSub, Nat.reduceLeDiff, rInt1]
    have e1 := Int.emod_nonneg c (show m1 ≠ 0 by omega)
    have e2 := Int.emod_lt_of_pos c m10
    refine int2 m10 (int2 (.inl (.inl ⟨by omega, by omega⟩)) (add_int (add_int (int2 ⟨by decide, by decide, by omega⟩ (int2 m20 ?_)))))
    exact hnx _ _ ⟨_, Int.emod_nonneg _ (by omega), Int.emod_lt_of_pos _ m20, rfl, rfl⟩
  obtain ⟨x, x0, x1, rfl, rfl⟩ := hP
  refine cut (fun ρ' S' => ∃ x : Int, 0 ≤ x ∧ x < m3 ∧ ρ' = [some (.ref 0), some (.int many), some (.int a), some (.int c), some (.int x), none] ∧ S' = some (jar cells (a + 1) r) :: T) (fun N' hrt hnx => ?_) (fun ρ' S' hP => ?_)
  · simp only [ap_runD, ap_sSeq, ap_sIf, ap_sNil, ap_sRet, ap_sAsg, ap_sDrop, ap_sPut, ap_sPar, ap_nm, ap_eVar, ap_eC, ap_eOp, ap_eChain, ap_eB, ap_eUn, ap_eTup, ap_eLst, ap_eLstM, ap_eAnd, ap_eOr, ap_eNot, ap_eIf, ap_bOf, ap_bAnd, ap_bOr, ap_bNot, ap_bYes, ap_aNil, ap_aCons, ap_eCall, ap_eCallKw, ap_eCut, ap_oNone, ap_oSome, ap_eM, ap_sSq, ap_sRange1, ap_sRange2, ap_sEnum, ap_eIsi, ap_eLc, ap_eLcM, ap_sFor, startD, List.map_cons, List.map_nil, List.length_cons, List.length_nil, List.getElem?_cons_zero, List.getElem?_cons_succ, List.set_cons_zero, List.set_cons_succ, List.replicate, List.cons_append, List.nil_append, Option.some.injEq, exists_eq_left', Option.bind_some, Nat.sub_self, Nat.reduceAdd, Nat.reduceSub, Nat.reduceLeDiff, rInt1]
    have f1 : 0 ≤ x * (2 * a + c4) ∧ x * (2 * a + c4) ≤ 2147483648 * 3000000 := ⟨big _ _ x0 (by omega), Int.mul_le_mul (by omega) (by omega) (by omega) (by omega)⟩
    have f2 : 0 ≤ c1 * a * a ∧ c1 * a * a ≤ 131072 * 1000001 * 1000001 := ⟨big _ _ cb.1 ha, Int.mul_le_mul (by omega) (by omega) ha (by omega)⟩
    refine int2 (.inl (.inl ⟨by omega, by omega⟩)) (add_int (int2 (.inl (.inl ⟨by omega, by omega⟩)) (int2 (.inl (.inl ⟨by omega, by omega⟩)) (int2 (.inl (.inl ⟨by omega, by omega⟩)) (add_int (add_int (int2 ⟨by decide, by decide, by omega⟩ (int2 m30 ?_))))))))
    exact hnx _ _ ⟨_, Int.emod_nonneg _ (by omega), Int.emod_lt_of_pos _ m30, rfl, rfl⟩
  obtain ⟨x, x0, x1, rfl, rfl⟩ := hP
  simp only [ap_runD, ap_sSeq, ap_sIf, ap_sNil, ap_sRet, ap_sAsg, ap_sDrop, ap_sPut, ap_sPar, ap_nm, ap_eVar, ap_eC, ap_eOp, ap_eChain, ap_eB, ap_eUn, ap_eTup, ap_eLst, ap_eLstM, ap_eAnd, ap_eOr, ap_eNot, ap_eIf, ap_bOf, ap_bAnd, ap_bOr, ap_bNot, ap_bYes, ap_aNil, ap_aCons, ap_eCall, ap_eCallKw, ap_eCut, ap_oNone, ap_oSome, ap_eM, ap_sSq, ap_sRange1, ap_sRange2, ap_sEnum, ap_eIsi, ap_eLc, ap_eLcM, ap_sFor, startD, List.map_cons, List.map_nil, List.length_cons, List.length_nil, List.getElem?_cons_zero, List.getElem?_cons_succ, List.set_cons_zero, List.set_cons_succ, List.replicate, List.cons_append, List.nil_append, Option.some.injEq, exists_eq_left', Option.bind_some, Nat.sub_self, Nat.reduceAdd, Nat.reduceSub, Nat.reduceLeDiff, rInt1]
  exact int2 ⟨by decide, by decide⟩ (int2 hm0 (done (a + 1) r (x / 64) (by omega) (by omega) hr))

/-! comprehensions that change nothing -/
theorem lc_pure {items : List D} {stays : Store → Prop} {S : Store} {t : Tg} {tt : TB} {te : TD} {vs : List Nat} {ρ : Rho} {R : List D → Store → Prop} (f : D → Option D) (hs : stays S) (hl : items.length ≤ sizeLine)
    (step : ∀ d ∈ items, ∃ ρ2, bindT t d (wipeD ρ vs) = some ρ2 ∧ ∀ (Q : QD) (Q0 : Store → Prop), (∀ y, f d = some y → Q y S) → (f d = none → Q0 S) → tt ρ2 S fun b S2 => if b = true then te ρ2 S2 Q else Q0 S2)
    (k : R (items.filterMap f) S) : Lc1 t tt te vs ρ items stays S R := by
  refine ⟨fun i acc S' => acc = (items.take i).filterMap f ∧ S' = S, ⟨rfl, rfl⟩, fun i acc S' h => h.2 ▸ hs, hl, ?_, fun acc S' h => ?_⟩
  · rintro i d acc S' hd ⟨rfl, rfl⟩
    obtain ⟨ρ2, e, q⟩ := step d (List.mem_of_getElem? hd)
    have et : items.take (i + 1) = items.take i ++ [d] := by
      rw [List.take_add_one, hd]
      rfl
    refine ⟨ρ2, e, q _ _ (fun y h => ⟨?_, rfl⟩) fun h => ⟨?_, rfl⟩⟩
    · rw [et, List.filterMap_append, List.filterMap_cons, h]
      rfl
    · rw [et, List.filterMap_append, List.filterMap_cons, h]
      simp
  · rw [h.1, h.2, List.take_length]
    exact k
/-- every item, made by a function -/
theorem lc_map {items : List D} {stays : Store → Prop} {S : Store} {t : Tg} {te : TD} {vs : List Nat} {ρ : Rho} {R : List D → Store → Prop} (f : D → D) (hs : stays S) (hl : items.length ≤ sizeLine)
    (step : ∀ d ∈ items, ∃ ρ2, bindT t d (wipeD ρ vs) = some ρ2 ∧ ∀ Q : QD, Q (f d) S → te ρ2 S Q) (k : R (items.map f) S) : Lc1 t bYes te vs ρ items stays S R := by
  have e : items.filterMap (fun d => some (f d)) = items.map f := by
    rw [List.filterMap_eq_map']
  refine lc_pure (fun d => some (f d)) hs hl (fun d hd => ?_) (by rw [e]; exact k)
  obtain ⟨ρ2, e, q⟩ := step d hd
  exact ⟨ρ2, e, fun Q Q0 h1 _ => q Q (h1 _ rfl)⟩

/-! the jar made -/
def rUrn : RDs := fun xs S Q => ∃ ns : List Int, xs = [.ro (ns.map .int)] ∧ S = [] ∧ ns.length ≤ 63 ∧ ∀ o, Urn 0 o → Q (.ref 0) [some o]
theorem rUrn_len (xs : List D) (S : Store) (Q : QD) (h : rUrn xs S Q) : xs.length = 1 := by
  obtain ⟨_, rfl, _⟩ := h
  rfl
def urnB : TSd := (sRet (eLstM (aCons (eLc (sSq (eCut (eVar 0) oNone (oSome (eC (.int 63))))) (.nm 1) bYes (eB rInt1 (aCons (eVar 1) aNil)) [1]) (aCons (eC (.int 0)) (aCons (eC (.int 0)) aNil)))))
theorem cut_all {α : Type} (xs : List α) (h : xs.length ≤ 63) : (xs.drop (HT.sIx xs.length 0 none)).take (HT.sIx xs.length xs.length (some 63) - HT.sIx xs.length 0 none) = xs := by
  rw [HT.sIx_none, show (some (63 : Int)) = some ((63 : Nat) : Int) from rfl, HT.sIx_nat, List.drop_zero, Nat.sub_zero, List.take_of_length_le (by omega)]
theorem urn_run (xs : List D) (S : Store) (Q : QD) (h : rUrn xs S Q) : runD 2 urnB xs S Q := by
  obtain ⟨ns, rfl, rfl, hl, q⟩ := h
  have hc : cutD (ns.map D.int) none (some 63) = ns.map D.int := cut_all _ (by simpa using hl)
  unfold urnB
  simp only [ap_runD, ap_sSeq, ap_sIf, ap_sNil, ap_sRet, ap_sAsg, ap_sDrop, ap_sPut, ap_sPar, ap_nm, ap_eVar, ap_eC, ap_eOp, ap_eChain, ap_eB, ap_eUn, ap_eTup, ap_eLst, ap_eLstM, ap_eAnd, ap_eOr, ap_eNot, ap_eIf, ap_bOf, ap_bAnd, ap_bOr, ap_bNot, ap_bYes, ap_aNil, ap_aCons, ap_eCall, ap_eCallKw, ap_eCut, ap_oNone, ap_oSome, ap_eM, ap_sSq, ap_sRange1, ap_sRange2, ap_sEnum, ap_eIsi, ap_eLc, ap_eLcM, ap_sFor, startD, List.map_cons, List.map_nil, List.length_cons, List.length_nil, List.getElem?_cons_zero, List.getElem?_cons_succ, List.set_cons_zero, List.set_cons_succ, List.replicate, List.cons_append, List.nil_append, Option.some.injEq, exists_eq_left', Option.bind_some, Nat.sub_self, Nat.reduceAdd, Nat.reduceSub, Nat.reduceLeDiff]
  refine ⟨63, rfl, ?_⟩
  show ∃ ys, seqOf (D.lst (cutD (ns.map D.int) none (some 63))) = some ys ∧ _
  rw [hc]
  refine ⟨_, rfl, ?_⟩
  have hle : (ns.map D.int).length ≤ sizeLine := by
    rw [List.length_map]
    exact Nat.le_trans hl (by decide)
  refine lc_map id rfl hle (fun d hd => ?_) ?_
  · obtain ⟨n, _, rfl⟩ := List.mem_map.mp hd
    exact ⟨_, rfl, fun Q' h => ⟨_, rfl, h⟩⟩
  · rw [List.map_id]
    exact ⟨by decide, q _ ⟨ns, 0, 0, rfl, by decide, by decide, by decide, hl⟩⟩

/-! facts of data -/
theorem ap_eDisp1 {k : Key} {ta : TD} {ρ : Rho} {S : Store} {Q : QD} : eDisp [(k, ta)] ρ S Q = ta ρ S fun d S1 => Q (.dic [(k, d)]) S1 := rfl
theorem ap_eIsi2 {T1 T2 : String} {ta : TD} {ρ : Rho} {S : Store} {Q : QD} : eIsi2 T1 T2 ta ρ S Q = ta ρ S fun x S1 => ∃ b c, isiD (drf S1 x) T1 = some b ∧ isiD (drf S1 x) T2 = some c ∧ Q (.bl (b || c)) S1 := rfl
theorem eq_nil {x : D} {xs : List D} {S : Store} {Q : QD} (h : drf S x = .lst xs) (q : Q (.bl xs.isEmpty) S) : rEq3 x (.lst []) S Q := by
  cases xs with
  | nil => exact ⟨true, by rw [h]; exact .of (.data (x := .lst []) (y := .lst []) rfl rfl), q⟩
  | cons y ys => exact ⟨false, by rw [h]; exact .of (.len (by simp)), q⟩
theorem eq_int {i j : Int} {S : Store} {Q : QD} (q : Q (.bl (decide (i = j))) S) : rEq3 (.int i) (.int j) S Q := by
  refine ⟨_, .of (.data (x := .int i) (y := .int j) rfl rfl), ?_⟩
  have e : eqd (.int i) (.int j) = decide (i = j) := by
    show (i == j) = _
    rw [Bool.eq_iff_iff]
    simp
  rw [e]
  exact q
theorem ne_str {x y : Str} {S : Store} {Q : QD} (q : Q (.bl (!decide (x = y))) S) : rNe3 (.str x) (.str y) S Q := ⟨_, .txt, q⟩
theorem drf_shw {n : Nat} {d : D} {S : Store} (h : shw n d = true) : drf S d = d := by
  cases d with
  | ref m => cases n <;> simp [shw] at h
  | _ => rfl
theorem ty_shw {n : Nat} {d : D} (h : shw n d = true) : ∃ t, tyD d = some t := by
  cases d with
  | ref m => cases n <;> simp [shw] at h
  | _ => exact ⟨_, rfl⟩
/-- is it an int, a truth, a list, a tuple -/
def isNum : D → Bool
  | .int _ => true
  | _ => false
def isTr : D → Bool
  | .bl _ => true
  | _ => false
def isLst : D → Bool
  | .lst _ => true
  | .ro _ => true
  | _ => false
def isTup : D → Bool
  | .tup _ => true
  | _ => false
theorem kit_int : ∀ t ∈ ["NoneType", "bool", "int", "str", "list", "tuple", "dict"], kitB t "int" = some (t == "int" || t == "bool") := by decide +kernel
theorem kit_bool : ∀ t ∈ ["NoneType", "bool", "int", "str", "list", "tuple", "dict"], kitB t "bool" = some (t == "bool") := by decide +kernel
theorem kit_list : ∀ t ∈ ["NoneType", "bool", "int", "str", "list", "tuple", "dict"], kitB t "list" = some (t == "list") := by decide +kernel
theorem kit_tuple : ∀ t ∈ ["NoneType", "bool", "int", "str", "list", "tuple", "dict"], kitB t "tuple" = some (t == "tuple") := by decide +kernel
theorem isi_int {d : D} {t : String} (h : tyD d = some t) : isiD d "int" = some (isNum d || isTr d) := by
  cases d <;> cases h
  · exact kit_int "NoneType" (by simp)
  · exact kit_int "bool" (by simp)
  · exact kit_int "int" (by simp)
  · exact kit_int "str" (by simp)
  · exact kit_int "list" (by simp)
  · exact kit_int "tuple" (by simp)
  · exact kit_int "list" (by simp)
  · exact kit_int "dict" (by simp)
  · exact kit_int "dict" (by simp)
theorem isi_bool {d : D} {t : String} (h : tyD d = some t) : isiD d "bool" = some (isTr d) := by
  cases d <;> cases h
  · exact kit_bool "NoneType" (by simp)
  · exact kit_bool "bool" (by simp)
  · exact kit_bool "int" (by simp)
  · exact kit_bool "str" (by simp)
  · exact kit_bool "list" (by simp)
  · exact kit_bool "tuple" (by simp)
  · exact kit_bool "list" (by simp)
  · exact kit_bool "dict" (by simp)
  · exact kit_bool "dict" (by simp)
theorem isi_list {d : D} {t : String} (h : tyD d = some t) : isiD d "list" = some (isLst d) := by
  cases d <;> cases h
  · exact kit_list "NoneType" (by simp)
  · exact kit_list "bool" (by simp)
  · exact kit_list "int" (by simp)
  · exact kit_list "str" (by simp)
  · exact kit_list "list" (by simp)
  · exact kit_list "tuple" (by simp)
  · exact kit_list "list" (by simp)
  · exact kit_list "dict" (by simp)
  · exact kit_list "dict" (by simp)
theorem isi_tuple {d : D} {t : String} (h : tyD d = some t) : isiD d "tuple" = some (isTup d) := by
  cases d <;> cases h
  · exact kit_tuple "NoneType" (by simp)
  · exact kit_tuple "bool" (by simp)
  · exact kit_tuple "int" (by simp)
  · exact kit_tuple "str" (by simp)
  · exact kit_tuple "list" (by simp)
  · exact kit_tuple "tuple" (by simp)
  · exact kit_tuple "list" (by simp)
  · exact kit_tuple "dict" (by simp)
  · exact kit_tuple "dict" (by simp)

/-! how long a text is at most -/
def widKey : Key → Nat
  | .inl i => (toString i).length
  | .inr x => (reprText x).length
def widKeys : List Key → Nat
  | [] => 0
  | k :: ks => widKey k + 2 + widKeys ks
mutual
def wid : D → Nat
  | .non => 4
  | .bl _ => 5
  | .int i => (toString i).length
  | .str x => (reprText x).length
  | .lst xs => wids xs + 3
  | .tup xs => wids xs + 3
  | .ro xs => wids xs + 3
  | .dic kvs => widk kvs + 3
  | .dit kvs => widt kvs + 3
  | .ref _ => 4
def wids : List D → Nat
  | [] => 0
  | d :: ds => wid d + 2 + wids ds
def widk : List (Key × D) → Nat
  | [] => 0
  | (k, d) :: ds => widKey k + wid d + 4 + widk ds
def widt : List (List Key × D) → Nat
  | [] => 0
  | (k, d) :: ds => widKeys k + 3 + wid d + 4 + widt ds
end
theorem keyP_wid (k : Key) : (keyP k).shown.length ≤ widKey k := by
  cases k with
  | inl i =>
    exact Nat.le_of_eq (PySem.ofString_length (toString i))
  | inr x => exact Nat.le_refl _
theorem keyPs_wid : ∀ ks : List Key, ((PyData.shownAll (ks.map keyP)).map (·.length)).sum + 2 * ks.length ≤ widKeys ks
  | [] => Nat.le_refl _
  | k :: ks => by
    have h1 := keyP_wid k
    have h2 := keyPs_wid ks
    simp only [List.map_cons, PyData.shownAll, List.sum_cons, List.length_cons, widKeys]
    omega
theorem shownAll_len : ∀ xs : List PyData, (PyData.shownAll xs).length = xs.length
  | [] => rfl
  | x :: xs => by simp only [PyData.shownAll, List.length_cons, shownAll_len xs]
theorem pds_len (xs : List D) : (pds xs).length = xs.length := by rw [pds_map, List.length_map]
theorem pdk_len : ∀ xs : List (Key × D), (pdk xs).length = xs.length
  | [] => rfl
  | (k, d) :: xs => by simp only [pdk, List.length_cons, pdk_len xs]
theorem pdt_len : ∀ xs : List (List Key × D), (pdt xs).length = xs.length
  | [] => rfl
  | (k, d) :: xs => by simp only [pdt, List.length_cons, pdt_len xs]
mutual
theorem shn_wid : ∀ d : D, (pd d).shown.length ≤ wid d
  | .non => Nat.le_refl 4
  | .bl b => by cases b <;> decide
  | .int i => by
    simp only [wid]
    exact Nat.le_of_eq (PySem.ofString_length (toString i))
  | .str x => Nat.le_refl _
  | .ref n => Nat.le_refl 4
  | .lst xs => by
    have h1 := shns_wid xs
    have h2 := listText_len_le (PyData.shownAll (pds xs))
    rw [shownAll_len, pds_len] at h2
    simp only [pd, PyData.shown, wid]
    omega
  | .ro xs => by
    have h1 := shns_wid xs
    have h2 := listText_len_le (PyData.shownAll (pds xs))
    rw [shownAll_len, pds_len] at h2
    simp only [pd, PyData.shown, wid]
    omega
  | .tup xs => by
    have h1 := shns_wid xs
    have h2 := tupleText_len_le (PyData.shownAll (pds xs))
    rw [shownAll_len, pds_len] at h2
    simp only [pd, PyData.shown, wid]
    omega
  | .dic xs => by
    have h1 := shnk_wid xs
    have h2 := dictText_len_le (PyData.shownKv (pdk xs))
    rw [PyData.shownKv_length, pdk_len] at h2
    simp only [pd, PyData.shown, wid]
    omega
  | .dit xs => by
    have h1 := shnt_wid xs
    have h2 := dictText_len_le (PyData.shownKv (pdt xs))
    rw [PyData.shownKv_length, pdt_len] at h2
    simp only [pd, PyData.shown, wid]
    omega
theorem shns_wid : ∀ xs : List D, ((PyData.shownAll (pds xs)).map (·.length)).sum + 2 * xs.length ≤ wids xs
  | [] => Nat.le_refl _
  | d :: ds => by
    have h1 := shn_wid d
    have h2 := shns_wid ds
    simp only [pds, PyData.shownAll, List.map_cons, List.sum_cons, List.length_cons, wids]
    omega
theorem shnk_wid : ∀ xs : List (Key × D), ((PyData.shownKv (pdk xs)).map (·.length)).sum + 2 * xs.length ≤ widk xs
  | [] => Nat.le_refl _
  | (k, d) :: ds => by
    have h1 := shn_wid d
    have h2 := shnk_wid ds
    have h3 := keyP_wid k
    have e2 : ((keyP k).shown ++ ": " ++ (pd d).shown).length = (keyP k).shown.length + 2 + (pd d).shown.length := by
      rw [strLen_append, strLen_append]
      rfl
    simp only [pdk, PyData.shownKv, List.map_cons, List.sum_cons, List.length_cons, widk]
    omega
theorem shnt_wid : ∀ xs : List (List Key × D), ((PyData.shownKv (pdt xs)).map (·.length)).sum + 2 * xs.length ≤ widt xs
  | [] => Nat.le_refl _
  | (k, d) :: ds => by
    have h1 := shn_wid d
    have h2 := shnt_wid ds
    have h3 := keyPs_wid k
    have h4 := tupleText_len_le (PyData.shownAll (k.map keyP))
    rw [shownAll_len, List.length_map] at h4
    have e2 : ((PyData.tuple (k.map keyP)).shown ++ ": " ++ (pd d).shown).length = (PyData.tuple (k.map keyP)).shown.length + 2 + (pd d).shown.length := by
      rw [strLen_append, strLen_append]
      rfl
    have e3 : (PyData.tuple (k.map keyP)).shown.length ≤ widKeys k + 3 := by
      simp only [PyData.shown]
      omega
    simp only [pdt, PyData.shownKv, List.map_cons, List.sum_cons, List.length_cons, widt]
    omega
end
theorem wids_le {w : Nat} : ∀ {ds : List D}, (∀ d ∈ ds, wid d ≤ w) → wids ds ≤ ds.length * (w + 2)
  | [], _ => Nat.zero_le _
  | d :: ds, h => by
    have h1 := h d (List.mem_cons_self ..)
    have h2 := wids_le fun x hx => h x (List.mem_cons_of_mem _ hx)
    simp only [wids, List.length_cons, Nat.add_mul, Nat.one_mul]
    omega
theorem wid_int {i : Int} {k : Nat} (hk : 0 < k) (h : i.natAbs < 10 ^ k) : wid (.int i) ≤ k + 1 := int_text_length_le10 hk h
/-- repr of a datum -/
theorem repr_of {x y : D} {S : Store} {Q : QD} {w : Nat} (e : drf S x = y) (h : shw 60 y = true) (hw : wid y ≤ w) (hl : w ≤ sizeLine) (q : Q (.str (shn y)) S) : rRepr [x] S Q := by
  subst e
  exact ⟨h, Nat.le_trans (shn_wid _) (Nat.le_trans hw hl), q⟩
theorem repr_bl {b : Bool} {S : Store} {Q : QD} (q : Q (.str (shn (.bl b))) S) : rRepr [.bl b] S Q := repr_of (y := .bl b) (w := 5) rfl rfl (Nat.le_refl _) (by decide) q
mutual
theorem shw_up : ∀ {n m : Nat} {d : D}, n ≤ m → shw n d = true → shw m d = true
  | n, m, .non, _, h => by cases m <;> rfl
  | n, m, .bl b, _, h => by cases m <;> rfl
  | n, m, .int i, _, h => by cases n <;> cases m <;> simpa [shw] using h
  | n, m, .str x, _, h => by cases m <;> rfl
  | 0, m, .lst xs, _, h => by simp [shw] at h
  | 0, m, .tup xs, _, h => by simp [shw] at h
  | 0, m, .dic xs, _, h => by simp [shw] at h
  | 0, m, .dit xs, _, h => by simp [shw] at h
  | 1, m, .dit xs, _, h => by simp [shw] at h
  | n + 1, m + 1, .lst xs, l, h => by
    simp only [shw] at h ⊢
    exact shws_up (Nat.le_of_succ_le_succ l) h
  | n + 1, m + 1, .tup xs, l, h => by
    simp only [shw] at h ⊢
    exact shws_up (Nat.le_of_succ_le_succ l) h
  | n + 1, m + 1, .dic xs, l, h => by
    simp only [shw] at h ⊢
    exact shwk_up (Nat.le_of_succ_le_succ l) h
  | n + 2, m + 2, .dit xs, l, h => by
    simp only [shw] at h ⊢
    exact shwt_up (by omega) h
  | n, m, .ro xs, _, h => by cases n <;> simp [shw] at h
  | n, m, .ref xs, _, h => by cases n <;> simp [shw] at h
  | n + 1, 0, _, l, h => by omega
  | n + 2, 1, _, l, h => by omega
theorem shws_up : ∀ {n m : Nat} {ds : List D}, n ≤ m → shws n ds = true → shws m ds = true
  | n, m, [], _, h => by simp [shws]
  | n, m, d :: ds, l, h => by
    simp only [shws, Bool.and_eq_true] at h ⊢
    exact ⟨shw_up l h.1, shws_up l h.2⟩
theorem shwk_up : ∀ {n m : Nat} {ds : List (Key × D)}, n ≤ m → shwk n ds = true → shwk m ds = true
  | n, m, [], _, h => by simp [shwk]
  | n, m, (k, d) :: ds, l, h => by
    simp only [shwk, Bool.and_eq_true] at h ⊢
    exact ⟨⟨h.1.1, shw_up l h.1.2⟩, shwk_up l h.2⟩
theorem shwt_up : ∀ {n m : Nat} {ds : List (List Key × D)}, n ≤ m → shwt n ds = true → shwt m ds = true
  | n, m, [], _, h => by simp [shwt]
  | n, m, (k, d) :: ds, l, h => by
    simp only [shwt, Bool.and_eq_true] at h ⊢
    exact ⟨⟨h.1.1, shw_up l h.1.2⟩, shwt_up l h.2⟩
end
theorem shws_all {n : Nat} : ∀ {ds : List D}, shws n ds = true ↔ ∀ d ∈ ds, shw n d = true
  | [] => by simp [shws]
  | d :: ds => by simp [shws, shws_all (n := n) (ds := ds)]
theorem shw_int' {n : Nat} {i : Int} {k : Nat} (h : i.natAbs < 10 ^ k) (hk : k ≤ 570) : shw n (.int i) = true := by
  have h1 : i.natAbs < 2 ^ 1920 := Nat.lt_of_lt_of_le h (Nat.le_trans (Nat.pow_le_pow_right (by decide) hk) (by decide +kernel))
  have h2 : i.natAbs.log2 < 1920 := by
    by_cases h0 : i.natAbs = 0
    · rw [h0]
      decide
    · exact (Nat.log2_lt h0).mpr h1
  cases n <;> simpa [shw] using h2
end NC

set_option Elab.async false
set_option linter.all false
set_option maxRecDepth 100000
set_option maxHeartbeats 1000000
/-! NC13: steps at the head of a reading. -/
namespace NC
open PySem PySem.Spec PyProof.Rows L2
section
variable {ρ : Rho} {S : Store} {Q : QD} {N : DN} {ta tb tc : TD} {tt tu : TB} {tl tk : TLs} {su sv : TSd} {r r' : RD2} {r1 : RD1} {rs : RDs} {rm : RDm} {QB : Bool → Store → Prop} {QL : List D → Store → Prop} {i j n m : Nat} {d x : D} {t : Tg} {T T1 T2 : String} {pm : List Nat} {ts : TSr} {te : TD} {vs : List Nat} {lo hi : TOd} {xs ys : List D} {QO : Option Int → Store → Prop} {QI : List D → (Store → Prop) → Store → Prop} {b : Bool} {a : Int}
theorem i_runD (h : su { nx := fun _ S' => Q .non S', rt := Q } (startD n xs) S) : runD n su xs S Q := h
theorem i_sSeq (h : su { N with nx := sv N } ρ S) : sSeq su sv N ρ S := h
theorem i_sIf (h : tt ρ S fun c S1 => if c = true then su N ρ S1 else sv N ρ S1) : sIf tt su sv N ρ S := h
theorem i_sNil (h : N.nx ρ S) : sNil N ρ S := h
theorem i_sRet (h : ta ρ S N.rt) : sRet ta N ρ S := h
theorem i_sAsg (h : ta ρ S fun d S1 => ∃ ρ', bindT t d ρ = some ρ' ∧ N.nx ρ' S1) : sAsg t ta N ρ S := h
theorem i_sDrop (h : ta ρ S fun _ S1 => N.nx ρ S1) : sDrop ta N ρ S := h
theorem i_sPut (h : ta ρ S fun d S1 => tb ρ S1 fun o S2 => tc ρ S2 fun k S3 => ∃ n i ds j, o = .ref n ∧ k = .int i ∧ S3[n]? = some (some (.lst ds)) ∧ ixN ds.length i = some j ∧ N.nx ρ (S3.set n (some (.lst (ds.set j d))))) : sPut tb tc ta N ρ S := h
theorem i_sPar (h : tl ρ S fun ds S1 => ∃ d e, ds = [d, e] ∧ N.nx ((ρ.set i (some d)).set j (some e)) S1) : sPar i j tl N ρ S := h
theorem i_eVar (h : ρ[i]? = some (some d)) (q : Q d S) : eVar i ρ S Q := ⟨d, h, q⟩
theorem i_eVarX (h : ∃ d, ρ[i]? = some (some d) ∧ Q d S) : eVar i ρ S Q := h
theorem i_eC (h : Q d S) : eC d ρ S Q := h
theorem i_eOp (h : ta ρ S fun x S1 => tb ρ S1 fun y S2 => r x y S2 Q) : eOp r ta tb ρ S Q := h
theorem i_eChain (h : ta ρ S fun x S1 => tb ρ S1 fun y S2 => r x y S2 fun z S3 => ∃ k, z = .bl k ∧ if k = true then tc ρ S3 fun w S4 => r' y w S4 Q else Q (.bl false) S3) : eChain r r' ta tb tc ρ S Q := h
theorem i_eB (h : tl ρ S fun xs S1 => rs xs S1 Q) : eB rs tl ρ S Q := h
theorem i_eUn (h : ta ρ S fun x S1 => r1 x S1 Q) : eUn r1 ta ρ S Q := h
theorem i_eTup (h : tl ρ S fun xs S1 => xs.length ≤ sizeLine ∧ Q (.tup xs) S1) : eTup tl ρ S Q := h
theorem i_eLst (h : tl ρ S fun xs S1 => xs.length ≤ sizeLine ∧ Q (.lst xs) S1) : eLst tl ρ S Q := h
theorem i_eLstM (h : tl ρ S fun xs S1 => xs.length ≤ sizeLine ∧ Q (.ref S1.length) (S1 ++ [some (.lst xs)])) : eLstM tl ρ S Q := h
theorem i_eAnd (h : ta ρ S fun x S1 => ∃ c, x = .bl c ∧ if c = true then tb ρ S1 Q else Q (.bl false) S1) : eAnd ta tb ρ S Q := h
theorem i_eOr (h : ta ρ S fun x S1 => ∃ c, x = .bl c ∧ if c = true then Q (.bl true) S1 else tb ρ S1 Q) : eOr ta tb ρ S Q := h
theorem i_eNot (h : ta ρ S fun x S1 => ∃ c, x = .bl c ∧ Q (.bl (!c)) S1) : eNot ta ρ S Q := h
theorem i_eIf (h : tt ρ S fun c S1 => if c = true then ta ρ S1 Q else tb ρ S1 Q) : eIf tt ta tb ρ S Q := h
theorem i_bOf (h : ta ρ S fun x S1 => ∃ c, x = .bl c ∧ QB c S1) : bOf ta ρ S QB := h
theorem i_bAnd (h : tt ρ S fun c S1 => if c = true then tu ρ S1 QB else QB false S1) : bAnd tt tu ρ S QB := h
theorem i_bOr (h : tt ρ S fun c S1 => if c = true then QB true S1 else tu ρ S1 QB) : bOr tt tu ρ S QB := h
theorem i_bNot (h : tt ρ S fun c S1 => QB (!c) S1) : bNot tt ρ S QB := h
theorem i_bYes (h : QB true S) : bYes ρ S QB := h
theorem i_aNil (h : QL [] S) : aNil ρ S QL := h
theorem i_aCons (h : ta ρ S fun x S1 => tl ρ S1 fun xs S2 => QL (x :: xs) S2) : aCons ta tl ρ S QL := h
theorem i_eCall (h : tl ρ S fun xs S1 => rs xs S1 Q) : eCall rs tl ρ S Q := h
theorem i_eCallKw (h : tl ρ S fun xs S1 => tk ρ S1 fun ys S2 => xs.length = n ∧ ys.length = m ∧ rs (pick pm (xs ++ ys) .non) S2 Q) : eCallKw rs n m pm tl tk ρ S Q := h
theorem i_eCut (h : ta ρ S fun x S1 => lo ρ S1 fun l S2 => hi ρ S2 fun u S3 => rCut x l u S3 Q) : eCut ta lo hi ρ S Q := h
theorem i_oNone (h : QO none S) : oNone ρ S QO := h
theorem i_oSome (h : ta ρ S fun x S1 => ∃ i, x = .int i ∧ QO (some i) S1) : oSome ta ρ S QO := h
theorem i_eM (h : ta ρ S fun x S1 => tyM T (drf S1 x) ∧ tl ρ S1 fun xs S2 => rm x xs S2 Q) : eM T rm ta tl ρ S Q := h
theorem i_sSq (h : ta ρ S fun x S1 => ∃ xs, seqOf (drf S1 x) = some xs ∧ QI xs (fun S' => drf S' x = drf S1 x) S1) : sSq ta ρ S QI := h
theorem i_sRange1 (h : tl ρ S fun xs S1 => ∃ n : Int, xs = [.int n] ∧ -(2 ^ 62) ≤ n ∧ n < 2 ^ 62 ∧ QI (rangeD 0 n) (fun _ => True) S1) : sRange1 tl ρ S QI := h
theorem i_sRange2 (h : tl ρ S fun xs S1 => ∃ m n : Int, xs = [.int m, .int n] ∧ (-(2 ^ 62) ≤ m ∧ m < 2 ^ 62 ∧ -(2 ^ 62) ≤ n ∧ n < 2 ^ 62) ∧ QI (rangeD m n) (fun _ => True) S1) : sRange2 tl ρ S QI := h
theorem i_sEnum (h : aCons ta aNil ρ S fun ds S1 => ∃ d xs, ds = [d] ∧ drf S1 d = .lst xs ∧ QI (enumD xs) (fun S' => drf S' d = drf S1 d) S1) : sEnum ta ρ S QI := h
theorem i_eIsi (h : ta ρ S fun x S1 => ∃ b, isiD (drf S1 x) T = some b ∧ Q (.bl b) S1) : eIsi T ta ρ S Q := h
theorem i_eIsi2 (h : ta ρ S fun x S1 => ∃ b c, isiD (drf S1 x) T1 = some b ∧ isiD (drf S1 x) T2 = some c ∧ Q (.bl (b || c)) S1) : eIsi2 T1 T2 ta ρ S Q := h
theorem i_eLc (h : ts ρ S fun items stays S1 => Lc1 t tt te vs ρ items stays S1 fun acc S' => Q (.lst acc) S') : eLc ts t tt te vs ρ S Q := h
theorem i_eLcM (h : ts ρ S fun items stays S1 => Lc1 t tt te vs ρ items stays S1 fun acc S' => Q (.ref S'.length) (S' ++ [some (.lst acc)])) : eLcM ts t tt te vs ρ S Q := h
theorem i_sFor (h : ts ρ S fun items stays S1 => For1 t su N ρ items stays S1) : sFor ts t su N ρ S := h
theorem i_eDisp1 {k : Key} (h : ta ρ S fun d S1 => Q (.dic [(k, d)]) S1) : eDisp [(k, ta)] ρ S Q := h
/-! what stands between -/
theorem i_bl {P : Bool → Prop} (h : P b) : ∃ c, D.bl b = .bl c ∧ P c := ⟨b, rfl, h⟩
theorem i_int {P : Int → Prop} (h : P a) : ∃ c, D.int a = .int c ∧ P c := ⟨a, rfl, h⟩
theorem i_nm {P : Rho → Prop} (h : P (ρ.set i (some d))) : ∃ ρ', bindT (.nm i) d ρ = some ρ' ∧ P ρ' := ⟨_, by unfold bindT; rfl, h⟩
theorem i_one {P : D → Prop} (h : P d) : ∃ x, [d] = [x] ∧ P x := ⟨d, rfl, h⟩
theorem i_two {P : D → D → Prop} (h : P d x) : ∃ y z, [d, x] = [y, z] ∧ P y z := ⟨d, x, rfl, h⟩
theorem i_rng {P : Int → Prop} (h : P a) : ∃ n : Int, [D.int a] = [.int n] ∧ P n := ⟨a, rfl, h⟩
theorem i_len0 {P : Prop} (h : P) : ([] : List D).length ≤ sizeLine ∧ P := ⟨Nat.zero_le _, h⟩
theorem i_len1 {P : Prop} {l : List D} (hl : (d :: l).length ≤ 100) (h : P) : (d :: l).length ≤ sizeLine ∧ P := ⟨Nat.le_trans hl (by decide), h⟩
theorem i_int1 (h : Q (.int a) S) : rInt1 [.int a] S Q := h
theorem i_intb (h : Q (.int (if b then 1 else 0)) S) : rInt1 [.bl b] S Q := h
theorem i_abs (h : Q (.int (if a < 0 then -a else a)) S) : rAbs [.int a] S Q := h
theorem i_add {c : Int} (h : Q (.int (a + c)) S) : rAdd (.int a) (.int c) S Q := h
theorem i_sub {c : Int} (h : Q (.int (a - c)) S) : rSub (.int a) (.int c) S Q := int2 trivial h
theorem i_lt {c : Int} (h : Q (.bl (decide (a < c))) S) : rLt (.int a) (.int c) S Q := int2 trivial h
theorem i_le {c : Int} (h : Q (.bl (decide (a ≤ c))) S) : rLe (.int a) (.int c) S Q := int2 trivial h
theorem i_gt {c : Int} (h : Q (.bl (decide (c < a))) S) : rGt (.int a) (.int c) S Q := int2 trivial h
theorem i_ge {c : Int} (h : Q (.bl (decide (c ≤ a))) S) : rGe (.int a) (.int c) S Q := int2 trivial h
theorem i_eqi {c : Int} (h : Q (.bl (decide (a = c))) S) : rEq3 (.int a) (.int c) S Q := eq_int h
theorem i_is (h : Q (.bl (isN x)) S) : rIs x .non S Q := ⟨rfl, h⟩
theorem i_isn (h : Q (.bl (!isN x)) S) : rIsn x .non S Q := ⟨rfl, h⟩
theorem i_nes {x y : Str} (h : Q (.bl (!decide (x = y))) S) : rNe3 (.str x) (.str y) S Q := ne_str h
theorem i_rbl (h : Q (.str (shn (.bl b))) S) : rRepr [.bl b] S Q := repr_bl h
theorem i_kw0 {P : Prop} (h : P) : ([] : List D).length = 0 ∧ P := ⟨rfl, h⟩
end
theorem rangeD_len (lo hi : Int) : (rangeD lo hi).length = (hi - lo).toNat := by
  unfold rangeD
  rw [List.length_map, List.length_range]
theorem iteT {A B : Prop} (h : A) : if true = true then A else B := by rw [if_pos rfl]; exact h
theorem iteF {A B : Prop} (h : B) : if false = true then A else B := by rw [if_neg (by decide)]; exact h
theorem ite_by {c : Bool} {A B : Prop} (h1 : c = true → A) (h2 : c = false → B) : if c = true then A else B := by
  cases c with
  | true => exact iteT (h1 rfl)
  | false => exact iteF (h2 rfl)
/-- a list of things drawn -/
theorem lc_draw {items : List D} {stays : Store → Prop} {t : Tg} {te : TD} {vs : List Nat} {ρ : Rho} {T : Store} {R : List D → Store → Prop} {k : Nat} {o : SO} (c : Nat) (P : D → Prop) (hst : ∀ S', stays S') (hl : items.length ≤ 1000) (u : Urn k o)
    (step : ∀ d ∈ items, ∃ ρ2, bindT t d (wipeD ρ vs) = some ρ2 ∧ ∀ (j : Nat) (o : SO), Urn j o → j + c ≤ k + c * items.length → ∀ Q : QD, (∀ o' y, Urn (j + c) o' → P y → Q y (some o' :: T)) → te ρ2 (some o :: T) Q)
    (fin : ∀ o' acc, Urn (k + c * items.length) o' → acc.length = items.length → (∀ y ∈ acc, P y) → R acc (some o' :: T)) : Lc1 t bYes te vs ρ items stays (some o :: T) R := by
  refine ⟨fun i acc S' => ∃ o', Urn (k + c * i) o' ∧ S' = some o' :: T ∧ acc.length = i ∧ ∀ y ∈ acc, P y, ⟨o, u, rfl, rfl, fun y h => (nomatch h)⟩, fun _ _ S' _ => hst S', Nat.le_trans hl (by decide), ?_, ?_⟩
  · rintro i d acc S' hd ⟨o', u', rfl, hlen, hP⟩
    obtain ⟨ρ2, e, q⟩ := step d (List.mem_of_getElem? hd)
    have hi : i < items.length := (List.getElem?_eq_some_iff.mp hd).1
    have hm : c * i + c ≤ c * items.length := by
      have := Nat.mul_le_mul_left c (show i + 1 ≤ items.length from hi)
      rwa [Nat.mul_add, Nat.mul_one] at this
    refine ⟨ρ2, e, i_bYes ?_⟩
    refine iteT (q (k + c * i) o' u' (by omega) _ fun o2 y u2 py => ⟨o2, ?_, rfl, by simp [hlen], fun z hz => ?_⟩)
    · have e2 : k + c * (i + 1) = k + c * i + c := by rw [Nat.mul_add, Nat.mul_one]; omega
      rw [e2]
      exact u2
    · rcases List.mem_append.mp hz with h | h
      · exact hP z h
      · rw [List.mem_singleton.mp h]
        exact py
  · rintro acc S' ⟨o', u', rfl, hlen, hP⟩
    exact fin o' acc u' hlen hP
theorem drf_ty {d : D} {t : String} {S : Store} (h : tyD d = some t) : drf S d = d := by
  cases d with
  | ref m => cases h
  | _ => rfl
theorem seq_lt {d : D} : (isLst d || isTup d) = true → ∃ ys, seqOf d = some ys := by
  cases d with
  | lst xs => exact fun _ => ⟨xs, rfl⟩
  | tup xs => exact fun _ => ⟨xs, rfl⟩
  | ro xs => exact fun _ => ⟨xs, rfl⟩
  | _ => exact fun h => nomatch h
theorem seq_no {d : D} : (isLst d || isTup d) = false → seqOf d = none := by
  cases d with
  | lst xs => exact fun h => nomatch h
  | tup xs => exact fun h => nomatch h
  | ro xs => exact fun h => nomatch h
  | _ => exact fun _ => rfl
/-! unlike things -/
theorem len_sub {α : Type} [DecidableEq α] : ∀ {l m : List α}, l.Nodup → (∀ x ∈ l, x ∈ m) → l.length ≤ m.length
  | [], _, _, _ => Nat.zero_le _
  | x :: l, m, hn, hs => by
    have hx := hs x (List.mem_cons_self ..)
    have hn' := List.nodup_cons.mp hn
    have h := len_sub (l := l) (m := m.erase x) hn'.2 fun y hy => by
      have hne : y ≠ x := fun e => hn'.1 (e ▸ hy)
      exact (List.mem_erase_of_ne hne).mpr (hs y (List.mem_cons_of_mem _ hy))
    rw [List.length_erase_of_mem hx] at h
    have : 0 < m.length := List.length_pos_of_mem hx
    rw [List.length_cons]
    omega
theorem dup_short {α : Type} [DecidableEq α] : ∀ {m : List α}, ¬ m.Nodup → ∃ m' : List α, m'.length < m.length ∧ ∀ x ∈ m, x ∈ m'
  | [], h => (h List.nodup_nil).elim
  | x :: t, h => by
    by_cases hx : x ∈ t
    · exact ⟨t, by simp, fun y hy => (List.mem_cons.mp hy).elim (fun e => e ▸ hx) id⟩
    · have ht : ¬ t.Nodup := fun q => h (List.nodup_cons.mpr ⟨hx, q⟩)
      obtain ⟨m', h1, h2⟩ := dup_short ht
      refine ⟨x :: m', by simpa using h1, fun y hy => ?_⟩
      rcases List.mem_cons.mp hy with e | e
      · rw [e]
        exact List.mem_cons_self ..
      · exact List.mem_cons_of_mem _ (h2 y e)
theorem nodup_len {α : Type} [DecidableEq α] {l m : List α} (hl : l.Nodup) (h : ∀ x, x ∈ l ↔ x ∈ m) : l.length = m.length ↔ m.Nodup := by
  constructor
  · intro e
    refine Classical.byContradiction fun hm => ?_
    obtain ⟨m', h1, h2⟩ := dup_short hm
    have := len_sub hl fun x hx => h2 x ((h x).mp hx)
    omega
  · intro hm
    exact Nat.le_antisymm (len_sub hl fun x hx => (h x).mp hx) (len_sub hm fun x hx => (h x).mpr hx)
/-! lists of ints as data -/
theorem eqv_ints : ∀ p q : List Int, PyData.eqvAll (pds (p.map .int)) (pds (q.map .int)) = decide (p = q)
  | [], [] => rfl
  | [], _ :: _ => rfl
  | _ :: _, [] => rfl
  | a :: p, b :: q => by
    have h := eqv_ints p q
    show ((a == b) && PyData.eqvAll (pds (p.map .int)) (pds (q.map .int))) = _
    rw [h, Bool.eq_iff_iff]
    simp
theorem fl_ints {n : Nat} : ∀ p : List Int, fls n (p.map .int) = true
  | [] => by simp [fls]
  | a :: p => by
    have h := fl_ints (n := n) p
    cases n <;> simpa [fls, fl] using h
theorem eqd_lsts (p q : List Int) : eqd (.lst (p.map .int)) (.lst (q.map .int)) = decide (p = q) := by
  have := eqv_ints p q
  exact this
theorem eqd_tups (p q : List Int) : eqd (.tup (p.map .int)) (.tup (q.map .int)) = decide (p = q) := by
  have := eqv_ints p q
  exact this
theorem nodup_take {α : Type} {l : List α} : l.Nodup ↔ ∀ (i : Nat) (x : α), l[i]? = some x → x ∉ l.take i := by
  rw [List.Nodup, List.pairwise_iff_getElem]
  constructor
  · intro h i x hi hm
    obtain ⟨h1, e1⟩ := List.getElem?_eq_some_iff.mp hi
    obtain ⟨j, hj, e2⟩ := List.mem_take_iff_getElem.mp hm
    exact h j i (by omega) h1 (by omega) (e2.trans e1.symm)
  · intro h i j hi hj hij e
    exact h j _ (List.getElem?_eq_getElem hj) (List.mem_take_iff_getElem.mpr ⟨i, by omega, e⟩)
theorem cut_to {l : List D} {i : Nat} : cutD l none (some (i : Int)) = l.take i := by
  unfold cutD
  rw [HT.sIx_none, HT.sIx_nat, List.drop_zero, Nat.sub_zero]
  by_cases h : i ≤ l.length
  · rw [Nat.min_eq_left h]
  · rw [Nat.min_eq_right (by omega), List.take_length, List.take_of_length_le (by omega)]
theorem cut_lst {x : D} {xs : List D} {lo hi : Option Int} {S : Store} {Q : QD} (h : drf S x = .lst xs) (q : Q (.lst (cutD xs lo hi)) S) : rCut x lo hi S Q := by
  unfold rCut
  rw [h]
  exact q
theorem cut_tup {x : D} {xs : List D} {lo hi : Option Int} {S : Store} {Q : QD} (h : drf S x = .tup xs) (q : Q (.tup (cutD xs lo hi)) S) : rCut x lo hi S Q := by
  unfold rCut
  rw [h]
  exact q
theorem drf_ref {S : Store} {n : Nat} {ds : List D} (h : S[n]? = some (some (.lst ds))) : drf S (.ref n) = .lst ds := by
  simp only [drf, h]
end NC

set_option Elab.async false
set_option linter.all false
set_option maxRecDepth 100000
set_option maxHeartbeats 4000000
namespace NC
open PySem PySem.Spec PyProof.Rows L2

/-! what each def promises -/
abbrev r_law_urn : RDs := rUrn
abbrev r_law_draw : RDs := rDraw
def Big (n : Int) : Prop := n.natAbs ≤ 10 ^ 60
def r_law_number : RDs := fun xs S Q => ∃ (k : Nat) (o : SO) (T : Store), xs = [.ref 0] ∧ S = some o :: T ∧ Urn k o ∧ k < 900000 ∧ ∀ (o' : SO) (n : Int), Urn (k + 2) o' → Big n → Q (.int n) (some o' :: T)
def odds : List D := [.non, .bl true, .bl false, .str "5", .str "", .lst [], .lst [.int 3], .tup [.int 0, .int 0], .dic [], .dic [(.inl 1, .int 2)]]
def r_law_odd : RDs := fun xs S Q => ∃ (k : Nat) (o : SO) (T : Store), xs = [.ref 0] ∧ S = some o :: T ∧ Urn k o ∧ k < 900000 ∧ ∀ (o' : SO) (d : D), Urn (k + 1) o' → d ∈ odds → Q d (some o' :: T)
def r_law_is_number : RDs := fun xs S Q => ∃ d t, xs = [d] ∧ tyD d = some t ∧ Q (.bl (isNum d)) S
abbrev r_is_integer : RDs := r_law_is_number
def leD : D → D → Bool
  | .int a, .int b => decide (a ≤ b)
  | _, _ => true
def NI (d : D) : Prop := d = .non ∨ ∃ i, d = .int i
def inside (v l m : D) : Bool := isNum v && ((isN l || leD l v) && (isN m || leD v m))
def r_is_within : RDs := fun xs S Q => ∃ v l m t, xs = [v, l, m] ∧ tyD v = some t ∧ NI l ∧ NI m ∧ Q (.bl (inside v l m)) S
/-- a pair that may be drawn -/
def Pr (p : D) : Prop := p ∈ odds ∨ (∃ ns : List Int, p = .lst (ns.map .int) ∧ ns.length ≤ 4 ∧ ∀ n ∈ ns, Big n) ∨ (∃ n d, p = .tup [.int n, d] ∧ Big n ∧ d ∈ odds) ∨ ∃ a b, p = .tup [.int a, .int b] ∧ Big a ∧ Big b
def r_law_pair : RDs := fun xs S Q => ∃ (k : Nat) (o : SO) (T : Store), xs = [.ref 0] ∧ S = some o :: T ∧ Urn k o ∧ k < 800000 ∧ ∀ (o' : SO) (p : D), Urn (k + 10) o' → Pr p → Q p (some o' :: T)
def Flat (d : D) : Prop := (∃ t, tyD d = some t) ∧ (∀ zs, d ≠ .ro zs) ∧ ∀ ys, seqOf d = some ys → ys.length ≤ sizeLine ∧ ∀ y ∈ ys, ∃ t, tyD y = some t
def isSq (d : D) : Bool := match seqOf d with
  | some [x, y] => isNum x && isNum y
  | _ => false
def r_is_square : RDs := fun xs S Q => ∃ d, xs = [d] ∧ Flat d ∧ Q (.bl (isSq d)) S
abbrev r_law_is_pair : RDs := r_is_square
def pairOf (d : D) : List Int := match seqOf d with
  | some [.int a, .int b] => [a, b]
  | _ => []
def areSq (d : D) : Bool := match seqOf d with
  | some ys => ys.all isSq && decide (ys.map pairOf).Nodup
  | none => false
def r_are_squares : RDs := fun xs S Q => ∃ d e t, xs = [d] ∧ drf S d = e ∧ tyD e = some t ∧ (∀ ys, seqOf e = some ys → ys.length < 60 ∧ ∀ y ∈ ys, Flat y) ∧ Q (.bl (areSq e)) S
abbrev r_law_are_pairs : RDs := r_are_squares
def r_law : RDs := fun xs S Q => ∃ ns : List Int, xs = [.ro (ns.map .int)] ∧ S = [] ∧ ns.length ≤ 63 ∧ ∀ S', Q (.bl true) S'

/-- _law_urn: 0=script 1=cell -/
def b_law_urn : TSd := (sRet (eLstM (aCons (eLc (sSq (eCut (eVar 0) oNone (oSome (eC (.int 63))))) (.nm 1) bYes (eB rInt1 (aCons (eVar 1) aNil)) [1]) (aCons (eC (.int 0)) (aCons (eC (.int 0)) aNil)))))

/-- _law_draw: 0=jar 1=many 2=at 3=cell 4=mixed 5=rest -/
def b_law_draw : TSd := (sSeq (sIf (bOf (eOp rGt (eOp rIx2 (eVar 0) (eC (.int 2))) (eC (.int 0))))
    (sSeq (sAsg (.nm 5) (eB rInt1 (aCons (eOp rIx2 (eVar 0) (eC (.int 2))) aNil)))
    (sSeq (sPut (eVar 0) (eC (.int 2)) (eOp rDiv (eVar 5) (eVar 1)))
    (sRet (eOp rMod (eB rInt1 (aCons (eVar 5) aNil)) (eVar 1)))))
    sNil)
    (sSeq (sAsg (.nm 2) (eOp rIx2 (eVar 0) (eC (.int 1))))
    (sSeq (sPut (eVar 0) (eC (.int 1)) (eOp rAdd (eVar 2) (eC (.int 1))))
    (sSeq (sAsg (.nm 3) (eOp rAdd (eOp rMulI (eC (.int 61553)) (eVar 2)) (eC (.int 5227))))
    (sSeq (sIf (bOf (eOp rNe3 (eOp rIx2 (eVar 0) (eC (.int 0))) (eLst aNil)))
    (sAsg (.nm 3) (eOp rIx2 (eOp rIx2 (eVar 0) (eC (.int 0))) (eOp rMod (eB rInt1 (aCons (eVar 2) aNil)) (eB rLen (aCons (eOp rIx2 (eVar 0) (eC (.int 0))) aNil)))))
    sNil)
    (sSeq (sIf (bAnd (bOf (eOp rLt (eVar 2) (eB rLen (aCons (eOp rIx2 (eVar 0) (eC (.int 0))) aNil)))) (bOf (eOp rGe (eB rAbs (aCons (eVar 3) aNil)) (eOp rPow (eC (.int 10)) (eC (.int 18))))))
    (sSeq (sAsg (.nm 5) (eOp rAdd (eOp rMulI (eC (.int 2)) (eOp rSub (eB rAbs (aCons (eVar 3) aNil)) (eOp rPow (eC (.int 10)) (eC (.int 18))))) (eB rInt1 (aCons (eOp rLt (eVar 3) (eC (.int 0))) aNil))))
    (sSeq (sPut (eVar 0) (eC (.int 2)) (eOp rDiv (eB rInt1 (aCons (eVar 5) aNil)) (eVar 1)))
    (sRet (eOp rMod (eB rInt1 (aCons (eVar 5) aNil)) (eVar 1)))))
    sNil)
    (sSeq (sAsg (.nm 4) (eOp rMod (eB rInt1 (aCons (eOp rPow (eOp rAdd (eOp rAdd (eOp rMod (eB rInt1 (aCons (eVar 3) aNil)) (eC (.int 2147483587))) (eOp rMulI (eC (.int 36319)) (eVar 2))) (eC (.int 5227))) (eC (.int 5))) aNil)) (eC (.int 2147483563))))
    (sSeq (sAsg (.nm 4) (eOp rMod (eB rInt1 (aCons (eOp rPow (eOp rAdd (eOp rAdd (eOp rMulI (eVar 4) (eOp rAdd (eOp rMulI (eC (.int 2)) (eVar 2)) (eC (.int 4733)))) (eOp rMulI (eOp rMulI (eC (.int 61553)) (eVar 2)) (eVar 2))) (eC (.int 36319))) (eC (.int 3))) aNil)) (eC (.int 2147483629))))
    (sRet (eOp rMod (eB rInt1 (aCons (eOp rDiv (eVar 4) (eC (.int 64))) aNil)) (eVar 1)))))))))))

/-- _law_number: 0=urn 1=size -/
def b_law_number : TSd := (sSeq (sAsg (.nm 1) (eOp rIx2 (eLst (aCons (eC (.int 3)) (aCons (eC (.int 70)) (aCons (eOp rPow (eC (.int 10)) (eC (.int 9))) (aCons (eOp rPow (eC (.int 10)) (eC (.int 60))) aNil))))) (eCall r_law_draw (aCons (eVar 0) (aCons (eC (.int 4)) aNil)))))
    (sRet (eOp rSub (eCall r_law_draw (aCons (eVar 0) (aCons (eOp rAdd (eOp rMulI (eC (.int 2)) (eVar 1)) (eC (.int 1))) aNil))) (eVar 1))))

/-- _law_odd: 0=urn -/
def b_law_odd : TSd := (sRet (eOp rIx2 (eLst (aCons (eC .non) (aCons (eC (.bl true)) (aCons (eC (.bl false)) (aCons (eC (.str "5")) (aCons (eC (.str "")) (aCons (eLst aNil) (aCons (eLst (aCons (eC (.int 3)) aNil)) (aCons (eTup (aCons (eC (.int 0)) (aCons (eC (.int 0)) aNil))) (aCons (eC (.dic [])) (aCons (eDisp [((.inl 1), (eC (.int 2)))]) aNil))))))))))) (eCall r_law_draw (aCons (eVar 0) (aCons (eC (.int 10)) aNil)))))

/-- _law_is_number: 0=value -/
def b_law_is_number : TSd := (sRet (eAnd (eIsi "int" (eVar 0)) (eNot (eIsi "bool" (eVar 0)))))

/-- is_integer: 0=value -/
def b_is_integer : TSd := (sRet (eAnd (eIsi "int" (eVar 0)) (eNot (eIsi "bool" (eVar 0)))))

/-- is_within: 0=value 1=least 2=most -/
def b_is_within : TSd := (sSeq (sIf (bNot (bOf (eCall r_is_integer (aCons (eVar 0) aNil))))
    (sRet (eC (.bl false)))
    sNil)
    (sRet (eAnd (eOr (eOp rIs (eVar 1) (eC .non)) (eOp rLe (eVar 1) (eVar 0))) (eOr (eOp rIs (eVar 2) (eC .non)) (eOp rLe (eVar 0) (eVar 2))))))

/-- _law_pair: 0=urn 1=kind 2=pair 3=turn -/
def b_law_pair : TSd := (sSeq (sAsg (.nm 1) (eCall r_law_draw (aCons (eVar 0) (aCons (eC (.int 9)) aNil))))
    (sSeq (sIf (bOf (eOp rEq3 (eVar 1) (eC (.int 0))))
    (sRet (eLc (sRange1 (aCons (eOp rIx2 (eLst (aCons (eC (.int 0)) (aCons (eC (.int 1)) (aCons (eC (.int 3)) (aCons (eC (.int 4)) aNil))))) (eCall r_law_draw (aCons (eVar 0) (aCons (eC (.int 4)) aNil)))) aNil)) (.nm 3) bYes (eCall r_law_number (aCons (eVar 0) aNil)) [3]))
    sNil)
    (sSeq (sIf (bOf (eOp rEq3 (eVar 1) (eC (.int 1))))
    (sRet (eTup (aCons (eCall r_law_number (aCons (eVar 0) aNil)) (aCons (eCall r_law_odd (aCons (eVar 0) aNil)) aNil))))
    sNil)
    (sSeq (sIf (bOf (eOp rEq3 (eVar 1) (eC (.int 2))))
    (sRet (eCall r_law_odd (aCons (eVar 0) aNil)))
    sNil)
    (sSeq (sAsg (.nm 2) (eLst (aCons (eOp rSub (eCall r_law_draw (aCons (eVar 0) (aCons (eC (.int 5)) aNil))) (eC (.int 2))) (aCons (eOp rSub (eCall r_law_draw (aCons (eVar 0) (aCons (eC (.int 5)) aNil))) (eC (.int 2))) aNil))))
    (sRet (eIf (bOf (eOp rEq3 (eCall r_law_draw (aCons (eVar 0) (aCons (eC (.int 2)) aNil))) (eC (.int 0)))) (eB rTuple (aCons (eVar 2) aNil)) (eVar 2))))))))

/-- is_square: 0=value 1=number -/
def b_is_square : TSd := (sRet (eAnd (eIsi2 "list" "tuple" (eVar 0)) (eAnd (eOp rEq3 (eB rLen (aCons (eVar 0) aNil)) (eC (.int 2))) (eB rAll2 (aCons (eLc (sSq (eVar 0)) (.nm 1) bYes (eCall r_is_integer (aCons (eVar 1) aNil)) [1]) aNil)))))

/-- _law_is_pair: 0=value -/
def b_law_is_pair : TSd := (sRet (eAnd (eIsi2 "list" "tuple" (eVar 0)) (eAnd (eOp rEq3 (eB rLen (aCons (eVar 0) aNil)) (eC (.int 2))) (eAnd (eCall r_law_is_number (aCons (eOp rIx2 (eVar 0) (eC (.int 0))) aNil)) (eCall r_law_is_number (aCons (eOp rIx2 (eVar 0) (eC (.int 1))) aNil))))))

/-- are_squares: 0=value 1=each -/
def b_are_squares : TSd := (sSeq (sIf (bOr (bNot (bOf (eIsi2 "list" "tuple" (eVar 0)))) (bNot (bOf (eB rAll2 (aCons (eLc (sSq (eVar 0)) (.nm 1) bYes (eCall r_is_square (aCons (eVar 1) aNil)) [1]) aNil)))))
    (sRet (eC (.bl false)))
    sNil)
    (sRet (eOp rEq3 (eUn rLenSet (eLc (sSq (eVar 0)) (.nm 1) bYes (eB rTuple (aCons (eVar 1) aNil)) [1])) (eB rLen (aCons (eVar 0) aNil)))))

/-- _law_are_pairs: 0=value 1=rows 2=each 3=at 4=row -/
def b_law_are_pairs : TSd := (sSeq (sIf (bOr (bNot (bOf (eIsi2 "list" "tuple" (eVar 0)))) (bOf (eOp rNe3 (eLc (sSq (eVar 0)) (.nm 2) (bNot (bOf (eCall r_law_is_pair (aCons (eVar 2) aNil)))) (eVar 2) [2]) (eLst aNil))))
    (sRet (eC (.bl false)))
    sNil)
    (sSeq (sAsg (.nm 1) (eLc (sSq (eVar 0)) (.nm 2) bYes (eLst (aCons (eOp rIx2 (eVar 2) (eC (.int 0))) (aCons (eOp rIx2 (eVar 2) (eC (.int 1))) aNil))) [2]))
    (sRet (eOp rEq3 (eLc (sEnum (eVar 1)) (.tp [(.nm 3), (.nm 4)]) (bOf (eOp rInD2 (eVar 4) (eCut (eVar 1) oNone (oSome (eVar 3))))) (eVar 3) [3, 4]) (eLst aNil)))))

/-- law: 0=script 1=urn 2=turn 3=number 4=least 5=most 6=due 7=pair 8=some 9=value 10=kept 11=odd 12=spot 13=each -/
def b_law : TSd := (sSeq (sAsg (.nm 1) (eCall r_law_urn (aCons (eVar 0) aNil)))
    (sSeq (sFor (sRange1 (aCons (eC (.int 4)) aNil)) (.nm 2)
    (sSeq (sAsg (.nm 3) (eIf (bOf (eOp rGt (eCall r_law_draw (aCons (eVar 1) (aCons (eC (.int 3)) aNil))) (eC (.int 0)))) (eCall r_law_number (aCons (eVar 1) aNil)) (eCall r_law_odd (aCons (eVar 1) aNil))))
    (sSeq (sAsg (.nm 4) (eIf (bOf (eOp rEq3 (eCall r_law_draw (aCons (eVar 1) (aCons (eC (.int 3)) aNil))) (eC (.int 0)))) (eC .non) (eCall r_law_number (aCons (eVar 1) aNil))))
    (sSeq (sAsg (.nm 5) (eIf (bOf (eOp rEq3 (eCall r_law_draw (aCons (eVar 1) (aCons (eC (.int 3)) aNil))) (eC (.int 0)))) (eC .non) (eCall r_law_number (aCons (eVar 1) aNil))))
    (sSeq (sIf (bAnd (bOf (eCall r_law_is_number (aCons (eVar 3) aNil))) (bOf (eOp rEq3 (eCall r_law_draw (aCons (eVar 1) (aCons (eC (.int 3)) aNil))) (eC (.int 0)))))
    (sAsg (.tp [(.nm 4), (.nm 5)]) (eOp rIx2 (eLst (aCons (eTup (aCons (eVar 3) (aCons (eC .non) aNil))) (aCons (eTup (aCons (eC .non) (aCons (eVar 3) aNil))) (aCons (eTup (aCons (eVar 3) (aCons (eVar 3) aNil))) (aCons (eTup (aCons (eOp rAdd (eVar 3) (eC (.int 1))) (aCons (eC .non) aNil))) (aCons (eTup (aCons (eC .non) (aCons (eOp rSub (eVar 3) (eC (.int 1))) aNil))) aNil)))))) (eCall r_law_draw (aCons (eVar 1) (aCons (eC (.int 5)) aNil)))))
    sNil)
    (sSeq (sAsg (.nm 6) (eCall r_law_is_number (aCons (eVar 3) aNil)))
    (sSeq (sIf (bOr (bOf (eOp rNe3 (eB rRepr (aCons (eCall r_is_integer (aCons (eVar 3) aNil)) aNil)) (eB rRepr (aCons (eVar 6) aNil)))) (bOf (eOp rNe3 (eB rRepr (aCons (eCallKw r_is_integer 0 1 [0] aNil (aCons (eVar 3) aNil)) aNil)) (eB rRepr (aCons (eVar 6) aNil)))))
    (sRet (eC (.bl false)))
    sNil)
    (sSeq (sAsg (.nm 6) (eAnd (eVar 6) (eAnd (eOr (eOp rIs (eVar 4) (eC .non)) (eOp rGe (eVar 3) (eVar 4))) (eOr (eOp rIs (eVar 5) (eC .non)) (eOp rLe (eVar 3) (eVar 5))))))
    (sSeq (sIf (bOr (bOf (eOp rNe3 (eB rRepr (aCons (eCall r_is_within (aCons (eVar 3) (aCons (eVar 4) (aCons (eVar 5) aNil)))) aNil)) (eB rRepr (aCons (eVar 6) aNil)))) (bOf (eOp rNe3 (eB rRepr (aCons (eCallKw r_is_within 0 3 [1, 2, 0] aNil (aCons (eVar 5) (aCons (eVar 3) (aCons (eVar 4) aNil)))) aNil)) (eB rRepr (aCons (eVar 6) aNil)))))
    (sRet (eC (.bl false)))
    sNil)
    (sSeq (sAsg (.nm 7) (eCall r_law_pair (aCons (eVar 1) aNil)))
    (sSeq (sIf (bOr (bOf (eOp rNe3 (eB rRepr (aCons (eCall r_is_square (aCons (eVar 7) aNil)) aNil)) (eB rRepr (aCons (eCall r_law_is_pair (aCons (eVar 7) aNil)) aNil)))) (bOf (eOp rNe3 (eB rRepr (aCons (eCallKw r_is_square 0 1 [0] aNil (aCons (eVar 7) aNil)) aNil)) (eB rRepr (aCons (eCall r_law_is_pair (aCons (eVar 7) aNil)) aNil)))))
    (sRet (eC (.bl false)))
    sNil)
    (sSeq (sAsg (.nm 8) (eLcM (sRange1 (aCons (eCall r_law_draw (aCons (eVar 1) (aCons (eC (.int 5)) aNil))) aNil)) (.nm 12) bYes (eCall r_law_pair (aCons (eVar 1) aNil)) [12]))
    (sSeq (sIf (bOf (eOp rEq3 (eCall r_law_draw (aCons (eVar 1) (aCons (eC (.int 2)) aNil))) (eC (.int 0))))
    (sAsg (.nm 8) (eLcM (sSq (eVar 8)) (.nm 13) (bOf (eCall r_law_is_pair (aCons (eVar 13) aNil))) (eVar 13) [13]))
    sNil)
    (sSeq (sIf (bAnd (bOf (eOp rNe3 (eVar 8) (eLst aNil))) (bAnd (bOf (eOp rEq3 (eCall r_law_draw (aCons (eVar 1) (aCons (eC (.int 3)) aNil))) (eC (.int 0)))) (bOf (eCall r_law_is_pair (aCons (eOp rIx2 (eVar 8) (eC (.int 0))) aNil)))))
    (sDrop (eM "list" rIns (eVar 8) (aCons (eCall r_law_draw (aCons (eVar 1) (aCons (eOp rAdd (eB rLen (aCons (eVar 8) aNil)) (eC (.int 1))) aNil))) (aCons (eLst (aCons (eOp rIx2 (eOp rIx2 (eVar 8) (eC (.int 0))) (eC (.int 0))) (aCons (eOp rIx2 (eOp rIx2 (eVar 8) (eC (.int 0))) (eC (.int 1))) aNil))) aNil))))
    sNil)
    (sSeq (sAsg (.nm 9) (eIf (bOf (eOp rEq3 (eCall r_law_draw (aCons (eVar 1) (aCons (eC (.int 2)) aNil))) (eC (.int 0)))) (eB rTuple (aCons (eVar 8) aNil)) (eVar 8)))
    (sSeq (sAsg (.nm 10) (eB rRepr (aCons (eVar 9) aNil)))
    (sSeq (sIf (bOr (bOf (eOp rNe3 (eB rRepr (aCons (eCall r_are_squares (aCons (eVar 9) aNil)) aNil)) (eB rRepr (aCons (eCall r_law_are_pairs (aCons (eVar 9) aNil)) aNil)))) (bOr (bOf (eOp rNe3 (eB rRepr (aCons (eCallKw r_are_squares 0 1 [0] aNil (aCons (eVar 9) aNil)) aNil)) (eB rRepr (aCons (eCall r_law_are_pairs (aCons (eVar 9) aNil)) aNil)))) (bOf (eOp rNe3 (eB rRepr (aCons (eVar 9) aNil)) (eVar 10)))))
    (sRet (eC (.bl false)))
    sNil)
    (sSeq (sAsg (.nm 11) (eCall r_law_odd (aCons (eVar 1) aNil)))
    (sIf (bOf (eOp rNe3 (eB rRepr (aCons (eCall r_are_squares (aCons (eVar 11) aNil)) aNil)) (eB rRepr (aCons (eAnd (eOp rEq3 (eVar 11) (eLst aNil)) (eIsi "list" (eVar 11))) aNil))))
    (sRet (eC (.bl false)))
    sNil)))))))))))))))))))
    (sRet (eC (.bl true)))))



theorem len_law_urn (xs : List D) (S : Store) (Q : QD) (h : r_law_urn xs S Q) : xs.length = 1 := rUrn_len xs S Q h
theorem len_law_draw (xs : List D) (S : Store) (Q : QD) (h : r_law_draw xs S Q) : xs.length = 2 := rDraw_len xs S Q h
theorem len_law_number (xs : List D) (S : Store) (Q : QD) (h : r_law_number xs S Q) : xs.length = 1 := by obtain ⟨_, _, _, rfl, _⟩ := h; rfl
theorem len_law_odd (xs : List D) (S : Store) (Q : QD) (h : r_law_odd xs S Q) : xs.length = 1 := by obtain ⟨_, _, _, rfl, _⟩ := h; rfl
theorem len_law_is_number (xs : List D) (S : Store) (Q : QD) (h : r_law_is_number xs S Q) : xs.length = 1 := by obtain ⟨_, _, rfl, _⟩ := h; rfl
theorem len_is_integer (xs : List D) (S : Store) (Q : QD) (h : r_is_integer xs S Q) : xs.length = 1 := len_law_is_number xs S Q h
theorem len_is_within (xs : List D) (S : Store) (Q : QD) (h : r_is_within xs S Q) : xs.length = 3 := by obtain ⟨_, _, _, _, rfl, _⟩ := h; rfl
theorem len_law_pair (xs : List D) (S : Store) (Q : QD) (h : r_law_pair xs S Q) : xs.length = 1 := by obtain ⟨_, _, _, rfl, _⟩ := h; rfl
theorem len_is_square (xs : List D) (S : Store) (Q : QD) (h : r_is_square xs S Q) : xs.length = 1 := by obtain ⟨_, rfl, _⟩ := h; rfl
theorem len_law_is_pair (xs : List D) (S : Store) (Q : QD) (h : r_law_is_pair xs S Q) : xs.length = 1 := len_is_square xs S Q h
theorem len_are_squares (xs : List D) (S : Store) (Q : QD) (h : r_are_squares xs S Q) : xs.length = 1 := by obtain ⟨_, _, _, rfl, _⟩ := h; rfl
theorem len_law_are_pairs (xs : List D) (S : Store) (Q : QD) (h : r_law_are_pairs xs S Q) : xs.length = 1 := len_are_squares xs S Q h
theorem len_law (xs : List D) (S : Store) (Q : QD) (h : r_law xs S Q) : xs.length = 1 := by obtain ⟨_, rfl, _⟩ := h; rfl

theorem run_law_urn (xs : List D) (S : Store) (Q : QD) (h : r_law_urn xs S Q) : runD 2 b_law_urn xs S Q := urn_run xs S Q h
theorem run_law_draw (xs : List D) (S : Store) (Q : QD) (h : r_law_draw xs S Q) : runD 6 b_law_draw xs S Q := draw_run (by decide) xs S Q h
theorem run_law_number (xs : List D) (S : Store) (Q : QD) (h : r_law_number xs S Q) : runD 2 b_law_number xs S Q := by
  obtain ⟨k, o, T, rfl, rfl, u, hk, q⟩ := h
  unfold b_law_number
  simp only [ap_runD, ap_sSeq, ap_sIf, ap_sNil, ap_sRet, ap_sAsg, ap_sDrop, ap_sPut, ap_sPar, ap_nm, ap_eVar, ap_eC, ap_eOp, ap_eChain, ap_eB, ap_eUn, ap_eTup, ap_eLst, ap_eLstM, ap_eAnd, ap_eOr, ap_eNot, ap_eIf, ap_bOf, ap_bAnd, ap_bOr, ap_bNot, ap_bYes, ap_aNil, ap_aCons, ap_eCall, ap_eCallKw, ap_eCut, ap_oNone, ap_oSome, ap_eM, ap_sSq, ap_sRange1, ap_sRange2, ap_sEnum, ap_eIsi, ap_eLc, ap_eLcM, ap_sFor, startD, List.map_cons, List.map_nil, List.length_cons, List.length_nil, List.getElem?_cons_zero, List.getElem?_cons_succ, List.set_cons_zero, List.set_cons_succ, List.replicate, List.cons_append, List.nil_append, Option.some.injEq, exists_eq_left', Option.bind_some, Nat.sub_self, Nat.reduceAdd, Nat.reduceSub, Nat.reduceLeDiff]
  refine int2 ⟨by decide, by decide, by decide⟩ (int2 ⟨by decide, by decide, by decide⟩ ⟨by decide, ?_⟩)
  refine ⟨k, o, T, 4, rfl, rfl, u, by omega, by decide, by decide, fun o1 n u1 n0 n1 => ?_⟩
  have fin : ∀ s : Int, 0 < s → s ≤ 10 ^ 60 → r2I CMul3 (fun i j => D.int (i * j)) (D.int 2) (D.int s) (some o1 :: T) (fun x S1 => rAdd x (D.int 1) S1 fun x S1 => rDraw [.ref 0, x] S1 fun x S1 => r2I T2 (fun i j => D.int (i - j)) x (D.int s) S1 Q) := fun s h0 h1 => by
    refine int2 (.inl (.inl ⟨by decide, by decide⟩)) (add_int ⟨k + 1, o1, T, 2 * s + 1, rfl, rfl, u1, by omega, by omega, ?_, fun o2 m u2 m0 m1 => int2 trivial (q o2 (m - s) u2 ?_)⟩)
    · omega
    · unfold Big
      omega
  have hn : n = 0 ∨ n = 1 ∨ n = 2 ∨ n = 3 := by omega
  rcases hn with rfl | rfl | rfl | rfl
  · exact ix_of (i := 0) rfl rfl (fin _ (by decide) (by decide))
  · exact ix_of (i := 1) rfl rfl (fin _ (by decide) (by decide))
  · exact ix_of (i := 2) rfl rfl (fin _ (by decide) (by decide))
  · exact ix_of (i := 3) rfl rfl (fin _ (by decide) (by decide))
theorem run_law_odd (xs : List D) (S : Store) (Q : QD) (h : r_law_odd xs S Q) : runD 1 b_law_odd xs S Q := by
  obtain ⟨k, o, T, rfl, rfl, u, hk, q⟩ := h
  refine i_runD ?_
  unfold b_law_odd
  repeat (first | (with_reducible first | refine i_sIf ?_ | refine i_sNil ?_ | refine i_sRet ?_ | refine i_sAsg ?_ | refine i_sDrop ?_ | refine i_sPut ?_ | refine i_sPar ?_ | refine i_eC ?_ | refine i_eOp ?_ | refine i_eChain ?_ | refine i_eB ?_ | refine i_eUn ?_ | refine i_eTup ?_ | refine i_eLst ?_ | refine i_eLstM ?_ | refine i_eAnd ?_ | refine i_eOr ?_ | refine i_eNot ?_ | refine i_eIf ?_ | refine i_bOf ?_ | refine i_bAnd ?_ | refine i_bOr ?_ | refine i_bNot ?_ | refine i_bYes ?_ | refine i_aNil ?_ | refine i_aCons ?_ | refine i_eCall ?_ | refine i_eCallKw ?_ | refine i_eCut ?_ | refine i_oNone ?_ | refine i_oSome ?_ | refine i_eM ?_ | refine i_sSq ?_ | refine i_sRange1 ?_ | refine i_sRange2 ?_ | refine i_sEnum ?_ | refine i_eIsi ?_ | refine i_eIsi2 ?_ | refine i_eLc ?_ | refine i_eLcM ?_ | refine i_sFor ?_ | refine i_eDisp1 ?_ | refine i_bl ?_ | refine i_int ?_ | refine i_nm ?_ | refine i_one ?_ | refine i_two ?_ | refine i_rng ?_ | refine i_len0 ?_ | refine i_int1 ?_ | refine i_intb ?_ | refine i_abs ?_ | refine i_add ?_ | refine i_sub ?_ | refine i_lt ?_ | refine i_le ?_ | refine i_gt ?_ | refine i_ge ?_ | refine i_eqi ?_ | refine i_is ?_ | refine i_isn ?_ | refine i_nes ?_ | refine i_rbl ?_) | ((with_reducible refine i_eVarX ?_); refine ⟨_, rfl, ?_⟩) | ((with_reducible refine i_len1 ?_ ?_); · exact Nat.le_of_ble_eq_true rfl))
  refine ⟨k, o, T, 10, rfl, rfl, u, by omega, by decide, by decide, fun o1 n u1 n0 n1 => ?_⟩
  have hl : n.toNat < odds.length := by
    show n.toNat < 10
    omega
  exact ix_at (xs := odds) (d := odds[n.toNat]) rfl n0 (List.getElem?_eq_getElem hl) (q o1 _ u1 (List.getElem_mem hl))
theorem run_law_is_number (xs : List D) (S : Store) (Q : QD) (h : r_law_is_number xs S Q) : runD 1 b_law_is_number xs S Q := by
  obtain ⟨d, t, rfl, ht, q⟩ := h
  unfold b_law_is_number
  simp only [ap_runD, ap_sSeq, ap_sIf, ap_sNil, ap_sRet, ap_sAsg, ap_sDrop, ap_sPut, ap_sPar, ap_nm, ap_eVar, ap_eC, ap_eOp, ap_eChain, ap_eB, ap_eUn, ap_eTup, ap_eLst, ap_eLstM, ap_eAnd, ap_eOr, ap_eNot, ap_eIf, ap_bOf, ap_bAnd, ap_bOr, ap_bNot, ap_bYes, ap_aNil, ap_aCons, ap_eCall, ap_eCallKw, ap_eCut, ap_oNone, ap_oSome, ap_eM, ap_sSq, ap_sRange1, ap_sRange2, ap_sEnum, ap_eIsi, ap_eLc, ap_eLcM, ap_sFor, startD, List.map_cons, List.map_nil, List.length_cons, List.length_nil, List.getElem?_cons_zero, List.getElem?_cons_succ, List.set_cons_zero, List.set_cons_succ, List.replicate, List.cons_append, List.nil_append, Option.some.injEq, exists_eq_left', Option.bind_some, Nat.sub_self, Nat.reduceAdd, Nat.reduceSub, Nat.reduceLeDiff]
  rw [drf_ty ht]
  refine ⟨_, isi_int ht, _, rfl, ?_⟩
  cases d <;> first | exact q | (cases ht; done) | exact ⟨_, isi_bool ht, _, rfl, q⟩
theorem run_is_integer (xs : List D) (S : Store) (Q : QD) (h : r_is_integer xs S Q) : runD 1 b_is_integer xs S Q := run_law_is_number xs S Q h

theorem run_is_within (xs : List D) (S : Store) (Q : QD) (h : r_is_within xs S Q) : runD 3 b_is_within xs S Q := by
  obtain ⟨v, l, m, t, rfl, ht, hl, hm, q⟩ := h
  refine i_runD ?_
  unfold b_is_within
  refine cut (fun ρ' S' => isNum v = true ∧ ρ' = startD 3 [v, l, m] ∧ S' = S) (fun N' hrt hnx => ?_) (fun ρ' S' hP => ?_)
  · repeat (first | (with_reducible first | refine i_sIf ?_ | refine i_sNil ?_ | refine i_sRet ?_ | refine i_sAsg ?_ | refine i_sDrop ?_ | refine i_sPut ?_ | refine i_sPar ?_ | refine i_eC ?_ | refine i_eOp ?_ | refine i_eChain ?_ | refine i_eB ?_ | refine i_eUn ?_ | refine i_eTup ?_ | refine i_eLst ?_ | refine i_eLstM ?_ | refine i_eAnd ?_ | refine i_eOr ?_ | refine i_eNot ?_ | refine i_eIf ?_ | refine i_bOf ?_ | refine i_bAnd ?_ | refine i_bOr ?_ | refine i_bNot ?_ | refine i_bYes ?_ | refine i_aNil ?_ | refine i_aCons ?_ | refine i_eCall ?_ | refine i_eCallKw ?_ | refine i_eCut ?_ | refine i_oNone ?_ | refine i_oSome ?_ | refine i_eM ?_ | refine i_sSq ?_ | refine i_sRange1 ?_ | refine i_sRange2 ?_ | refine i_sEnum ?_ | refine i_eIsi ?_ | refine i_eIsi2 ?_ | refine i_eLc ?_ | refine i_eLcM ?_ | refine i_sFor ?_ | refine i_eDisp1 ?_ | refine i_bl ?_ | refine i_int ?_ | refine i_nm ?_ | refine i_one ?_ | refine i_two ?_ | refine i_rng ?_ | refine i_len0 ?_ | refine i_int1 ?_ | refine i_intb ?_ | refine i_abs ?_ | refine i_add ?_ | refine i_sub ?_ | refine i_lt ?_ | refine i_le ?_ | refine i_gt ?_ | refine i_ge ?_ | refine i_eqi ?_ | refine i_is ?_ | refine i_isn ?_ | refine i_nes ?_ | refine i_rbl ?_) | ((with_reducible refine i_eVarX ?_); refine ⟨_, rfl, ?_⟩) | ((with_reducible refine i_len1 ?_ ?_); · exact Nat.le_of_ble_eq_true rfl))
    refine ⟨v, t, rfl, ht, ?_⟩
    repeat (first | (with_reducible first | refine i_sIf ?_ | refine i_sNil ?_ | refine i_sRet ?_ | refine i_sAsg ?_ | refine i_sDrop ?_ | refine i_sPut ?_ | refine i_sPar ?_ | refine i_eC ?_ | refine i_eOp ?_ | refine i_eChain ?_ | refine i_eB ?_ | refine i_eUn ?_ | refine i_eTup ?_ | refine i_eLst ?_ | refine i_eLstM ?_ | refine i_eAnd ?_ | refine i_eOr ?_ | refine i_eNot ?_ | refine i_eIf ?_ | refine i_bOf ?_ | refine i_bAnd ?_ | refine i_bOr ?_ | refine i_bNot ?_ | refine i_bYes ?_ | refine i_aNil ?_ | refine i_aCons ?_ | refine i_eCall ?_ | refine i_eCallKw ?_ | refine i_eCut ?_ | refine i_oNone ?_ | refine i_oSome ?_ | refine i_eM ?_ | refine i_sSq ?_ | refine i_sRange1 ?_ | refine i_sRange2 ?_ | refine i_sEnum ?_ | refine i_eIsi ?_ | refine i_eIsi2 ?_ | refine i_eLc ?_ | refine i_eLcM ?_ | refine i_sFor ?_ | refine i_eDisp1 ?_ | refine i_bl ?_ | refine i_int ?_ | refine i_nm ?_ | refine i_one ?_ | refine i_two ?_ | refine i_rng ?_ | refine i_len0 ?_ | refine i_int1 ?_ | refine i_intb ?_ | refine i_abs ?_ | refine i_add ?_ | refine i_sub ?_ | refine i_lt ?_ | refine i_le ?_ | refine i_gt ?_ | refine i_ge ?_ | refine i_eqi ?_ | refine i_is ?_ | refine i_isn ?_ | refine i_nes ?_ | refine i_rbl ?_) | ((with_reducible refine i_eVarX ?_); refine ⟨_, rfl, ?_⟩) | ((with_reducible refine i_len1 ?_ ?_); · exact Nat.le_of_ble_eq_true rfl))
    refine ite_by (fun hv => ?_) (fun hv => ?_)
    · repeat (first | (with_reducible first | refine i_sIf ?_ | refine i_sNil ?_ | refine i_sRet ?_ | refine i_sAsg ?_ | refine i_sDrop ?_ | refine i_sPut ?_ | refine i_sPar ?_ | refine i_eC ?_ | refine i_eOp ?_ | refine i_eChain ?_ | refine i_eB ?_ | refine i_eUn ?_ | refine i_eTup ?_ | refine i_eLst ?_ | refine i_eLstM ?_ | refine i_eAnd ?_ | refine i_eOr ?_ | refine i_eNot ?_ | refine i_eIf ?_ | refine i_bOf ?_ | refine i_bAnd ?_ | refine i_bOr ?_ | refine i_bNot ?_ | refine i_bYes ?_ | refine i_aNil ?_ | refine i_aCons ?_ | refine i_eCall ?_ | refine i_eCallKw ?_ | refine i_eCut ?_ | refine i_oNone ?_ | refine i_oSome ?_ | refine i_eM ?_ | refine i_sSq ?_ | refine i_sRange1 ?_ | refine i_sRange2 ?_ | refine i_sEnum ?_ | refine i_eIsi ?_ | refine i_eIsi2 ?_ | refine i_eLc ?_ | refine i_eLcM ?_ | refine i_sFor ?_ | refine i_eDisp1 ?_ | refine i_bl ?_ | refine i_int ?_ | refine i_nm ?_ | refine i_one ?_ | refine i_two ?_ | refine i_rng ?_ | refine i_len0 ?_ | refine i_int1 ?_ | refine i_intb ?_ | refine i_abs ?_ | refine i_add ?_ | refine i_sub ?_ | refine i_lt ?_ | refine i_le ?_ | refine i_gt ?_ | refine i_ge ?_ | refine i_eqi ?_ | refine i_is ?_ | refine i_isn ?_ | refine i_nes ?_ | refine i_rbl ?_) | ((with_reducible refine i_eVarX ?_); refine ⟨_, rfl, ?_⟩) | ((with_reducible refine i_len1 ?_ ?_); · exact Nat.le_of_ble_eq_true rfl))
      rw [hrt]
      have hv' : isNum v = false := by simpa using hv
      unfold inside at q
      rw [hv'] at q
      exact q
    · repeat (first | (with_reducible first | refine i_sIf ?_ | refine i_sNil ?_ | refine i_sRet ?_ | refine i_sAsg ?_ | refine i_sDrop ?_ | refine i_sPut ?_ | refine i_sPar ?_ | refine i_eC ?_ | refine i_eOp ?_ | refine i_eChain ?_ | refine i_eB ?_ | refine i_eUn ?_ | refine i_eTup ?_ | refine i_eLst ?_ | refine i_eLstM ?_ | refine i_eAnd ?_ | refine i_eOr ?_ | refine i_eNot ?_ | refine i_eIf ?_ | refine i_bOf ?_ | refine i_bAnd ?_ | refine i_bOr ?_ | refine i_bNot ?_ | refine i_bYes ?_ | refine i_aNil ?_ | refine i_aCons ?_ | refine i_eCall ?_ | refine i_eCallKw ?_ | refine i_eCut ?_ | refine i_oNone ?_ | refine i_oSome ?_ | refine i_eM ?_ | refine i_sSq ?_ | refine i_sRange1 ?_ | refine i_sRange2 ?_ | refine i_sEnum ?_ | refine i_eIsi ?_ | refine i_eIsi2 ?_ | refine i_eLc ?_ | refine i_eLcM ?_ | refine i_sFor ?_ | refine i_eDisp1 ?_ | refine i_bl ?_ | refine i_int ?_ | refine i_nm ?_ | refine i_one ?_ | refine i_two ?_ | refine i_rng ?_ | refine i_len0 ?_ | refine i_int1 ?_ | refine i_intb ?_ | refine i_abs ?_ | refine i_add ?_ | refine i_sub ?_ | refine i_lt ?_ | refine i_le ?_ | refine i_gt ?_ | refine i_ge ?_ | refine i_eqi ?_ | refine i_is ?_ | refine i_isn ?_ | refine i_nes ?_ | refine i_rbl ?_) | ((with_reducible refine i_eVarX ?_); refine ⟨_, rfl, ?_⟩) | ((with_reducible refine i_len1 ?_ ?_); · exact Nat.le_of_ble_eq_true rfl))
      exact hnx _ _ ⟨by simpa using hv, rfl, rfl⟩
  · obtain ⟨hv, rfl, rfl⟩ := hP
    cases v with
    | int n =>
      unfold inside at q
      repeat (first | (with_reducible first | refine i_sIf ?_ | refine i_sNil ?_ | refine i_sRet ?_ | refine i_sAsg ?_ | refine i_sDrop ?_ | refine i_sPut ?_ | refine i_sPar ?_ | refine i_eC ?_ | refine i_eOp ?_ | refine i_eChain ?_ | refine i_eB ?_ | refine i_eUn ?_ | refine i_eTup ?_ | refine i_eLst ?_ | refine i_eLstM ?_ | refine i_eAnd ?_ | refine i_eOr ?_ | refine i_eNot ?_ | refine i_eIf ?_ | refine i_bOf ?_ | refine i_bAnd ?_ | refine i_bOr ?_ | refine i_bNot ?_ | refine i_bYes ?_ | refine i_aNil ?_ | refine i_aCons ?_ | refine i_eCall ?_ | refine i_eCallKw ?_ | refine i_eCut ?_ | refine i_oNone ?_ | refine i_oSome ?_ | refine i_eM ?_ | refine i_sSq ?_ | refine i_sRange1 ?_ | refine i_sRange2 ?_ | refine i_sEnum ?_ | refine i_eIsi ?_ | refine i_eIsi2 ?_ | refine i_eLc ?_ | refine i_eLcM ?_ | refine i_sFor ?_ | refine i_eDisp1 ?_ | refine i_bl ?_ | refine i_int ?_ | refine i_nm ?_ | refine i_one ?_ | refine i_two ?_ | refine i_rng ?_ | refine i_len0 ?_ | refine i_int1 ?_ | refine i_intb ?_ | refine i_abs ?_ | refine i_add ?_ | refine i_sub ?_ | refine i_lt ?_ | refine i_le ?_ | refine i_gt ?_ | refine i_ge ?_ | refine i_eqi ?_ | refine i_is ?_ | refine i_isn ?_ | refine i_nes ?_ | refine i_rbl ?_) | ((with_reducible refine i_eVarX ?_); refine ⟨_, rfl, ?_⟩) | ((with_reducible refine i_len1 ?_ ?_); · exact Nat.le_of_ble_eq_true rfl))
      have step : ∀ b : Bool, b = (isN l || leD l (.int n)) → Q (.bl (b && (isN m || leD (.int n) m))) S' := fun b e => by
        rw [e]
        exact q
      have last : ∀ b : Bool, b = (isN m || leD (.int n) m) → (isN l || leD l (.int n)) = true → Q (.bl b) S' := fun b e e2 => by
        have := step true e2.symm
        rw [e]
        exact this
      have second : (isN l || leD l (.int n)) = true → eOr (eOp rIs (eVar 2) (eC .non)) (eOp rLe (eVar 0) (eVar 2)) (startD 3 [.int n, l, m]) S' Q := fun e2 => by
        repeat (first | (with_reducible first | refine i_sIf ?_ | refine i_sNil ?_ | refine i_sRet ?_ | refine i_sAsg ?_ | refine i_sDrop ?_ | refine i_sPut ?_ | refine i_sPar ?_ | refine i_eC ?_ | refine i_eOp ?_ | refine i_eChain ?_ | refine i_eB ?_ | refine i_eUn ?_ | refine i_eTup ?_ | refine i_eLst ?_ | refine i_eLstM ?_ | refine i_eAnd ?_ | refine i_eOr ?_ | refine i_eNot ?_ | refine i_eIf ?_ | refine i_bOf ?_ | refine i_bAnd ?_ | refine i_bOr ?_ | refine i_bNot ?_ | refine i_bYes ?_ | refine i_aNil ?_ | refine i_aCons ?_ | refine i_eCall ?_ | refine i_eCallKw ?_ | refine i_eCut ?_ | refine i_oNone ?_ | refine i_oSome ?_ | refine i_eM ?_ | refine i_sSq ?_ | refine i_sRange1 ?_ | refine i_sRange2 ?_ | refine i_sEnum ?_ | refine i_eIsi ?_ | refine i_eIsi2 ?_ | refine i_eLc ?_ | refine i_eLcM ?_ | refine i_sFor ?_ | refine i_eDisp1 ?_ | refine i_bl ?_ | refine i_int ?_ | refine i_nm ?_ | refine i_one ?_ | refine i_two ?_ | refine i_rng ?_ | refine i_len0 ?_ | refine i_int1 ?_ | refine i_intb ?_ | refine i_abs ?_ | refine i_add ?_ | refine i_sub ?_ | refine i_lt ?_ | refine i_le ?_ | refine i_gt ?_ | refine i_ge ?_ | refine i_eqi ?_ | refine i_is ?_ | refine i_isn ?_ | refine i_nes ?_ | refine i_rbl ?_) | ((with_reducible refine i_eVarX ?_); refine ⟨_, rfl, ?_⟩) | ((with_reducible refine i_len1 ?_ ?_); · exact Nat.le_of_ble_eq_true rfl))
        rcases hm with rfl | ⟨j, rfl⟩
        · exact iteT (last _ rfl e2)
        · refine iteF ?_
          repeat (first | (with_reducible first | refine i_sIf ?_ | refine i_sNil ?_ | refine i_sRet ?_ | refine i_sAsg ?_ | refine i_sDrop ?_ | refine i_sPut ?_ | refine i_sPar ?_ | refine i_eC ?_ | refine i_eOp ?_ | refine i_eChain ?_ | refine i_eB ?_ | refine i_eUn ?_ | refine i_eTup ?_ | refine i_eLst ?_ | refine i_eLstM ?_ | refine i_eAnd ?_ | refine i_eOr ?_ | refine i_eNot ?_ | refine i_eIf ?_ | refine i_bOf ?_ | refine i_bAnd ?_ | refine i_bOr ?_ | refine i_bNot ?_ | refine i_bYes ?_ | refine i_aNil ?_ | refine i_aCons ?_ | refine i_eCall ?_ | refine i_eCallKw ?_ | refine i_eCut ?_ | refine i_oNone ?_ | refine i_oSome ?_ | refine i_eM ?_ | refine i_sSq ?_ | refine i_sRange1 ?_ | refine i_sRange2 ?_ | refine i_sEnum ?_ | refine i_eIsi ?_ | refine i_eIsi2 ?_ | refine i_eLc ?_ | refine i_eLcM ?_ | refine i_sFor ?_ | refine i_eDisp1 ?_ | refine i_bl ?_ | refine i_int ?_ | refine i_nm ?_ | refine i_one ?_ | refine i_two ?_ | refine i_rng ?_ | refine i_len0 ?_ | refine i_int1 ?_ | refine i_intb ?_ | refine i_abs ?_ | refine i_add ?_ | refine i_sub ?_ | refine i_lt ?_ | refine i_le ?_ | refine i_gt ?_ | refine i_ge ?_ | refine i_eqi ?_ | refine i_is ?_ | refine i_isn ?_ | refine i_nes ?_ | refine i_rbl ?_) | ((with_reducible refine i_eVarX ?_); refine ⟨_, rfl, ?_⟩) | ((with_reducible refine i_len1 ?_ ?_); · exact Nat.le_of_ble_eq_true rfl))
          exact last _ rfl e2
      rcases hl with rfl | ⟨j, rfl⟩
      · refine iteT ?_
        repeat (first | (with_reducible first | refine i_sIf ?_ | refine i_sNil ?_ | refine i_sRet ?_ | refine i_sAsg ?_ | refine i_sDrop ?_ | refine i_sPut ?_ | refine i_sPar ?_ | refine i_eC ?_ | refine i_eOp ?_ | refine i_eChain ?_ | refine i_eB ?_ | refine i_eUn ?_ | refine i_eTup ?_ | refine i_eLst ?_ | refine i_eLstM ?_ | refine i_eAnd ?_ | refine i_eOr ?_ | refine i_eNot ?_ | refine i_eIf ?_ | refine i_bOf ?_ | refine i_bAnd ?_ | refine i_bOr ?_ | refine i_bNot ?_ | refine i_bYes ?_ | refine i_aNil ?_ | refine i_aCons ?_ | refine i_eCall ?_ | refine i_eCallKw ?_ | refine i_eCut ?_ | refine i_oNone ?_ | refine i_oSome ?_ | refine i_eM ?_ | refine i_sSq ?_ | refine i_sRange1 ?_ | refine i_sRange2 ?_ | refine i_sEnum ?_ | refine i_eIsi ?_ | refine i_eIsi2 ?_ | refine i_eLc ?_ | refine i_eLcM ?_ | refine i_sFor ?_ | refine i_eDisp1 ?_ | refine i_bl ?_ | refine i_int ?_ | refine i_nm ?_ | refine i_one ?_ | refine i_two ?_ | refine i_rng ?_ | refine i_len0 ?_ | refine i_int1 ?_ | refine i_intb ?_ | refine i_abs ?_ | refine i_add ?_ | refine i_sub ?_ | refine i_lt ?_ | refine i_le ?_ | refine i_gt ?_ | refine i_ge ?_ | refine i_eqi ?_ | refine i_is ?_ | refine i_isn ?_ | refine i_nes ?_ | refine i_rbl ?_) | ((with_reducible refine i_eVarX ?_); refine ⟨_, rfl, ?_⟩) | ((with_reducible refine i_len1 ?_ ?_); · exact Nat.le_of_ble_eq_true rfl))
        exact iteT (second rfl)
      · refine iteF ?_
        repeat (first | (with_reducible first | refine i_sIf ?_ | refine i_sNil ?_ | refine i_sRet ?_ | refine i_sAsg ?_ | refine i_sDrop ?_ | refine i_sPut ?_ | refine i_sPar ?_ | refine i_eC ?_ | refine i_eOp ?_ | refine i_eChain ?_ | refine i_eB ?_ | refine i_eUn ?_ | refine i_eTup ?_ | refine i_eLst ?_ | refine i_eLstM ?_ | refine i_eAnd ?_ | refine i_eOr ?_ | refine i_eNot ?_ | refine i_eIf ?_ | refine i_bOf ?_ | refine i_bAnd ?_ | refine i_bOr ?_ | refine i_bNot ?_ | refine i_bYes ?_ | refine i_aNil ?_ | refine i_aCons ?_ | refine i_eCall ?_ | refine i_eCallKw ?_ | refine i_eCut ?_ | refine i_oNone ?_ | refine i_oSome ?_ | refine i_eM ?_ | refine i_sSq ?_ | refine i_sRange1 ?_ | refine i_sRange2 ?_ | refine i_sEnum ?_ | refine i_eIsi ?_ | refine i_eIsi2 ?_ | refine i_eLc ?_ | refine i_eLcM ?_ | refine i_sFor ?_ | refine i_eDisp1 ?_ | refine i_bl ?_ | refine i_int ?_ | refine i_nm ?_ | refine i_one ?_ | refine i_two ?_ | refine i_rng ?_ | refine i_len0 ?_ | refine i_int1 ?_ | refine i_intb ?_ | refine i_abs ?_ | refine i_add ?_ | refine i_sub ?_ | refine i_lt ?_ | refine i_le ?_ | refine i_gt ?_ | refine i_ge ?_ | refine i_eqi ?_ | refine i_is ?_ | refine i_isn ?_ | refine i_nes ?_ | refine i_rbl ?_) | ((with_reducible refine i_eVarX ?_); refine ⟨_, rfl, ?_⟩) | ((with_reducible refine i_len1 ?_ ?_); · exact Nat.le_of_ble_eq_true rfl))
        refine ite_by (fun e => second e) (fun e => ?_)
        have := step false (by rw [← e]; rfl)
        exact this
    | _ => cases hv

theorem intsD_of {acc : List D} : (∀ y ∈ acc, ∃ n, y = D.int n ∧ Big n) → ∃ ns : List Int, acc = ns.map .int ∧ ∀ n ∈ ns, Big n := by
  induction acc with
  | nil => exact fun _ => ⟨[], rfl, fun n h => (nomatch h)⟩
  | cons d ds ih =>
    intro h
    obtain ⟨n, e, b⟩ := h d (List.mem_cons_self ..)
    obtain ⟨ns, e2, b2⟩ := ih fun y hy => h y (List.mem_cons_of_mem _ hy)
    exact ⟨n :: ns, by rw [e, e2]; rfl, fun m hm => by
      rcases List.mem_cons.mp hm with z | z
      · rw [z]
        exact b
      · exact b2 m z⟩
theorem run_law_pair (xs : List D) (S : Store) (Q : QD) (h : r_law_pair xs S Q) : runD 4 b_law_pair xs S Q := by
  obtain ⟨k, o, T, rfl, rfl, u, hk, q⟩ := h
  have fin : ∀ (j : Nat) (o' : SO) (p : D), Urn j o' → j ≤ k + 10 → Pr p → Q p (some o' :: T) := fun j o' p u' hj hp => q o' p (u'.mono hj) hp
  refine i_runD ?_
  unfold b_law_pair
  refine cut (fun ρ' S' => ∃ (o1 : SO) (n : Int), Urn (k + 1) o1 ∧ 0 ≤ n ∧ n < 9 ∧ S' = some o1 :: T ∧ ρ' = [some (.ref 0), some (.int n), none, none]) (fun N' hrt hnx => ?_) (fun ρ' S' hP => ?_)
  · repeat (first | (with_reducible first | refine i_sIf ?_ | refine i_sNil ?_ | refine i_sRet ?_ | refine i_sAsg ?_ | refine i_sDrop ?_ | refine i_sPut ?_ | refine i_sPar ?_ | refine i_eC ?_ | refine i_eOp ?_ | refine i_eChain ?_ | refine i_eB ?_ | refine i_eUn ?_ | refine i_eTup ?_ | refine i_eLst ?_ | refine i_eLstM ?_ | refine i_eAnd ?_ | refine i_eOr ?_ | refine i_eNot ?_ | refine i_eIf ?_ | refine i_bOf ?_ | refine i_bAnd ?_ | refine i_bOr ?_ | refine i_bNot ?_ | refine i_bYes ?_ | refine i_aNil ?_ | refine i_aCons ?_ | refine i_eCall ?_ | refine i_eCallKw ?_ | refine i_eCut ?_ | refine i_oNone ?_ | refine i_oSome ?_ | refine i_eM ?_ | refine i_sSq ?_ | refine i_sRange1 ?_ | refine i_sRange2 ?_ | refine i_sEnum ?_ | refine i_eIsi ?_ | refine i_eIsi2 ?_ | refine i_eLc ?_ | refine i_eLcM ?_ | refine i_sFor ?_ | refine i_eDisp1 ?_ | refine i_bl ?_ | refine i_int ?_ | refine i_nm ?_ | refine i_one ?_ | refine i_two ?_ | refine i_rng ?_ | refine i_len0 ?_ | refine i_int1 ?_ | refine i_intb ?_ | refine i_abs ?_ | refine i_add ?_ | refine i_sub ?_ | refine i_lt ?_ | refine i_le ?_ | refine i_gt ?_ | refine i_ge ?_ | refine i_eqi ?_ | refine i_is ?_ | refine i_isn ?_ | refine i_nes ?_ | refine i_rbl ?_) | ((with_reducible refine i_eVarX ?_); refine ⟨_, rfl, ?_⟩) | ((with_reducible refine i_len1 ?_ ?_); · exact Nat.le_of_ble_eq_true rfl))
    refine ⟨k, o, T, 9, rfl, rfl, u, by omega, by decide, by decide, fun o1 n u1 n0 n1 => ?_⟩
    repeat (first | (with_reducible first | refine i_sIf ?_ | refine i_sNil ?_ | refine i_sRet ?_ | refine i_sAsg ?_ | refine i_sDrop ?_ | refine i_sPut ?_ | refine i_sPar ?_ | refine i_eC ?_ | refine i_eOp ?_ | refine i_eChain ?_ | refine i_eB ?_ | refine i_eUn ?_ | refine i_eTup ?_ | refine i_eLst ?_ | refine i_eLstM ?_ | refine i_eAnd ?_ | refine i_eOr ?_ | refine i_eNot ?_ | refine i_eIf ?_ | refine i_bOf ?_ | refine i_bAnd ?_ | refine i_bOr ?_ | refine i_bNot ?_ | refine i_bYes ?_ | refine i_aNil ?_ | refine i_aCons ?_ | refine i_eCall ?_ | refine i_eCallKw ?_ | refine i_eCut ?_ | refine i_oNone ?_ | refine i_oSome ?_ | refine i_eM ?_ | refine i_sSq ?_ | refine i_sRange1 ?_ | refine i_sRange2 ?_ | refine i_sEnum ?_ | refine i_eIsi ?_ | refine i_eIsi2 ?_ | refine i_eLc ?_ | refine i_eLcM ?_ | refine i_sFor ?_ | refine i_eDisp1 ?_ | refine i_bl ?_ | refine i_int ?_ | refine i_nm ?_ | refine i_one ?_ | refine i_two ?_ | refine i_rng ?_ | refine i_len0 ?_ | refine i_int1 ?_ | refine i_intb ?_ | refine i_abs ?_ | refine i_add ?_ | refine i_sub ?_ | refine i_lt ?_ | refine i_le ?_ | refine i_gt ?_ | refine i_ge ?_ | refine i_eqi ?_ | refine i_is ?_ | refine i_isn ?_ | refine i_nes ?_ | refine i_rbl ?_) | ((with_reducible refine i_eVarX ?_); refine ⟨_, rfl, ?_⟩) | ((with_reducible refine i_len1 ?_ ?_); · exact Nat.le_of_ble_eq_true rfl))
    exact hnx _ _ ⟨o1, n, u1, n0, n1, rfl, rfl⟩
  obtain ⟨o1, n, u1, n0, n1, rfl, rfl⟩ := hP
  refine cut (fun ρ' S' => S' = some o1 :: T ∧ ρ' = [some (.ref 0), some (.int n), none, none]) (fun N' hrt hnx => ?_) (fun ρ' S' hP => ?_)
  · repeat (first | (with_reducible first | refine i_sIf ?_ | refine i_sNil ?_ | refine i_sRet ?_ | refine i_sAsg ?_ | refine i_sDrop ?_ | refine i_sPut ?_ | refine i_sPar ?_ | refine i_eC ?_ | refine i_eOp ?_ | refine i_eChain ?_ | refine i_eB ?_ | refine i_eUn ?_ | refine i_eTup ?_ | refine i_eLst ?_ | refine i_eLstM ?_ | refine i_eAnd ?_ | refine i_eOr ?_ | refine i_eNot ?_ | refine i_eIf ?_ | refine i_bOf ?_ | refine i_bAnd ?_ | refine i_bOr ?_ | refine i_bNot ?_ | refine i_bYes ?_ | refine i_aNil ?_ | refine i_aCons ?_ | refine i_eCall ?_ | refine i_eCallKw ?_ | refine i_eCut ?_ | refine i_oNone ?_ | refine i_oSome ?_ | refine i_eM ?_ | refine i_sSq ?_ | refine i_sRange1 ?_ | refine i_sRange2 ?_ | refine i_sEnum ?_ | refine i_eIsi ?_ | refine i_eIsi2 ?_ | refine i_eLc ?_ | refine i_eLcM ?_ | refine i_sFor ?_ | refine i_eDisp1 ?_ | refine i_bl ?_ | refine i_int ?_ | refine i_nm ?_ | refine i_one ?_ | refine i_two ?_ | refine i_rng ?_ | refine i_len0 ?_ | refine i_int1 ?_ | refine i_intb ?_ | refine i_abs ?_ | refine i_add ?_ | refine i_sub ?_ | refine i_lt ?_ | refine i_le ?_ | refine i_gt ?_ | refine i_ge ?_ | refine i_eqi ?_ | refine i_is ?_ | refine i_isn ?_ | refine i_nes ?_ | refine i_rbl ?_) | ((with_reducible refine i_eVarX ?_); refine ⟨_, rfl, ?_⟩) | ((with_reducible refine i_len1 ?_ ?_); · exact Nat.le_of_ble_eq_true rfl))
    refine ite_by (fun _ => ?_) (fun _ => ?_)
    · repeat (first | (with_reducible first | refine i_sIf ?_ | refine i_sNil ?_ | refine i_sRet ?_ | refine i_sAsg ?_ | refine i_sDrop ?_ | refine i_sPut ?_ | refine i_sPar ?_ | refine i_eC ?_ | refine i_eOp ?_ | refine i_eChain ?_ | refine i_eB ?_ | refine i_eUn ?_ | refine i_eTup ?_ | refine i_eLst ?_ | refine i_eLstM ?_ | refine i_eAnd ?_ | refine i_eOr ?_ | refine i_eNot ?_ | refine i_eIf ?_ | refine i_bOf ?_ | refine i_bAnd ?_ | refine i_bOr ?_ | refine i_bNot ?_ | refine i_bYes ?_ | refine i_aNil ?_ | refine i_aCons ?_ | refine i_eCall ?_ | refine i_eCallKw ?_ | refine i_eCut ?_ | refine i_oNone ?_ | refine i_oSome ?_ | refine i_eM ?_ | refine i_sSq ?_ | refine i_sRange1 ?_ | refine i_sRange2 ?_ | refine i_sEnum ?_ | refine i_eIsi ?_ | refine i_eIsi2 ?_ | refine i_eLc ?_ | refine i_eLcM ?_ | refine i_sFor ?_ | refine i_eDisp1 ?_ | refine i_bl ?_ | refine i_int ?_ | refine i_nm ?_ | refine i_one ?_ | refine i_two ?_ | refine i_rng ?_ | refine i_len0 ?_ | refine i_int1 ?_ | refine i_intb ?_ | refine i_abs ?_ | refine i_add ?_ | refine i_sub ?_ | refine i_lt ?_ | refine i_le ?_ | refine i_gt ?_ | refine i_ge ?_ | refine i_eqi ?_ | refine i_is ?_ | refine i_isn ?_ | refine i_nes ?_ | refine i_rbl ?_) | ((with_reducible refine i_eVarX ?_); refine ⟨_, rfl, ?_⟩) | ((with_reducible refine i_len1 ?_ ?_); · exact Nat.le_of_ble_eq_true rfl))
      refine ⟨k + 1, o1, T, 4, rfl, rfl, u1, by omega, by decide, by decide, fun o2 m u2 m0 m1 => ?_⟩
      have many : ∀ c : Int, 0 ≤ c → c ≤ 4 → Lc1 (.nm 3) bYes (eCall r_law_number (aCons (eVar 0) aNil)) [3] [some (.ref 0), some (.int n), none, none] (rangeD 0 c) (fun _ => True) (some o2 :: T) fun acc S' => N'.rt (.lst acc) S' := fun c c0 c4 => by
        have hl : (rangeD 0 c).length ≤ 4 := by
          rw [rangeD_len]
          omega
        refine lc_draw (k := k + 2) 2 (fun d => ∃ n, d = .int n ∧ Big n) (fun _ => trivial) (by omega) u2 (fun d _ => ⟨_, rfl, fun j o uj hj Q' q' => ?_⟩) (fun o' acc u' hlen hP => ?_)
        · repeat (first | (with_reducible first | refine i_sIf ?_ | refine i_sNil ?_ | refine i_sRet ?_ | refine i_sAsg ?_ | refine i_sDrop ?_ | refine i_sPut ?_ | refine i_sPar ?_ | refine i_eC ?_ | refine i_eOp ?_ | refine i_eChain ?_ | refine i_eB ?_ | refine i_eUn ?_ | refine i_eTup ?_ | refine i_eLst ?_ | refine i_eLstM ?_ | refine i_eAnd ?_ | refine i_eOr ?_ | refine i_eNot ?_ | refine i_eIf ?_ | refine i_bOf ?_ | refine i_bAnd ?_ | refine i_bOr ?_ | refine i_bNot ?_ | refine i_bYes ?_ | refine i_aNil ?_ | refine i_aCons ?_ | refine i_eCall ?_ | refine i_eCallKw ?_ | refine i_eCut ?_ | refine i_oNone ?_ | refine i_oSome ?_ | refine i_eM ?_ | refine i_sSq ?_ | refine i_sRange1 ?_ | refine i_sRange2 ?_ | refine i_sEnum ?_ | refine i_eIsi ?_ | refine i_eIsi2 ?_ | refine i_eLc ?_ | refine i_eLcM ?_ | refine i_sFor ?_ | refine i_eDisp1 ?_ | refine i_bl ?_ | refine i_int ?_ | refine i_nm ?_ | refine i_one ?_ | refine i_two ?_ | refine i_rng ?_ | refine i_len0 ?_ | refine i_int1 ?_ | refine i_intb ?_ | refine i_abs ?_ | refine i_add ?_ | refine i_sub ?_ | refine i_lt ?_ | refine i_le ?_ | refine i_gt ?_ | refine i_ge ?_ | refine i_eqi ?_ | refine i_is ?_ | refine i_isn ?_ | refine i_nes ?_ | refine i_rbl ?_) | ((with_reducible refine i_eVarX ?_); refine ⟨_, rfl, ?_⟩) | ((with_reducible refine i_len1 ?_ ?_); · exact Nat.le_of_ble_eq_true rfl))
          exact ⟨j, o, T, rfl, rfl, uj, by omega, fun o'' n u'' hn => q' o'' _ u'' ⟨n, rfl, hn⟩⟩
        · rw [hrt]
          obtain ⟨ns, e1, e2⟩ := intsD_of hP
          subst e1
          rw [List.length_map] at hlen
          exact fin _ o' _ u' (by omega) (.inr (.inl ⟨ns, rfl, by omega, e2⟩))
      have hm : m = 0 ∨ m = 1 ∨ m = 2 ∨ m = 3 := by omega
      rcases hm with rfl | rfl | rfl | rfl
      · refine ix_of (i := 0) rfl rfl ?_
        repeat (first | (with_reducible first | refine i_sIf ?_ | refine i_sNil ?_ | refine i_sRet ?_ | refine i_sAsg ?_ | refine i_sDrop ?_ | refine i_sPut ?_ | refine i_sPar ?_ | refine i_eC ?_ | refine i_eOp ?_ | refine i_eChain ?_ | refine i_eB ?_ | refine i_eUn ?_ | refine i_eTup ?_ | refine i_eLst ?_ | refine i_eLstM ?_ | refine i_eAnd ?_ | refine i_eOr ?_ | refine i_eNot ?_ | refine i_eIf ?_ | refine i_bOf ?_ | refine i_bAnd ?_ | refine i_bOr ?_ | refine i_bNot ?_ | refine i_bYes ?_ | refine i_aNil ?_ | refine i_aCons ?_ | refine i_eCall ?_ | refine i_eCallKw ?_ | refine i_eCut ?_ | refine i_oNone ?_ | refine i_oSome ?_ | refine i_eM ?_ | refine i_sSq ?_ | refine i_sRange1 ?_ | refine i_sRange2 ?_ | refine i_sEnum ?_ | refine i_eIsi ?_ | refine i_eIsi2 ?_ | refine i_eLc ?_ | refine i_eLcM ?_ | refine i_sFor ?_ | refine i_eDisp1 ?_ | refine i_bl ?_ | refine i_int ?_ | refine i_nm ?_ | refine i_one ?_ | refine i_two ?_ | refine i_rng ?_ | refine i_len0 ?_ | refine i_int1 ?_ | refine i_intb ?_ | refine i_abs ?_ | refine i_add ?_ | refine i_sub ?_ | refine i_lt ?_ | refine i_le ?_ | refine i_gt ?_ | refine i_ge ?_ | refine i_eqi ?_ | refine i_is ?_ | refine i_isn ?_ | refine i_nes ?_ | refine i_rbl ?_) | ((with_reducible refine i_eVarX ?_); refine ⟨_, rfl, ?_⟩) | ((with_reducible refine i_len1 ?_ ?_); · exact Nat.le_of_ble_eq_true rfl))
        exact ⟨by decide, by decide, many _ (by decide) (by decide)⟩
      · refine ix_of (i := 1) rfl rfl ?_
        repeat (first | (with_reducible first | refine i_sIf ?_ | refine i_sNil ?_ | refine i_sRet ?_ | refine i_sAsg ?_ | refine i_sDrop ?_ | refine i_sPut ?_ | refine i_sPar ?_ | refine i_eC ?_ | refine i_eOp ?_ | refine i_eChain ?_ | refine i_eB ?_ | refine i_eUn ?_ | refine i_eTup ?_ | refine i_eLst ?_ | refine i_eLstM ?_ | refine i_eAnd ?_ | refine i_eOr ?_ | refine i_eNot ?_ | refine i_eIf ?_ | refine i_bOf ?_ | refine i_bAnd ?_ | refine i_bOr ?_ | refine i_bNot ?_ | refine i_bYes ?_ | refine i_aNil ?_ | refine i_aCons ?_ | refine i_eCall ?_ | refine i_eCallKw ?_ | refine i_eCut ?_ | refine i_oNone ?_ | refine i_oSome ?_ | refine i_eM ?_ | refine i_sSq ?_ | refine i_sRange1 ?_ | refine i_sRange2 ?_ | refine i_sEnum ?_ | refine i_eIsi ?_ | refine i_eIsi2 ?_ | refine i_eLc ?_ | refine i_eLcM ?_ | refine i_sFor ?_ | refine i_eDisp1 ?_ | refine i_bl ?_ | refine i_int ?_ | refine i_nm ?_ | refine i_one ?_ | refine i_two ?_ | refine i_rng ?_ | refine i_len0 ?_ | refine i_int1 ?_ | refine i_intb ?_ | refine i_abs ?_ | refine i_add ?_ | refine i_sub ?_ | refine i_lt ?_ | refine i_le ?_ | refine i_gt ?_ | refine i_ge ?_ | refine i_eqi ?_ | refine i_is ?_ | refine i_isn ?_ | refine i_nes ?_ | refine i_rbl ?_) | ((with_reducible refine i_eVarX ?_); refine ⟨_, rfl, ?_⟩) | ((with_reducible refine i_len1 ?_ ?_); · exact Nat.le_of_ble_eq_true rfl))
        exact ⟨by decide, by decide, many _ (by decide) (by decide)⟩
      · refine ix_of (i := 2) rfl rfl ?_
        repeat (first | (with_reducible first | refine i_sIf ?_ | refine i_sNil ?_ | refine i_sRet ?_ | refine i_sAsg ?_ | refine i_sDrop ?_ | refine i_sPut ?_ | refine i_sPar ?_ | refine i_eC ?_ | refine i_eOp ?_ | refine i_eChain ?_ | refine i_eB ?_ | refine i_eUn ?_ | refine i_eTup ?_ | refine i_eLst ?_ | refine i_eLstM ?_ | refine i_eAnd ?_ | refine i_eOr ?_ | refine i_eNot ?_ | refine i_eIf ?_ | refine i_bOf ?_ | refine i_bAnd ?_ | refine i_bOr ?_ | refine i_bNot ?_ | refine i_bYes ?_ | refine i_aNil ?_ | refine i_aCons ?_ | refine i_eCall ?_ | refine i_eCallKw ?_ | refine i_eCut ?_ | refine i_oNone ?_ | refine i_oSome ?_ | refine i_eM ?_ | refine i_sSq ?_ | refine i_sRange1 ?_ | refine i_sRange2 ?_ | refine i_sEnum ?_ | refine i_eIsi ?_ | refine i_eIsi2 ?_ | refine i_eLc ?_ | refine i_eLcM ?_ | refine i_sFor ?_ | refine i_eDisp1 ?_ | refine i_bl ?_ | refine i_int ?_ | refine i_nm ?_ | refine i_one ?_ | refine i_two ?_ | refine i_rng ?_ | refine i_len0 ?_ | refine i_int1 ?_ | refine i_intb ?_ | refine i_abs ?_ | refine i_add ?_ | refine i_sub ?_ | refine i_lt ?_ | refine i_le ?_ | refine i_gt ?_ | refine i_ge ?_ | refine i_eqi ?_ | refine i_is ?_ | refine i_isn ?_ | refine i_nes ?_ | refine i_rbl ?_) | ((with_reducible refine i_eVarX ?_); refine ⟨_, rfl, ?_⟩) | ((with_reducible refine i_len1 ?_ ?_); · exact Nat.le_of_ble_eq_true rfl))
        exact ⟨by decide, by decide, many _ (by decide) (by decide)⟩
      · refine ix_of (i := 3) rfl rfl ?_
        repeat (first | (with_reducible first | refine i_sIf ?_ | refine i_sNil ?_ | refine i_sRet ?_ | refine i_sAsg ?_ | refine i_sDrop ?_ | refine i_sPut ?_ | refine i_sPar ?_ | refine i_eC ?_ | refine i_eOp ?_ | refine i_eChain ?_ | refine i_eB ?_ | refine i_eUn ?_ | refine i_eTup ?_ | refine i_eLst ?_ | refine i_eLstM ?_ | refine i_eAnd ?_ | refine i_eOr ?_ | refine i_eNot ?_ | refine i_eIf ?_ | refine i_bOf ?_ | refine i_bAnd ?_ | refine i_bOr ?_ | refine i_bNot ?_ | refine i_bYes ?_ | refine i_aNil ?_ | refine i_aCons ?_ | refine i_eCall ?_ | refine i_eCallKw ?_ | refine i_eCut ?_ | refine i_oNone ?_ | refine i_oSome ?_ | refine i_eM ?_ | refine i_sSq ?_ | refine i_sRange1 ?_ | refine i_sRange2 ?_ | refine i_sEnum ?_ | refine i_eIsi ?_ | refine i_eIsi2 ?_ | refine i_eLc ?_ | refine i_eLcM ?_ | refine i_sFor ?_ | refine i_eDisp1 ?_ | refine i_bl ?_ | refine i_int ?_ | refine i_nm ?_ | refine i_one ?_ | refine i_two ?_ | refine i_rng ?_ | refine i_len0 ?_ | refine i_int1 ?_ | refine i_intb ?_ | refine i_abs ?_ | refine i_add ?_ | refine i_sub ?_ | refine i_lt ?_ | refine i_le ?_ | refine i_gt ?_ | refine i_ge ?_ | refine i_eqi ?_ | refine i_is ?_ | refine i_isn ?_ | refine i_nes ?_ | refine i_rbl ?_) | ((with_reducible refine i_eVarX ?_); refine ⟨_, rfl, ?_⟩) | ((with_reducible refine i_len1 ?_ ?_); · exact Nat.le_of_ble_eq_true rfl))
        exact ⟨by decide, by decide, many _ (by decide) (by decide)⟩
    · repeat (first | (with_reducible first | refine i_sIf ?_ | refine i_sNil ?_ | refine i_sRet ?_ | refine i_sAsg ?_ | refine i_sDrop ?_ | refine i_sPut ?_ | refine i_sPar ?_ | refine i_eC ?_ | refine i_eOp ?_ | refine i_eChain ?_ | refine i_eB ?_ | refine i_eUn ?_ | refine i_eTup ?_ | refine i_eLst ?_ | refine i_eLstM ?_ | refine i_eAnd ?_ | refine i_eOr ?_ | refine i_eNot ?_ | refine i_eIf ?_ | refine i_bOf ?_ | refine i_bAnd ?_ | refine i_bOr ?_ | refine i_bNot ?_ | refine i_bYes ?_ | refine i_aNil ?_ | refine i_aCons ?_ | refine i_eCall ?_ | refine i_eCallKw ?_ | refine i_eCut ?_ | refine i_oNone ?_ | refine i_oSome ?_ | refine i_eM ?_ | refine i_sSq ?_ | refine i_sRange1 ?_ | refine i_sRange2 ?_ | refine i_sEnum ?_ | refine i_eIsi ?_ | refine i_eIsi2 ?_ | refine i_eLc ?_ | refine i_eLcM ?_ | refine i_sFor ?_ | refine i_eDisp1 ?_ | refine i_bl ?_ | refine i_int ?_ | refine i_nm ?_ | refine i_one ?_ | refine i_two ?_ | refine i_rng ?_ | refine i_len0 ?_ | refine i_int1 ?_ | refine i_intb ?_ | refine i_abs ?_ | refine i_add ?_ | refine i_sub ?_ | refine i_lt ?_ | refine i_le ?_ | refine i_gt ?_ | refine i_ge ?_ | refine i_eqi ?_ | refine i_is ?_ | refine i_isn ?_ | refine i_nes ?_ | refine i_rbl ?_) | ((with_reducible refine i_eVarX ?_); refine ⟨_, rfl, ?_⟩) | ((with_reducible refine i_len1 ?_ ?_); · exact Nat.le_of_ble_eq_true rfl))
      exact hnx _ _ ⟨rfl, rfl⟩
  obtain ⟨rfl, rfl⟩ := hP
  refine cut (fun ρ' S' => S' = some o1 :: T ∧ ρ' = [some (.ref 0), some (.int n), none, none]) (fun N' hrt hnx => ?_) (fun ρ' S' hP => ?_)
  · repeat (first | (with_reducible first | refine i_sIf ?_ | refine i_sNil ?_ | refine i_sRet ?_ | refine i_sAsg ?_ | refine i_sDrop ?_ | refine i_sPut ?_ | refine i_sPar ?_ | refine i_eC ?_ | refine i_eOp ?_ | refine i_eChain ?_ | refine i_eB ?_ | refine i_eUn ?_ | refine i_eTup ?_ | refine i_eLst ?_ | refine i_eLstM ?_ | refine i_eAnd ?_ | refine i_eOr ?_ | refine i_eNot ?_ | refine i_eIf ?_ | refine i_bOf ?_ | refine i_bAnd ?_ | refine i_bOr ?_ | refine i_bNot ?_ | refine i_bYes ?_ | refine i_aNil ?_ | refine i_aCons ?_ | refine i_eCall ?_ | refine i_eCallKw ?_ | refine i_eCut ?_ | refine i_oNone ?_ | refine i_oSome ?_ | refine i_eM ?_ | refine i_sSq ?_ | refine i_sRange1 ?_ | refine i_sRange2 ?_ | refine i_sEnum ?_ | refine i_eIsi ?_ | refine i_eIsi2 ?_ | refine i_eLc ?_ | refine i_eLcM ?_ | refine i_sFor ?_ | refine i_eDisp1 ?_ | refine i_bl ?_ | refine i_int ?_ | refine i_nm ?_ | refine i_one ?_ | refine i_two ?_ | refine i_rng ?_ | refine i_len0 ?_ | refine i_int1 ?_ | refine i_intb ?_ | refine i_abs ?_ | refine i_add ?_ | refine i_sub ?_ | refine i_lt ?_ | refine i_le ?_ | refine i_gt ?_ | refine i_ge ?_ | refine i_eqi ?_ | refine i_is ?_ | refine i_isn ?_ | refine i_nes ?_ | refine i_rbl ?_) | ((with_reducible refine i_eVarX ?_); refine ⟨_, rfl, ?_⟩) | ((with_reducible refine i_len1 ?_ ?_); · exact Nat.le_of_ble_eq_true rfl))
    refine ite_by (fun _ => ?_) (fun _ => ?_)
    · repeat (first | (with_reducible first | refine i_sIf ?_ | refine i_sNil ?_ | refine i_sRet ?_ | refine i_sAsg ?_ | refine i_sDrop ?_ | refine i_sPut ?_ | refine i_sPar ?_ | refine i_eC ?_ | refine i_eOp ?_ | refine i_eChain ?_ | refine i_eB ?_ | refine i_eUn ?_ | refine i_eTup ?_ | refine i_eLst ?_ | refine i_eLstM ?_ | refine i_eAnd ?_ | refine i_eOr ?_ | refine i_eNot ?_ | refine i_eIf ?_ | refine i_bOf ?_ | refine i_bAnd ?_ | refine i_bOr ?_ | refine i_bNot ?_ | refine i_bYes ?_ | refine i_aNil ?_ | refine i_aCons ?_ | refine i_eCall ?_ | refine i_eCallKw ?_ | refine i_eCut ?_ | refine i_oNone ?_ | refine i_oSome ?_ | refine i_eM ?_ | refine i_sSq ?_ | refine i_sRange1 ?_ | refine i_sRange2 ?_ | refine i_sEnum ?_ | refine i_eIsi ?_ | refine i_eIsi2 ?_ | refine i_eLc ?_ | refine i_eLcM ?_ | refine i_sFor ?_ | refine i_eDisp1 ?_ | refine i_bl ?_ | refine i_int ?_ | refine i_nm ?_ | refine i_one ?_ | refine i_two ?_ | refine i_rng ?_ | refine i_len0 ?_ | refine i_int1 ?_ | refine i_intb ?_ | refine i_abs ?_ | refine i_add ?_ | refine i_sub ?_ | refine i_lt ?_ | refine i_le ?_ | refine i_gt ?_ | refine i_ge ?_ | refine i_eqi ?_ | refine i_is ?_ | refine i_isn ?_ | refine i_nes ?_ | refine i_rbl ?_) | ((with_reducible refine i_eVarX ?_); refine ⟨_, rfl, ?_⟩) | ((with_reducible refine i_len1 ?_ ?_); · exact Nat.le_of_ble_eq_true rfl))
      refine ⟨k + 1, o1, T, rfl, rfl, u1, by omega, fun o2 m u2 bm => ?_⟩
      repeat (first | (with_reducible first | refine i_sIf ?_ | refine i_sNil ?_ | refine i_sRet ?_ | refine i_sAsg ?_ | refine i_sDrop ?_ | refine i_sPut ?_ | refine i_sPar ?_ | refine i_eC ?_ | refine i_eOp ?_ | refine i_eChain ?_ | refine i_eB ?_ | refine i_eUn ?_ | refine i_eTup ?_ | refine i_eLst ?_ | refine i_eLstM ?_ | refine i_eAnd ?_ | refine i_eOr ?_ | refine i_eNot ?_ | refine i_eIf ?_ | refine i_bOf ?_ | refine i_bAnd ?_ | refine i_bOr ?_ | refine i_bNot ?_ | refine i_bYes ?_ | refine i_aNil ?_ | refine i_aCons ?_ | refine i_eCall ?_ | refine i_eCallKw ?_ | refine i_eCut ?_ | refine i_oNone ?_ | refine i_oSome ?_ | refine i_eM ?_ | refine i_sSq ?_ | refine i_sRange1 ?_ | refine i_sRange2 ?_ | refine i_sEnum ?_ | refine i_eIsi ?_ | refine i_eIsi2 ?_ | refine i_eLc ?_ | refine i_eLcM ?_ | refine i_sFor ?_ | refine i_eDisp1 ?_ | refine i_bl ?_ | refine i_int ?_ | refine i_nm ?_ | refine i_one ?_ | refine i_two ?_ | refine i_rng ?_ | refine i_len0 ?_ | refine i_int1 ?_ | refine i_intb ?_ | refine i_abs ?_ | refine i_add ?_ | refine i_sub ?_ | refine i_lt ?_ | refine i_le ?_ | refine i_gt ?_ | refine i_ge ?_ | refine i_eqi ?_ | refine i_is ?_ | refine i_isn ?_ | refine i_nes ?_ | refine i_rbl ?_) | ((with_reducible refine i_eVarX ?_); refine ⟨_, rfl, ?_⟩) | ((with_reducible refine i_len1 ?_ ?_); · exact Nat.le_of_ble_eq_true rfl))
      refine ⟨k + 1 + 2, o2, T, rfl, rfl, u2, by omega, fun o3 d u3 hd => ?_⟩
      repeat (first | (with_reducible first | refine i_sIf ?_ | refine i_sNil ?_ | refine i_sRet ?_ | refine i_sAsg ?_ | refine i_sDrop ?_ | refine i_sPut ?_ | refine i_sPar ?_ | refine i_eC ?_ | refine i_eOp ?_ | refine i_eChain ?_ | refine i_eB ?_ | refine i_eUn ?_ | refine i_eTup ?_ | refine i_eLst ?_ | refine i_eLstM ?_ | refine i_eAnd ?_ | refine i_eOr ?_ | refine i_eNot ?_ | refine i_eIf ?_ | refine i_bOf ?_ | refine i_bAnd ?_ | refine i_bOr ?_ | refine i_bNot ?_ | refine i_bYes ?_ | refine i_aNil ?_ | refine i_aCons ?_ | refine i_eCall ?_ | refine i_eCallKw ?_ | refine i_eCut ?_ | refine i_oNone ?_ | refine i_oSome ?_ | refine i_eM ?_ | refine i_sSq ?_ | refine i_sRange1 ?_ | refine i_sRange2 ?_ | refine i_sEnum ?_ | refine i_eIsi ?_ | refine i_eIsi2 ?_ | refine i_eLc ?_ | refine i_eLcM ?_ | refine i_sFor ?_ | refine i_eDisp1 ?_ | refine i_bl ?_ | refine i_int ?_ | refine i_nm ?_ | refine i_one ?_ | refine i_two ?_ | refine i_rng ?_ | refine i_len0 ?_ | refine i_int1 ?_ | refine i_intb ?_ | refine i_abs ?_ | refine i_add ?_ | refine i_sub ?_ | refine i_lt ?_ | refine i_le ?_ | refine i_gt ?_ | refine i_ge ?_ | refine i_eqi ?_ | refine i_is ?_ | refine i_isn ?_ | refine i_nes ?_ | refine i_rbl ?_) | ((with_reducible refine i_eVarX ?_); refine ⟨_, rfl, ?_⟩) | ((with_reducible refine i_len1 ?_ ?_); · exact Nat.le_of_ble_eq_true rfl))
      rw [hrt]
      exact fin _ o3 _ u3 (by omega) (.inr (.inr (.inl ⟨m, d, rfl, bm, hd⟩)))
    · repeat (first | (with_reducible first | refine i_sIf ?_ | refine i_sNil ?_ | refine i_sRet ?_ | refine i_sAsg ?_ | refine i_sDrop ?_ | refine i_sPut ?_ | refine i_sPar ?_ | refine i_eC ?_ | refine i_eOp ?_ | refine i_eChain ?_ | refine i_eB ?_ | refine i_eUn ?_ | refine i_eTup ?_ | refine i_eLst ?_ | refine i_eLstM ?_ | refine i_eAnd ?_ | refine i_eOr ?_ | refine i_eNot ?_ | refine i_eIf ?_ | refine i_bOf ?_ | refine i_bAnd ?_ | refine i_bOr ?_ | refine i_bNot ?_ | refine i_bYes ?_ | refine i_aNil ?_ | refine i_aCons ?_ | refine i_eCall ?_ | refine i_eCallKw ?_ | refine i_eCut ?_ | refine i_oNone ?_ | refine i_oSome ?_ | refine i_eM ?_ | refine i_sSq ?_ | refine i_sRange1 ?_ | refine i_sRange2 ?_ | refine i_sEnum ?_ | refine i_eIsi ?_ | refine i_eIsi2 ?_ | refine i_eLc ?_ | refine i_eLcM ?_ | refine i_sFor ?_ | refine i_eDisp1 ?_ | refine i_bl ?_ | refine i_int ?_ | refine i_nm ?_ | refine i_one ?_ | refine i_two ?_ | refine i_rng ?_ | refine i_len0 ?_ | refine i_int1 ?_ | refine i_intb ?_ | refine i_abs ?_ | refine i_add ?_ | refine i_sub ?_ | refine i_lt ?_ | refine i_le ?_ | refine i_gt ?_ | refine i_ge ?_ | refine i_eqi ?_ | refine i_is ?_ | refine i_isn ?_ | refine i_nes ?_ | refine i_rbl ?_) | ((with_reducible refine i_eVarX ?_); refine ⟨_, rfl, ?_⟩) | ((with_reducible refine i_len1 ?_ ?_); · exact Nat.le_of_ble_eq_true rfl))
      exact hnx _ _ ⟨rfl, rfl⟩
  obtain ⟨rfl, rfl⟩ := hP
  refine cut (fun ρ' S' => S' = some o1 :: T ∧ ρ' = [some (.ref 0), some (.int n), none, none]) (fun N' hrt hnx => ?_) (fun ρ' S' hP => ?_)
  · repeat (first | (with_reducible first | refine i_sIf ?_ | refine i_sNil ?_ | refine i_sRet ?_ | refine i_sAsg ?_ | refine i_sDrop ?_ | refine i_sPut ?_ | refine i_sPar ?_ | refine i_eC ?_ | refine i_eOp ?_ | refine i_eChain ?_ | refine i_eB ?_ | refine i_eUn ?_ | refine i_eTup ?_ | refine i_eLst ?_ | refine i_eLstM ?_ | refine i_eAnd ?_ | refine i_eOr ?_ | refine i_eNot ?_ | refine i_eIf ?_ | refine i_bOf ?_ | refine i_bAnd ?_ | refine i_bOr ?_ | refine i_bNot ?_ | refine i_bYes ?_ | refine i_aNil ?_ | refine i_aCons ?_ | refine i_eCall ?_ | refine i_eCallKw ?_ | refine i_eCut ?_ | refine i_oNone ?_ | refine i_oSome ?_ | refine i_eM ?_ | refine i_sSq ?_ | refine i_sRange1 ?_ | refine i_sRange2 ?_ | refine i_sEnum ?_ | refine i_eIsi ?_ | refine i_eIsi2 ?_ | refine i_eLc ?_ | refine i_eLcM ?_ | refine i_sFor ?_ | refine i_eDisp1 ?_ | refine i_bl ?_ | refine i_int ?_ | refine i_nm ?_ | refine i_one ?_ | refine i_two ?_ | refine i_rng ?_ | refine i_len0 ?_ | refine i_int1 ?_ | refine i_intb ?_ | refine i_abs ?_ | refine i_add ?_ | refine i_sub ?_ | refine i_lt ?_ | refine i_le ?_ | refine i_gt ?_ | refine i_ge ?_ | refine i_eqi ?_ | refine i_is ?_ | refine i_isn ?_ | refine i_nes ?_ | refine i_rbl ?_) | ((with_reducible refine i_eVarX ?_); refine ⟨_, rfl, ?_⟩) | ((with_reducible refine i_len1 ?_ ?_); · exact Nat.le_of_ble_eq_true rfl))
    refine ite_by (fun _ => ?_) (fun _ => ?_)
    · repeat (first | (with_reducible first | refine i_sIf ?_ | refine i_sNil ?_ | refine i_sRet ?_ | refine i_sAsg ?_ | refine i_sDrop ?_ | refine i_sPut ?_ | refine i_sPar ?_ | refine i_eC ?_ | refine i_eOp ?_ | refine i_eChain ?_ | refine i_eB ?_ | refine i_eUn ?_ | refine i_eTup ?_ | refine i_eLst ?_ | refine i_eLstM ?_ | refine i_eAnd ?_ | refine i_eOr ?_ | refine i_eNot ?_ | refine i_eIf ?_ | refine i_bOf ?_ | refine i_bAnd ?_ | refine i_bOr ?_ | refine i_bNot ?_ | refine i_bYes ?_ | refine i_aNil ?_ | refine i_aCons ?_ | refine i_eCall ?_ | refine i_eCallKw ?_ | refine i_eCut ?_ | refine i_oNone ?_ | refine i_oSome ?_ | refine i_eM ?_ | refine i_sSq ?_ | refine i_sRange1 ?_ | refine i_sRange2 ?_ | refine i_sEnum ?_ | refine i_eIsi ?_ | refine i_eIsi2 ?_ | refine i_eLc ?_ | refine i_eLcM ?_ | refine i_sFor ?_ | refine i_eDisp1 ?_ | refine i_bl ?_ | refine i_int ?_ | refine i_nm ?_ | refine i_one ?_ | refine i_two ?_ | refine i_rng ?_ | refine i_len0 ?_ | refine i_int1 ?_ | refine i_intb ?_ | refine i_abs ?_ | refine i_add ?_ | refine i_sub ?_ | refine i_lt ?_ | refine i_le ?_ | refine i_gt ?_ | refine i_ge ?_ | refine i_eqi ?_ | refine i_is ?_ | refine i_isn ?_ | refine i_nes ?_ | refine i_rbl ?_) | ((with_reducible refine i_eVarX ?_); refine ⟨_, rfl, ?_⟩) | ((with_reducible refine i_len1 ?_ ?_); · exact Nat.le_of_ble_eq_true rfl))
      refine ⟨k + 1, o1, T, rfl, rfl, u1, by omega, fun o2 d u2 hd => ?_⟩
      rw [hrt]
      exact fin _ o2 _ u2 (by omega) (.inl hd)
    · repeat (first | (with_reducible first | refine i_sIf ?_ | refine i_sNil ?_ | refine i_sRet ?_ | refine i_sAsg ?_ | refine i_sDrop ?_ | refine i_sPut ?_ | refine i_sPar ?_ | refine i_eC ?_ | refine i_eOp ?_ | refine i_eChain ?_ | refine i_eB ?_ | refine i_eUn ?_ | refine i_eTup ?_ | refine i_eLst ?_ | refine i_eLstM ?_ | refine i_eAnd ?_ | refine i_eOr ?_ | refine i_eNot ?_ | refine i_eIf ?_ | refine i_bOf ?_ | refine i_bAnd ?_ | refine i_bOr ?_ | refine i_bNot ?_ | refine i_bYes ?_ | refine i_aNil ?_ | refine i_aCons ?_ | refine i_eCall ?_ | refine i_eCallKw ?_ | refine i_eCut ?_ | refine i_oNone ?_ | refine i_oSome ?_ | refine i_eM ?_ | refine i_sSq ?_ | refine i_sRange1 ?_ | refine i_sRange2 ?_ | refine i_sEnum ?_ | refine i_eIsi ?_ | refine i_eIsi2 ?_ | refine i_eLc ?_ | refine i_eLcM ?_ | refine i_sFor ?_ | refine i_eDisp1 ?_ | refine i_bl ?_ | refine i_int ?_ | refine i_nm ?_ | refine i_one ?_ | refine i_two ?_ | refine i_rng ?_ | refine i_len0 ?_ | refine i_int1 ?_ | refine i_intb ?_ | refine i_abs ?_ | refine i_add ?_ | refine i_sub ?_ | refine i_lt ?_ | refine i_le ?_ | refine i_gt ?_ | refine i_ge ?_ | refine i_eqi ?_ | refine i_is ?_ | refine i_isn ?_ | refine i_nes ?_ | refine i_rbl ?_) | ((with_reducible refine i_eVarX ?_); refine ⟨_, rfl, ?_⟩) | ((with_reducible refine i_len1 ?_ ?_); · exact Nat.le_of_ble_eq_true rfl))
      exact hnx _ _ ⟨rfl, rfl⟩
  obtain ⟨rfl, rfl⟩ := hP
  refine cut (fun ρ' S' => ∃ (o2 : SO) (a b : Int), Urn (k + 3) o2 ∧ Big a ∧ Big b ∧ S' = some o2 :: T ∧ ρ' = [some (.ref 0), some (.int n), some (.lst [.int a, .int b]), none]) (fun N' hrt hnx => ?_) (fun ρ' S' hP => ?_)
  · repeat (first | (with_reducible first | refine i_sIf ?_ | refine i_sNil ?_ | refine i_sRet ?_ | refine i_sAsg ?_ | refine i_sDrop ?_ | refine i_sPut ?_ | refine i_sPar ?_ | refine i_eC ?_ | refine i_eOp ?_ | refine i_eChain ?_ | refine i_eB ?_ | refine i_eUn ?_ | refine i_eTup ?_ | refine i_eLst ?_ | refine i_eLstM ?_ | refine i_eAnd ?_ | refine i_eOr ?_ | refine i_eNot ?_ | refine i_eIf ?_ | refine i_bOf ?_ | refine i_bAnd ?_ | refine i_bOr ?_ | refine i_bNot ?_ | refine i_bYes ?_ | refine i_aNil ?_ | refine i_aCons ?_ | refine i_eCall ?_ | refine i_eCallKw ?_ | refine i_eCut ?_ | refine i_oNone ?_ | refine i_oSome ?_ | refine i_eM ?_ | refine i_sSq ?_ | refine i_sRange1 ?_ | refine i_sRange2 ?_ | refine i_sEnum ?_ | refine i_eIsi ?_ | refine i_eIsi2 ?_ | refine i_eLc ?_ | refine i_eLcM ?_ | refine i_sFor ?_ | refine i_eDisp1 ?_ | refine i_bl ?_ | refine i_int ?_ | refine i_nm ?_ | refine i_one ?_ | refine i_two ?_ | refine i_rng ?_ | refine i_len0 ?_ | refine i_int1 ?_ | refine i_intb ?_ | refine i_abs ?_ | refine i_add ?_ | refine i_sub ?_ | refine i_lt ?_ | refine i_le ?_ | refine i_gt ?_ | refine i_ge ?_ | refine i_eqi ?_ | refine i_is ?_ | refine i_isn ?_ | refine i_nes ?_ | refine i_rbl ?_) | ((with_reducible refine i_eVarX ?_); refine ⟨_, rfl, ?_⟩) | ((with_reducible refine i_len1 ?_ ?_); · exact Nat.le_of_ble_eq_true rfl))
    refine ⟨k + 1, o1, T, 5, rfl, rfl, u1, by omega, by decide, by decide, fun o2 a u2 a0 a1 => ?_⟩
    repeat (first | (with_reducible first | refine i_sIf ?_ | refine i_sNil ?_ | refine i_sRet ?_ | refine i_sAsg ?_ | refine i_sDrop ?_ | refine i_sPut ?_ | refine i_sPar ?_ | refine i_eC ?_ | refine i_eOp ?_ | refine i_eChain ?_ | refine i_eB ?_ | refine i_eUn ?_ | refine i_eTup ?_ | refine i_eLst ?_ | refine i_eLstM ?_ | refine i_eAnd ?_ | refine i_eOr ?_ | refine i_eNot ?_ | refine i_eIf ?_ | refine i_bOf ?_ | refine i_bAnd ?_ | refine i_bOr ?_ | refine i_bNot ?_ | refine i_bYes ?_ | refine i_aNil ?_ | refine i_aCons ?_ | refine i_eCall ?_ | refine i_eCallKw ?_ | refine i_eCut ?_ | refine i_oNone ?_ | refine i_oSome ?_ | refine i_eM ?_ | refine i_sSq ?_ | refine i_sRange1 ?_ | refine i_sRange2 ?_ | refine i_sEnum ?_ | refine i_eIsi ?_ | refine i_eIsi2 ?_ | refine i_eLc ?_ | refine i_eLcM ?_ | refine i_sFor ?_ | refine i_eDisp1 ?_ | refine i_bl ?_ | refine i_int ?_ | refine i_nm ?_ | refine i_one ?_ | refine i_two ?_ | refine i_rng ?_ | refine i_len0 ?_ | refine i_int1 ?_ | refine i_intb ?_ | refine i_abs ?_ | refine i_add ?_ | refine i_sub ?_ | refine i_lt ?_ | refine i_le ?_ | refine i_gt ?_ | refine i_ge ?_ | refine i_eqi ?_ | refine i_is ?_ | refine i_isn ?_ | refine i_nes ?_ | refine i_rbl ?_) | ((with_reducible refine i_eVarX ?_); refine ⟨_, rfl, ?_⟩) | ((with_reducible refine i_len1 ?_ ?_); · exact Nat.le_of_ble_eq_true rfl))
    refine ⟨k + 2, o2, T, 5, rfl, rfl, u2, by omega, by decide, by decide, fun o3 b u3 b0 b1 => ?_⟩
    repeat (first | (with_reducible first | refine i_sIf ?_ | refine i_sNil ?_ | refine i_sRet ?_ | refine i_sAsg ?_ | refine i_sDrop ?_ | refine i_sPut ?_ | refine i_sPar ?_ | refine i_eC ?_ | refine i_eOp ?_ | refine i_eChain ?_ | refine i_eB ?_ | refine i_eUn ?_ | refine i_eTup ?_ | refine i_eLst ?_ | refine i_eLstM ?_ | refine i_eAnd ?_ | refine i_eOr ?_ | refine i_eNot ?_ | refine i_eIf ?_ | refine i_bOf ?_ | refine i_bAnd ?_ | refine i_bOr ?_ | refine i_bNot ?_ | refine i_bYes ?_ | refine i_aNil ?_ | refine i_aCons ?_ | refine i_eCall ?_ | refine i_eCallKw ?_ | refine i_eCut ?_ | refine i_oNone ?_ | refine i_oSome ?_ | refine i_eM ?_ | refine i_sSq ?_ | refine i_sRange1 ?_ | refine i_sRange2 ?_ | refine i_sEnum ?_ | refine i_eIsi ?_ | refine i_eIsi2 ?_ | refine i_eLc ?_ | refine i_eLcM ?_ | refine i_sFor ?_ | refine i_eDisp1 ?_ | refine i_bl ?_ | refine i_int ?_ | refine i_nm ?_ | refine i_one ?_ | refine i_two ?_ | refine i_rng ?_ | refine i_len0 ?_ | refine i_int1 ?_ | refine i_intb ?_ | refine i_abs ?_ | refine i_add ?_ | refine i_sub ?_ | refine i_lt ?_ | refine i_le ?_ | refine i_gt ?_ | refine i_ge ?_ | refine i_eqi ?_ | refine i_is ?_ | refine i_isn ?_ | refine i_nes ?_ | refine i_rbl ?_) | ((with_reducible refine i_eVarX ?_); refine ⟨_, rfl, ?_⟩) | ((with_reducible refine i_len1 ?_ ?_); · exact Nat.le_of_ble_eq_true rfl))
    exact hnx _ _ ⟨o3, a - 2, b - 2, u3, by unfold Big; omega, by unfold Big; omega, rfl, rfl⟩
  obtain ⟨o2, a, b, u2, ba, bb, rfl, rfl⟩ := hP
  repeat (first | (with_reducible first | refine i_sIf ?_ | refine i_sNil ?_ | refine i_sRet ?_ | refine i_sAsg ?_ | refine i_sDrop ?_ | refine i_sPut ?_ | refine i_sPar ?_ | refine i_eC ?_ | refine i_eOp ?_ | refine i_eChain ?_ | refine i_eB ?_ | refine i_eUn ?_ | refine i_eTup ?_ | refine i_eLst ?_ | refine i_eLstM ?_ | refine i_eAnd ?_ | refine i_eOr ?_ | refine i_eNot ?_ | refine i_eIf ?_ | refine i_bOf ?_ | refine i_bAnd ?_ | refine i_bOr ?_ | refine i_bNot ?_ | refine i_bYes ?_ | refine i_aNil ?_ | refine i_aCons ?_ | refine i_eCall ?_ | refine i_eCallKw ?_ | refine i_eCut ?_ | refine i_oNone ?_ | refine i_oSome ?_ | refine i_eM ?_ | refine i_sSq ?_ | refine i_sRange1 ?_ | refine i_sRange2 ?_ | refine i_sEnum ?_ | refine i_eIsi ?_ | refine i_eIsi2 ?_ | refine i_eLc ?_ | refine i_eLcM ?_ | refine i_sFor ?_ | refine i_eDisp1 ?_ | refine i_bl ?_ | refine i_int ?_ | refine i_nm ?_ | refine i_one ?_ | refine i_two ?_ | refine i_rng ?_ | refine i_len0 ?_ | refine i_int1 ?_ | refine i_intb ?_ | refine i_abs ?_ | refine i_add ?_ | refine i_sub ?_ | refine i_lt ?_ | refine i_le ?_ | refine i_gt ?_ | refine i_ge ?_ | refine i_eqi ?_ | refine i_is ?_ | refine i_isn ?_ | refine i_nes ?_ | refine i_rbl ?_) | ((with_reducible refine i_eVarX ?_); refine ⟨_, rfl, ?_⟩) | ((with_reducible refine i_len1 ?_ ?_); · exact Nat.le_of_ble_eq_true rfl))
  refine ⟨k + 3, o2, T, 2, rfl, rfl, u2, by omega, by decide, by decide, fun o3 c u3 c0 c1 => ?_⟩
  repeat (first | (with_reducible first | refine i_sIf ?_ | refine i_sNil ?_ | refine i_sRet ?_ | refine i_sAsg ?_ | refine i_sDrop ?_ | refine i_sPut ?_ | refine i_sPar ?_ | refine i_eC ?_ | refine i_eOp ?_ | refine i_eChain ?_ | refine i_eB ?_ | refine i_eUn ?_ | refine i_eTup ?_ | refine i_eLst ?_ | refine i_eLstM ?_ | refine i_eAnd ?_ | refine i_eOr ?_ | refine i_eNot ?_ | refine i_eIf ?_ | refine i_bOf ?_ | refine i_bAnd ?_ | refine i_bOr ?_ | refine i_bNot ?_ | refine i_bYes ?_ | refine i_aNil ?_ | refine i_aCons ?_ | refine i_eCall ?_ | refine i_eCallKw ?_ | refine i_eCut ?_ | refine i_oNone ?_ | refine i_oSome ?_ | refine i_eM ?_ | refine i_sSq ?_ | refine i_sRange1 ?_ | refine i_sRange2 ?_ | refine i_sEnum ?_ | refine i_eIsi ?_ | refine i_eIsi2 ?_ | refine i_eLc ?_ | refine i_eLcM ?_ | refine i_sFor ?_ | refine i_eDisp1 ?_ | refine i_bl ?_ | refine i_int ?_ | refine i_nm ?_ | refine i_one ?_ | refine i_two ?_ | refine i_rng ?_ | refine i_len0 ?_ | refine i_int1 ?_ | refine i_intb ?_ | refine i_abs ?_ | refine i_add ?_ | refine i_sub ?_ | refine i_lt ?_ | refine i_le ?_ | refine i_gt ?_ | refine i_ge ?_ | refine i_eqi ?_ | refine i_is ?_ | refine i_isn ?_ | refine i_nes ?_ | refine i_rbl ?_) | ((with_reducible refine i_eVarX ?_); refine ⟨_, rfl, ?_⟩) | ((with_reducible refine i_len1 ?_ ?_); · exact Nat.le_of_ble_eq_true rfl))
  refine ite_by (fun _ => ?_) (fun _ => ?_)
  · repeat (first | (with_reducible first | refine i_sIf ?_ | refine i_sNil ?_ | refine i_sRet ?_ | refine i_sAsg ?_ | refine i_sDrop ?_ | refine i_sPut ?_ | refine i_sPar ?_ | refine i_eC ?_ | refine i_eOp ?_ | refine i_eChain ?_ | refine i_eB ?_ | refine i_eUn ?_ | refine i_eTup ?_ | refine i_eLst ?_ | refine i_eLstM ?_ | refine i_eAnd ?_ | refine i_eOr ?_ | refine i_eNot ?_ | refine i_eIf ?_ | refine i_bOf ?_ | refine i_bAnd ?_ | refine i_bOr ?_ | refine i_bNot ?_ | refine i_bYes ?_ | refine i_aNil ?_ | refine i_aCons ?_ | refine i_eCall ?_ | refine i_eCallKw ?_ | refine i_eCut ?_ | refine i_oNone ?_ | refine i_oSome ?_ | refine i_eM ?_ | refine i_sSq ?_ | refine i_sRange1 ?_ | refine i_sRange2 ?_ | refine i_sEnum ?_ | refine i_eIsi ?_ | refine i_eIsi2 ?_ | refine i_eLc ?_ | refine i_eLcM ?_ | refine i_sFor ?_ | refine i_eDisp1 ?_ | refine i_bl ?_ | refine i_int ?_ | refine i_nm ?_ | refine i_one ?_ | refine i_two ?_ | refine i_rng ?_ | refine i_len0 ?_ | refine i_int1 ?_ | refine i_intb ?_ | refine i_abs ?_ | refine i_add ?_ | refine i_sub ?_ | refine i_lt ?_ | refine i_le ?_ | refine i_gt ?_ | refine i_ge ?_ | refine i_eqi ?_ | refine i_is ?_ | refine i_isn ?_ | refine i_nes ?_ | refine i_rbl ?_) | ((with_reducible refine i_eVarX ?_); refine ⟨_, rfl, ?_⟩) | ((with_reducible refine i_len1 ?_ ?_); · exact Nat.le_of_ble_eq_true rfl))
    exact ⟨_, rfl, fin _ o3 _ u3 (by omega) (.inr (.inr (.inr ⟨a, b, rfl, ba, bb⟩)))⟩
  · repeat (first | (with_reducible first | refine i_sIf ?_ | refine i_sNil ?_ | refine i_sRet ?_ | refine i_sAsg ?_ | refine i_sDrop ?_ | refine i_sPut ?_ | refine i_sPar ?_ | refine i_eC ?_ | refine i_eOp ?_ | refine i_eChain ?_ | refine i_eB ?_ | refine i_eUn ?_ | refine i_eTup ?_ | refine i_eLst ?_ | refine i_eLstM ?_ | refine i_eAnd ?_ | refine i_eOr ?_ | refine i_eNot ?_ | refine i_eIf ?_ | refine i_bOf ?_ | refine i_bAnd ?_ | refine i_bOr ?_ | refine i_bNot ?_ | refine i_bYes ?_ | refine i_aNil ?_ | refine i_aCons ?_ | refine i_eCall ?_ | refine i_eCallKw ?_ | refine i_eCut ?_ | refine i_oNone ?_ | refine i_oSome ?_ | refine i_eM ?_ | refine i_sSq ?_ | refine i_sRange1 ?_ | refine i_sRange2 ?_ | refine i_sEnum ?_ | refine i_eIsi ?_ | refine i_eIsi2 ?_ | refine i_eLc ?_ | refine i_eLcM ?_ | refine i_sFor ?_ | refine i_eDisp1 ?_ | refine i_bl ?_ | refine i_int ?_ | refine i_nm ?_ | refine i_one ?_ | refine i_two ?_ | refine i_rng ?_ | refine i_len0 ?_ | refine i_int1 ?_ | refine i_intb ?_ | refine i_abs ?_ | refine i_add ?_ | refine i_sub ?_ | refine i_lt ?_ | refine i_le ?_ | refine i_gt ?_ | refine i_ge ?_ | refine i_eqi ?_ | refine i_is ?_ | refine i_isn ?_ | refine i_nes ?_ | refine i_rbl ?_) | ((with_reducible refine i_eVarX ?_); refine ⟨_, rfl, ?_⟩) | ((with_reducible refine i_len1 ?_ ?_); · exact Nat.le_of_ble_eq_true rfl))
    exact fin _ o3 _ u3 (by omega) (.inr (.inl ⟨[a, b], rfl, by simp, by simp [ba, bb]⟩))

theorem isSq_no {d : D} {ys : List D} (h : seqOf d = some ys) (h2 : ys.length ≠ 2) : isSq d = false := by
  unfold isSq
  rw [h]
  match ys, h2 with
  | [], _ => rfl
  | [_], _ => rfl
  | [_, _], h2 => exact (h2 rfl).elim
  | _ :: _ :: _ :: _, _ => rfl
theorem run_is_square (xs : List D) (S : Store) (Q : QD) (h : r_is_square xs S Q) : runD 2 b_is_square xs S Q := by
  obtain ⟨d, rfl, ⟨⟨t, ht⟩, _, hf⟩, q⟩ := h
  refine i_runD ?_
  unfold b_is_square
  repeat (first | (with_reducible first | refine i_sIf ?_ | refine i_sNil ?_ | refine i_sRet ?_ | refine i_sAsg ?_ | refine i_sDrop ?_ | refine i_sPut ?_ | refine i_sPar ?_ | refine i_eC ?_ | refine i_eOp ?_ | refine i_eChain ?_ | refine i_eB ?_ | refine i_eUn ?_ | refine i_eTup ?_ | refine i_eLst ?_ | refine i_eLstM ?_ | refine i_eAnd ?_ | refine i_eOr ?_ | refine i_eNot ?_ | refine i_eIf ?_ | refine i_bOf ?_ | refine i_bAnd ?_ | refine i_bOr ?_ | refine i_bNot ?_ | refine i_bYes ?_ | refine i_aNil ?_ | refine i_aCons ?_ | refine i_eCall ?_ | refine i_eCallKw ?_ | refine i_eCut ?_ | refine i_oNone ?_ | refine i_oSome ?_ | refine i_eM ?_ | refine i_sSq ?_ | refine i_sRange1 ?_ | refine i_sRange2 ?_ | refine i_sEnum ?_ | refine i_eIsi ?_ | refine i_eIsi2 ?_ | refine i_eLc ?_ | refine i_eLcM ?_ | refine i_sFor ?_ | refine i_eDisp1 ?_ | refine i_bl ?_ | refine i_int ?_ | refine i_nm ?_ | refine i_one ?_ | refine i_two ?_ | refine i_rng ?_ | refine i_len0 ?_ | refine i_int1 ?_ | refine i_intb ?_ | refine i_abs ?_ | refine i_add ?_ | refine i_sub ?_ | refine i_lt ?_ | refine i_le ?_ | refine i_gt ?_ | refine i_ge ?_ | refine i_eqi ?_ | refine i_is ?_ | refine i_isn ?_ | refine i_nes ?_ | refine i_rbl ?_) | ((with_reducible refine i_eVarX ?_); refine ⟨_, rfl, ?_⟩) | ((with_reducible refine i_len1 ?_ ?_); · exact Nat.le_of_ble_eq_true rfl))
  rw [drf_ty ht]
  refine ⟨_, _, isi_list ht, isi_tuple ht, ?_⟩
  repeat (first | (with_reducible first | refine i_sIf ?_ | refine i_sNil ?_ | refine i_sRet ?_ | refine i_sAsg ?_ | refine i_sDrop ?_ | refine i_sPut ?_ | refine i_sPar ?_ | refine i_eC ?_ | refine i_eOp ?_ | refine i_eChain ?_ | refine i_eB ?_ | refine i_eUn ?_ | refine i_eTup ?_ | refine i_eLst ?_ | refine i_eLstM ?_ | refine i_eAnd ?_ | refine i_eOr ?_ | refine i_eNot ?_ | refine i_eIf ?_ | refine i_bOf ?_ | refine i_bAnd ?_ | refine i_bOr ?_ | refine i_bNot ?_ | refine i_bYes ?_ | refine i_aNil ?_ | refine i_aCons ?_ | refine i_eCall ?_ | refine i_eCallKw ?_ | refine i_eCut ?_ | refine i_oNone ?_ | refine i_oSome ?_ | refine i_eM ?_ | refine i_sSq ?_ | refine i_sRange1 ?_ | refine i_sRange2 ?_ | refine i_sEnum ?_ | refine i_eIsi ?_ | refine i_eIsi2 ?_ | refine i_eLc ?_ | refine i_eLcM ?_ | refine i_sFor ?_ | refine i_eDisp1 ?_ | refine i_bl ?_ | refine i_int ?_ | refine i_nm ?_ | refine i_one ?_ | refine i_two ?_ | refine i_rng ?_ | refine i_len0 ?_ | refine i_int1 ?_ | refine i_intb ?_ | refine i_abs ?_ | refine i_add ?_ | refine i_sub ?_ | refine i_lt ?_ | refine i_le ?_ | refine i_gt ?_ | refine i_ge ?_ | refine i_eqi ?_ | refine i_is ?_ | refine i_isn ?_ | refine i_nes ?_ | refine i_rbl ?_) | ((with_reducible refine i_eVarX ?_); refine ⟨_, rfl, ?_⟩) | ((with_reducible refine i_len1 ?_ ?_); · exact Nat.le_of_ble_eq_true rfl))
  refine ite_by (fun hs => ?_) (fun hs => ?_)
  · obtain ⟨ys, hy⟩ := seq_lt hs
    obtain ⟨hl, hit⟩ := hf ys hy
    repeat (first | (with_reducible first | refine i_sIf ?_ | refine i_sNil ?_ | refine i_sRet ?_ | refine i_sAsg ?_ | refine i_sDrop ?_ | refine i_sPut ?_ | refine i_sPar ?_ | refine i_eC ?_ | refine i_eOp ?_ | refine i_eChain ?_ | refine i_eB ?_ | refine i_eUn ?_ | refine i_eTup ?_ | refine i_eLst ?_ | refine i_eLstM ?_ | refine i_eAnd ?_ | refine i_eOr ?_ | refine i_eNot ?_ | refine i_eIf ?_ | refine i_bOf ?_ | refine i_bAnd ?_ | refine i_bOr ?_ | refine i_bNot ?_ | refine i_bYes ?_ | refine i_aNil ?_ | refine i_aCons ?_ | refine i_eCall ?_ | refine i_eCallKw ?_ | refine i_eCut ?_ | refine i_oNone ?_ | refine i_oSome ?_ | refine i_eM ?_ | refine i_sSq ?_ | refine i_sRange1 ?_ | refine i_sRange2 ?_ | refine i_sEnum ?_ | refine i_eIsi ?_ | refine i_eIsi2 ?_ | refine i_eLc ?_ | refine i_eLcM ?_ | refine i_sFor ?_ | refine i_eDisp1 ?_ | refine i_bl ?_ | refine i_int ?_ | refine i_nm ?_ | refine i_one ?_ | refine i_two ?_ | refine i_rng ?_ | refine i_len0 ?_ | refine i_int1 ?_ | refine i_intb ?_ | refine i_abs ?_ | refine i_add ?_ | refine i_sub ?_ | refine i_lt ?_ | refine i_le ?_ | refine i_gt ?_ | refine i_ge ?_ | refine i_eqi ?_ | refine i_is ?_ | refine i_isn ?_ | refine i_nes ?_ | refine i_rbl ?_) | ((with_reducible refine i_eVarX ?_); refine ⟨_, rfl, ?_⟩) | ((with_reducible refine i_len1 ?_ ?_); · exact Nat.le_of_ble_eq_true rfl))
    refine len_seq (by rw [drf_ty ht]; exact hy) ?_
    repeat (first | (with_reducible first | refine i_sIf ?_ | refine i_sNil ?_ | refine i_sRet ?_ | refine i_sAsg ?_ | refine i_sDrop ?_ | refine i_sPut ?_ | refine i_sPar ?_ | refine i_eC ?_ | refine i_eOp ?_ | refine i_eChain ?_ | refine i_eB ?_ | refine i_eUn ?_ | refine i_eTup ?_ | refine i_eLst ?_ | refine i_eLstM ?_ | refine i_eAnd ?_ | refine i_eOr ?_ | refine i_eNot ?_ | refine i_eIf ?_ | refine i_bOf ?_ | refine i_bAnd ?_ | refine i_bOr ?_ | refine i_bNot ?_ | refine i_bYes ?_ | refine i_aNil ?_ | refine i_aCons ?_ | refine i_eCall ?_ | refine i_eCallKw ?_ | refine i_eCut ?_ | refine i_oNone ?_ | refine i_oSome ?_ | refine i_eM ?_ | refine i_sSq ?_ | refine i_sRange1 ?_ | refine i_sRange2 ?_ | refine i_sEnum ?_ | refine i_eIsi ?_ | refine i_eIsi2 ?_ | refine i_eLc ?_ | refine i_eLcM ?_ | refine i_sFor ?_ | refine i_eDisp1 ?_ | refine i_bl ?_ | refine i_int ?_ | refine i_nm ?_ | refine i_one ?_ | refine i_two ?_ | refine i_rng ?_ | refine i_len0 ?_ | refine i_int1 ?_ | refine i_intb ?_ | refine i_abs ?_ | refine i_add ?_ | refine i_sub ?_ | refine i_lt ?_ | refine i_le ?_ | refine i_gt ?_ | refine i_ge ?_ | refine i_eqi ?_ | refine i_is ?_ | refine i_isn ?_ | refine i_nes ?_ | refine i_rbl ?_) | ((with_reducible refine i_eVarX ?_); refine ⟨_, rfl, ?_⟩) | ((with_reducible refine i_len1 ?_ ?_); · exact Nat.le_of_ble_eq_true rfl))
    refine ite_by (fun h2 => ?_) (fun h2 => ?_)
    · repeat (first | (with_reducible first | refine i_sIf ?_ | refine i_sNil ?_ | refine i_sRet ?_ | refine i_sAsg ?_ | refine i_sDrop ?_ | refine i_sPut ?_ | refine i_sPar ?_ | refine i_eC ?_ | refine i_eOp ?_ | refine i_eChain ?_ | refine i_eB ?_ | refine i_eUn ?_ | refine i_eTup ?_ | refine i_eLst ?_ | refine i_eLstM ?_ | refine i_eAnd ?_ | refine i_eOr ?_ | refine i_eNot ?_ | refine i_eIf ?_ | refine i_bOf ?_ | refine i_bAnd ?_ | refine i_bOr ?_ | refine i_bNot ?_ | refine i_bYes ?_ | refine i_aNil ?_ | refine i_aCons ?_ | refine i_eCall ?_ | refine i_eCallKw ?_ | refine i_eCut ?_ | refine i_oNone ?_ | refine i_oSome ?_ | refine i_eM ?_ | refine i_sSq ?_ | refine i_sRange1 ?_ | refine i_sRange2 ?_ | refine i_sEnum ?_ | refine i_eIsi ?_ | refine i_eIsi2 ?_ | refine i_eLc ?_ | refine i_eLcM ?_ | refine i_sFor ?_ | refine i_eDisp1 ?_ | refine i_bl ?_ | refine i_int ?_ | refine i_nm ?_ | refine i_one ?_ | refine i_two ?_ | refine i_rng ?_ | refine i_len0 ?_ | refine i_int1 ?_ | refine i_intb ?_ | refine i_abs ?_ | refine i_add ?_ | refine i_sub ?_ | refine i_lt ?_ | refine i_le ?_ | refine i_gt ?_ | refine i_ge ?_ | refine i_eqi ?_ | refine i_is ?_ | refine i_isn ?_ | refine i_nes ?_ | refine i_rbl ?_) | ((with_reducible refine i_eVarX ?_); refine ⟨_, rfl, ?_⟩) | ((with_reducible refine i_len1 ?_ ?_); · exact Nat.le_of_ble_eq_true rfl))
      refine ⟨ys, by rw [drf_ty ht]; exact hy, lc_map (fun d => .bl (isNum d)) rfl hl (fun y hm => ?_) ?_⟩
      · obtain ⟨ty, hty⟩ := hit y hm
        refine ⟨_, rfl, fun Q' q' => ?_⟩
        repeat (first | (with_reducible first | refine i_sIf ?_ | refine i_sNil ?_ | refine i_sRet ?_ | refine i_sAsg ?_ | refine i_sDrop ?_ | refine i_sPut ?_ | refine i_sPar ?_ | refine i_eC ?_ | refine i_eOp ?_ | refine i_eChain ?_ | refine i_eB ?_ | refine i_eUn ?_ | refine i_eTup ?_ | refine i_eLst ?_ | refine i_eLstM ?_ | refine i_eAnd ?_ | refine i_eOr ?_ | refine i_eNot ?_ | refine i_eIf ?_ | refine i_bOf ?_ | refine i_bAnd ?_ | refine i_bOr ?_ | refine i_bNot ?_ | refine i_bYes ?_ | refine i_aNil ?_ | refine i_aCons ?_ | refine i_eCall ?_ | refine i_eCallKw ?_ | refine i_eCut ?_ | refine i_oNone ?_ | refine i_oSome ?_ | refine i_eM ?_ | refine i_sSq ?_ | refine i_sRange1 ?_ | refine i_sRange2 ?_ | refine i_sEnum ?_ | refine i_eIsi ?_ | refine i_eIsi2 ?_ | refine i_eLc ?_ | refine i_eLcM ?_ | refine i_sFor ?_ | refine i_eDisp1 ?_ | refine i_bl ?_ | refine i_int ?_ | refine i_nm ?_ | refine i_one ?_ | refine i_two ?_ | refine i_rng ?_ | refine i_len0 ?_ | refine i_int1 ?_ | refine i_intb ?_ | refine i_abs ?_ | refine i_add ?_ | refine i_sub ?_ | refine i_lt ?_ | refine i_le ?_ | refine i_gt ?_ | refine i_ge ?_ | refine i_eqi ?_ | refine i_is ?_ | refine i_isn ?_ | refine i_nes ?_ | refine i_rbl ?_) | ((with_reducible refine i_eVarX ?_); refine ⟨_, rfl, ?_⟩) | ((with_reducible refine i_len1 ?_ ?_); · exact Nat.le_of_ble_eq_true rfl))
        exact ⟨y, ty, rfl, hty, q'⟩
      · repeat (first | (with_reducible first | refine i_sIf ?_ | refine i_sNil ?_ | refine i_sRet ?_ | refine i_sAsg ?_ | refine i_sDrop ?_ | refine i_sPut ?_ | refine i_sPar ?_ | refine i_eC ?_ | refine i_eOp ?_ | refine i_eChain ?_ | refine i_eB ?_ | refine i_eUn ?_ | refine i_eTup ?_ | refine i_eLst ?_ | refine i_eLstM ?_ | refine i_eAnd ?_ | refine i_eOr ?_ | refine i_eNot ?_ | refine i_eIf ?_ | refine i_bOf ?_ | refine i_bAnd ?_ | refine i_bOr ?_ | refine i_bNot ?_ | refine i_bYes ?_ | refine i_aNil ?_ | refine i_aCons ?_ | refine i_eCall ?_ | refine i_eCallKw ?_ | refine i_eCut ?_ | refine i_oNone ?_ | refine i_oSome ?_ | refine i_eM ?_ | refine i_sSq ?_ | refine i_sRange1 ?_ | refine i_sRange2 ?_ | refine i_sEnum ?_ | refine i_eIsi ?_ | refine i_eIsi2 ?_ | refine i_eLc ?_ | refine i_eLcM ?_ | refine i_sFor ?_ | refine i_eDisp1 ?_ | refine i_bl ?_ | refine i_int ?_ | refine i_nm ?_ | refine i_one ?_ | refine i_two ?_ | refine i_rng ?_ | refine i_len0 ?_ | refine i_int1 ?_ | refine i_intb ?_ | refine i_abs ?_ | refine i_add ?_ | refine i_sub ?_ | refine i_lt ?_ | refine i_le ?_ | refine i_gt ?_ | refine i_ge ?_ | refine i_eqi ?_ | refine i_is ?_ | refine i_isn ?_ | refine i_nes ?_ | refine i_rbl ?_) | ((with_reducible refine i_eVarX ?_); refine ⟨_, rfl, ?_⟩) | ((with_reducible refine i_len1 ?_ ?_); · exact Nat.le_of_ble_eq_true rfl))
        have h2' : ys.length = 2 := by
          have : (ys.length : Int) = 2 := by simpa using h2
          omega
        refine ⟨ys.map isNum, by rw [List.map_map]; rfl, ?_⟩
        unfold isSq at q
        rw [hy] at q
        match ys, h2' with
        | [x, y], _ => simpa using q
    · have h2' : ys.length ≠ 2 := fun e => by
        rw [e] at h2
        cases h2
      rw [isSq_no hy h2'] at q
      exact q
  · have e : isSq d = false := by
      unfold isSq
      rw [seq_no hs]
    rw [e] at q
    exact q
theorem run_law_is_pair (xs : List D) (S : Store) (Q : QD) (h : r_law_is_pair xs S Q) : runD 1 b_law_is_pair xs S Q := by
  obtain ⟨d, rfl, ⟨⟨t, ht⟩, _, hf⟩, q⟩ := h
  refine i_runD ?_
  unfold b_law_is_pair
  repeat (first | (with_reducible first | refine i_sIf ?_ | refine i_sNil ?_ | refine i_sRet ?_ | refine i_sAsg ?_ | refine i_sDrop ?_ | refine i_sPut ?_ | refine i_sPar ?_ | refine i_eC ?_ | refine i_eOp ?_ | refine i_eChain ?_ | refine i_eB ?_ | refine i_eUn ?_ | refine i_eTup ?_ | refine i_eLst ?_ | refine i_eLstM ?_ | refine i_eAnd ?_ | refine i_eOr ?_ | refine i_eNot ?_ | refine i_eIf ?_ | refine i_bOf ?_ | refine i_bAnd ?_ | refine i_bOr ?_ | refine i_bNot ?_ | refine i_bYes ?_ | refine i_aNil ?_ | refine i_aCons ?_ | refine i_eCall ?_ | refine i_eCallKw ?_ | refine i_eCut ?_ | refine i_oNone ?_ | refine i_oSome ?_ | refine i_eM ?_ | refine i_sSq ?_ | refine i_sRange1 ?_ | refine i_sRange2 ?_ | refine i_sEnum ?_ | refine i_eIsi ?_ | refine i_eIsi2 ?_ | refine i_eLc ?_ | refine i_eLcM ?_ | refine i_sFor ?_ | refine i_eDisp1 ?_ | refine i_bl ?_ | refine i_int ?_ | refine i_nm ?_ | refine i_one ?_ | refine i_two ?_ | refine i_rng ?_ | refine i_len0 ?_ | refine i_int1 ?_ | refine i_intb ?_ | refine i_abs ?_ | refine i_add ?_ | refine i_sub ?_ | refine i_lt ?_ | refine i_le ?_ | refine i_gt ?_ | refine i_ge ?_ | refine i_eqi ?_ | refine i_is ?_ | refine i_isn ?_ | refine i_nes ?_ | refine i_rbl ?_) | ((with_reducible refine i_eVarX ?_); refine ⟨_, rfl, ?_⟩) | ((with_reducible refine i_len1 ?_ ?_); · exact Nat.le_of_ble_eq_true rfl))
  rw [drf_ty ht]
  refine ⟨_, _, isi_list ht, isi_tuple ht, ?_⟩
  repeat (first | (with_reducible first | refine i_sIf ?_ | refine i_sNil ?_ | refine i_sRet ?_ | refine i_sAsg ?_ | refine i_sDrop ?_ | refine i_sPut ?_ | refine i_sPar ?_ | refine i_eC ?_ | refine i_eOp ?_ | refine i_eChain ?_ | refine i_eB ?_ | refine i_eUn ?_ | refine i_eTup ?_ | refine i_eLst ?_ | refine i_eLstM ?_ | refine i_eAnd ?_ | refine i_eOr ?_ | refine i_eNot ?_ | refine i_eIf ?_ | refine i_bOf ?_ | refine i_bAnd ?_ | refine i_bOr ?_ | refine i_bNot ?_ | refine i_bYes ?_ | refine i_aNil ?_ | refine i_aCons ?_ | refine i_eCall ?_ | refine i_eCallKw ?_ | refine i_eCut ?_ | refine i_oNone ?_ | refine i_oSome ?_ | refine i_eM ?_ | refine i_sSq ?_ | refine i_sRange1 ?_ | refine i_sRange2 ?_ | refine i_sEnum ?_ | refine i_eIsi ?_ | refine i_eIsi2 ?_ | refine i_eLc ?_ | refine i_eLcM ?_ | refine i_sFor ?_ | refine i_eDisp1 ?_ | refine i_bl ?_ | refine i_int ?_ | refine i_nm ?_ | refine i_one ?_ | refine i_two ?_ | refine i_rng ?_ | refine i_len0 ?_ | refine i_int1 ?_ | refine i_intb ?_ | refine i_abs ?_ | refine i_add ?_ | refine i_sub ?_ | refine i_lt ?_ | refine i_le ?_ | refine i_gt ?_ | refine i_ge ?_ | refine i_eqi ?_ | refine i_is ?_ | refine i_isn ?_ | refine i_nes ?_ | refine i_rbl ?_) | ((with_reducible refine i_eVarX ?_); refine ⟨_, rfl, ?_⟩) | ((with_reducible refine i_len1 ?_ ?_); · exact Nat.le_of_ble_eq_true rfl))
  refine ite_by (fun hs => ?_) (fun hs => ?_)
  · obtain ⟨ys, hy⟩ := seq_lt hs
    obtain ⟨hl, hit⟩ := hf ys hy
    have hy' : seqOf (drf S d) = some ys := by rw [drf_ty ht]; exact hy
    repeat (first | (with_reducible first | refine i_sIf ?_ | refine i_sNil ?_ | refine i_sRet ?_ | refine i_sAsg ?_ | refine i_sDrop ?_ | refine i_sPut ?_ | refine i_sPar ?_ | refine i_eC ?_ | refine i_eOp ?_ | refine i_eChain ?_ | refine i_eB ?_ | refine i_eUn ?_ | refine i_eTup ?_ | refine i_eLst ?_ | refine i_eLstM ?_ | refine i_eAnd ?_ | refine i_eOr ?_ | refine i_eNot ?_ | refine i_eIf ?_ | refine i_bOf ?_ | refine i_bAnd ?_ | refine i_bOr ?_ | refine i_bNot ?_ | refine i_bYes ?_ | refine i_aNil ?_ | refine i_aCons ?_ | refine i_eCall ?_ | refine i_eCallKw ?_ | refine i_eCut ?_ | refine i_oNone ?_ | refine i_oSome ?_ | refine i_eM ?_ | refine i_sSq ?_ | refine i_sRange1 ?_ | refine i_sRange2 ?_ | refine i_sEnum ?_ | refine i_eIsi ?_ | refine i_eIsi2 ?_ | refine i_eLc ?_ | refine i_eLcM ?_ | refine i_sFor ?_ | refine i_eDisp1 ?_ | refine i_bl ?_ | refine i_int ?_ | refine i_nm ?_ | refine i_one ?_ | refine i_two ?_ | refine i_rng ?_ | refine i_len0 ?_ | refine i_int1 ?_ | refine i_intb ?_ | refine i_abs ?_ | refine i_add ?_ | refine i_sub ?_ | refine i_lt ?_ | refine i_le ?_ | refine i_gt ?_ | refine i_ge ?_ | refine i_eqi ?_ | refine i_is ?_ | refine i_isn ?_ | refine i_nes ?_ | refine i_rbl ?_) | ((with_reducible refine i_eVarX ?_); refine ⟨_, rfl, ?_⟩) | ((with_reducible refine i_len1 ?_ ?_); · exact Nat.le_of_ble_eq_true rfl))
    refine len_seq hy' ?_
    repeat (first | (with_reducible first | refine i_sIf ?_ | refine i_sNil ?_ | refine i_sRet ?_ | refine i_sAsg ?_ | refine i_sDrop ?_ | refine i_sPut ?_ | refine i_sPar ?_ | refine i_eC ?_ | refine i_eOp ?_ | refine i_eChain ?_ | refine i_eB ?_ | refine i_eUn ?_ | refine i_eTup ?_ | refine i_eLst ?_ | refine i_eLstM ?_ | refine i_eAnd ?_ | refine i_eOr ?_ | refine i_eNot ?_ | refine i_eIf ?_ | refine i_bOf ?_ | refine i_bAnd ?_ | refine i_bOr ?_ | refine i_bNot ?_ | refine i_bYes ?_ | refine i_aNil ?_ | refine i_aCons ?_ | refine i_eCall ?_ | refine i_eCallKw ?_ | refine i_eCut ?_ | refine i_oNone ?_ | refine i_oSome ?_ | refine i_eM ?_ | refine i_sSq ?_ | refine i_sRange1 ?_ | refine i_sRange2 ?_ | refine i_sEnum ?_ | refine i_eIsi ?_ | refine i_eIsi2 ?_ | refine i_eLc ?_ | refine i_eLcM ?_ | refine i_sFor ?_ | refine i_eDisp1 ?_ | refine i_bl ?_ | refine i_int ?_ | refine i_nm ?_ | refine i_one ?_ | refine i_two ?_ | refine i_rng ?_ | refine i_len0 ?_ | refine i_int1 ?_ | refine i_intb ?_ | refine i_abs ?_ | refine i_add ?_ | refine i_sub ?_ | refine i_lt ?_ | refine i_le ?_ | refine i_gt ?_ | refine i_ge ?_ | refine i_eqi ?_ | refine i_is ?_ | refine i_isn ?_ | refine i_nes ?_ | refine i_rbl ?_) | ((with_reducible refine i_eVarX ?_); refine ⟨_, rfl, ?_⟩) | ((with_reducible refine i_len1 ?_ ?_); · exact Nat.le_of_ble_eq_true rfl))
    refine ite_by (fun h2 => ?_) (fun h2 => ?_)
    · have h2' : ys.length = 2 := by
          have : (ys.length : Int) = 2 := by simpa using h2
          omega
      match ys, h2', hit, hy', hy with
      | [x, y], _, hit, hy', hy =>
        obtain ⟨tx, htx⟩ := hit x (by simp)
        obtain ⟨ty, hty⟩ := hit y (by simp)
        have e : isSq d = (isNum x && isNum y) := by
          unfold isSq
          rw [hy]
        rw [e] at q
        repeat (first | (with_reducible first | refine i_sIf ?_ | refine i_sNil ?_ | refine i_sRet ?_ | refine i_sAsg ?_ | refine i_sDrop ?_ | refine i_sPut ?_ | refine i_sPar ?_ | refine i_eC ?_ | refine i_eOp ?_ | refine i_eChain ?_ | refine i_eB ?_ | refine i_eUn ?_ | refine i_eTup ?_ | refine i_eLst ?_ | refine i_eLstM ?_ | refine i_eAnd ?_ | refine i_eOr ?_ | refine i_eNot ?_ | refine i_eIf ?_ | refine i_bOf ?_ | refine i_bAnd ?_ | refine i_bOr ?_ | refine i_bNot ?_ | refine i_bYes ?_ | refine i_aNil ?_ | refine i_aCons ?_ | refine i_eCall ?_ | refine i_eCallKw ?_ | refine i_eCut ?_ | refine i_oNone ?_ | refine i_oSome ?_ | refine i_eM ?_ | refine i_sSq ?_ | refine i_sRange1 ?_ | refine i_sRange2 ?_ | refine i_sEnum ?_ | refine i_eIsi ?_ | refine i_eIsi2 ?_ | refine i_eLc ?_ | refine i_eLcM ?_ | refine i_sFor ?_ | refine i_eDisp1 ?_ | refine i_bl ?_ | refine i_int ?_ | refine i_nm ?_ | refine i_one ?_ | refine i_two ?_ | refine i_rng ?_ | refine i_len0 ?_ | refine i_int1 ?_ | refine i_intb ?_ | refine i_abs ?_ | refine i_add ?_ | refine i_sub ?_ | refine i_lt ?_ | refine i_le ?_ | refine i_gt ?_ | refine i_ge ?_ | refine i_eqi ?_ | refine i_is ?_ | refine i_isn ?_ | refine i_nes ?_ | refine i_rbl ?_) | ((with_reducible refine i_eVarX ?_); refine ⟨_, rfl, ?_⟩) | ((with_reducible refine i_len1 ?_ ?_); · exact Nat.le_of_ble_eq_true rfl))
        refine ix_of (i := 0) hy' rfl ?_
        repeat (first | (with_reducible first | refine i_sIf ?_ | refine i_sNil ?_ | refine i_sRet ?_ | refine i_sAsg ?_ | refine i_sDrop ?_ | refine i_sPut ?_ | refine i_sPar ?_ | refine i_eC ?_ | refine i_eOp ?_ | refine i_eChain ?_ | refine i_eB ?_ | refine i_eUn ?_ | refine i_eTup ?_ | refine i_eLst ?_ | refine i_eLstM ?_ | refine i_eAnd ?_ | refine i_eOr ?_ | refine i_eNot ?_ | refine i_eIf ?_ | refine i_bOf ?_ | refine i_bAnd ?_ | refine i_bOr ?_ | refine i_bNot ?_ | refine i_bYes ?_ | refine i_aNil ?_ | refine i_aCons ?_ | refine i_eCall ?_ | refine i_eCallKw ?_ | refine i_eCut ?_ | refine i_oNone ?_ | refine i_oSome ?_ | refine i_eM ?_ | refine i_sSq ?_ | refine i_sRange1 ?_ | refine i_sRange2 ?_ | refine i_sEnum ?_ | refine i_eIsi ?_ | refine i_eIsi2 ?_ | refine i_eLc ?_ | refine i_eLcM ?_ | refine i_sFor ?_ | refine i_eDisp1 ?_ | refine i_bl ?_ | refine i_int ?_ | refine i_nm ?_ | refine i_one ?_ | refine i_two ?_ | refine i_rng ?_ | refine i_len0 ?_ | refine i_int1 ?_ | refine i_intb ?_ | refine i_abs ?_ | refine i_add ?_ | refine i_sub ?_ | refine i_lt ?_ | refine i_le ?_ | refine i_gt ?_ | refine i_ge ?_ | refine i_eqi ?_ | refine i_is ?_ | refine i_isn ?_ | refine i_nes ?_ | refine i_rbl ?_) | ((with_reducible refine i_eVarX ?_); refine ⟨_, rfl, ?_⟩) | ((with_reducible refine i_len1 ?_ ?_); · exact Nat.le_of_ble_eq_true rfl))
        refine ⟨x, tx, rfl, htx, ?_⟩
        repeat (first | (with_reducible first | refine i_sIf ?_ | refine i_sNil ?_ | refine i_sRet ?_ | refine i_sAsg ?_ | refine i_sDrop ?_ | refine i_sPut ?_ | refine i_sPar ?_ | refine i_eC ?_ | refine i_eOp ?_ | refine i_eChain ?_ | refine i_eB ?_ | refine i_eUn ?_ | refine i_eTup ?_ | refine i_eLst ?_ | refine i_eLstM ?_ | refine i_eAnd ?_ | refine i_eOr ?_ | refine i_eNot ?_ | refine i_eIf ?_ | refine i_bOf ?_ | refine i_bAnd ?_ | refine i_bOr ?_ | refine i_bNot ?_ | refine i_bYes ?_ | refine i_aNil ?_ | refine i_aCons ?_ | refine i_eCall ?_ | refine i_eCallKw ?_ | refine i_eCut ?_ | refine i_oNone ?_ | refine i_oSome ?_ | refine i_eM ?_ | refine i_sSq ?_ | refine i_sRange1 ?_ | refine i_sRange2 ?_ | refine i_sEnum ?_ | refine i_eIsi ?_ | refine i_eIsi2 ?_ | refine i_eLc ?_ | refine i_eLcM ?_ | refine i_sFor ?_ | refine i_eDisp1 ?_ | refine i_bl ?_ | refine i_int ?_ | refine i_nm ?_ | refine i_one ?_ | refine i_two ?_ | refine i_rng ?_ | refine i_len0 ?_ | refine i_int1 ?_ | refine i_intb ?_ | refine i_abs ?_ | refine i_add ?_ | refine i_sub ?_ | refine i_lt ?_ | refine i_le ?_ | refine i_gt ?_ | refine i_ge ?_ | refine i_eqi ?_ | refine i_is ?_ | refine i_isn ?_ | refine i_nes ?_ | refine i_rbl ?_) | ((with_reducible refine i_eVarX ?_); refine ⟨_, rfl, ?_⟩) | ((with_reducible refine i_len1 ?_ ?_); · exact Nat.le_of_ble_eq_true rfl))
        refine ite_by (fun hx => ?_) (fun hx => ?_)
        · rw [hx] at q
          repeat (first | (with_reducible first | refine i_sIf ?_ | refine i_sNil ?_ | refine i_sRet ?_ | refine i_sAsg ?_ | refine i_sDrop ?_ | refine i_sPut ?_ | refine i_sPar ?_ | refine i_eC ?_ | refine i_eOp ?_ | refine i_eChain ?_ | refine i_eB ?_ | refine i_eUn ?_ | refine i_eTup ?_ | refine i_eLst ?_ | refine i_eLstM ?_ | refine i_eAnd ?_ | refine i_eOr ?_ | refine i_eNot ?_ | refine i_eIf ?_ | refine i_bOf ?_ | refine i_bAnd ?_ | refine i_bOr ?_ | refine i_bNot ?_ | refine i_bYes ?_ | refine i_aNil ?_ | refine i_aCons ?_ | refine i_eCall ?_ | refine i_eCallKw ?_ | refine i_eCut ?_ | refine i_oNone ?_ | refine i_oSome ?_ | refine i_eM ?_ | refine i_sSq ?_ | refine i_sRange1 ?_ | refine i_sRange2 ?_ | refine i_sEnum ?_ | refine i_eIsi ?_ | refine i_eIsi2 ?_ | refine i_eLc ?_ | refine i_eLcM ?_ | refine i_sFor ?_ | refine i_eDisp1 ?_ | refine i_bl ?_ | refine i_int ?_ | refine i_nm ?_ | refine i_one ?_ | refine i_two ?_ | refine i_rng ?_ | refine i_len0 ?_ | refine i_int1 ?_ | refine i_intb ?_ | refine i_abs ?_ | refine i_add ?_ | refine i_sub ?_ | refine i_lt ?_ | refine i_le ?_ | refine i_gt ?_ | refine i_ge ?_ | refine i_eqi ?_ | refine i_is ?_ | refine i_isn ?_ | refine i_nes ?_ | refine i_rbl ?_) | ((with_reducible refine i_eVarX ?_); refine ⟨_, rfl, ?_⟩) | ((with_reducible refine i_len1 ?_ ?_); · exact Nat.le_of_ble_eq_true rfl))
          refine ix_of (i := 1) hy' rfl ?_
          repeat (first | (with_reducible first | refine i_sIf ?_ | refine i_sNil ?_ | refine i_sRet ?_ | refine i_sAsg ?_ | refine i_sDrop ?_ | refine i_sPut ?_ | refine i_sPar ?_ | refine i_eC ?_ | refine i_eOp ?_ | refine i_eChain ?_ | refine i_eB ?_ | refine i_eUn ?_ | refine i_eTup ?_ | refine i_eLst ?_ | refine i_eLstM ?_ | refine i_eAnd ?_ | refine i_eOr ?_ | refine i_eNot ?_ | refine i_eIf ?_ | refine i_bOf ?_ | refine i_bAnd ?_ | refine i_bOr ?_ | refine i_bNot ?_ | refine i_bYes ?_ | refine i_aNil ?_ | refine i_aCons ?_ | refine i_eCall ?_ | refine i_eCallKw ?_ | refine i_eCut ?_ | refine i_oNone ?_ | refine i_oSome ?_ | refine i_eM ?_ | refine i_sSq ?_ | refine i_sRange1 ?_ | refine i_sRange2 ?_ | refine i_sEnum ?_ | refine i_eIsi ?_ | refine i_eIsi2 ?_ | refine i_eLc ?_ | refine i_eLcM ?_ | refine i_sFor ?_ | refine i_eDisp1 ?_ | refine i_bl ?_ | refine i_int ?_ | refine i_nm ?_ | refine i_one ?_ | refine i_two ?_ | refine i_rng ?_ | refine i_len0 ?_ | refine i_int1 ?_ | refine i_intb ?_ | refine i_abs ?_ | refine i_add ?_ | refine i_sub ?_ | refine i_lt ?_ | refine i_le ?_ | refine i_gt ?_ | refine i_ge ?_ | refine i_eqi ?_ | refine i_is ?_ | refine i_isn ?_ | refine i_nes ?_ | refine i_rbl ?_) | ((with_reducible refine i_eVarX ?_); refine ⟨_, rfl, ?_⟩) | ((with_reducible refine i_len1 ?_ ?_); · exact Nat.le_of_ble_eq_true rfl))
          exact ⟨y, ty, rfl, hty, q⟩
        · rw [hx] at q
          exact q
    · have h2' : ys.length ≠ 2 := fun e => by
        rw [e] at h2
        cases h2
      rw [isSq_no hy h2'] at q
      exact q
  · have e : isSq d = false := by
      unfold isSq
      rw [seq_no hs]
    rw [e] at q
    exact q


theorem sq_pair {d : D} (h : isSq d = true) : ∃ a b, seqOf d = some [.int a, .int b] ∧ pairOf d = [a, b] := by
  unfold isSq at h
  split at h
  · rename_i x y e
    cases x with
    | int a =>
      cases y with
      | int b => exact ⟨a, b, e, by unfold pairOf; rw [e]⟩
      | _ => cases h
    | _ => cases h
  · cases h
theorem items_seq {d : D} {ys : List D} (h : seqOf d = some ys) (hr : ∀ zs, d ≠ .ro zs) : itemsD d = some ys := by
  cases d with
  | lst xs => exact h
  | tup xs => exact h
  | ro xs => exact (hr xs rfl).elim
  | _ => cases h
theorem run_are_squares (xs : List D) (S : Store) (Q : QD) (h : r_are_squares xs S Q) : runD 2 b_are_squares xs S Q := by
  obtain ⟨d, e, t, rfl, hde, ht, hf, q⟩ := h
  refine i_runD ?_
  unfold b_are_squares
  refine cut (fun ρ' S' => ∃ ys, seqOf e = some ys ∧ ys.all isSq = true ∧ S' = S ∧ ρ' = startD 2 [d]) (fun N' hrt hnx => ?_) (fun ρ' S' hP => ?_)
  · repeat (first | (with_reducible first | refine i_sIf ?_ | refine i_sNil ?_ | refine i_sRet ?_ | refine i_sAsg ?_ | refine i_sDrop ?_ | refine i_sPut ?_ | refine i_sPar ?_ | refine i_eC ?_ | refine i_eOp ?_ | refine i_eChain ?_ | refine i_eB ?_ | refine i_eUn ?_ | refine i_eTup ?_ | refine i_eLst ?_ | refine i_eLstM ?_ | refine i_eAnd ?_ | refine i_eOr ?_ | refine i_eNot ?_ | refine i_eIf ?_ | refine i_bOf ?_ | refine i_bAnd ?_ | refine i_bOr ?_ | refine i_bNot ?_ | refine i_bYes ?_ | refine i_aNil ?_ | refine i_aCons ?_ | refine i_eCall ?_ | refine i_eCallKw ?_ | refine i_eCut ?_ | refine i_oNone ?_ | refine i_oSome ?_ | refine i_eM ?_ | refine i_sSq ?_ | refine i_sRange1 ?_ | refine i_sRange2 ?_ | refine i_sEnum ?_ | refine i_eIsi ?_ | refine i_eIsi2 ?_ | refine i_eLc ?_ | refine i_eLcM ?_ | refine i_sFor ?_ | refine i_eDisp1 ?_ | refine i_bl ?_ | refine i_int ?_ | refine i_nm ?_ | refine i_one ?_ | refine i_two ?_ | refine i_rng ?_ | refine i_len0 ?_ | refine i_int1 ?_ | refine i_intb ?_ | refine i_abs ?_ | refine i_add ?_ | refine i_sub ?_ | refine i_lt ?_ | refine i_le ?_ | refine i_gt ?_ | refine i_ge ?_ | refine i_eqi ?_ | refine i_is ?_ | refine i_isn ?_ | refine i_nes ?_ | refine i_rbl ?_) | ((with_reducible refine i_eVarX ?_); refine ⟨_, rfl, ?_⟩) | ((with_reducible refine i_len1 ?_ ?_); · exact Nat.le_of_ble_eq_true rfl))
    rw [hde]
    refine ⟨_, _, isi_list ht, isi_tuple ht, ?_⟩
    repeat (first | (with_reducible first | refine i_sIf ?_ | refine i_sNil ?_ | refine i_sRet ?_ | refine i_sAsg ?_ | refine i_sDrop ?_ | refine i_sPut ?_ | refine i_sPar ?_ | refine i_eC ?_ | refine i_eOp ?_ | refine i_eChain ?_ | refine i_eB ?_ | refine i_eUn ?_ | refine i_eTup ?_ | refine i_eLst ?_ | refine i_eLstM ?_ | refine i_eAnd ?_ | refine i_eOr ?_ | refine i_eNot ?_ | refine i_eIf ?_ | refine i_bOf ?_ | refine i_bAnd ?_ | refine i_bOr ?_ | refine i_bNot ?_ | refine i_bYes ?_ | refine i_aNil ?_ | refine i_aCons ?_ | refine i_eCall ?_ | refine i_eCallKw ?_ | refine i_eCut ?_ | refine i_oNone ?_ | refine i_oSome ?_ | refine i_eM ?_ | refine i_sSq ?_ | refine i_sRange1 ?_ | refine i_sRange2 ?_ | refine i_sEnum ?_ | refine i_eIsi ?_ | refine i_eIsi2 ?_ | refine i_eLc ?_ | refine i_eLcM ?_ | refine i_sFor ?_ | refine i_eDisp1 ?_ | refine i_bl ?_ | refine i_int ?_ | refine i_nm ?_ | refine i_one ?_ | refine i_two ?_ | refine i_rng ?_ | refine i_len0 ?_ | refine i_int1 ?_ | refine i_intb ?_ | refine i_abs ?_ | refine i_add ?_ | refine i_sub ?_ | refine i_lt ?_ | refine i_le ?_ | refine i_gt ?_ | refine i_ge ?_ | refine i_eqi ?_ | refine i_is ?_ | refine i_isn ?_ | refine i_nes ?_ | refine i_rbl ?_) | ((with_reducible refine i_eVarX ?_); refine ⟨_, rfl, ?_⟩) | ((with_reducible refine i_len1 ?_ ?_); · exact Nat.le_of_ble_eq_true rfl))
    cases hs : (isLst e || isTup e) with
    | false =>
      refine iteT (iteT ?_)
      repeat (first | (with_reducible first | refine i_sIf ?_ | refine i_sNil ?_ | refine i_sRet ?_ | refine i_sAsg ?_ | refine i_sDrop ?_ | refine i_sPut ?_ | refine i_sPar ?_ | refine i_eC ?_ | refine i_eOp ?_ | refine i_eChain ?_ | refine i_eB ?_ | refine i_eUn ?_ | refine i_eTup ?_ | refine i_eLst ?_ | refine i_eLstM ?_ | refine i_eAnd ?_ | refine i_eOr ?_ | refine i_eNot ?_ | refine i_eIf ?_ | refine i_bOf ?_ | refine i_bAnd ?_ | refine i_bOr ?_ | refine i_bNot ?_ | refine i_bYes ?_ | refine i_aNil ?_ | refine i_aCons ?_ | refine i_eCall ?_ | refine i_eCallKw ?_ | refine i_eCut ?_ | refine i_oNone ?_ | refine i_oSome ?_ | refine i_eM ?_ | refine i_sSq ?_ | refine i_sRange1 ?_ | refine i_sRange2 ?_ | refine i_sEnum ?_ | refine i_eIsi ?_ | refine i_eIsi2 ?_ | refine i_eLc ?_ | refine i_eLcM ?_ | refine i_sFor ?_ | refine i_eDisp1 ?_ | refine i_bl ?_ | refine i_int ?_ | refine i_nm ?_ | refine i_one ?_ | refine i_two ?_ | refine i_rng ?_ | refine i_len0 ?_ | refine i_int1 ?_ | refine i_intb ?_ | refine i_abs ?_ | refine i_add ?_ | refine i_sub ?_ | refine i_lt ?_ | refine i_le ?_ | refine i_gt ?_ | refine i_ge ?_ | refine i_eqi ?_ | refine i_is ?_ | refine i_isn ?_ | refine i_nes ?_ | refine i_rbl ?_) | ((with_reducible refine i_eVarX ?_); refine ⟨_, rfl, ?_⟩) | ((with_reducible refine i_len1 ?_ ?_); · exact Nat.le_of_ble_eq_true rfl))
      rw [hrt]
      have e' : areSq e = false := by
        unfold areSq
        rw [seq_no hs]
      rw [e'] at q
      exact q
    | true =>
      obtain ⟨ys, hy⟩ := seq_lt hs
      obtain ⟨hl, hit⟩ := hf ys hy
      refine iteF ?_
      repeat (first | (with_reducible first | refine i_sIf ?_ | refine i_sNil ?_ | refine i_sRet ?_ | refine i_sAsg ?_ | refine i_sDrop ?_ | refine i_sPut ?_ | refine i_sPar ?_ | refine i_eC ?_ | refine i_eOp ?_ | refine i_eChain ?_ | refine i_eB ?_ | refine i_eUn ?_ | refine i_eTup ?_ | refine i_eLst ?_ | refine i_eLstM ?_ | refine i_eAnd ?_ | refine i_eOr ?_ | refine i_eNot ?_ | refine i_eIf ?_ | refine i_bOf ?_ | refine i_bAnd ?_ | refine i_bOr ?_ | refine i_bNot ?_ | refine i_bYes ?_ | refine i_aNil ?_ | refine i_aCons ?_ | refine i_eCall ?_ | refine i_eCallKw ?_ | refine i_eCut ?_ | refine i_oNone ?_ | refine i_oSome ?_ | refine i_eM ?_ | refine i_sSq ?_ | refine i_sRange1 ?_ | refine i_sRange2 ?_ | refine i_sEnum ?_ | refine i_eIsi ?_ | refine i_eIsi2 ?_ | refine i_eLc ?_ | refine i_eLcM ?_ | refine i_sFor ?_ | refine i_eDisp1 ?_ | refine i_bl ?_ | refine i_int ?_ | refine i_nm ?_ | refine i_one ?_ | refine i_two ?_ | refine i_rng ?_ | refine i_len0 ?_ | refine i_int1 ?_ | refine i_intb ?_ | refine i_abs ?_ | refine i_add ?_ | refine i_sub ?_ | refine i_lt ?_ | refine i_le ?_ | refine i_gt ?_ | refine i_ge ?_ | refine i_eqi ?_ | refine i_is ?_ | refine i_isn ?_ | refine i_nes ?_ | refine i_rbl ?_) | ((with_reducible refine i_eVarX ?_); refine ⟨_, rfl, ?_⟩) | ((with_reducible refine i_len1 ?_ ?_); · exact Nat.le_of_ble_eq_true rfl))
      refine ⟨ys, by rw [hde]; exact hy, lc_map (fun d => .bl (isSq d)) rfl (Nat.le_trans (Nat.le_of_lt hl) (by decide)) (fun y hm => ?_) ?_⟩
      · refine ⟨_, rfl, fun Q' q' => ?_⟩
        repeat (first | (with_reducible first | refine i_sIf ?_ | refine i_sNil ?_ | refine i_sRet ?_ | refine i_sAsg ?_ | refine i_sDrop ?_ | refine i_sPut ?_ | refine i_sPar ?_ | refine i_eC ?_ | refine i_eOp ?_ | refine i_eChain ?_ | refine i_eB ?_ | refine i_eUn ?_ | refine i_eTup ?_ | refine i_eLst ?_ | refine i_eLstM ?_ | refine i_eAnd ?_ | refine i_eOr ?_ | refine i_eNot ?_ | refine i_eIf ?_ | refine i_bOf ?_ | refine i_bAnd ?_ | refine i_bOr ?_ | refine i_bNot ?_ | refine i_bYes ?_ | refine i_aNil ?_ | refine i_aCons ?_ | refine i_eCall ?_ | refine i_eCallKw ?_ | refine i_eCut ?_ | refine i_oNone ?_ | refine i_oSome ?_ | refine i_eM ?_ | refine i_sSq ?_ | refine i_sRange1 ?_ | refine i_sRange2 ?_ | refine i_sEnum ?_ | refine i_eIsi ?_ | refine i_eIsi2 ?_ | refine i_eLc ?_ | refine i_eLcM ?_ | refine i_sFor ?_ | refine i_eDisp1 ?_ | refine i_bl ?_ | refine i_int ?_ | refine i_nm ?_ | refine i_one ?_ | refine i_two ?_ | refine i_rng ?_ | refine i_len0 ?_ | refine i_int1 ?_ | refine i_intb ?_ | refine i_abs ?_ | refine i_add ?_ | refine i_sub ?_ | refine i_lt ?_ | refine i_le ?_ | refine i_gt ?_ | refine i_ge ?_ | refine i_eqi ?_ | refine i_is ?_ | refine i_isn ?_ | refine i_nes ?_ | refine i_rbl ?_) | ((with_reducible refine i_eVarX ?_); refine ⟨_, rfl, ?_⟩) | ((with_reducible refine i_len1 ?_ ?_); · exact Nat.le_of_ble_eq_true rfl))
        exact ⟨y, rfl, hit y hm, q'⟩
      · repeat (first | (with_reducible first | refine i_sIf ?_ | refine i_sNil ?_ | refine i_sRet ?_ | refine i_sAsg ?_ | refine i_sDrop ?_ | refine i_sPut ?_ | refine i_sPar ?_ | refine i_eC ?_ | refine i_eOp ?_ | refine i_eChain ?_ | refine i_eB ?_ | refine i_eUn ?_ | refine i_eTup ?_ | refine i_eLst ?_ | refine i_eLstM ?_ | refine i_eAnd ?_ | refine i_eOr ?_ | refine i_eNot ?_ | refine i_eIf ?_ | refine i_bOf ?_ | refine i_bAnd ?_ | refine i_bOr ?_ | refine i_bNot ?_ | refine i_bYes ?_ | refine i_aNil ?_ | refine i_aCons ?_ | refine i_eCall ?_ | refine i_eCallKw ?_ | refine i_eCut ?_ | refine i_oNone ?_ | refine i_oSome ?_ | refine i_eM ?_ | refine i_sSq ?_ | refine i_sRange1 ?_ | refine i_sRange2 ?_ | refine i_sEnum ?_ | refine i_eIsi ?_ | refine i_eIsi2 ?_ | refine i_eLc ?_ | refine i_eLcM ?_ | refine i_sFor ?_ | refine i_eDisp1 ?_ | refine i_bl ?_ | refine i_int ?_ | refine i_nm ?_ | refine i_one ?_ | refine i_two ?_ | refine i_rng ?_ | refine i_len0 ?_ | refine i_int1 ?_ | refine i_intb ?_ | refine i_abs ?_ | refine i_add ?_ | refine i_sub ?_ | refine i_lt ?_ | refine i_le ?_ | refine i_gt ?_ | refine i_ge ?_ | refine i_eqi ?_ | refine i_is ?_ | refine i_isn ?_ | refine i_nes ?_ | refine i_rbl ?_) | ((with_reducible refine i_eVarX ?_); refine ⟨_, rfl, ?_⟩) | ((with_reducible refine i_len1 ?_ ?_); · exact Nat.le_of_ble_eq_true rfl))
        refine ⟨ys.map isSq, by rw [List.map_map]; rfl, ?_⟩
        repeat (first | (with_reducible first | refine i_sIf ?_ | refine i_sNil ?_ | refine i_sRet ?_ | refine i_sAsg ?_ | refine i_sDrop ?_ | refine i_sPut ?_ | refine i_sPar ?_ | refine i_eC ?_ | refine i_eOp ?_ | refine i_eChain ?_ | refine i_eB ?_ | refine i_eUn ?_ | refine i_eTup ?_ | refine i_eLst ?_ | refine i_eLstM ?_ | refine i_eAnd ?_ | refine i_eOr ?_ | refine i_eNot ?_ | refine i_eIf ?_ | refine i_bOf ?_ | refine i_bAnd ?_ | refine i_bOr ?_ | refine i_bNot ?_ | refine i_bYes ?_ | refine i_aNil ?_ | refine i_aCons ?_ | refine i_eCall ?_ | refine i_eCallKw ?_ | refine i_eCut ?_ | refine i_oNone ?_ | refine i_oSome ?_ | refine i_eM ?_ | refine i_sSq ?_ | refine i_sRange1 ?_ | refine i_sRange2 ?_ | refine i_sEnum ?_ | refine i_eIsi ?_ | refine i_eIsi2 ?_ | refine i_eLc ?_ | refine i_eLcM ?_ | refine i_sFor ?_ | refine i_eDisp1 ?_ | refine i_bl ?_ | refine i_int ?_ | refine i_nm ?_ | refine i_one ?_ | refine i_two ?_ | refine i_rng ?_ | refine i_len0 ?_ | refine i_int1 ?_ | refine i_intb ?_ | refine i_abs ?_ | refine i_add ?_ | refine i_sub ?_ | refine i_lt ?_ | refine i_le ?_ | refine i_gt ?_ | refine i_ge ?_ | refine i_eqi ?_ | refine i_is ?_ | refine i_isn ?_ | refine i_nes ?_ | refine i_rbl ?_) | ((with_reducible refine i_eVarX ?_); refine ⟨_, rfl, ?_⟩) | ((with_reducible refine i_len1 ?_ ?_); · exact Nat.le_of_ble_eq_true rfl))
        have ea : (ys.map isSq).all id = ys.all isSq := by simp [List.all_map]
        rw [ea]
        cases ha : ys.all isSq with
        | true =>
          refine iteF ?_
          repeat (first | (with_reducible first | refine i_sIf ?_ | refine i_sNil ?_ | refine i_sRet ?_ | refine i_sAsg ?_ | refine i_sDrop ?_ | refine i_sPut ?_ | refine i_sPar ?_ | refine i_eC ?_ | refine i_eOp ?_ | refine i_eChain ?_ | refine i_eB ?_ | refine i_eUn ?_ | refine i_eTup ?_ | refine i_eLst ?_ | refine i_eLstM ?_ | refine i_eAnd ?_ | refine i_eOr ?_ | refine i_eNot ?_ | refine i_eIf ?_ | refine i_bOf ?_ | refine i_bAnd ?_ | refine i_bOr ?_ | refine i_bNot ?_ | refine i_bYes ?_ | refine i_aNil ?_ | refine i_aCons ?_ | refine i_eCall ?_ | refine i_eCallKw ?_ | refine i_eCut ?_ | refine i_oNone ?_ | refine i_oSome ?_ | refine i_eM ?_ | refine i_sSq ?_ | refine i_sRange1 ?_ | refine i_sRange2 ?_ | refine i_sEnum ?_ | refine i_eIsi ?_ | refine i_eIsi2 ?_ | refine i_eLc ?_ | refine i_eLcM ?_ | refine i_sFor ?_ | refine i_eDisp1 ?_ | refine i_bl ?_ | refine i_int ?_ | refine i_nm ?_ | refine i_one ?_ | refine i_two ?_ | refine i_rng ?_ | refine i_len0 ?_ | refine i_int1 ?_ | refine i_intb ?_ | refine i_abs ?_ | refine i_add ?_ | refine i_sub ?_ | refine i_lt ?_ | refine i_le ?_ | refine i_gt ?_ | refine i_ge ?_ | refine i_eqi ?_ | refine i_is ?_ | refine i_isn ?_ | refine i_nes ?_ | refine i_rbl ?_) | ((with_reducible refine i_eVarX ?_); refine ⟨_, rfl, ?_⟩) | ((with_reducible refine i_len1 ?_ ?_); · exact Nat.le_of_ble_eq_true rfl))
          exact hnx _ _ ⟨ys, hy, ha, rfl, rfl⟩
        | false =>
          refine iteT ?_
          repeat (first | (with_reducible first | refine i_sIf ?_ | refine i_sNil ?_ | refine i_sRet ?_ | refine i_sAsg ?_ | refine i_sDrop ?_ | refine i_sPut ?_ | refine i_sPar ?_ | refine i_eC ?_ | refine i_eOp ?_ | refine i_eChain ?_ | refine i_eB ?_ | refine i_eUn ?_ | refine i_eTup ?_ | refine i_eLst ?_ | refine i_eLstM ?_ | refine i_eAnd ?_ | refine i_eOr ?_ | refine i_eNot ?_ | refine i_eIf ?_ | refine i_bOf ?_ | refine i_bAnd ?_ | refine i_bOr ?_ | refine i_bNot ?_ | refine i_bYes ?_ | refine i_aNil ?_ | refine i_aCons ?_ | refine i_eCall ?_ | refine i_eCallKw ?_ | refine i_eCut ?_ | refine i_oNone ?_ | refine i_oSome ?_ | refine i_eM ?_ | refine i_sSq ?_ | refine i_sRange1 ?_ | refine i_sRange2 ?_ | refine i_sEnum ?_ | refine i_eIsi ?_ | refine i_eIsi2 ?_ | refine i_eLc ?_ | refine i_eLcM ?_ | refine i_sFor ?_ | refine i_eDisp1 ?_ | refine i_bl ?_ | refine i_int ?_ | refine i_nm ?_ | refine i_one ?_ | refine i_two ?_ | refine i_rng ?_ | refine i_len0 ?_ | refine i_int1 ?_ | refine i_intb ?_ | refine i_abs ?_ | refine i_add ?_ | refine i_sub ?_ | refine i_lt ?_ | refine i_le ?_ | refine i_gt ?_ | refine i_ge ?_ | refine i_eqi ?_ | refine i_is ?_ | refine i_isn ?_ | refine i_nes ?_ | refine i_rbl ?_) | ((with_reducible refine i_eVarX ?_); refine ⟨_, rfl, ?_⟩) | ((with_reducible refine i_len1 ?_ ?_); · exact Nat.le_of_ble_eq_true rfl))
          rw [hrt]
          have e' : areSq e = false := by
            unfold areSq
            rw [hy]
            show (ys.all isSq && _) = false
            rw [ha]
            rfl
          rw [e'] at q
          exact q
  · obtain ⟨ys, hy, ha, rfl, rfl⟩ := hP
    obtain ⟨hl, hit⟩ := hf ys hy
    have hy' : seqOf (drf S' d) = some ys := by rw [hde]; exact hy
    repeat (first | (with_reducible first | refine i_sIf ?_ | refine i_sNil ?_ | refine i_sRet ?_ | refine i_sAsg ?_ | refine i_sDrop ?_ | refine i_sPut ?_ | refine i_sPar ?_ | refine i_eC ?_ | refine i_eOp ?_ | refine i_eChain ?_ | refine i_eB ?_ | refine i_eUn ?_ | refine i_eTup ?_ | refine i_eLst ?_ | refine i_eLstM ?_ | refine i_eAnd ?_ | refine i_eOr ?_ | refine i_eNot ?_ | refine i_eIf ?_ | refine i_bOf ?_ | refine i_bAnd ?_ | refine i_bOr ?_ | refine i_bNot ?_ | refine i_bYes ?_ | refine i_aNil ?_ | refine i_aCons ?_ | refine i_eCall ?_ | refine i_eCallKw ?_ | refine i_eCut ?_ | refine i_oNone ?_ | refine i_oSome ?_ | refine i_eM ?_ | refine i_sSq ?_ | refine i_sRange1 ?_ | refine i_sRange2 ?_ | refine i_sEnum ?_ | refine i_eIsi ?_ | refine i_eIsi2 ?_ | refine i_eLc ?_ | refine i_eLcM ?_ | refine i_sFor ?_ | refine i_eDisp1 ?_ | refine i_bl ?_ | refine i_int ?_ | refine i_nm ?_ | refine i_one ?_ | refine i_two ?_ | refine i_rng ?_ | refine i_len0 ?_ | refine i_int1 ?_ | refine i_intb ?_ | refine i_abs ?_ | refine i_add ?_ | refine i_sub ?_ | refine i_lt ?_ | refine i_le ?_ | refine i_gt ?_ | refine i_ge ?_ | refine i_eqi ?_ | refine i_is ?_ | refine i_isn ?_ | refine i_nes ?_ | refine i_rbl ?_) | ((with_reducible refine i_eVarX ?_); refine ⟨_, rfl, ?_⟩) | ((with_reducible refine i_len1 ?_ ?_); · exact Nat.le_of_ble_eq_true rfl))
    refine ⟨ys, hy', lc_map (fun d => tupI (pairOf d)) rfl (Nat.le_trans (Nat.le_of_lt hl) (by decide)) (fun y hm => ?_) ?_⟩
    · obtain ⟨a, b, e1, e2⟩ := sq_pair (List.all_eq_true.mp ha y hm)
      obtain ⟨⟨ty, hty⟩, hro, _⟩ := hit y hm
      refine ⟨_, rfl, fun Q' q' => ?_⟩
      repeat (first | (with_reducible first | refine i_sIf ?_ | refine i_sNil ?_ | refine i_sRet ?_ | refine i_sAsg ?_ | refine i_sDrop ?_ | refine i_sPut ?_ | refine i_sPar ?_ | refine i_eC ?_ | refine i_eOp ?_ | refine i_eChain ?_ | refine i_eB ?_ | refine i_eUn ?_ | refine i_eTup ?_ | refine i_eLst ?_ | refine i_eLstM ?_ | refine i_eAnd ?_ | refine i_eOr ?_ | refine i_eNot ?_ | refine i_eIf ?_ | refine i_bOf ?_ | refine i_bAnd ?_ | refine i_bOr ?_ | refine i_bNot ?_ | refine i_bYes ?_ | refine i_aNil ?_ | refine i_aCons ?_ | refine i_eCall ?_ | refine i_eCallKw ?_ | refine i_eCut ?_ | refine i_oNone ?_ | refine i_oSome ?_ | refine i_eM ?_ | refine i_sSq ?_ | refine i_sRange1 ?_ | refine i_sRange2 ?_ | refine i_sEnum ?_ | refine i_eIsi ?_ | refine i_eIsi2 ?_ | refine i_eLc ?_ | refine i_eLcM ?_ | refine i_sFor ?_ | refine i_eDisp1 ?_ | refine i_bl ?_ | refine i_int ?_ | refine i_nm ?_ | refine i_one ?_ | refine i_two ?_ | refine i_rng ?_ | refine i_len0 ?_ | refine i_int1 ?_ | refine i_intb ?_ | refine i_abs ?_ | refine i_add ?_ | refine i_sub ?_ | refine i_lt ?_ | refine i_le ?_ | refine i_gt ?_ | refine i_ge ?_ | refine i_eqi ?_ | refine i_is ?_ | refine i_isn ?_ | refine i_nes ?_ | refine i_rbl ?_) | ((with_reducible refine i_eVarX ?_); refine ⟨_, rfl, ?_⟩) | ((with_reducible refine i_len1 ?_ ?_); · exact Nat.le_of_ble_eq_true rfl))
      refine ⟨_, by rw [drf_ty hty]; exact items_seq e1 hro, ?_⟩
      rw [e2] at q'
      exact q'
    · refine ⟨ys.map pairOf, by rw [List.map_map]; rfl, by rw [List.length_map]; omega, fun L hn hm => ?_⟩
      repeat (first | (with_reducible first | refine i_sIf ?_ | refine i_sNil ?_ | refine i_sRet ?_ | refine i_sAsg ?_ | refine i_sDrop ?_ | refine i_sPut ?_ | refine i_sPar ?_ | refine i_eC ?_ | refine i_eOp ?_ | refine i_eChain ?_ | refine i_eB ?_ | refine i_eUn ?_ | refine i_eTup ?_ | refine i_eLst ?_ | refine i_eLstM ?_ | refine i_eAnd ?_ | refine i_eOr ?_ | refine i_eNot ?_ | refine i_eIf ?_ | refine i_bOf ?_ | refine i_bAnd ?_ | refine i_bOr ?_ | refine i_bNot ?_ | refine i_bYes ?_ | refine i_aNil ?_ | refine i_aCons ?_ | refine i_eCall ?_ | refine i_eCallKw ?_ | refine i_eCut ?_ | refine i_oNone ?_ | refine i_oSome ?_ | refine i_eM ?_ | refine i_sSq ?_ | refine i_sRange1 ?_ | refine i_sRange2 ?_ | refine i_sEnum ?_ | refine i_eIsi ?_ | refine i_eIsi2 ?_ | refine i_eLc ?_ | refine i_eLcM ?_ | refine i_sFor ?_ | refine i_eDisp1 ?_ | refine i_bl ?_ | refine i_int ?_ | refine i_nm ?_ | refine i_one ?_ | refine i_two ?_ | refine i_rng ?_ | refine i_len0 ?_ | refine i_int1 ?_ | refine i_intb ?_ | refine i_abs ?_ | refine i_add ?_ | refine i_sub ?_ | refine i_lt ?_ | refine i_le ?_ | refine i_gt ?_ | refine i_ge ?_ | refine i_eqi ?_ | refine i_is ?_ | refine i_isn ?_ | refine i_nes ?_ | refine i_rbl ?_) | ((with_reducible refine i_eVarX ?_); refine ⟨_, rfl, ?_⟩) | ((with_reducible refine i_len1 ?_ ?_); · exact Nat.le_of_ble_eq_true rfl))
      refine len_seq hy' ?_
      repeat (first | (with_reducible first | refine i_sIf ?_ | refine i_sNil ?_ | refine i_sRet ?_ | refine i_sAsg ?_ | refine i_sDrop ?_ | refine i_sPut ?_ | refine i_sPar ?_ | refine i_eC ?_ | refine i_eOp ?_ | refine i_eChain ?_ | refine i_eB ?_ | refine i_eUn ?_ | refine i_eTup ?_ | refine i_eLst ?_ | refine i_eLstM ?_ | refine i_eAnd ?_ | refine i_eOr ?_ | refine i_eNot ?_ | refine i_eIf ?_ | refine i_bOf ?_ | refine i_bAnd ?_ | refine i_bOr ?_ | refine i_bNot ?_ | refine i_bYes ?_ | refine i_aNil ?_ | refine i_aCons ?_ | refine i_eCall ?_ | refine i_eCallKw ?_ | refine i_eCut ?_ | refine i_oNone ?_ | refine i_oSome ?_ | refine i_eM ?_ | refine i_sSq ?_ | refine i_sRange1 ?_ | refine i_sRange2 ?_ | refine i_sEnum ?_ | refine i_eIsi ?_ | refine i_eIsi2 ?_ | refine i_eLc ?_ | refine i_eLcM ?_ | refine i_sFor ?_ | refine i_eDisp1 ?_ | refine i_bl ?_ | refine i_int ?_ | refine i_nm ?_ | refine i_one ?_ | refine i_two ?_ | refine i_rng ?_ | refine i_len0 ?_ | refine i_int1 ?_ | refine i_intb ?_ | refine i_abs ?_ | refine i_add ?_ | refine i_sub ?_ | refine i_lt ?_ | refine i_le ?_ | refine i_gt ?_ | refine i_ge ?_ | refine i_eqi ?_ | refine i_is ?_ | refine i_isn ?_ | refine i_nes ?_ | refine i_rbl ?_) | ((with_reducible refine i_eVarX ?_); refine ⟨_, rfl, ?_⟩) | ((with_reducible refine i_len1 ?_ ?_); · exact Nat.le_of_ble_eq_true rfl))
      have e' : areSq e = decide ((L.length : Int) = (ys.length : Int)) := by
        unfold areSq
        rw [hy]
        show (ys.all isSq && _) = _
        rw [ha, Bool.true_and, Bool.eq_iff_iff]
        have := nodup_len hn hm
        rw [List.length_map] at this
        simp only [decide_eq_true_eq]
        rw [← this]
        omega
      rw [e'] at q
      exact q

def rowOf (p : List Int) : D := .lst (p.map .int)
theorem enum_mem {ps : List (List Int)} {y : D} (h : y ∈ enumD (ps.map rowOf)) : ∃ (i : Nat) (p : List Int), ps[i]? = some p ∧ y = .tup [.int i, rowOf p] := by
  obtain ⟨i, hi, e⟩ := List.mem_iff_getElem.mp h
  have hi' : i < ps.length := by simpa [enumD] using hi
  refine ⟨i, ps[i], List.getElem?_eq_getElem hi', ?_⟩
  rw [← e]
  simp [enumD]
theorem mem_enum {ps : List (List Int)} {i : Nat} {p : List Int} (h : ps[i]? = some p) : D.tup [.int i, rowOf p] ∈ enumD (ps.map rowOf) := by
  obtain ⟨hi, e⟩ := List.getElem?_eq_some_iff.mp h
  refine List.mem_iff_getElem.mpr ⟨i, by simpa [enumD] using hi, ?_⟩
  simp [enumD, e]
theorem fl_row (p : List Int) : fl 60 (rowOf p) = true := by
  show fls 59 (p.map .int) = true
  exact fl_ints p
theorem fl_rows {l : List D} {ps : List (List Int)} (h : ∀ z ∈ l, z ∈ ps.map rowOf) : fls 59 l = true := by
  refine fls_all.mpr fun z hz => ?_
  obtain ⟨p, _, e⟩ := List.mem_map.mp (h z hz)
  rw [← e]
  show fls 58 (p.map .int) = true
  exact fl_ints p
theorem any_row (p : List Int) : ∀ l : List (List Int), ((l.map rowOf).any fun z => eqd z (rowOf p)) = decide (p ∈ l)
  | [] => rfl
  | a :: l => by
    rw [List.map_cons, List.any_cons, any_row p l, show eqd (rowOf a) (rowOf p) = decide (a = p) from eqd_lsts a p, Bool.eq_iff_iff]
    simp only [Bool.or_eq_true, decide_eq_true_eq, List.mem_cons]
    exact ⟨fun h => h.elim (fun e => .inl e.symm) .inr, fun h => h.elim (fun e => .inl e.symm) .inr⟩
theorem run_law_are_pairs (xs : List D) (S : Store) (Q : QD) (h : r_law_are_pairs xs S Q) : runD 5 b_law_are_pairs xs S Q := by
  obtain ⟨d, e, t, rfl, hde, ht, hf, q⟩ := h
  refine i_runD ?_
  unfold b_law_are_pairs
  refine cut (fun ρ' S' => ∃ ys, seqOf e = some ys ∧ ys.all isSq = true ∧ S' = S ∧ ρ' = startD 5 [d]) (fun N' hrt hnx => ?_) (fun ρ' S' hP => ?_)
  · repeat (first | (with_reducible first | refine i_sIf ?_ | refine i_sNil ?_ | refine i_sRet ?_ | refine i_sAsg ?_ | refine i_sDrop ?_ | refine i_sPut ?_ | refine i_sPar ?_ | refine i_eC ?_ | refine i_eOp ?_ | refine i_eChain ?_ | refine i_eB ?_ | refine i_eUn ?_ | refine i_eTup ?_ | refine i_eLst ?_ | refine i_eLstM ?_ | refine i_eAnd ?_ | refine i_eOr ?_ | refine i_eNot ?_ | refine i_eIf ?_ | refine i_bOf ?_ | refine i_bAnd ?_ | refine i_bOr ?_ | refine i_bNot ?_ | refine i_bYes ?_ | refine i_aNil ?_ | refine i_aCons ?_ | refine i_eCall ?_ | refine i_eCallKw ?_ | refine i_eCut ?_ | refine i_oNone ?_ | refine i_oSome ?_ | refine i_eM ?_ | refine i_sSq ?_ | refine i_sRange1 ?_ | refine i_sRange2 ?_ | refine i_sEnum ?_ | refine i_eIsi ?_ | refine i_eIsi2 ?_ | refine i_eLc ?_ | refine i_eLcM ?_ | refine i_sFor ?_ | refine i_eDisp1 ?_ | refine i_bl ?_ | refine i_int ?_ | refine i_nm ?_ | refine i_one ?_ | refine i_two ?_ | refine i_rng ?_ | refine i_len0 ?_ | refine i_int1 ?_ | refine i_intb ?_ | refine i_abs ?_ | refine i_add ?_ | refine i_sub ?_ | refine i_lt ?_ | refine i_le ?_ | refine i_gt ?_ | refine i_ge ?_ | refine i_eqi ?_ | refine i_is ?_ | refine i_isn ?_ | refine i_nes ?_ | refine i_rbl ?_) | ((with_reducible refine i_eVarX ?_); refine ⟨_, rfl, ?_⟩) | ((with_reducible refine i_len1 ?_ ?_); · exact Nat.le_of_ble_eq_true rfl))
    rw [hde]
    refine ⟨_, _, isi_list ht, isi_tuple ht, ?_⟩
    repeat (first | (with_reducible first | refine i_sIf ?_ | refine i_sNil ?_ | refine i_sRet ?_ | refine i_sAsg ?_ | refine i_sDrop ?_ | refine i_sPut ?_ | refine i_sPar ?_ | refine i_eC ?_ | refine i_eOp ?_ | refine i_eChain ?_ | refine i_eB ?_ | refine i_eUn ?_ | refine i_eTup ?_ | refine i_eLst ?_ | refine i_eLstM ?_ | refine i_eAnd ?_ | refine i_eOr ?_ | refine i_eNot ?_ | refine i_eIf ?_ | refine i_bOf ?_ | refine i_bAnd ?_ | refine i_bOr ?_ | refine i_bNot ?_ | refine i_bYes ?_ | refine i_aNil ?_ | refine i_aCons ?_ | refine i_eCall ?_ | refine i_eCallKw ?_ | refine i_eCut ?_ | refine i_oNone ?_ | refine i_oSome ?_ | refine i_eM ?_ | refine i_sSq ?_ | refine i_sRange1 ?_ | refine i_sRange2 ?_ | refine i_sEnum ?_ | refine i_eIsi ?_ | refine i_eIsi2 ?_ | refine i_eLc ?_ | refine i_eLcM ?_ | refine i_sFor ?_ | refine i_eDisp1 ?_ | refine i_bl ?_ | refine i_int ?_ | refine i_nm ?_ | refine i_one ?_ | refine i_two ?_ | refine i_rng ?_ | refine i_len0 ?_ | refine i_int1 ?_ | refine i_intb ?_ | refine i_abs ?_ | refine i_add ?_ | refine i_sub ?_ | refine i_lt ?_ | refine i_le ?_ | refine i_gt ?_ | refine i_ge ?_ | refine i_eqi ?_ | refine i_is ?_ | refine i_isn ?_ | refine i_nes ?_ | refine i_rbl ?_) | ((with_reducible refine i_eVarX ?_); refine ⟨_, rfl, ?_⟩) | ((with_reducible refine i_len1 ?_ ?_); · exact Nat.le_of_ble_eq_true rfl))
    cases hs : (isLst e || isTup e) with
    | false =>
      refine iteT (iteT ?_)
      repeat (first | (with_reducible first | refine i_sIf ?_ | refine i_sNil ?_ | refine i_sRet ?_ | refine i_sAsg ?_ | refine i_sDrop ?_ | refine i_sPut ?_ | refine i_sPar ?_ | refine i_eC ?_ | refine i_eOp ?_ | refine i_eChain ?_ | refine i_eB ?_ | refine i_eUn ?_ | refine i_eTup ?_ | refine i_eLst ?_ | refine i_eLstM ?_ | refine i_eAnd ?_ | refine i_eOr ?_ | refine i_eNot ?_ | refine i_eIf ?_ | refine i_bOf ?_ | refine i_bAnd ?_ | refine i_bOr ?_ | refine i_bNot ?_ | refine i_bYes ?_ | refine i_aNil ?_ | refine i_aCons ?_ | refine i_eCall ?_ | refine i_eCallKw ?_ | refine i_eCut ?_ | refine i_oNone ?_ | refine i_oSome ?_ | refine i_eM ?_ | refine i_sSq ?_ | refine i_sRange1 ?_ | refine i_sRange2 ?_ | refine i_sEnum ?_ | refine i_eIsi ?_ | refine i_eIsi2 ?_ | refine i_eLc ?_ | refine i_eLcM ?_ | refine i_sFor ?_ | refine i_eDisp1 ?_ | refine i_bl ?_ | refine i_int ?_ | refine i_nm ?_ | refine i_one ?_ | refine i_two ?_ | refine i_rng ?_ | refine i_len0 ?_ | refine i_int1 ?_ | refine i_intb ?_ | refine i_abs ?_ | refine i_add ?_ | refine i_sub ?_ | refine i_lt ?_ | refine i_le ?_ | refine i_gt ?_ | refine i_ge ?_ | refine i_eqi ?_ | refine i_is ?_ | refine i_isn ?_ | refine i_nes ?_ | refine i_rbl ?_) | ((with_reducible refine i_eVarX ?_); refine ⟨_, rfl, ?_⟩) | ((with_reducible refine i_len1 ?_ ?_); · exact Nat.le_of_ble_eq_true rfl))
      rw [hrt]
      have e' : areSq e = false := by
        unfold areSq
        rw [seq_no hs]
      rw [e'] at q
      exact q
    | true =>
      obtain ⟨ys, hy⟩ := seq_lt hs
      obtain ⟨hl, hit⟩ := hf ys hy
      refine iteF ?_
      repeat (first | (with_reducible first | refine i_sIf ?_ | refine i_sNil ?_ | refine i_sRet ?_ | refine i_sAsg ?_ | refine i_sDrop ?_ | refine i_sPut ?_ | refine i_sPar ?_ | refine i_eC ?_ | refine i_eOp ?_ | refine i_eChain ?_ | refine i_eB ?_ | refine i_eUn ?_ | refine i_eTup ?_ | refine i_eLst ?_ | refine i_eLstM ?_ | refine i_eAnd ?_ | refine i_eOr ?_ | refine i_eNot ?_ | refine i_eIf ?_ | refine i_bOf ?_ | refine i_bAnd ?_ | refine i_bOr ?_ | refine i_bNot ?_ | refine i_bYes ?_ | refine i_aNil ?_ | refine i_aCons ?_ | refine i_eCall ?_ | refine i_eCallKw ?_ | refine i_eCut ?_ | refine i_oNone ?_ | refine i_oSome ?_ | refine i_eM ?_ | refine i_sSq ?_ | refine i_sRange1 ?_ | refine i_sRange2 ?_ | refine i_sEnum ?_ | refine i_eIsi ?_ | refine i_eIsi2 ?_ | refine i_eLc ?_ | refine i_eLcM ?_ | refine i_sFor ?_ | refine i_eDisp1 ?_ | refine i_bl ?_ | refine i_int ?_ | refine i_nm ?_ | refine i_one ?_ | refine i_two ?_ | refine i_rng ?_ | refine i_len0 ?_ | refine i_int1 ?_ | refine i_intb ?_ | refine i_abs ?_ | refine i_add ?_ | refine i_sub ?_ | refine i_lt ?_ | refine i_le ?_ | refine i_gt ?_ | refine i_ge ?_ | refine i_eqi ?_ | refine i_is ?_ | refine i_isn ?_ | refine i_nes ?_ | refine i_rbl ?_) | ((with_reducible refine i_eVarX ?_); refine ⟨_, rfl, ?_⟩) | ((with_reducible refine i_len1 ?_ ?_); · exact Nat.le_of_ble_eq_true rfl))
      refine ⟨ys, by rw [hde]; exact hy, lc_pure (fun d => if isSq d = true then none else some d) rfl (Nat.le_trans (Nat.le_of_lt hl) (by decide)) (fun y hm => ?_) ?_⟩
      · refine ⟨_, rfl, fun Q' Q0 q1 q0 => ?_⟩
        repeat (first | (with_reducible first | refine i_sIf ?_ | refine i_sNil ?_ | refine i_sRet ?_ | refine i_sAsg ?_ | refine i_sDrop ?_ | refine i_sPut ?_ | refine i_sPar ?_ | refine i_eC ?_ | refine i_eOp ?_ | refine i_eChain ?_ | refine i_eB ?_ | refine i_eUn ?_ | refine i_eTup ?_ | refine i_eLst ?_ | refine i_eLstM ?_ | refine i_eAnd ?_ | refine i_eOr ?_ | refine i_eNot ?_ | refine i_eIf ?_ | refine i_bOf ?_ | refine i_bAnd ?_ | refine i_bOr ?_ | refine i_bNot ?_ | refine i_bYes ?_ | refine i_aNil ?_ | refine i_aCons ?_ | refine i_eCall ?_ | refine i_eCallKw ?_ | refine i_eCut ?_ | refine i_oNone ?_ | refine i_oSome ?_ | refine i_eM ?_ | refine i_sSq ?_ | refine i_sRange1 ?_ | refine i_sRange2 ?_ | refine i_sEnum ?_ | refine i_eIsi ?_ | refine i_eIsi2 ?_ | refine i_eLc ?_ | refine i_eLcM ?_ | refine i_sFor ?_ | refine i_eDisp1 ?_ | refine i_bl ?_ | refine i_int ?_ | refine i_nm ?_ | refine i_one ?_ | refine i_two ?_ | refine i_rng ?_ | refine i_len0 ?_ | refine i_int1 ?_ | refine i_intb ?_ | refine i_abs ?_ | refine i_add ?_ | refine i_sub ?_ | refine i_lt ?_ | refine i_le ?_ | refine i_gt ?_ | refine i_ge ?_ | refine i_eqi ?_ | refine i_is ?_ | refine i_isn ?_ | refine i_nes ?_ | refine i_rbl ?_) | ((with_reducible refine i_eVarX ?_); refine ⟨_, rfl, ?_⟩) | ((with_reducible refine i_len1 ?_ ?_); · exact Nat.le_of_ble_eq_true rfl))
        refine ⟨y, rfl, hit y hm, ?_⟩
        repeat (first | (with_reducible first | refine i_sIf ?_ | refine i_sNil ?_ | refine i_sRet ?_ | refine i_sAsg ?_ | refine i_sDrop ?_ | refine i_sPut ?_ | refine i_sPar ?_ | refine i_eC ?_ | refine i_eOp ?_ | refine i_eChain ?_ | refine i_eB ?_ | refine i_eUn ?_ | refine i_eTup ?_ | refine i_eLst ?_ | refine i_eLstM ?_ | refine i_eAnd ?_ | refine i_eOr ?_ | refine i_eNot ?_ | refine i_eIf ?_ | refine i_bOf ?_ | refine i_bAnd ?_ | refine i_bOr ?_ | refine i_bNot ?_ | refine i_bYes ?_ | refine i_aNil ?_ | refine i_aCons ?_ | refine i_eCall ?_ | refine i_eCallKw ?_ | refine i_eCut ?_ | refine i_oNone ?_ | refine i_oSome ?_ | refine i_eM ?_ | refine i_sSq ?_ | refine i_sRange1 ?_ | refine i_sRange2 ?_ | refine i_sEnum ?_ | refine i_eIsi ?_ | refine i_eIsi2 ?_ | refine i_eLc ?_ | refine i_eLcM ?_ | refine i_sFor ?_ | refine i_eDisp1 ?_ | refine i_bl ?_ | refine i_int ?_ | refine i_nm ?_ | refine i_one ?_ | refine i_two ?_ | refine i_rng ?_ | refine i_len0 ?_ | refine i_int1 ?_ | refine i_intb ?_ | refine i_abs ?_ | refine i_add ?_ | refine i_sub ?_ | refine i_lt ?_ | refine i_le ?_ | refine i_gt ?_ | refine i_ge ?_ | refine i_eqi ?_ | refine i_is ?_ | refine i_isn ?_ | refine i_nes ?_ | refine i_rbl ?_) | ((with_reducible refine i_eVarX ?_); refine ⟨_, rfl, ?_⟩) | ((with_reducible refine i_len1 ?_ ?_); · exact Nat.le_of_ble_eq_true rfl))
        cases hq : isSq y with
        | true =>
          refine iteF (q0 ?_)
          show (if isSq y = true then none else some y) = none
          rw [hq]
          rfl
        | false =>
          refine iteT ?_
          repeat (first | (with_reducible first | refine i_sIf ?_ | refine i_sNil ?_ | refine i_sRet ?_ | refine i_sAsg ?_ | refine i_sDrop ?_ | refine i_sPut ?_ | refine i_sPar ?_ | refine i_eC ?_ | refine i_eOp ?_ | refine i_eChain ?_ | refine i_eB ?_ | refine i_eUn ?_ | refine i_eTup ?_ | refine i_eLst ?_ | refine i_eLstM ?_ | refine i_eAnd ?_ | refine i_eOr ?_ | refine i_eNot ?_ | refine i_eIf ?_ | refine i_bOf ?_ | refine i_bAnd ?_ | refine i_bOr ?_ | refine i_bNot ?_ | refine i_bYes ?_ | refine i_aNil ?_ | refine i_aCons ?_ | refine i_eCall ?_ | refine i_eCallKw ?_ | refine i_eCut ?_ | refine i_oNone ?_ | refine i_oSome ?_ | refine i_eM ?_ | refine i_sSq ?_ | refine i_sRange1 ?_ | refine i_sRange2 ?_ | refine i_sEnum ?_ | refine i_eIsi ?_ | refine i_eIsi2 ?_ | refine i_eLc ?_ | refine i_eLcM ?_ | refine i_sFor ?_ | refine i_eDisp1 ?_ | refine i_bl ?_ | refine i_int ?_ | refine i_nm ?_ | refine i_one ?_ | refine i_two ?_ | refine i_rng ?_ | refine i_len0 ?_ | refine i_int1 ?_ | refine i_intb ?_ | refine i_abs ?_ | refine i_add ?_ | refine i_sub ?_ | refine i_lt ?_ | refine i_le ?_ | refine i_gt ?_ | refine i_ge ?_ | refine i_eqi ?_ | refine i_is ?_ | refine i_isn ?_ | refine i_nes ?_ | refine i_rbl ?_) | ((with_reducible refine i_eVarX ?_); refine ⟨_, rfl, ?_⟩) | ((with_reducible refine i_len1 ?_ ?_); · exact Nat.le_of_ble_eq_true rfl))
          refine q1 y ?_
          show (if isSq y = true then none else some y) = some y
          rw [hq]
          rfl
      · repeat (first | (with_reducible first | refine i_sIf ?_ | refine i_sNil ?_ | refine i_sRet ?_ | refine i_sAsg ?_ | refine i_sDrop ?_ | refine i_sPut ?_ | refine i_sPar ?_ | refine i_eC ?_ | refine i_eOp ?_ | refine i_eChain ?_ | refine i_eB ?_ | refine i_eUn ?_ | refine i_eTup ?_ | refine i_eLst ?_ | refine i_eLstM ?_ | refine i_eAnd ?_ | refine i_eOr ?_ | refine i_eNot ?_ | refine i_eIf ?_ | refine i_bOf ?_ | refine i_bAnd ?_ | refine i_bOr ?_ | refine i_bNot ?_ | refine i_bYes ?_ | refine i_aNil ?_ | refine i_aCons ?_ | refine i_eCall ?_ | refine i_eCallKw ?_ | refine i_eCut ?_ | refine i_oNone ?_ | refine i_oSome ?_ | refine i_eM ?_ | refine i_sSq ?_ | refine i_sRange1 ?_ | refine i_sRange2 ?_ | refine i_sEnum ?_ | refine i_eIsi ?_ | refine i_eIsi2 ?_ | refine i_eLc ?_ | refine i_eLcM ?_ | refine i_sFor ?_ | refine i_eDisp1 ?_ | refine i_bl ?_ | refine i_int ?_ | refine i_nm ?_ | refine i_one ?_ | refine i_two ?_ | refine i_rng ?_ | refine i_len0 ?_ | refine i_int1 ?_ | refine i_intb ?_ | refine i_abs ?_ | refine i_add ?_ | refine i_sub ?_ | refine i_lt ?_ | refine i_le ?_ | refine i_gt ?_ | refine i_ge ?_ | refine i_eqi ?_ | refine i_is ?_ | refine i_isn ?_ | refine i_nes ?_ | refine i_rbl ?_) | ((with_reducible refine i_eVarX ?_); refine ⟨_, rfl, ?_⟩) | ((with_reducible refine i_len1 ?_ ?_); · exact Nat.le_of_ble_eq_true rfl))
        refine ne_nil rfl ?_
        repeat (first | (with_reducible first | refine i_sIf ?_ | refine i_sNil ?_ | refine i_sRet ?_ | refine i_sAsg ?_ | refine i_sDrop ?_ | refine i_sPut ?_ | refine i_sPar ?_ | refine i_eC ?_ | refine i_eOp ?_ | refine i_eChain ?_ | refine i_eB ?_ | refine i_eUn ?_ | refine i_eTup ?_ | refine i_eLst ?_ | refine i_eLstM ?_ | refine i_eAnd ?_ | refine i_eOr ?_ | refine i_eNot ?_ | refine i_eIf ?_ | refine i_bOf ?_ | refine i_bAnd ?_ | refine i_bOr ?_ | refine i_bNot ?_ | refine i_bYes ?_ | refine i_aNil ?_ | refine i_aCons ?_ | refine i_eCall ?_ | refine i_eCallKw ?_ | refine i_eCut ?_ | refine i_oNone ?_ | refine i_oSome ?_ | refine i_eM ?_ | refine i_sSq ?_ | refine i_sRange1 ?_ | refine i_sRange2 ?_ | refine i_sEnum ?_ | refine i_eIsi ?_ | refine i_eIsi2 ?_ | refine i_eLc ?_ | refine i_eLcM ?_ | refine i_sFor ?_ | refine i_eDisp1 ?_ | refine i_bl ?_ | refine i_int ?_ | refine i_nm ?_ | refine i_one ?_ | refine i_two ?_ | refine i_rng ?_ | refine i_len0 ?_ | refine i_int1 ?_ | refine i_intb ?_ | refine i_abs ?_ | refine i_add ?_ | refine i_sub ?_ | refine i_lt ?_ | refine i_le ?_ | refine i_gt ?_ | refine i_ge ?_ | refine i_eqi ?_ | refine i_is ?_ | refine i_isn ?_ | refine i_nes ?_ | refine i_rbl ?_) | ((with_reducible refine i_eVarX ?_); refine ⟨_, rfl, ?_⟩) | ((with_reducible refine i_len1 ?_ ?_); · exact Nat.le_of_ble_eq_true rfl))
        have em : (ys.filterMap fun d => if isSq d = true then none else some d).isEmpty = ys.all isSq := by
          clear hit hl hy
          induction ys with
          | nil => rfl
          | cons z zs ih =>
            rw [List.filterMap_cons, List.all_cons]
            cases hz : isSq z with
            | true => simpa [hz] using ih
            | false => simp [hz]
        rw [em]
        cases ha : ys.all isSq with
        | true =>
          refine iteF ?_
          repeat (first | (with_reducible first | refine i_sIf ?_ | refine i_sNil ?_ | refine i_sRet ?_ | refine i_sAsg ?_ | refine i_sDrop ?_ | refine i_sPut ?_ | refine i_sPar ?_ | refine i_eC ?_ | refine i_eOp ?_ | refine i_eChain ?_ | refine i_eB ?_ | refine i_eUn ?_ | refine i_eTup ?_ | refine i_eLst ?_ | refine i_eLstM ?_ | refine i_eAnd ?_ | refine i_eOr ?_ | refine i_eNot ?_ | refine i_eIf ?_ | refine i_bOf ?_ | refine i_bAnd ?_ | refine i_bOr ?_ | refine i_bNot ?_ | refine i_bYes ?_ | refine i_aNil ?_ | refine i_aCons ?_ | refine i_eCall ?_ | refine i_eCallKw ?_ | refine i_eCut ?_ | refine i_oNone ?_ | refine i_oSome ?_ | refine i_eM ?_ | refine i_sSq ?_ | refine i_sRange1 ?_ | refine i_sRange2 ?_ | refine i_sEnum ?_ | refine i_eIsi ?_ | refine i_eIsi2 ?_ | refine i_eLc ?_ | refine i_eLcM ?_ | refine i_sFor ?_ | refine i_eDisp1 ?_ | refine i_bl ?_ | refine i_int ?_ | refine i_nm ?_ | refine i_one ?_ | refine i_two ?_ | refine i_rng ?_ | refine i_len0 ?_ | refine i_int1 ?_ | refine i_intb ?_ | refine i_abs ?_ | refine i_add ?_ | refine i_sub ?_ | refine i_lt ?_ | refine i_le ?_ | refine i_gt ?_ | refine i_ge ?_ | refine i_eqi ?_ | refine i_is ?_ | refine i_isn ?_ | refine i_nes ?_ | refine i_rbl ?_) | ((with_reducible refine i_eVarX ?_); refine ⟨_, rfl, ?_⟩) | ((with_reducible refine i_len1 ?_ ?_); · exact Nat.le_of_ble_eq_true rfl))
          exact hnx _ _ ⟨ys, hy, ha, rfl, rfl⟩
        | false =>
          refine iteT ?_
          repeat (first | (with_reducible first | refine i_sIf ?_ | refine i_sNil ?_ | refine i_sRet ?_ | refine i_sAsg ?_ | refine i_sDrop ?_ | refine i_sPut ?_ | refine i_sPar ?_ | refine i_eC ?_ | refine i_eOp ?_ | refine i_eChain ?_ | refine i_eB ?_ | refine i_eUn ?_ | refine i_eTup ?_ | refine i_eLst ?_ | refine i_eLstM ?_ | refine i_eAnd ?_ | refine i_eOr ?_ | refine i_eNot ?_ | refine i_eIf ?_ | refine i_bOf ?_ | refine i_bAnd ?_ | refine i_bOr ?_ | refine i_bNot ?_ | refine i_bYes ?_ | refine i_aNil ?_ | refine i_aCons ?_ | refine i_eCall ?_ | refine i_eCallKw ?_ | refine i_eCut ?_ | refine i_oNone ?_ | refine i_oSome ?_ | refine i_eM ?_ | refine i_sSq ?_ | refine i_sRange1 ?_ | refine i_sRange2 ?_ | refine i_sEnum ?_ | refine i_eIsi ?_ | refine i_eIsi2 ?_ | refine i_eLc ?_ | refine i_eLcM ?_ | refine i_sFor ?_ | refine i_eDisp1 ?_ | refine i_bl ?_ | refine i_int ?_ | refine i_nm ?_ | refine i_one ?_ | refine i_two ?_ | refine i_rng ?_ | refine i_len0 ?_ | refine i_int1 ?_ | refine i_intb ?_ | refine i_abs ?_ | refine i_add ?_ | refine i_sub ?_ | refine i_lt ?_ | refine i_le ?_ | refine i_gt ?_ | refine i_ge ?_ | refine i_eqi ?_ | refine i_is ?_ | refine i_isn ?_ | refine i_nes ?_ | refine i_rbl ?_) | ((with_reducible refine i_eVarX ?_); refine ⟨_, rfl, ?_⟩) | ((with_reducible refine i_len1 ?_ ?_); · exact Nat.le_of_ble_eq_true rfl))
          rw [hrt]
          have e' : areSq e = false := by
            unfold areSq
            rw [hy]
            show (ys.all isSq && _) = false
            rw [ha]
            rfl
          rw [e'] at q
          exact q
  obtain ⟨ys, hy, ha, rfl, rfl⟩ := hP
  obtain ⟨hl, hit⟩ := hf ys hy
  have hy' : seqOf (drf S' d) = some ys := by rw [hde]; exact hy
  have hl' : ys.length ≤ sizeLine := Nat.le_trans (Nat.le_of_lt hl) (by decide)
  refine cut (fun ρ' S1 => S1 = S' ∧ ρ' = [some d, some (.lst ((ys.map pairOf).map rowOf)), none, none, none]) (fun N' hrt hnx => ?_) (fun ρ' S' hP => ?_)
  · repeat (first | (with_reducible first | refine i_sIf ?_ | refine i_sNil ?_ | refine i_sRet ?_ | refine i_sAsg ?_ | refine i_sDrop ?_ | refine i_sPut ?_ | refine i_sPar ?_ | refine i_eC ?_ | refine i_eOp ?_ | refine i_eChain ?_ | refine i_eB ?_ | refine i_eUn ?_ | refine i_eTup ?_ | refine i_eLst ?_ | refine i_eLstM ?_ | refine i_eAnd ?_ | refine i_eOr ?_ | refine i_eNot ?_ | refine i_eIf ?_ | refine i_bOf ?_ | refine i_bAnd ?_ | refine i_bOr ?_ | refine i_bNot ?_ | refine i_bYes ?_ | refine i_aNil ?_ | refine i_aCons ?_ | refine i_eCall ?_ | refine i_eCallKw ?_ | refine i_eCut ?_ | refine i_oNone ?_ | refine i_oSome ?_ | refine i_eM ?_ | refine i_sSq ?_ | refine i_sRange1 ?_ | refine i_sRange2 ?_ | refine i_sEnum ?_ | refine i_eIsi ?_ | refine i_eIsi2 ?_ | refine i_eLc ?_ | refine i_eLcM ?_ | refine i_sFor ?_ | refine i_eDisp1 ?_ | refine i_bl ?_ | refine i_int ?_ | refine i_nm ?_ | refine i_one ?_ | refine i_two ?_ | refine i_rng ?_ | refine i_len0 ?_ | refine i_int1 ?_ | refine i_intb ?_ | refine i_abs ?_ | refine i_add ?_ | refine i_sub ?_ | refine i_lt ?_ | refine i_le ?_ | refine i_gt ?_ | refine i_ge ?_ | refine i_eqi ?_ | refine i_is ?_ | refine i_isn ?_ | refine i_nes ?_ | refine i_rbl ?_) | ((with_reducible refine i_eVarX ?_); refine ⟨_, rfl, ?_⟩) | ((with_reducible refine i_len1 ?_ ?_); · exact Nat.le_of_ble_eq_true rfl))
    refine ⟨ys, hy', lc_map (fun d => rowOf (pairOf d)) rfl hl' (fun y hm => ?_) ?_⟩
    · obtain ⟨a, b, e1, e2⟩ := sq_pair (List.all_eq_true.mp ha y hm)
      obtain ⟨⟨ty, hty⟩, hro, _⟩ := hit y hm
      refine ⟨_, rfl, fun Q' q' => ?_⟩
      rw [e2] at q'
      have e3 : seqOf (drf S' y) = some [.int a, .int b] := by rw [drf_ty hty]; exact e1
      repeat (first | (with_reducible first | refine i_sIf ?_ | refine i_sNil ?_ | refine i_sRet ?_ | refine i_sAsg ?_ | refine i_sDrop ?_ | refine i_sPut ?_ | refine i_sPar ?_ | refine i_eC ?_ | refine i_eOp ?_ | refine i_eChain ?_ | refine i_eB ?_ | refine i_eUn ?_ | refine i_eTup ?_ | refine i_eLst ?_ | refine i_eLstM ?_ | refine i_eAnd ?_ | refine i_eOr ?_ | refine i_eNot ?_ | refine i_eIf ?_ | refine i_bOf ?_ | refine i_bAnd ?_ | refine i_bOr ?_ | refine i_bNot ?_ | refine i_bYes ?_ | refine i_aNil ?_ | refine i_aCons ?_ | refine i_eCall ?_ | refine i_eCallKw ?_ | refine i_eCut ?_ | refine i_oNone ?_ | refine i_oSome ?_ | refine i_eM ?_ | refine i_sSq ?_ | refine i_sRange1 ?_ | refine i_sRange2 ?_ | refine i_sEnum ?_ | refine i_eIsi ?_ | refine i_eIsi2 ?_ | refine i_eLc ?_ | refine i_eLcM ?_ | refine i_sFor ?_ | refine i_eDisp1 ?_ | refine i_bl ?_ | refine i_int ?_ | refine i_nm ?_ | refine i_one ?_ | refine i_two ?_ | refine i_rng ?_ | refine i_len0 ?_ | refine i_int1 ?_ | refine i_intb ?_ | refine i_abs ?_ | refine i_add ?_ | refine i_sub ?_ | refine i_lt ?_ | refine i_le ?_ | refine i_gt ?_ | refine i_ge ?_ | refine i_eqi ?_ | refine i_is ?_ | refine i_isn ?_ | refine i_nes ?_ | refine i_rbl ?_) | ((with_reducible refine i_eVarX ?_); refine ⟨_, rfl, ?_⟩) | ((with_reducible refine i_len1 ?_ ?_); · exact Nat.le_of_ble_eq_true rfl))
      refine ix_of (i := 0) e3 rfl ?_
      repeat (first | (with_reducible first | refine i_sIf ?_ | refine i_sNil ?_ | refine i_sRet ?_ | refine i_sAsg ?_ | refine i_sDrop ?_ | refine i_sPut ?_ | refine i_sPar ?_ | refine i_eC ?_ | refine i_eOp ?_ | refine i_eChain ?_ | refine i_eB ?_ | refine i_eUn ?_ | refine i_eTup ?_ | refine i_eLst ?_ | refine i_eLstM ?_ | refine i_eAnd ?_ | refine i_eOr ?_ | refine i_eNot ?_ | refine i_eIf ?_ | refine i_bOf ?_ | refine i_bAnd ?_ | refine i_bOr ?_ | refine i_bNot ?_ | refine i_bYes ?_ | refine i_aNil ?_ | refine i_aCons ?_ | refine i_eCall ?_ | refine i_eCallKw ?_ | refine i_eCut ?_ | refine i_oNone ?_ | refine i_oSome ?_ | refine i_eM ?_ | refine i_sSq ?_ | refine i_sRange1 ?_ | refine i_sRange2 ?_ | refine i_sEnum ?_ | refine i_eIsi ?_ | refine i_eIsi2 ?_ | refine i_eLc ?_ | refine i_eLcM ?_ | refine i_sFor ?_ | refine i_eDisp1 ?_ | refine i_bl ?_ | refine i_int ?_ | refine i_nm ?_ | refine i_one ?_ | refine i_two ?_ | refine i_rng ?_ | refine i_len0 ?_ | refine i_int1 ?_ | refine i_intb ?_ | refine i_abs ?_ | refine i_add ?_ | refine i_sub ?_ | refine i_lt ?_ | refine i_le ?_ | refine i_gt ?_ | refine i_ge ?_ | refine i_eqi ?_ | refine i_is ?_ | refine i_isn ?_ | refine i_nes ?_ | refine i_rbl ?_) | ((with_reducible refine i_eVarX ?_); refine ⟨_, rfl, ?_⟩) | ((with_reducible refine i_len1 ?_ ?_); · exact Nat.le_of_ble_eq_true rfl))
      refine ix_of (i := 1) e3 rfl ?_
      repeat (first | (with_reducible first | refine i_sIf ?_ | refine i_sNil ?_ | refine i_sRet ?_ | refine i_sAsg ?_ | refine i_sDrop ?_ | refine i_sPut ?_ | refine i_sPar ?_ | refine i_eC ?_ | refine i_eOp ?_ | refine i_eChain ?_ | refine i_eB ?_ | refine i_eUn ?_ | refine i_eTup ?_ | refine i_eLst ?_ | refine i_eLstM ?_ | refine i_eAnd ?_ | refine i_eOr ?_ | refine i_eNot ?_ | refine i_eIf ?_ | refine i_bOf ?_ | refine i_bAnd ?_ | refine i_bOr ?_ | refine i_bNot ?_ | refine i_bYes ?_ | refine i_aNil ?_ | refine i_aCons ?_ | refine i_eCall ?_ | refine i_eCallKw ?_ | refine i_eCut ?_ | refine i_oNone ?_ | refine i_oSome ?_ | refine i_eM ?_ | refine i_sSq ?_ | refine i_sRange1 ?_ | refine i_sRange2 ?_ | refine i_sEnum ?_ | refine i_eIsi ?_ | refine i_eIsi2 ?_ | refine i_eLc ?_ | refine i_eLcM ?_ | refine i_sFor ?_ | refine i_eDisp1 ?_ | refine i_bl ?_ | refine i_int ?_ | refine i_nm ?_ | refine i_one ?_ | refine i_two ?_ | refine i_rng ?_ | refine i_len0 ?_ | refine i_int1 ?_ | refine i_intb ?_ | refine i_abs ?_ | refine i_add ?_ | refine i_sub ?_ | refine i_lt ?_ | refine i_le ?_ | refine i_gt ?_ | refine i_ge ?_ | refine i_eqi ?_ | refine i_is ?_ | refine i_isn ?_ | refine i_nes ?_ | refine i_rbl ?_) | ((with_reducible refine i_eVarX ?_); refine ⟨_, rfl, ?_⟩) | ((with_reducible refine i_len1 ?_ ?_); · exact Nat.le_of_ble_eq_true rfl))
      exact q'
    · repeat (first | (with_reducible first | refine i_sIf ?_ | refine i_sNil ?_ | refine i_sRet ?_ | refine i_sAsg ?_ | refine i_sDrop ?_ | refine i_sPut ?_ | refine i_sPar ?_ | refine i_eC ?_ | refine i_eOp ?_ | refine i_eChain ?_ | refine i_eB ?_ | refine i_eUn ?_ | refine i_eTup ?_ | refine i_eLst ?_ | refine i_eLstM ?_ | refine i_eAnd ?_ | refine i_eOr ?_ | refine i_eNot ?_ | refine i_eIf ?_ | refine i_bOf ?_ | refine i_bAnd ?_ | refine i_bOr ?_ | refine i_bNot ?_ | refine i_bYes ?_ | refine i_aNil ?_ | refine i_aCons ?_ | refine i_eCall ?_ | refine i_eCallKw ?_ | refine i_eCut ?_ | refine i_oNone ?_ | refine i_oSome ?_ | refine i_eM ?_ | refine i_sSq ?_ | refine i_sRange1 ?_ | refine i_sRange2 ?_ | refine i_sEnum ?_ | refine i_eIsi ?_ | refine i_eIsi2 ?_ | refine i_eLc ?_ | refine i_eLcM ?_ | refine i_sFor ?_ | refine i_eDisp1 ?_ | refine i_bl ?_ | refine i_int ?_ | refine i_nm ?_ | refine i_one ?_ | refine i_two ?_ | refine i_rng ?_ | refine i_len0 ?_ | refine i_int1 ?_ | refine i_intb ?_ | refine i_abs ?_ | refine i_add ?_ | refine i_sub ?_ | refine i_lt ?_ | refine i_le ?_ | refine i_gt ?_ | refine i_ge ?_ | refine i_eqi ?_ | refine i_is ?_ | refine i_isn ?_ | refine i_nes ?_ | refine i_rbl ?_) | ((with_reducible refine i_eVarX ?_); refine ⟨_, rfl, ?_⟩) | ((with_reducible refine i_len1 ?_ ?_); · exact Nat.le_of_ble_eq_true rfl))
      refine hnx _ _ ⟨rfl, ?_⟩
      rw [List.map_map]
      rfl
  obtain ⟨rfl, rfl⟩ := hP
  generalize hps : ys.map pairOf = ps
  repeat (first | (with_reducible first | refine i_sIf ?_ | refine i_sNil ?_ | refine i_sRet ?_ | refine i_sAsg ?_ | refine i_sDrop ?_ | refine i_sPut ?_ | refine i_sPar ?_ | refine i_eC ?_ | refine i_eOp ?_ | refine i_eChain ?_ | refine i_eB ?_ | refine i_eUn ?_ | refine i_eTup ?_ | refine i_eLst ?_ | refine i_eLstM ?_ | refine i_eAnd ?_ | refine i_eOr ?_ | refine i_eNot ?_ | refine i_eIf ?_ | refine i_bOf ?_ | refine i_bAnd ?_ | refine i_bOr ?_ | refine i_bNot ?_ | refine i_bYes ?_ | refine i_aNil ?_ | refine i_aCons ?_ | refine i_eCall ?_ | refine i_eCallKw ?_ | refine i_eCut ?_ | refine i_oNone ?_ | refine i_oSome ?_ | refine i_eM ?_ | refine i_sSq ?_ | refine i_sRange1 ?_ | refine i_sRange2 ?_ | refine i_sEnum ?_ | refine i_eIsi ?_ | refine i_eIsi2 ?_ | refine i_eLc ?_ | refine i_eLcM ?_ | refine i_sFor ?_ | refine i_eDisp1 ?_ | refine i_bl ?_ | refine i_int ?_ | refine i_nm ?_ | refine i_one ?_ | refine i_two ?_ | refine i_rng ?_ | refine i_len0 ?_ | refine i_int1 ?_ | refine i_intb ?_ | refine i_abs ?_ | refine i_add ?_ | refine i_sub ?_ | refine i_lt ?_ | refine i_le ?_ | refine i_gt ?_ | refine i_ge ?_ | refine i_eqi ?_ | refine i_is ?_ | refine i_isn ?_ | refine i_nes ?_ | refine i_rbl ?_) | ((with_reducible refine i_eVarX ?_); refine ⟨_, rfl, ?_⟩) | ((with_reducible refine i_len1 ?_ ?_); · exact Nat.le_of_ble_eq_true rfl))
  refine ⟨_, _, rfl, rfl, lc_pure (fun d => match d with | .tup [.int i, r] => (if (((ps.map rowOf).take i.toNat).any fun z => eqd z r) = true then some (.int i) else none) | _ => none) rfl ?_ (fun y hm => ?_) ?_⟩
  · simp [enumD, ← hps]
    exact hl'
  · obtain ⟨i, p, hp, e1⟩ := enum_mem hm
    subst e1
    refine ⟨_, rfl, fun Q' Q0 q1 q0 => ?_⟩
    repeat (first | (with_reducible first | refine i_sIf ?_ | refine i_sNil ?_ | refine i_sRet ?_ | refine i_sAsg ?_ | refine i_sDrop ?_ | refine i_sPut ?_ | refine i_sPar ?_ | refine i_eC ?_ | refine i_eOp ?_ | refine i_eChain ?_ | refine i_eB ?_ | refine i_eUn ?_ | refine i_eTup ?_ | refine i_eLst ?_ | refine i_eLstM ?_ | refine i_eAnd ?_ | refine i_eOr ?_ | refine i_eNot ?_ | refine i_eIf ?_ | refine i_bOf ?_ | refine i_bAnd ?_ | refine i_bOr ?_ | refine i_bNot ?_ | refine i_bYes ?_ | refine i_aNil ?_ | refine i_aCons ?_ | refine i_eCall ?_ | refine i_eCallKw ?_ | refine i_eCut ?_ | refine i_oNone ?_ | refine i_oSome ?_ | refine i_eM ?_ | refine i_sSq ?_ | refine i_sRange1 ?_ | refine i_sRange2 ?_ | refine i_sEnum ?_ | refine i_eIsi ?_ | refine i_eIsi2 ?_ | refine i_eLc ?_ | refine i_eLcM ?_ | refine i_sFor ?_ | refine i_eDisp1 ?_ | refine i_bl ?_ | refine i_int ?_ | refine i_nm ?_ | refine i_one ?_ | refine i_two ?_ | refine i_rng ?_ | refine i_len0 ?_ | refine i_int1 ?_ | refine i_intb ?_ | refine i_abs ?_ | refine i_add ?_ | refine i_sub ?_ | refine i_lt ?_ | refine i_le ?_ | refine i_gt ?_ | refine i_ge ?_ | refine i_eqi ?_ | refine i_is ?_ | refine i_isn ?_ | refine i_nes ?_ | refine i_rbl ?_) | ((with_reducible refine i_eVarX ?_); refine ⟨_, rfl, ?_⟩) | ((with_reducible refine i_len1 ?_ ?_); · exact Nat.le_of_ble_eq_true rfl))
    refine cut_lst rfl ?_
    rw [cut_to]
    refine ⟨_, rfl, fl_row p, fl_rows fun z hz => List.mem_of_mem_take hz, ?_⟩
    repeat (first | (with_reducible first | refine i_sIf ?_ | refine i_sNil ?_ | refine i_sRet ?_ | refine i_sAsg ?_ | refine i_sDrop ?_ | refine i_sPut ?_ | refine i_sPar ?_ | refine i_eC ?_ | refine i_eOp ?_ | refine i_eChain ?_ | refine i_eB ?_ | refine i_eUn ?_ | refine i_eTup ?_ | refine i_eLst ?_ | refine i_eLstM ?_ | refine i_eAnd ?_ | refine i_eOr ?_ | refine i_eNot ?_ | refine i_eIf ?_ | refine i_bOf ?_ | refine i_bAnd ?_ | refine i_bOr ?_ | refine i_bNot ?_ | refine i_bYes ?_ | refine i_aNil ?_ | refine i_aCons ?_ | refine i_eCall ?_ | refine i_eCallKw ?_ | refine i_eCut ?_ | refine i_oNone ?_ | refine i_oSome ?_ | refine i_eM ?_ | refine i_sSq ?_ | refine i_sRange1 ?_ | refine i_sRange2 ?_ | refine i_sEnum ?_ | refine i_eIsi ?_ | refine i_eIsi2 ?_ | refine i_eLc ?_ | refine i_eLcM ?_ | refine i_sFor ?_ | refine i_eDisp1 ?_ | refine i_bl ?_ | refine i_int ?_ | refine i_nm ?_ | refine i_one ?_ | refine i_two ?_ | refine i_rng ?_ | refine i_len0 ?_ | refine i_int1 ?_ | refine i_intb ?_ | refine i_abs ?_ | refine i_add ?_ | refine i_sub ?_ | refine i_lt ?_ | refine i_le ?_ | refine i_gt ?_ | refine i_ge ?_ | refine i_eqi ?_ | refine i_is ?_ | refine i_isn ?_ | refine i_nes ?_ | refine i_rbl ?_) | ((with_reducible refine i_eVarX ?_); refine ⟨_, rfl, ?_⟩) | ((with_reducible refine i_len1 ?_ ?_); · exact Nat.le_of_ble_eq_true rfl))
    rw [show drf S' (rowOf p) = rowOf p from rfl]
    cases hq : (((ps.map rowOf).take i).any fun z => eqd z (rowOf p)) with
    | true =>
      refine iteT ?_
      repeat (first | (with_reducible first | refine i_sIf ?_ | refine i_sNil ?_ | refine i_sRet ?_ | refine i_sAsg ?_ | refine i_sDrop ?_ | refine i_sPut ?_ | refine i_sPar ?_ | refine i_eC ?_ | refine i_eOp ?_ | refine i_eChain ?_ | refine i_eB ?_ | refine i_eUn ?_ | refine i_eTup ?_ | refine i_eLst ?_ | refine i_eLstM ?_ | refine i_eAnd ?_ | refine i_eOr ?_ | refine i_eNot ?_ | refine i_eIf ?_ | refine i_bOf ?_ | refine i_bAnd ?_ | refine i_bOr ?_ | refine i_bNot ?_ | refine i_bYes ?_ | refine i_aNil ?_ | refine i_aCons ?_ | refine i_eCall ?_ | refine i_eCallKw ?_ | refine i_eCut ?_ | refine i_oNone ?_ | refine i_oSome ?_ | refine i_eM ?_ | refine i_sSq ?_ | refine i_sRange1 ?_ | refine i_sRange2 ?_ | refine i_sEnum ?_ | refine i_eIsi ?_ | refine i_eIsi2 ?_ | refine i_eLc ?_ | refine i_eLcM ?_ | refine i_sFor ?_ | refine i_eDisp1 ?_ | refine i_bl ?_ | refine i_int ?_ | refine i_nm ?_ | refine i_one ?_ | refine i_two ?_ | refine i_rng ?_ | refine i_len0 ?_ | refine i_int1 ?_ | refine i_intb ?_ | refine i_abs ?_ | refine i_add ?_ | refine i_sub ?_ | refine i_lt ?_ | refine i_le ?_ | refine i_gt ?_ | refine i_ge ?_ | refine i_eqi ?_ | refine i_is ?_ | refine i_isn ?_ | refine i_nes ?_ | refine i_rbl ?_) | ((with_reducible refine i_eVarX ?_); refine ⟨_, rfl, ?_⟩) | ((with_reducible refine i_len1 ?_ ?_); · exact Nat.le_of_ble_eq_true rfl))
      refine q1 _ ?_
      show (if (((ps.map rowOf).take ((i : Int)).toNat).any fun z => eqd z (rowOf p)) = true then some (D.int i) else none) = _
      rw [Int.toNat_natCast, hq]
      rfl
    | false =>
      refine iteF (q0 ?_)
      show (if (((ps.map rowOf).take ((i : Int)).toNat).any fun z => eqd z (rowOf p)) = true then some (D.int i) else none) = _
      rw [Int.toNat_natCast, hq]
      rfl
  · repeat (first | (with_reducible first | refine i_sIf ?_ | refine i_sNil ?_ | refine i_sRet ?_ | refine i_sAsg ?_ | refine i_sDrop ?_ | refine i_sPut ?_ | refine i_sPar ?_ | refine i_eC ?_ | refine i_eOp ?_ | refine i_eChain ?_ | refine i_eB ?_ | refine i_eUn ?_ | refine i_eTup ?_ | refine i_eLst ?_ | refine i_eLstM ?_ | refine i_eAnd ?_ | refine i_eOr ?_ | refine i_eNot ?_ | refine i_eIf ?_ | refine i_bOf ?_ | refine i_bAnd ?_ | refine i_bOr ?_ | refine i_bNot ?_ | refine i_bYes ?_ | refine i_aNil ?_ | refine i_aCons ?_ | refine i_eCall ?_ | refine i_eCallKw ?_ | refine i_eCut ?_ | refine i_oNone ?_ | refine i_oSome ?_ | refine i_eM ?_ | refine i_sSq ?_ | refine i_sRange1 ?_ | refine i_sRange2 ?_ | refine i_sEnum ?_ | refine i_eIsi ?_ | refine i_eIsi2 ?_ | refine i_eLc ?_ | refine i_eLcM ?_ | refine i_sFor ?_ | refine i_eDisp1 ?_ | refine i_bl ?_ | refine i_int ?_ | refine i_nm ?_ | refine i_one ?_ | refine i_two ?_ | refine i_rng ?_ | refine i_len0 ?_ | refine i_int1 ?_ | refine i_intb ?_ | refine i_abs ?_ | refine i_add ?_ | refine i_sub ?_ | refine i_lt ?_ | refine i_le ?_ | refine i_gt ?_ | refine i_ge ?_ | refine i_eqi ?_ | refine i_is ?_ | refine i_isn ?_ | refine i_nes ?_ | refine i_rbl ?_) | ((with_reducible refine i_eVarX ?_); refine ⟨_, rfl, ?_⟩) | ((with_reducible refine i_len1 ?_ ?_); · exact Nat.le_of_ble_eq_true rfl))
    refine eq_nil rfl ?_
    have e' : areSq e = ((enumD (ps.map rowOf)).filterMap fun d => match d with | .tup [.int i, r] => (if (((ps.map rowOf).take i.toNat).any fun z => eqd z r) = true then some (D.int i) else none) | _ => none).isEmpty := by
      unfold areSq
      rw [hy]
      show (ys.all isSq && decide (ys.map pairOf).Nodup) = _
      rw [ha, Bool.true_and, hps, Bool.eq_iff_iff, List.isEmpty_iff, List.filterMap_eq_nil_iff, decide_eq_true_eq, nodup_take]
      constructor
      · intro h y hm
        obtain ⟨i, p, hp, e1⟩ := enum_mem hm
        subst e1
        show (if (((ps.map rowOf).take ((i : Int)).toNat).any fun z => eqd z (rowOf p)) = true then some (D.int i) else none) = _
        rw [Int.toNat_natCast, ← List.map_take, any_row, decide_eq_false (h i p hp)]
        rfl
      · intro h i p hp hm
        have := h _ (mem_enum hp)
        have t : (if (((ps.map rowOf).take ((i : Int)).toNat).any fun z => eqd z (rowOf p)) = true then some (D.int i) else none) = none := this
        rw [Int.toNat_natCast, ← List.map_take, any_row, decide_eq_true hm] at t
        cases t
    rw [e'] at q
    exact q

/-! what is drawn -/
theorem odds_all {P : D → Prop} (h : P .non ∧ P (.bl true) ∧ P (.bl false) ∧ P (.str "5") ∧ P (.str "") ∧ P (.lst []) ∧ P (.lst [.int 3]) ∧ P (.tup [.int 0, .int 0]) ∧ P (.dic []) ∧ P (.dic [(.inl 1, .int 2)])) : ∀ d ∈ odds, P d := by
  obtain ⟨h1, h2, h3, h4, h5, h6, h7, h8, h9, h10⟩ := h
  intro d hd
  unfold odds at hd
  rcases List.mem_cons.mp hd with rfl | hd
  · exact h1
  rcases List.mem_cons.mp hd with rfl | hd
  · exact h2
  rcases List.mem_cons.mp hd with rfl | hd
  · exact h3
  rcases List.mem_cons.mp hd with rfl | hd
  · exact h4
  rcases List.mem_cons.mp hd with rfl | hd
  · exact h5
  rcases List.mem_cons.mp hd with rfl | hd
  · exact h6
  rcases List.mem_cons.mp hd with rfl | hd
  · exact h7
  rcases List.mem_cons.mp hd with rfl | hd
  · exact h8
  rcases List.mem_cons.mp hd with rfl | hd
  · exact h9
  rcases List.mem_cons.mp hd with rfl | hd
  · exact h10
  · exact nomatch hd
theorem odd_shw : ∀ d ∈ odds, shw 50 d = true := odds_all (by decide)
theorem odd_wid : ∀ d ∈ odds, wid d ≤ 60 := odds_all (by decide +kernel)
theorem odd_num : ∀ d ∈ odds, isNum d = false := odds_all (by decide)
theorem flat_of {n : Nat} {d : D} (h : shw n d = true) (hl : ∀ ys, seqOf d = some ys → ys.length ≤ 100) : Flat d := by
  refine ⟨ty_shw h, fun zs e => ?_, fun ys hy => ⟨Nat.le_trans (hl ys hy) (by decide), fun y hm => ?_⟩⟩
  · subst e
    cases n <;> simp [shw] at h
  · cases n with
    | zero => cases d <;> first | (cases hy; done) | (simp [shw] at h; done)
    | succ n =>
      cases d with
      | lst xs =>
        cases hy
        exact ty_shw (shws_all.mp (by simpa [shw] using h) y hm)
      | tup xs =>
        cases hy
        exact ty_shw (shws_all.mp (by simpa [shw] using h) y hm)
      | ro xs => simp [shw] at h
      | _ => cases hy
theorem odd_len : ∀ d ∈ odds, ∀ ys, seqOf d = some ys → ys.length ≤ 4 := odds_all (by
  refine ⟨?_, ?_, ?_, ?_, ?_, ?_, ?_, ?_, ?_, ?_⟩ <;> intro ys hy <;> cases hy <;> decide)
theorem odd_sq : ∀ d ∈ odds, isSq d = true → ∃ a b, seqOf d = some [.int a, .int b] ∧ Big a ∧ Big b := odds_all (by
  refine ⟨?_, ?_, ?_, ?_, ?_, ?_, ?_, ?_, ?_, ?_⟩ <;> intro hs <;> first | (cases hs; done) | exact ⟨0, 0, rfl, by unfold Big; decide, by unfold Big; decide⟩)
theorem odd_eq : ∀ d ∈ odds, ∃ b, EqR3 d (.lst []) b ∧ b = areSq d ∧ (b = true → isLst d = true) := odds_all (by
  refine ⟨?_, ?_, ?_, ?_, ?_, ?_, ?_, ?_, ?_, ?_⟩ <;> first | exact ⟨_, .of (.data (by decide) rfl), by decide, by decide⟩ | exact ⟨_, .of (.data (by decide +kernel) rfl), by decide, by decide⟩ | exact ⟨_, .dl rfl, by decide, by decide⟩)
theorem int_flat (n : Int) : Flat (.int n) := ⟨⟨_, rfl⟩, fun _ h => (nomatch h), fun _ h => nomatch h⟩
theorem odd_items : ∀ d ∈ odds, ∀ ys, seqOf d = some ys → ys.length < 60 ∧ ∀ y ∈ ys, Flat y := odds_all (by
  refine ⟨?_, ?_, ?_, ?_, ?_, ?_, ?_, ?_, ?_, ?_⟩ <;> intro ys hy <;> cases hy <;> refine ⟨by decide, fun y hy => ?_⟩ <;> simp at hy <;> first | (rw [hy]; exact int_flat _) | skip)
theorem odd_flat (d : D) (h : d ∈ odds) : Flat d := flat_of (odd_shw d h) fun ys hy => Nat.le_trans (odd_len d h ys hy) (by decide)
theorem big_shw {n : Nat} {i : Int} (h : Big i) : shw n (.int i) = true := shw_int' (k := 61) (Nat.lt_of_le_of_lt h (by decide)) (by decide)
theorem big_wid {i : Int} (h : Big i) : wid (.int i) ≤ 62 := wid_int (k := 61) (by decide) (Nat.lt_of_le_of_lt h (by decide))
theorem pr_shw {p : D} (h : Pr p) : shw 52 p = true ∧ wid p ≤ 400 ∧ ∀ ys, seqOf p = some ys → ys.length ≤ 4 := by
  rcases h with h | ⟨ns, rfl, hl, hb⟩ | ⟨n, d, rfl, hb, hd⟩ | ⟨a, b, rfl, ha, hb⟩
  · refine ⟨shw_up (by decide) (odd_shw p h), Nat.le_trans (odd_wid p h) (by decide), odd_len p h⟩
  · refine ⟨?_, ?_, fun ys hy => by cases hy; rw [List.length_map]; exact hl⟩
    · show shws 51 _ = true
      refine shws_all.mpr fun d hd => ?_
      obtain ⟨n, hn, rfl⟩ := List.mem_map.mp hd
      exact big_shw (hb n hn)
    · have := wids_le (w := 62) (ds := ns.map .int) fun d hd => by
        obtain ⟨n, hn, rfl⟩ := List.mem_map.mp hd
        exact big_wid (hb n hn)
      rw [List.length_map] at this
      have h2 : ns.length * 64 ≤ 4 * 64 := Nat.mul_le_mul_right _ hl
      simp only [wid]
      omega
  · refine ⟨?_, ?_, fun ys hy => by cases hy; simp⟩
    · show shws 51 _ = true
      simp only [shws, Bool.and_eq_true]
      exact ⟨big_shw hb, shw_up (by decide) (odd_shw d hd), trivial⟩
    · have h1 := big_wid hb
      have h2 := odd_wid d hd
      simp only [wid, wids] at h1 ⊢
      omega
  · refine ⟨?_, ?_, fun ys hy => by cases hy; simp⟩
    · show shws 51 _ = true
      simp only [shws, Bool.and_eq_true]
      exact ⟨big_shw ha, big_shw hb, trivial⟩
    · have h1 := big_wid hb
      have h2 := big_wid ha
      simp only [wid, wids] at h1 h2 ⊢
      omega
theorem pr_flat {p : D} (h : Pr p) : Flat p := flat_of (pr_shw h).1 fun ys hy => Nat.le_trans ((pr_shw h).2.2 ys hy) (by decide)
theorem pr_sq {p : D} (h : Pr p) (hs : isSq p = true) : ∃ a b, seqOf p = some [.int a, .int b] ∧ Big a ∧ Big b := by
  rcases h with h | ⟨ns, rfl, hl, hb⟩ | ⟨n, d, rfl, hb, hd⟩ | ⟨a, b, rfl, ha, hb⟩
  · exact odd_sq p h hs
  · obtain ⟨a, b, e, _⟩ := sq_pair hs
    refine ⟨a, b, e, ?_, ?_⟩ <;>
    · have e' : ns.map D.int = [.int a, .int b] := by
        have := Option.some.inj e
        exact this
      match ns, e', hb with
      | [x, y], e', hb =>
        cases e'
        exact hb _ (by simp)
  · have : (isNum (.int n) && isNum d) = true := hs
    rw [odd_num d hd] at this
    cases this
  · exact ⟨a, b, rfl, ha, hb⟩

def Val (d : D) : Prop := (∃ n, d = .int n ∧ Big n) ∨ d ∈ odds
theorem val_ty {d : D} (h : Val d) : ∃ t, tyD d = some t := by
  rcases h with ⟨n, rfl, _⟩ | h
  · exact ⟨_, rfl⟩
  · exact ty_shw (odd_shw d h)
theorem val_int {d : D} (h : Val d) (hn : isNum d = true) : ∃ n, d = .int n := by
  cases d with
  | int n => exact ⟨n, rfl⟩
  | _ => cases hn
theorem run_law (xs : List D) (S : Store) (Q : QD) (h : r_law xs S Q) : runD 14 b_law xs S Q := by
  obtain ⟨ns, rfl, rfl, hl, q⟩ := h
  refine i_runD ?_
  unfold b_law
  refine cut (fun ρ' S' => ∃ o, Urn 0 o ∧ S' = [some o] ∧ ρ' = [some (.ro (ns.map .int)), some (.ref 0), none, none, none, none, none, none, none, none, none, none, none, none]) (fun N' hrt hnx => ?_) (fun ρ' S' hP => ?_)
  · repeat (first | (with_reducible first | refine i_sIf ?_ | refine i_sNil ?_ | refine i_sRet ?_ | refine i_sAsg ?_ | refine i_sDrop ?_ | refine i_sPut ?_ | refine i_sPar ?_ | refine i_eC ?_ | refine i_eOp ?_ | refine i_eChain ?_ | refine i_eB ?_ | refine i_eUn ?_ | refine i_eTup ?_ | refine i_eLst ?_ | refine i_eLstM ?_ | refine i_eAnd ?_ | refine i_eOr ?_ | refine i_eNot ?_ | refine i_eIf ?_ | refine i_bOf ?_ | refine i_bAnd ?_ | refine i_bOr ?_ | refine i_bNot ?_ | refine i_bYes ?_ | refine i_aNil ?_ | refine i_aCons ?_ | refine i_eCall ?_ | refine i_eCallKw ?_ | refine i_eCut ?_ | refine i_oNone ?_ | refine i_oSome ?_ | refine i_eM ?_ | refine i_sSq ?_ | refine i_sRange1 ?_ | refine i_sRange2 ?_ | refine i_sEnum ?_ | refine i_eIsi ?_ | refine i_eIsi2 ?_ | refine i_eLc ?_ | refine i_eLcM ?_ | refine i_sFor ?_ | refine i_eDisp1 ?_ | refine i_bl ?_ | refine i_int ?_ | refine i_nm ?_ | refine i_one ?_ | refine i_two ?_ | refine i_rng ?_ | refine i_len0 ?_ | refine i_int1 ?_ | refine i_intb ?_ | refine i_abs ?_ | refine i_add ?_ | refine i_sub ?_ | refine i_lt ?_ | refine i_le ?_ | refine i_gt ?_ | refine i_ge ?_ | refine i_eqi ?_ | refine i_is ?_ | refine i_isn ?_ | refine i_nes ?_ | refine i_rbl ?_) | ((with_reducible refine i_eVarX ?_); refine ⟨_, rfl, ?_⟩) | ((with_reducible refine i_len1 ?_ ?_); · exact Nat.le_of_ble_eq_true rfl))
    refine ⟨ns, rfl, rfl, hl, fun o u => ?_⟩
    repeat (first | (with_reducible first | refine i_sIf ?_ | refine i_sNil ?_ | refine i_sRet ?_ | refine i_sAsg ?_ | refine i_sDrop ?_ | refine i_sPut ?_ | refine i_sPar ?_ | refine i_eC ?_ | refine i_eOp ?_ | refine i_eChain ?_ | refine i_eB ?_ | refine i_eUn ?_ | refine i_eTup ?_ | refine i_eLst ?_ | refine i_eLstM ?_ | refine i_eAnd ?_ | refine i_eOr ?_ | refine i_eNot ?_ | refine i_eIf ?_ | refine i_bOf ?_ | refine i_bAnd ?_ | refine i_bOr ?_ | refine i_bNot ?_ | refine i_bYes ?_ | refine i_aNil ?_ | refine i_aCons ?_ | refine i_eCall ?_ | refine i_eCallKw ?_ | refine i_eCut ?_ | refine i_oNone ?_ | refine i_oSome ?_ | refine i_eM ?_ | refine i_sSq ?_ | refine i_sRange1 ?_ | refine i_sRange2 ?_ | refine i_sEnum ?_ | refine i_eIsi ?_ | refine i_eIsi2 ?_ | refine i_eLc ?_ | refine i_eLcM ?_ | refine i_sFor ?_ | refine i_eDisp1 ?_ | refine i_bl ?_ | refine i_int ?_ | refine i_nm ?_ | refine i_one ?_ | refine i_two ?_ | refine i_rng ?_ | refine i_len0 ?_ | refine i_int1 ?_ | refine i_intb ?_ | refine i_abs ?_ | refine i_add ?_ | refine i_sub ?_ | refine i_lt ?_ | refine i_le ?_ | refine i_gt ?_ | refine i_ge ?_ | refine i_eqi ?_ | refine i_is ?_ | refine i_isn ?_ | refine i_nes ?_ | refine i_rbl ?_) | ((with_reducible refine i_eVarX ?_); refine ⟨_, rfl, ?_⟩) | ((with_reducible refine i_len1 ?_ ?_); · exact Nat.le_of_ble_eq_true rfl))
    exact hnx _ _ ⟨o, u, rfl, rfl⟩
  obtain ⟨o, u, rfl, rfl⟩ := hP
  refine cut (fun ρ' S' => True) (fun N' hrt hnx => ?_) (fun ρ' S' hP => ?_)
  rotate_left
  · repeat (first | (with_reducible first | refine i_sIf ?_ | refine i_sNil ?_ | refine i_sRet ?_ | refine i_sAsg ?_ | refine i_sDrop ?_ | refine i_sPut ?_ | refine i_sPar ?_ | refine i_eC ?_ | refine i_eOp ?_ | refine i_eChain ?_ | refine i_eB ?_ | refine i_eUn ?_ | refine i_eTup ?_ | refine i_eLst ?_ | refine i_eLstM ?_ | refine i_eAnd ?_ | refine i_eOr ?_ | refine i_eNot ?_ | refine i_eIf ?_ | refine i_bOf ?_ | refine i_bAnd ?_ | refine i_bOr ?_ | refine i_bNot ?_ | refine i_bYes ?_ | refine i_aNil ?_ | refine i_aCons ?_ | refine i_eCall ?_ | refine i_eCallKw ?_ | refine i_eCut ?_ | refine i_oNone ?_ | refine i_oSome ?_ | refine i_eM ?_ | refine i_sSq ?_ | refine i_sRange1 ?_ | refine i_sRange2 ?_ | refine i_sEnum ?_ | refine i_eIsi ?_ | refine i_eIsi2 ?_ | refine i_eLc ?_ | refine i_eLcM ?_ | refine i_sFor ?_ | refine i_eDisp1 ?_ | refine i_bl ?_ | refine i_int ?_ | refine i_nm ?_ | refine i_one ?_ | refine i_two ?_ | refine i_rng ?_ | refine i_len0 ?_ | refine i_int1 ?_ | refine i_intb ?_ | refine i_abs ?_ | refine i_add ?_ | refine i_sub ?_ | refine i_lt ?_ | refine i_le ?_ | refine i_gt ?_ | refine i_ge ?_ | refine i_eqi ?_ | refine i_is ?_ | refine i_isn ?_ | refine i_nes ?_ | refine i_rbl ?_) | ((with_reducible refine i_eVarX ?_); refine ⟨_, rfl, ?_⟩) | ((with_reducible refine i_len1 ?_ ?_); · exact Nat.le_of_ble_eq_true rfl))
    exact q _
  repeat (first | (with_reducible first | refine i_sIf ?_ | refine i_sNil ?_ | refine i_sRet ?_ | refine i_sAsg ?_ | refine i_sDrop ?_ | refine i_sPut ?_ | refine i_sPar ?_ | refine i_eC ?_ | refine i_eOp ?_ | refine i_eChain ?_ | refine i_eB ?_ | refine i_eUn ?_ | refine i_eTup ?_ | refine i_eLst ?_ | refine i_eLstM ?_ | refine i_eAnd ?_ | refine i_eOr ?_ | refine i_eNot ?_ | refine i_eIf ?_ | refine i_bOf ?_ | refine i_bAnd ?_ | refine i_bOr ?_ | refine i_bNot ?_ | refine i_bYes ?_ | refine i_aNil ?_ | refine i_aCons ?_ | refine i_eCall ?_ | refine i_eCallKw ?_ | refine i_eCut ?_ | refine i_oNone ?_ | refine i_oSome ?_ | refine i_eM ?_ | refine i_sSq ?_ | refine i_sRange1 ?_ | refine i_sRange2 ?_ | refine i_sEnum ?_ | refine i_eIsi ?_ | refine i_eIsi2 ?_ | refine i_eLc ?_ | refine i_eLcM ?_ | refine i_sFor ?_ | refine i_eDisp1 ?_ | refine i_bl ?_ | refine i_int ?_ | refine i_nm ?_ | refine i_one ?_ | refine i_two ?_ | refine i_rng ?_ | refine i_len0 ?_ | refine i_int1 ?_ | refine i_intb ?_ | refine i_abs ?_ | refine i_add ?_ | refine i_sub ?_ | refine i_lt ?_ | refine i_le ?_ | refine i_gt ?_ | refine i_ge ?_ | refine i_eqi ?_ | refine i_is ?_ | refine i_isn ?_ | refine i_nes ?_ | refine i_rbl ?_) | ((with_reducible refine i_eVarX ?_); refine ⟨_, rfl, ?_⟩) | ((with_reducible refine i_len1 ?_ ?_); · exact Nat.le_of_ble_eq_true rfl))
  refine ⟨by decide, by decide, ⟨fun i ρ' S' => ∃ o T x0 x2 x3 x4 x5 x6 x7 x8 x9 x10 x11 x12 x13, Urn (1000 * i) o ∧ S' = some o :: T ∧ ρ' = [x0, some (.ref 0), x2, x3, x4, x5, x6, x7, x8, x9, x10, x11, x12, x13],
    ⟨o, [], _, _, _, _, _, _, _, _, _, _, _, _, _, u, rfl, rfl⟩, fun _ _ _ _ => trivial, ?_, fun ρ' S' _ => hnx _ _ trivial⟩⟩
  rintro i d ρ' S' hd ⟨o, T, x0, x2, x3, x4, x5, x6, x7, x8, x9, x10, x11, x12, x13, u, rfl, rfl⟩
  have hi : i < 4 := by
    have := (List.getElem?_eq_some_iff.mp hd).1
    rw [rangeD_len] at this
    exact this
  generalize hK : 1000 * i = K at u
  refine ⟨[x0, some (.ref 0), some d, x3, x4, x5, x6, x7, x8, x9, x10, x11, x12, x13], by unfold bindT; rfl, ?_⟩
  -- number
  refine cut (fun ρ' S' => ∃ o d3, Urn (K + 3) o ∧ Val d3 ∧ S' = some o :: T ∧ ρ' = [x0, some (.ref 0), some d, some d3, x4, x5, x6, x7, x8, x9, x10, x11, x12, x13]) (fun N' hrt hnx => ?_) (fun ρ' S' hP => ?_)
  · repeat (first | (with_reducible first | refine i_sIf ?_ | refine i_sNil ?_ | refine i_sRet ?_ | refine i_sAsg ?_ | refine i_sDrop ?_ | refine i_sPut ?_ | refine i_sPar ?_ | refine i_eC ?_ | refine i_eOp ?_ | refine i_eChain ?_ | refine i_eB ?_ | refine i_eUn ?_ | refine i_eTup ?_ | refine i_eLst ?_ | refine i_eLstM ?_ | refine i_eAnd ?_ | refine i_eOr ?_ | refine i_eNot ?_ | refine i_eIf ?_ | refine i_bOf ?_ | refine i_bAnd ?_ | refine i_bOr ?_ | refine i_bNot ?_ | refine i_bYes ?_ | refine i_aNil ?_ | refine i_aCons ?_ | refine i_eCall ?_ | refine i_eCallKw ?_ | refine i_eCut ?_ | refine i_oNone ?_ | refine i_oSome ?_ | refine i_eM ?_ | refine i_sSq ?_ | refine i_sRange1 ?_ | refine i_sRange2 ?_ | refine i_sEnum ?_ | refine i_eIsi ?_ | refine i_eIsi2 ?_ | refine i_eLc ?_ | refine i_eLcM ?_ | refine i_sFor ?_ | refine i_eDisp1 ?_ | refine i_bl ?_ | refine i_int ?_ | refine i_nm ?_ | refine i_one ?_ | refine i_two ?_ | refine i_rng ?_ | refine i_len0 ?_ | refine i_int1 ?_ | refine i_intb ?_ | refine i_abs ?_ | refine i_add ?_ | refine i_sub ?_ | refine i_lt ?_ | refine i_le ?_ | refine i_gt ?_ | refine i_ge ?_ | refine i_eqi ?_ | refine i_is ?_ | refine i_isn ?_ | refine i_nes ?_ | refine i_rbl ?_) | ((with_reducible refine i_eVarX ?_); refine ⟨_, rfl, ?_⟩) | ((with_reducible refine i_len1 ?_ ?_); · exact Nat.le_of_ble_eq_true rfl))
    refine ⟨K, o, T, 3, rfl, rfl, u, by omega, by decide, by decide, fun o1 n u1 n0 n1 => ?_⟩
    repeat (first | (with_reducible first | refine i_sIf ?_ | refine i_sNil ?_ | refine i_sRet ?_ | refine i_sAsg ?_ | refine i_sDrop ?_ | refine i_sPut ?_ | refine i_sPar ?_ | refine i_eC ?_ | refine i_eOp ?_ | refine i_eChain ?_ | refine i_eB ?_ | refine i_eUn ?_ | refine i_eTup ?_ | refine i_eLst ?_ | refine i_eLstM ?_ | refine i_eAnd ?_ | refine i_eOr ?_ | refine i_eNot ?_ | refine i_eIf ?_ | refine i_bOf ?_ | refine i_bAnd ?_ | refine i_bOr ?_ | refine i_bNot ?_ | refine i_bYes ?_ | refine i_aNil ?_ | refine i_aCons ?_ | refine i_eCall ?_ | refine i_eCallKw ?_ | refine i_eCut ?_ | refine i_oNone ?_ | refine i_oSome ?_ | refine i_eM ?_ | refine i_sSq ?_ | refine i_sRange1 ?_ | refine i_sRange2 ?_ | refine i_sEnum ?_ | refine i_eIsi ?_ | refine i_eIsi2 ?_ | refine i_eLc ?_ | refine i_eLcM ?_ | refine i_sFor ?_ | refine i_eDisp1 ?_ | refine i_bl ?_ | refine i_int ?_ | refine i_nm ?_ | refine i_one ?_ | refine i_two ?_ | refine i_rng ?_ | refine i_len0 ?_ | refine i_int1 ?_ | refine i_intb ?_ | refine i_abs ?_ | refine i_add ?_ | refine i_sub ?_ | refine i_lt ?_ | refine i_le ?_ | refine i_gt ?_ | refine i_ge ?_ | refine i_eqi ?_ | refine i_is ?_ | refine i_isn ?_ | refine i_nes ?_ | refine i_rbl ?_) | ((with_reducible refine i_eVarX ?_); refine ⟨_, rfl, ?_⟩) | ((with_reducible refine i_len1 ?_ ?_); · exact Nat.le_of_ble_eq_true rfl))
    refine ite_by (fun _ => ?_) (fun _ => ?_)
    · repeat (first | (with_reducible first | refine i_sIf ?_ | refine i_sNil ?_ | refine i_sRet ?_ | refine i_sAsg ?_ | refine i_sDrop ?_ | refine i_sPut ?_ | refine i_sPar ?_ | refine i_eC ?_ | refine i_eOp ?_ | refine i_eChain ?_ | refine i_eB ?_ | refine i_eUn ?_ | refine i_eTup ?_ | refine i_eLst ?_ | refine i_eLstM ?_ | refine i_eAnd ?_ | refine i_eOr ?_ | refine i_eNot ?_ | refine i_eIf ?_ | refine i_bOf ?_ | refine i_bAnd ?_ | refine i_bOr ?_ | refine i_bNot ?_ | refine i_bYes ?_ | refine i_aNil ?_ | refine i_aCons ?_ | refine i_eCall ?_ | refine i_eCallKw ?_ | refine i_eCut ?_ | refine i_oNone ?_ | refine i_oSome ?_ | refine i_eM ?_ | refine i_sSq ?_ | refine i_sRange1 ?_ | refine i_sRange2 ?_ | refine i_sEnum ?_ | refine i_eIsi ?_ | refine i_eIsi2 ?_ | refine i_eLc ?_ | refine i_eLcM ?_ | refine i_sFor ?_ | refine i_eDisp1 ?_ | refine i_bl ?_ | refine i_int ?_ | refine i_nm ?_ | refine i_one ?_ | refine i_two ?_ | refine i_rng ?_ | refine i_len0 ?_ | refine i_int1 ?_ | refine i_intb ?_ | refine i_abs ?_ | refine i_add ?_ | refine i_sub ?_ | refine i_lt ?_ | refine i_le ?_ | refine i_gt ?_ | refine i_ge ?_ | refine i_eqi ?_ | refine i_is ?_ | refine i_isn ?_ | refine i_nes ?_ | refine i_rbl ?_) | ((with_reducible refine i_eVarX ?_); refine ⟨_, rfl, ?_⟩) | ((with_reducible refine i_len1 ?_ ?_); · exact Nat.le_of_ble_eq_true rfl))
      refine ⟨K + 1, o1, T, rfl, rfl, u1, by omega, fun o2 m u2 bm => ?_⟩
      repeat (first | (with_reducible first | refine i_sIf ?_ | refine i_sNil ?_ | refine i_sRet ?_ | refine i_sAsg ?_ | refine i_sDrop ?_ | refine i_sPut ?_ | refine i_sPar ?_ | refine i_eC ?_ | refine i_eOp ?_ | refine i_eChain ?_ | refine i_eB ?_ | refine i_eUn ?_ | refine i_eTup ?_ | refine i_eLst ?_ | refine i_eLstM ?_ | refine i_eAnd ?_ | refine i_eOr ?_ | refine i_eNot ?_ | refine i_eIf ?_ | refine i_bOf ?_ | refine i_bAnd ?_ | refine i_bOr ?_ | refine i_bNot ?_ | refine i_bYes ?_ | refine i_aNil ?_ | refine i_aCons ?_ | refine i_eCall ?_ | refine i_eCallKw ?_ | refine i_eCut ?_ | refine i_oNone ?_ | refine i_oSome ?_ | refine i_eM ?_ | refine i_sSq ?_ | refine i_sRange1 ?_ | refine i_sRange2 ?_ | refine i_sEnum ?_ | refine i_eIsi ?_ | refine i_eIsi2 ?_ | refine i_eLc ?_ | refine i_eLcM ?_ | refine i_sFor ?_ | refine i_eDisp1 ?_ | refine i_bl ?_ | refine i_int ?_ | refine i_nm ?_ | refine i_one ?_ | refine i_two ?_ | refine i_rng ?_ | refine i_len0 ?_ | refine i_int1 ?_ | refine i_intb ?_ | refine i_abs ?_ | refine i_add ?_ | refine i_sub ?_ | refine i_lt ?_ | refine i_le ?_ | refine i_gt ?_ | refine i_ge ?_ | refine i_eqi ?_ | refine i_is ?_ | refine i_isn ?_ | refine i_nes ?_ | refine i_rbl ?_) | ((with_reducible refine i_eVarX ?_); refine ⟨_, rfl, ?_⟩) | ((with_reducible refine i_len1 ?_ ?_); · exact Nat.le_of_ble_eq_true rfl))
      exact hnx _ _ ⟨o2, .int m, u2, .inl ⟨m, rfl, bm⟩, rfl, rfl⟩
    · repeat (first | (with_reducible first | refine i_sIf ?_ | refine i_sNil ?_ | refine i_sRet ?_ | refine i_sAsg ?_ | refine i_sDrop ?_ | refine i_sPut ?_ | refine i_sPar ?_ | refine i_eC ?_ | refine i_eOp ?_ | refine i_eChain ?_ | refine i_eB ?_ | refine i_eUn ?_ | refine i_eTup ?_ | refine i_eLst ?_ | refine i_eLstM ?_ | refine i_eAnd ?_ | refine i_eOr ?_ | refine i_eNot ?_ | refine i_eIf ?_ | refine i_bOf ?_ | refine i_bAnd ?_ | refine i_bOr ?_ | refine i_bNot ?_ | refine i_bYes ?_ | refine i_aNil ?_ | refine i_aCons ?_ | refine i_eCall ?_ | refine i_eCallKw ?_ | refine i_eCut ?_ | refine i_oNone ?_ | refine i_oSome ?_ | refine i_eM ?_ | refine i_sSq ?_ | refine i_sRange1 ?_ | refine i_sRange2 ?_ | refine i_sEnum ?_ | refine i_eIsi ?_ | refine i_eIsi2 ?_ | refine i_eLc ?_ | refine i_eLcM ?_ | refine i_sFor ?_ | refine i_eDisp1 ?_ | refine i_bl ?_ | refine i_int ?_ | refine i_nm ?_ | refine i_one ?_ | refine i_two ?_ | refine i_rng ?_ | refine i_len0 ?_ | refine i_int1 ?_ | refine i_intb ?_ | refine i_abs ?_ | refine i_add ?_ | refine i_sub ?_ | refine i_lt ?_ | refine i_le ?_ | refine i_gt ?_ | refine i_ge ?_ | refine i_eqi ?_ | refine i_is ?_ | refine i_isn ?_ | refine i_nes ?_ | refine i_rbl ?_) | ((with_reducible refine i_eVarX ?_); refine ⟨_, rfl, ?_⟩) | ((with_reducible refine i_len1 ?_ ?_); · exact Nat.le_of_ble_eq_true rfl))
      refine ⟨K + 1, o1, T, rfl, rfl, u1, by omega, fun o2 m u2 bm => ?_⟩
      repeat (first | (with_reducible first | refine i_sIf ?_ | refine i_sNil ?_ | refine i_sRet ?_ | refine i_sAsg ?_ | refine i_sDrop ?_ | refine i_sPut ?_ | refine i_sPar ?_ | refine i_eC ?_ | refine i_eOp ?_ | refine i_eChain ?_ | refine i_eB ?_ | refine i_eUn ?_ | refine i_eTup ?_ | refine i_eLst ?_ | refine i_eLstM ?_ | refine i_eAnd ?_ | refine i_eOr ?_ | refine i_eNot ?_ | refine i_eIf ?_ | refine i_bOf ?_ | refine i_bAnd ?_ | refine i_bOr ?_ | refine i_bNot ?_ | refine i_bYes ?_ | refine i_aNil ?_ | refine i_aCons ?_ | refine i_eCall ?_ | refine i_eCallKw ?_ | refine i_eCut ?_ | refine i_oNone ?_ | refine i_oSome ?_ | refine i_eM ?_ | refine i_sSq ?_ | refine i_sRange1 ?_ | refine i_sRange2 ?_ | refine i_sEnum ?_ | refine i_eIsi ?_ | refine i_eIsi2 ?_ | refine i_eLc ?_ | refine i_eLcM ?_ | refine i_sFor ?_ | refine i_eDisp1 ?_ | refine i_bl ?_ | refine i_int ?_ | refine i_nm ?_ | refine i_one ?_ | refine i_two ?_ | refine i_rng ?_ | refine i_len0 ?_ | refine i_int1 ?_ | refine i_intb ?_ | refine i_abs ?_ | refine i_add ?_ | refine i_sub ?_ | refine i_lt ?_ | refine i_le ?_ | refine i_gt ?_ | refine i_ge ?_ | refine i_eqi ?_ | refine i_is ?_ | refine i_isn ?_ | refine i_nes ?_ | refine i_rbl ?_) | ((with_reducible refine i_eVarX ?_); refine ⟨_, rfl, ?_⟩) | ((with_reducible refine i_len1 ?_ ?_); · exact Nat.le_of_ble_eq_true rfl))
      exact hnx _ _ ⟨o2, m, u2.mono (by omega), .inr bm, rfl, rfl⟩
  clear u
  obtain ⟨o, d3, u, v3, rfl, rfl⟩ := hP
  -- least
  refine cut (fun ρ' S' => ∃ o d4, Urn (K + 6) o ∧ NI d4 ∧ S' = some o :: T ∧ ρ' = [x0, some (.ref 0), some d, some d3, some d4, x5, x6, x7, x8, x9, x10, x11, x12, x13]) (fun N' hrt hnx => ?_) (fun ρ' S' hP => ?_)
  · repeat (first | (with_reducible first | refine i_sIf ?_ | refine i_sNil ?_ | refine i_sRet ?_ | refine i_sAsg ?_ | refine i_sDrop ?_ | refine i_sPut ?_ | refine i_sPar ?_ | refine i_eC ?_ | refine i_eOp ?_ | refine i_eChain ?_ | refine i_eB ?_ | refine i_eUn ?_ | refine i_eTup ?_ | refine i_eLst ?_ | refine i_eLstM ?_ | refine i_eAnd ?_ | refine i_eOr ?_ | refine i_eNot ?_ | refine i_eIf ?_ | refine i_bOf ?_ | refine i_bAnd ?_ | refine i_bOr ?_ | refine i_bNot ?_ | refine i_bYes ?_ | refine i_aNil ?_ | refine i_aCons ?_ | refine i_eCall ?_ | refine i_eCallKw ?_ | refine i_eCut ?_ | refine i_oNone ?_ | refine i_oSome ?_ | refine i_eM ?_ | refine i_sSq ?_ | refine i_sRange1 ?_ | refine i_sRange2 ?_ | refine i_sEnum ?_ | refine i_eIsi ?_ | refine i_eIsi2 ?_ | refine i_eLc ?_ | refine i_eLcM ?_ | refine i_sFor ?_ | refine i_eDisp1 ?_ | refine i_bl ?_ | refine i_int ?_ | refine i_nm ?_ | refine i_one ?_ | refine i_two ?_ | refine i_rng ?_ | refine i_len0 ?_ | refine i_int1 ?_ | refine i_intb ?_ | refine i_abs ?_ | refine i_add ?_ | refine i_sub ?_ | refine i_lt ?_ | refine i_le ?_ | refine i_gt ?_ | refine i_ge ?_ | refine i_eqi ?_ | refine i_is ?_ | refine i_isn ?_ | refine i_nes ?_ | refine i_rbl ?_) | ((with_reducible refine i_eVarX ?_); refine ⟨_, rfl, ?_⟩) | ((with_reducible refine i_len1 ?_ ?_); · exact Nat.le_of_ble_eq_true rfl))
    refine ⟨K + 3, o, T, 3, rfl, rfl, u, by omega, by decide, by decide, fun o1 n u1 n0 n1 => ?_⟩
    repeat (first | (with_reducible first | refine i_sIf ?_ | refine i_sNil ?_ | refine i_sRet ?_ | refine i_sAsg ?_ | refine i_sDrop ?_ | refine i_sPut ?_ | refine i_sPar ?_ | refine i_eC ?_ | refine i_eOp ?_ | refine i_eChain ?_ | refine i_eB ?_ | refine i_eUn ?_ | refine i_eTup ?_ | refine i_eLst ?_ | refine i_eLstM ?_ | refine i_eAnd ?_ | refine i_eOr ?_ | refine i_eNot ?_ | refine i_eIf ?_ | refine i_bOf ?_ | refine i_bAnd ?_ | refine i_bOr ?_ | refine i_bNot ?_ | refine i_bYes ?_ | refine i_aNil ?_ | refine i_aCons ?_ | refine i_eCall ?_ | refine i_eCallKw ?_ | refine i_eCut ?_ | refine i_oNone ?_ | refine i_oSome ?_ | refine i_eM ?_ | refine i_sSq ?_ | refine i_sRange1 ?_ | refine i_sRange2 ?_ | refine i_sEnum ?_ | refine i_eIsi ?_ | refine i_eIsi2 ?_ | refine i_eLc ?_ | refine i_eLcM ?_ | refine i_sFor ?_ | refine i_eDisp1 ?_ | refine i_bl ?_ | refine i_int ?_ | refine i_nm ?_ | refine i_one ?_ | refine i_two ?_ | refine i_rng ?_ | refine i_len0 ?_ | refine i_int1 ?_ | refine i_intb ?_ | refine i_abs ?_ | refine i_add ?_ | refine i_sub ?_ | refine i_lt ?_ | refine i_le ?_ | refine i_gt ?_ | refine i_ge ?_ | refine i_eqi ?_ | refine i_is ?_ | refine i_isn ?_ | refine i_nes ?_ | refine i_rbl ?_) | ((with_reducible refine i_eVarX ?_); refine ⟨_, rfl, ?_⟩) | ((with_reducible refine i_len1 ?_ ?_); · exact Nat.le_of_ble_eq_true rfl))
    refine ite_by (fun _ => ?_) (fun _ => ?_)
    · repeat (first | (with_reducible first | refine i_sIf ?_ | refine i_sNil ?_ | refine i_sRet ?_ | refine i_sAsg ?_ | refine i_sDrop ?_ | refine i_sPut ?_ | refine i_sPar ?_ | refine i_eC ?_ | refine i_eOp ?_ | refine i_eChain ?_ | refine i_eB ?_ | refine i_eUn ?_ | refine i_eTup ?_ | refine i_eLst ?_ | refine i_eLstM ?_ | refine i_eAnd ?_ | refine i_eOr ?_ | refine i_eNot ?_ | refine i_eIf ?_ | refine i_bOf ?_ | refine i_bAnd ?_ | refine i_bOr ?_ | refine i_bNot ?_ | refine i_bYes ?_ | refine i_aNil ?_ | refine i_aCons ?_ | refine i_eCall ?_ | refine i_eCallKw ?_ | refine i_eCut ?_ | refine i_oNone ?_ | refine i_oSome ?_ | refine i_eM ?_ | refine i_sSq ?_ | refine i_sRange1 ?_ | refine i_sRange2 ?_ | refine i_sEnum ?_ | refine i_eIsi ?_ | refine i_eIsi2 ?_ | refine i_eLc ?_ | refine i_eLcM ?_ | refine i_sFor ?_ | refine i_eDisp1 ?_ | refine i_bl ?_ | refine i_int ?_ | refine i_nm ?_ | refine i_one ?_ | refine i_two ?_ | refine i_rng ?_ | refine i_len0 ?_ | refine i_int1 ?_ | refine i_intb ?_ | refine i_abs ?_ | refine i_add ?_ | refine i_sub ?_ | refine i_lt ?_ | refine i_le ?_ | refine i_gt ?_ | refine i_ge ?_ | refine i_eqi ?_ | refine i_is ?_ | refine i_isn ?_ | refine i_nes ?_ | refine i_rbl ?_) | ((with_reducible refine i_eVarX ?_); refine ⟨_, rfl, ?_⟩) | ((with_reducible refine i_len1 ?_ ?_); · exact Nat.le_of_ble_eq_true rfl))
      exact hnx _ _ ⟨o1, .non, u1.mono (by omega), .inl rfl, rfl, rfl⟩
    · repeat (first | (with_reducible first | refine i_sIf ?_ | refine i_sNil ?_ | refine i_sRet ?_ | refine i_sAsg ?_ | refine i_sDrop ?_ | refine i_sPut ?_ | refine i_sPar ?_ | refine i_eC ?_ | refine i_eOp ?_ | refine i_eChain ?_ | refine i_eB ?_ | refine i_eUn ?_ | refine i_eTup ?_ | refine i_eLst ?_ | refine i_eLstM ?_ | refine i_eAnd ?_ | refine i_eOr ?_ | refine i_eNot ?_ | refine i_eIf ?_ | refine i_bOf ?_ | refine i_bAnd ?_ | refine i_bOr ?_ | refine i_bNot ?_ | refine i_bYes ?_ | refine i_aNil ?_ | refine i_aCons ?_ | refine i_eCall ?_ | refine i_eCallKw ?_ | refine i_eCut ?_ | refine i_oNone ?_ | refine i_oSome ?_ | refine i_eM ?_ | refine i_sSq ?_ | refine i_sRange1 ?_ | refine i_sRange2 ?_ | refine i_sEnum ?_ | refine i_eIsi ?_ | refine i_eIsi2 ?_ | refine i_eLc ?_ | refine i_eLcM ?_ | refine i_sFor ?_ | refine i_eDisp1 ?_ | refine i_bl ?_ | refine i_int ?_ | refine i_nm ?_ | refine i_one ?_ | refine i_two ?_ | refine i_rng ?_ | refine i_len0 ?_ | refine i_int1 ?_ | refine i_intb ?_ | refine i_abs ?_ | refine i_add ?_ | refine i_sub ?_ | refine i_lt ?_ | refine i_le ?_ | refine i_gt ?_ | refine i_ge ?_ | refine i_eqi ?_ | refine i_is ?_ | refine i_isn ?_ | refine i_nes ?_ | refine i_rbl ?_) | ((with_reducible refine i_eVarX ?_); refine ⟨_, rfl, ?_⟩) | ((with_reducible refine i_len1 ?_ ?_); · exact Nat.le_of_ble_eq_true rfl))
      refine ⟨K + 3 + 1, o1, T, rfl, rfl, u1, by omega, fun o2 m u2 bm => ?_⟩
      repeat (first | (with_reducible first | refine i_sIf ?_ | refine i_sNil ?_ | refine i_sRet ?_ | refine i_sAsg ?_ | refine i_sDrop ?_ | refine i_sPut ?_ | refine i_sPar ?_ | refine i_eC ?_ | refine i_eOp ?_ | refine i_eChain ?_ | refine i_eB ?_ | refine i_eUn ?_ | refine i_eTup ?_ | refine i_eLst ?_ | refine i_eLstM ?_ | refine i_eAnd ?_ | refine i_eOr ?_ | refine i_eNot ?_ | refine i_eIf ?_ | refine i_bOf ?_ | refine i_bAnd ?_ | refine i_bOr ?_ | refine i_bNot ?_ | refine i_bYes ?_ | refine i_aNil ?_ | refine i_aCons ?_ | refine i_eCall ?_ | refine i_eCallKw ?_ | refine i_eCut ?_ | refine i_oNone ?_ | refine i_oSome ?_ | refine i_eM ?_ | refine i_sSq ?_ | refine i_sRange1 ?_ | refine i_sRange2 ?_ | refine i_sEnum ?_ | refine i_eIsi ?_ | refine i_eIsi2 ?_ | refine i_eLc ?_ | refine i_eLcM ?_ | refine i_sFor ?_ | refine i_eDisp1 ?_ | refine i_bl ?_ | refine i_int ?_ | refine i_nm ?_ | refine i_one ?_ | refine i_two ?_ | refine i_rng ?_ | refine i_len0 ?_ | refine i_int1 ?_ | refine i_intb ?_ | refine i_abs ?_ | refine i_add ?_ | refine i_sub ?_ | refine i_lt ?_ | refine i_le ?_ | refine i_gt ?_ | refine i_ge ?_ | refine i_eqi ?_ | refine i_is ?_ | refine i_isn ?_ | refine i_nes ?_ | refine i_rbl ?_) | ((with_reducible refine i_eVarX ?_); refine ⟨_, rfl, ?_⟩) | ((with_reducible refine i_len1 ?_ ?_); · exact Nat.le_of_ble_eq_true rfl))
      exact hnx _ _ ⟨o2, .int m, u2, .inr ⟨m, rfl⟩, rfl, rfl⟩
  clear u
  obtain ⟨o, d4, u, v4, rfl, rfl⟩ := hP
  -- most
  refine cut (fun ρ' S' => ∃ o d5, Urn (K + 9) o ∧ NI d5 ∧ S' = some o :: T ∧ ρ' = [x0, some (.ref 0), some d, some d3, some d4, some d5, x6, x7, x8, x9, x10, x11, x12, x13]) (fun N' hrt hnx => ?_) (fun ρ' S' hP => ?_)
  · repeat (first | (with_reducible first | refine i_sIf ?_ | refine i_sNil ?_ | refine i_sRet ?_ | refine i_sAsg ?_ | refine i_sDrop ?_ | refine i_sPut ?_ | refine i_sPar ?_ | refine i_eC ?_ | refine i_eOp ?_ | refine i_eChain ?_ | refine i_eB ?_ | refine i_eUn ?_ | refine i_eTup ?_ | refine i_eLst ?_ | refine i_eLstM ?_ | refine i_eAnd ?_ | refine i_eOr ?_ | refine i_eNot ?_ | refine i_eIf ?_ | refine i_bOf ?_ | refine i_bAnd ?_ | refine i_bOr ?_ | refine i_bNot ?_ | refine i_bYes ?_ | refine i_aNil ?_ | refine i_aCons ?_ | refine i_eCall ?_ | refine i_eCallKw ?_ | refine i_eCut ?_ | refine i_oNone ?_ | refine i_oSome ?_ | refine i_eM ?_ | refine i_sSq ?_ | refine i_sRange1 ?_ | refine i_sRange2 ?_ | refine i_sEnum ?_ | refine i_eIsi ?_ | refine i_eIsi2 ?_ | refine i_eLc ?_ | refine i_eLcM ?_ | refine i_sFor ?_ | refine i_eDisp1 ?_ | refine i_bl ?_ | refine i_int ?_ | refine i_nm ?_ | refine i_one ?_ | refine i_two ?_ | refine i_rng ?_ | refine i_len0 ?_ | refine i_int1 ?_ | refine i_intb ?_ | refine i_abs ?_ | refine i_add ?_ | refine i_sub ?_ | refine i_lt ?_ | refine i_le ?_ | refine i_gt ?_ | refine i_ge ?_ | refine i_eqi ?_ | refine i_is ?_ | refine i_isn ?_ | refine i_nes ?_ | refine i_rbl ?_) | ((with_reducible refine i_eVarX ?_); refine ⟨_, rfl, ?_⟩) | ((with_reducible refine i_len1 ?_ ?_); · exact Nat.le_of_ble_eq_true rfl))
    refine ⟨K + 6, o, T, 3, rfl, rfl, u, by omega, by decide, by decide, fun o1 n u1 n0 n1 => ?_⟩
    repeat (first | (with_reducible first | refine i_sIf ?_ | refine i_sNil ?_ | refine i_sRet ?_ | refine i_sAsg ?_ | refine i_sDrop ?_ | refine i_sPut ?_ | refine i_sPar ?_ | refine i_eC ?_ | refine i_eOp ?_ | refine i_eChain ?_ | refine i_eB ?_ | refine i_eUn ?_ | refine i_eTup ?_ | refine i_eLst ?_ | refine i_eLstM ?_ | refine i_eAnd ?_ | refine i_eOr ?_ | refine i_eNot ?_ | refine i_eIf ?_ | refine i_bOf ?_ | refine i_bAnd ?_ | refine i_bOr ?_ | refine i_bNot ?_ | refine i_bYes ?_ | refine i_aNil ?_ | refine i_aCons ?_ | refine i_eCall ?_ | refine i_eCallKw ?_ | refine i_eCut ?_ | refine i_oNone ?_ | refine i_oSome ?_ | refine i_eM ?_ | refine i_sSq ?_ | refine i_sRange1 ?_ | refine i_sRange2 ?_ | refine i_sEnum ?_ | refine i_eIsi ?_ | refine i_eIsi2 ?_ | refine i_eLc ?_ | refine i_eLcM ?_ | refine i_sFor ?_ | refine i_eDisp1 ?_ | refine i_bl ?_ | refine i_int ?_ | refine i_nm ?_ | refine i_one ?_ | refine i_two ?_ | refine i_rng ?_ | refine i_len0 ?_ | refine i_int1 ?_ | refine i_intb ?_ | refine i_abs ?_ | refine i_add ?_ | refine i_sub ?_ | refine i_lt ?_ | refine i_le ?_ | refine i_gt ?_ | refine i_ge ?_ | refine i_eqi ?_ | refine i_is ?_ | refine i_isn ?_ | refine i_nes ?_ | refine i_rbl ?_) | ((with_reducible refine i_eVarX ?_); refine ⟨_, rfl, ?_⟩) | ((with_reducible refine i_len1 ?_ ?_); · exact Nat.le_of_ble_eq_true rfl))
    refine ite_by (fun _ => ?_) (fun _ => ?_)
    · repeat (first | (with_reducible first | refine i_sIf ?_ | refine i_sNil ?_ | refine i_sRet ?_ | refine i_sAsg ?_ | refine i_sDrop ?_ | refine i_sPut ?_ | refine i_sPar ?_ | refine i_eC ?_ | refine i_eOp ?_ | refine i_eChain ?_ | refine i_eB ?_ | refine i_eUn ?_ | refine i_eTup ?_ | refine i_eLst ?_ | refine i_eLstM ?_ | refine i_eAnd ?_ | refine i_eOr ?_ | refine i_eNot ?_ | refine i_eIf ?_ | refine i_bOf ?_ | refine i_bAnd ?_ | refine i_bOr ?_ | refine i_bNot ?_ | refine i_bYes ?_ | refine i_aNil ?_ | refine i_aCons ?_ | refine i_eCall ?_ | refine i_eCallKw ?_ | refine i_eCut ?_ | refine i_oNone ?_ | refine i_oSome ?_ | refine i_eM ?_ | refine i_sSq ?_ | refine i_sRange1 ?_ | refine i_sRange2 ?_ | refine i_sEnum ?_ | refine i_eIsi ?_ | refine i_eIsi2 ?_ | refine i_eLc ?_ | refine i_eLcM ?_ | refine i_sFor ?_ | refine i_eDisp1 ?_ | refine i_bl ?_ | refine i_int ?_ | refine i_nm ?_ | refine i_one ?_ | refine i_two ?_ | refine i_rng ?_ | refine i_len0 ?_ | refine i_int1 ?_ | refine i_intb ?_ | refine i_abs ?_ | refine i_add ?_ | refine i_sub ?_ | refine i_lt ?_ | refine i_le ?_ | refine i_gt ?_ | refine i_ge ?_ | refine i_eqi ?_ | refine i_is ?_ | refine i_isn ?_ | refine i_nes ?_ | refine i_rbl ?_) | ((with_reducible refine i_eVarX ?_); refine ⟨_, rfl, ?_⟩) | ((with_reducible refine i_len1 ?_ ?_); · exact Nat.le_of_ble_eq_true rfl))
      exact hnx _ _ ⟨o1, .non, u1.mono (by omega), .inl rfl, rfl, rfl⟩
    · repeat (first | (with_reducible first | refine i_sIf ?_ | refine i_sNil ?_ | refine i_sRet ?_ | refine i_sAsg ?_ | refine i_sDrop ?_ | refine i_sPut ?_ | refine i_sPar ?_ | refine i_eC ?_ | refine i_eOp ?_ | refine i_eChain ?_ | refine i_eB ?_ | refine i_eUn ?_ | refine i_eTup ?_ | refine i_eLst ?_ | refine i_eLstM ?_ | refine i_eAnd ?_ | refine i_eOr ?_ | refine i_eNot ?_ | refine i_eIf ?_ | refine i_bOf ?_ | refine i_bAnd ?_ | refine i_bOr ?_ | refine i_bNot ?_ | refine i_bYes ?_ | refine i_aNil ?_ | refine i_aCons ?_ | refine i_eCall ?_ | refine i_eCallKw ?_ | refine i_eCut ?_ | refine i_oNone ?_ | refine i_oSome ?_ | refine i_eM ?_ | refine i_sSq ?_ | refine i_sRange1 ?_ | refine i_sRange2 ?_ | refine i_sEnum ?_ | refine i_eIsi ?_ | refine i_eIsi2 ?_ | refine i_eLc ?_ | refine i_eLcM ?_ | refine i_sFor ?_ | refine i_eDisp1 ?_ | refine i_bl ?_ | refine i_int ?_ | refine i_nm ?_ | refine i_one ?_ | refine i_two ?_ | refine i_rng ?_ | refine i_len0 ?_ | refine i_int1 ?_ | refine i_intb ?_ | refine i_abs ?_ | refine i_add ?_ | refine i_sub ?_ | refine i_lt ?_ | refine i_le ?_ | refine i_gt ?_ | refine i_ge ?_ | refine i_eqi ?_ | refine i_is ?_ | refine i_isn ?_ | refine i_nes ?_ | refine i_rbl ?_) | ((with_reducible refine i_eVarX ?_); refine ⟨_, rfl, ?_⟩) | ((with_reducible refine i_len1 ?_ ?_); · exact Nat.le_of_ble_eq_true rfl))
      refine ⟨K + 6 + 1, o1, T, rfl, rfl, u1, by omega, fun o2 m u2 bm => ?_⟩
      repeat (first | (with_reducible first | refine i_sIf ?_ | refine i_sNil ?_ | refine i_sRet ?_ | refine i_sAsg ?_ | refine i_sDrop ?_ | refine i_sPut ?_ | refine i_sPar ?_ | refine i_eC ?_ | refine i_eOp ?_ | refine i_eChain ?_ | refine i_eB ?_ | refine i_eUn ?_ | refine i_eTup ?_ | refine i_eLst ?_ | refine i_eLstM ?_ | refine i_eAnd ?_ | refine i_eOr ?_ | refine i_eNot ?_ | refine i_eIf ?_ | refine i_bOf ?_ | refine i_bAnd ?_ | refine i_bOr ?_ | refine i_bNot ?_ | refine i_bYes ?_ | refine i_aNil ?_ | refine i_aCons ?_ | refine i_eCall ?_ | refine i_eCallKw ?_ | refine i_eCut ?_ | refine i_oNone ?_ | refine i_oSome ?_ | refine i_eM ?_ | refine i_sSq ?_ | refine i_sRange1 ?_ | refine i_sRange2 ?_ | refine i_sEnum ?_ | refine i_eIsi ?_ | refine i_eIsi2 ?_ | refine i_eLc ?_ | refine i_eLcM ?_ | refine i_sFor ?_ | refine i_eDisp1 ?_ | refine i_bl ?_ | refine i_int ?_ | refine i_nm ?_ | refine i_one ?_ | refine i_two ?_ | refine i_rng ?_ | refine i_len0 ?_ | refine i_int1 ?_ | refine i_intb ?_ | refine i_abs ?_ | refine i_add ?_ | refine i_sub ?_ | refine i_lt ?_ | refine i_le ?_ | refine i_gt ?_ | refine i_ge ?_ | refine i_eqi ?_ | refine i_is ?_ | refine i_isn ?_ | refine i_nes ?_ | refine i_rbl ?_) | ((with_reducible refine i_eVarX ?_); refine ⟨_, rfl, ?_⟩) | ((with_reducible refine i_len1 ?_ ?_); · exact Nat.le_of_ble_eq_true rfl))
      exact hnx _ _ ⟨o2, .int m, u2, .inr ⟨m, rfl⟩, rfl, rfl⟩
  clear u
  obtain ⟨o, d5, u, v5, rfl, rfl⟩ := hP
  -- least, most by the number
  refine cut (fun ρ' S' => ∃ o d4 d5, Urn (K + 11) o ∧ NI d4 ∧ NI d5 ∧ S' = some o :: T ∧ ρ' = [x0, some (.ref 0), some d, some d3, some d4, some d5, x6, x7, x8, x9, x10, x11, x12, x13]) (fun N' hrt hnx => ?_) (fun ρ' S' hP => ?_)
  · obtain ⟨t3, ht3⟩ := val_ty v3
    repeat (first | (with_reducible first | refine i_sIf ?_ | refine i_sNil ?_ | refine i_sRet ?_ | refine i_sAsg ?_ | refine i_sDrop ?_ | refine i_sPut ?_ | refine i_sPar ?_ | refine i_eC ?_ | refine i_eOp ?_ | refine i_eChain ?_ | refine i_eB ?_ | refine i_eUn ?_ | refine i_eTup ?_ | refine i_eLst ?_ | refine i_eLstM ?_ | refine i_eAnd ?_ | refine i_eOr ?_ | refine i_eNot ?_ | refine i_eIf ?_ | refine i_bOf ?_ | refine i_bAnd ?_ | refine i_bOr ?_ | refine i_bNot ?_ | refine i_bYes ?_ | refine i_aNil ?_ | refine i_aCons ?_ | refine i_eCall ?_ | refine i_eCallKw ?_ | refine i_eCut ?_ | refine i_oNone ?_ | refine i_oSome ?_ | refine i_eM ?_ | refine i_sSq ?_ | refine i_sRange1 ?_ | refine i_sRange2 ?_ | refine i_sEnum ?_ | refine i_eIsi ?_ | refine i_eIsi2 ?_ | refine i_eLc ?_ | refine i_eLcM ?_ | refine i_sFor ?_ | refine i_eDisp1 ?_ | refine i_bl ?_ | refine i_int ?_ | refine i_nm ?_ | refine i_one ?_ | refine i_two ?_ | refine i_rng ?_ | refine i_len0 ?_ | refine i_int1 ?_ | refine i_intb ?_ | refine i_abs ?_ | refine i_add ?_ | refine i_sub ?_ | refine i_lt ?_ | refine i_le ?_ | refine i_gt ?_ | refine i_ge ?_ | refine i_eqi ?_ | refine i_is ?_ | refine i_isn ?_ | refine i_nes ?_ | refine i_rbl ?_) | ((with_reducible refine i_eVarX ?_); refine ⟨_, rfl, ?_⟩) | ((with_reducible refine i_len1 ?_ ?_); · exact Nat.le_of_ble_eq_true rfl))
    refine ⟨d3, t3, rfl, ht3, ?_⟩
    repeat (first | (with_reducible first | refine i_sIf ?_ | refine i_sNil ?_ | refine i_sRet ?_ | refine i_sAsg ?_ | refine i_sDrop ?_ | refine i_sPut ?_ | refine i_sPar ?_ | refine i_eC ?_ | refine i_eOp ?_ | refine i_eChain ?_ | refine i_eB ?_ | refine i_eUn ?_ | refine i_eTup ?_ | refine i_eLst ?_ | refine i_eLstM ?_ | refine i_eAnd ?_ | refine i_eOr ?_ | refine i_eNot ?_ | refine i_eIf ?_ | refine i_bOf ?_ | refine i_bAnd ?_ | refine i_bOr ?_ | refine i_bNot ?_ | refine i_bYes ?_ | refine i_aNil ?_ | refine i_aCons ?_ | refine i_eCall ?_ | refine i_eCallKw ?_ | refine i_eCut ?_ | refine i_oNone ?_ | refine i_oSome ?_ | refine i_eM ?_ | refine i_sSq ?_ | refine i_sRange1 ?_ | refine i_sRange2 ?_ | refine i_sEnum ?_ | refine i_eIsi ?_ | refine i_eIsi2 ?_ | refine i_eLc ?_ | refine i_eLcM ?_ | refine i_sFor ?_ | refine i_eDisp1 ?_ | refine i_bl ?_ | refine i_int ?_ | refine i_nm ?_ | refine i_one ?_ | refine i_two ?_ | refine i_rng ?_ | refine i_len0 ?_ | refine i_int1 ?_ | refine i_intb ?_ | refine i_abs ?_ | refine i_add ?_ | refine i_sub ?_ | refine i_lt ?_ | refine i_le ?_ | refine i_gt ?_ | refine i_ge ?_ | refine i_eqi ?_ | refine i_is ?_ | refine i_isn ?_ | refine i_nes ?_ | refine i_rbl ?_) | ((with_reducible refine i_eVarX ?_); refine ⟨_, rfl, ?_⟩) | ((with_reducible refine i_len1 ?_ ?_); · exact Nat.le_of_ble_eq_true rfl))
    refine ite_by (fun hn => ?_) (fun _ => ?_)
    · obtain ⟨n, rfl⟩ := val_int v3 hn
      repeat (first | (with_reducible first | refine i_sIf ?_ | refine i_sNil ?_ | refine i_sRet ?_ | refine i_sAsg ?_ | refine i_sDrop ?_ | refine i_sPut ?_ | refine i_sPar ?_ | refine i_eC ?_ | refine i_eOp ?_ | refine i_eChain ?_ | refine i_eB ?_ | refine i_eUn ?_ | refine i_eTup ?_ | refine i_eLst ?_ | refine i_eLstM ?_ | refine i_eAnd ?_ | refine i_eOr ?_ | refine i_eNot ?_ | refine i_eIf ?_ | refine i_bOf ?_ | refine i_bAnd ?_ | refine i_bOr ?_ | refine i_bNot ?_ | refine i_bYes ?_ | refine i_aNil ?_ | refine i_aCons ?_ | refine i_eCall ?_ | refine i_eCallKw ?_ | refine i_eCut ?_ | refine i_oNone ?_ | refine i_oSome ?_ | refine i_eM ?_ | refine i_sSq ?_ | refine i_sRange1 ?_ | refine i_sRange2 ?_ | refine i_sEnum ?_ | refine i_eIsi ?_ | refine i_eIsi2 ?_ | refine i_eLc ?_ | refine i_eLcM ?_ | refine i_sFor ?_ | refine i_eDisp1 ?_ | refine i_bl ?_ | refine i_int ?_ | refine i_nm ?_ | refine i_one ?_ | refine i_two ?_ | refine i_rng ?_ | refine i_len0 ?_ | refine i_int1 ?_ | refine i_intb ?_ | refine i_abs ?_ | refine i_add ?_ | refine i_sub ?_ | refine i_lt ?_ | refine i_le ?_ | refine i_gt ?_ | refine i_ge ?_ | refine i_eqi ?_ | refine i_is ?_ | refine i_isn ?_ | refine i_nes ?_ | refine i_rbl ?_) | ((with_reducible refine i_eVarX ?_); refine ⟨_, rfl, ?_⟩) | ((with_reducible refine i_len1 ?_ ?_); · exact Nat.le_of_ble_eq_true rfl))
      refine ⟨K + 9, o, T, 3, rfl, rfl, u, by omega, by decide, by decide, fun o1 n1 u1 n0 n1 => ?_⟩
      repeat (first | (with_reducible first | refine i_sIf ?_ | refine i_sNil ?_ | refine i_sRet ?_ | refine i_sAsg ?_ | refine i_sDrop ?_ | refine i_sPut ?_ | refine i_sPar ?_ | refine i_eC ?_ | refine i_eOp ?_ | refine i_eChain ?_ | refine i_eB ?_ | refine i_eUn ?_ | refine i_eTup ?_ | refine i_eLst ?_ | refine i_eLstM ?_ | refine i_eAnd ?_ | refine i_eOr ?_ | refine i_eNot ?_ | refine i_eIf ?_ | refine i_bOf ?_ | refine i_bAnd ?_ | refine i_bOr ?_ | refine i_bNot ?_ | refine i_bYes ?_ | refine i_aNil ?_ | refine i_aCons ?_ | refine i_eCall ?_ | refine i_eCallKw ?_ | refine i_eCut ?_ | refine i_oNone ?_ | refine i_oSome ?_ | refine i_eM ?_ | refine i_sSq ?_ | refine i_sRange1 ?_ | refine i_sRange2 ?_ | refine i_sEnum ?_ | refine i_eIsi ?_ | refine i_eIsi2 ?_ | refine i_eLc ?_ | refine i_eLcM ?_ | refine i_sFor ?_ | refine i_eDisp1 ?_ | refine i_bl ?_ | refine i_int ?_ | refine i_nm ?_ | refine i_one ?_ | refine i_two ?_ | refine i_rng ?_ | refine i_len0 ?_ | refine i_int1 ?_ | refine i_intb ?_ | refine i_abs ?_ | refine i_add ?_ | refine i_sub ?_ | refine i_lt ?_ | refine i_le ?_ | refine i_gt ?_ | refine i_ge ?_ | refine i_eqi ?_ | refine i_is ?_ | refine i_isn ?_ | refine i_nes ?_ | refine i_rbl ?_) | ((with_reducible refine i_eVarX ?_); refine ⟨_, rfl, ?_⟩) | ((with_reducible refine i_len1 ?_ ?_); · exact Nat.le_of_ble_eq_true rfl))
      refine ite_by (fun _ => ?_) (fun _ => ?_)
      · repeat (first | (with_reducible first | refine i_sIf ?_ | refine i_sNil ?_ | refine i_sRet ?_ | refine i_sAsg ?_ | refine i_sDrop ?_ | refine i_sPut ?_ | refine i_sPar ?_ | refine i_eC ?_ | refine i_eOp ?_ | refine i_eChain ?_ | refine i_eB ?_ | refine i_eUn ?_ | refine i_eTup ?_ | refine i_eLst ?_ | refine i_eLstM ?_ | refine i_eAnd ?_ | refine i_eOr ?_ | refine i_eNot ?_ | refine i_eIf ?_ | refine i_bOf ?_ | refine i_bAnd ?_ | refine i_bOr ?_ | refine i_bNot ?_ | refine i_bYes ?_ | refine i_aNil ?_ | refine i_aCons ?_ | refine i_eCall ?_ | refine i_eCallKw ?_ | refine i_eCut ?_ | refine i_oNone ?_ | refine i_oSome ?_ | refine i_eM ?_ | refine i_sSq ?_ | refine i_sRange1 ?_ | refine i_sRange2 ?_ | refine i_sEnum ?_ | refine i_eIsi ?_ | refine i_eIsi2 ?_ | refine i_eLc ?_ | refine i_eLcM ?_ | refine i_sFor ?_ | refine i_eDisp1 ?_ | refine i_bl ?_ | refine i_int ?_ | refine i_nm ?_ | refine i_one ?_ | refine i_two ?_ | refine i_rng ?_ | refine i_len0 ?_ | refine i_int1 ?_ | refine i_intb ?_ | refine i_abs ?_ | refine i_add ?_ | refine i_sub ?_ | refine i_lt ?_ | refine i_le ?_ | refine i_gt ?_ | refine i_ge ?_ | refine i_eqi ?_ | refine i_is ?_ | refine i_isn ?_ | refine i_nes ?_ | refine i_rbl ?_) | ((with_reducible refine i_eVarX ?_); refine ⟨_, rfl, ?_⟩) | ((with_reducible refine i_len1 ?_ ?_); · exact Nat.le_of_ble_eq_true rfl))
        refine ⟨K + 9 + 1, o1, T, 5, rfl, rfl, u1, by omega, by decide, by decide, fun o2 m u2 m0 m1 => ?_⟩
        have hm : m = 0 ∨ m = 1 ∨ m = 2 ∨ m = 3 ∨ m = 4 := by omega
        rcases hm with rfl | rfl | rfl | rfl | rfl
        · exact ix_of (i := 0) rfl rfl ⟨_, rfl, hnx _ _ ⟨o2, .int n, .non, u2, .inr ⟨_, rfl⟩, .inl rfl, rfl, rfl⟩⟩
        · exact ix_of (i := 1) rfl rfl ⟨_, rfl, hnx _ _ ⟨o2, .non, .int n, u2, .inl rfl, .inr ⟨_, rfl⟩, rfl, rfl⟩⟩
        · exact ix_of (i := 2) rfl rfl ⟨_, rfl, hnx _ _ ⟨o2, .int n, .int n, u2, .inr ⟨_, rfl⟩, .inr ⟨_, rfl⟩, rfl, rfl⟩⟩
        · exact ix_of (i := 3) rfl rfl ⟨_, rfl, hnx _ _ ⟨o2, .int (n + 1), .non, u2, .inr ⟨_, rfl⟩, .inl rfl, rfl, rfl⟩⟩
        · exact ix_of (i := 4) rfl rfl ⟨_, rfl, hnx _ _ ⟨o2, .non, .int (n - 1), u2, .inl rfl, .inr ⟨_, rfl⟩, rfl, rfl⟩⟩
      · repeat (first | (with_reducible first | refine i_sIf ?_ | refine i_sNil ?_ | refine i_sRet ?_ | refine i_sAsg ?_ | refine i_sDrop ?_ | refine i_sPut ?_ | refine i_sPar ?_ | refine i_eC ?_ | refine i_eOp ?_ | refine i_eChain ?_ | refine i_eB ?_ | refine i_eUn ?_ | refine i_eTup ?_ | refine i_eLst ?_ | refine i_eLstM ?_ | refine i_eAnd ?_ | refine i_eOr ?_ | refine i_eNot ?_ | refine i_eIf ?_ | refine i_bOf ?_ | refine i_bAnd ?_ | refine i_bOr ?_ | refine i_bNot ?_ | refine i_bYes ?_ | refine i_aNil ?_ | refine i_aCons ?_ | refine i_eCall ?_ | refine i_eCallKw ?_ | refine i_eCut ?_ | refine i_oNone ?_ | refine i_oSome ?_ | refine i_eM ?_ | refine i_sSq ?_ | refine i_sRange1 ?_ | refine i_sRange2 ?_ | refine i_sEnum ?_ | refine i_eIsi ?_ | refine i_eIsi2 ?_ | refine i_eLc ?_ | refine i_eLcM ?_ | refine i_sFor ?_ | refine i_eDisp1 ?_ | refine i_bl ?_ | refine i_int ?_ | refine i_nm ?_ | refine i_one ?_ | refine i_two ?_ | refine i_rng ?_ | refine i_len0 ?_ | refine i_int1 ?_ | refine i_intb ?_ | refine i_abs ?_ | refine i_add ?_ | refine i_sub ?_ | refine i_lt ?_ | refine i_le ?_ | refine i_gt ?_ | refine i_ge ?_ | refine i_eqi ?_ | refine i_is ?_ | refine i_isn ?_ | refine i_nes ?_ | refine i_rbl ?_) | ((with_reducible refine i_eVarX ?_); refine ⟨_, rfl, ?_⟩) | ((with_reducible refine i_len1 ?_ ?_); · exact Nat.le_of_ble_eq_true rfl))
        exact hnx _ _ ⟨o1, d4, d5, u1.mono (by omega), v4, v5, rfl, rfl⟩
    · repeat (first | (with_reducible first | refine i_sIf ?_ | refine i_sNil ?_ | refine i_sRet ?_ | refine i_sAsg ?_ | refine i_sDrop ?_ | refine i_sPut ?_ | refine i_sPar ?_ | refine i_eC ?_ | refine i_eOp ?_ | refine i_eChain ?_ | refine i_eB ?_ | refine i_eUn ?_ | refine i_eTup ?_ | refine i_eLst ?_ | refine i_eLstM ?_ | refine i_eAnd ?_ | refine i_eOr ?_ | refine i_eNot ?_ | refine i_eIf ?_ | refine i_bOf ?_ | refine i_bAnd ?_ | refine i_bOr ?_ | refine i_bNot ?_ | refine i_bYes ?_ | refine i_aNil ?_ | refine i_aCons ?_ | refine i_eCall ?_ | refine i_eCallKw ?_ | refine i_eCut ?_ | refine i_oNone ?_ | refine i_oSome ?_ | refine i_eM ?_ | refine i_sSq ?_ | refine i_sRange1 ?_ | refine i_sRange2 ?_ | refine i_sEnum ?_ | refine i_eIsi ?_ | refine i_eIsi2 ?_ | refine i_eLc ?_ | refine i_eLcM ?_ | refine i_sFor ?_ | refine i_eDisp1 ?_ | refine i_bl ?_ | refine i_int ?_ | refine i_nm ?_ | refine i_one ?_ | refine i_two ?_ | refine i_rng ?_ | refine i_len0 ?_ | refine i_int1 ?_ | refine i_intb ?_ | refine i_abs ?_ | refine i_add ?_ | refine i_sub ?_ | refine i_lt ?_ | refine i_le ?_ | refine i_gt ?_ | refine i_ge ?_ | refine i_eqi ?_ | refine i_is ?_ | refine i_isn ?_ | refine i_nes ?_ | refine i_rbl ?_) | ((with_reducible refine i_eVarX ?_); refine ⟨_, rfl, ?_⟩) | ((with_reducible refine i_len1 ?_ ?_); · exact Nat.le_of_ble_eq_true rfl))
      exact hnx _ _ ⟨o, d4, d5, u.mono (by omega), v4, v5, rfl, rfl⟩
  clear u v4 v5
  obtain ⟨o, d4, d5, u, v4, v5, rfl, rfl⟩ := hP
  obtain ⟨t3, ht3⟩ := val_ty v3
  -- due
  refine cut (fun ρ' S' => S' = some o :: T ∧ ρ' = [x0, some (.ref 0), some d, some d3, some d4, some d5, some (.bl (isNum d3)), x7, x8, x9, x10, x11, x12, x13]) (fun N' hrt hnx => ?_) (fun ρ' S' hP => ?_)
  · repeat (first | (with_reducible first | refine i_sIf ?_ | refine i_sNil ?_ | refine i_sRet ?_ | refine i_sAsg ?_ | refine i_sDrop ?_ | refine i_sPut ?_ | refine i_sPar ?_ | refine i_eC ?_ | refine i_eOp ?_ | refine i_eChain ?_ | refine i_eB ?_ | refine i_eUn ?_ | refine i_eTup ?_ | refine i_eLst ?_ | refine i_eLstM ?_ | refine i_eAnd ?_ | refine i_eOr ?_ | refine i_eNot ?_ | refine i_eIf ?_ | refine i_bOf ?_ | refine i_bAnd ?_ | refine i_bOr ?_ | refine i_bNot ?_ | refine i_bYes ?_ | refine i_aNil ?_ | refine i_aCons ?_ | refine i_eCall ?_ | refine i_eCallKw ?_ | refine i_eCut ?_ | refine i_oNone ?_ | refine i_oSome ?_ | refine i_eM ?_ | refine i_sSq ?_ | refine i_sRange1 ?_ | refine i_sRange2 ?_ | refine i_sEnum ?_ | refine i_eIsi ?_ | refine i_eIsi2 ?_ | refine i_eLc ?_ | refine i_eLcM ?_ | refine i_sFor ?_ | refine i_eDisp1 ?_ | refine i_bl ?_ | refine i_int ?_ | refine i_nm ?_ | refine i_one ?_ | refine i_two ?_ | refine i_rng ?_ | refine i_len0 ?_ | refine i_int1 ?_ | refine i_intb ?_ | refine i_abs ?_ | refine i_add ?_ | refine i_sub ?_ | refine i_lt ?_ | refine i_le ?_ | refine i_gt ?_ | refine i_ge ?_ | refine i_eqi ?_ | refine i_is ?_ | refine i_isn ?_ | refine i_nes ?_ | refine i_rbl ?_) | ((with_reducible refine i_eVarX ?_); refine ⟨_, rfl, ?_⟩) | ((with_reducible refine i_len1 ?_ ?_); · exact Nat.le_of_ble_eq_true rfl))
    refine ⟨d3, t3, rfl, ht3, ?_⟩
    repeat (first | (with_reducible first | refine i_sIf ?_ | refine i_sNil ?_ | refine i_sRet ?_ | refine i_sAsg ?_ | refine i_sDrop ?_ | refine i_sPut ?_ | refine i_sPar ?_ | refine i_eC ?_ | refine i_eOp ?_ | refine i_eChain ?_ | refine i_eB ?_ | refine i_eUn ?_ | refine i_eTup ?_ | refine i_eLst ?_ | refine i_eLstM ?_ | refine i_eAnd ?_ | refine i_eOr ?_ | refine i_eNot ?_ | refine i_eIf ?_ | refine i_bOf ?_ | refine i_bAnd ?_ | refine i_bOr ?_ | refine i_bNot ?_ | refine i_bYes ?_ | refine i_aNil ?_ | refine i_aCons ?_ | refine i_eCall ?_ | refine i_eCallKw ?_ | refine i_eCut ?_ | refine i_oNone ?_ | refine i_oSome ?_ | refine i_eM ?_ | refine i_sSq ?_ | refine i_sRange1 ?_ | refine i_sRange2 ?_ | refine i_sEnum ?_ | refine i_eIsi ?_ | refine i_eIsi2 ?_ | refine i_eLc ?_ | refine i_eLcM ?_ | refine i_sFor ?_ | refine i_eDisp1 ?_ | refine i_bl ?_ | refine i_int ?_ | refine i_nm ?_ | refine i_one ?_ | refine i_two ?_ | refine i_rng ?_ | refine i_len0 ?_ | refine i_int1 ?_ | refine i_intb ?_ | refine i_abs ?_ | refine i_add ?_ | refine i_sub ?_ | refine i_lt ?_ | refine i_le ?_ | refine i_gt ?_ | refine i_ge ?_ | refine i_eqi ?_ | refine i_is ?_ | refine i_isn ?_ | refine i_nes ?_ | refine i_rbl ?_) | ((with_reducible refine i_eVarX ?_); refine ⟨_, rfl, ?_⟩) | ((with_reducible refine i_len1 ?_ ?_); · exact Nat.le_of_ble_eq_true rfl))
    exact hnx _ _ ⟨rfl, rfl⟩
  obtain ⟨rfl, rfl⟩ := hP
  -- is_integer
  refine cut (fun ρ' S' => S' = some o :: T ∧ ρ' = [x0, some (.ref 0), some d, some d3, some d4, some d5, some (.bl (isNum d3)), x7, x8, x9, x10, x11, x12, x13]) (fun N' hrt hnx => ?_) (fun ρ' S' hP => ?_)
  · repeat (first | (with_reducible first | refine i_sIf ?_ | refine i_sNil ?_ | refine i_sRet ?_ | refine i_sAsg ?_ | refine i_sDrop ?_ | refine i_sPut ?_ | refine i_sPar ?_ | refine i_eC ?_ | refine i_eOp ?_ | refine i_eChain ?_ | refine i_eB ?_ | refine i_eUn ?_ | refine i_eTup ?_ | refine i_eLst ?_ | refine i_eLstM ?_ | refine i_eAnd ?_ | refine i_eOr ?_ | refine i_eNot ?_ | refine i_eIf ?_ | refine i_bOf ?_ | refine i_bAnd ?_ | refine i_bOr ?_ | refine i_bNot ?_ | refine i_bYes ?_ | refine i_aNil ?_ | refine i_aCons ?_ | refine i_eCall ?_ | refine i_eCallKw ?_ | refine i_eCut ?_ | refine i_oNone ?_ | refine i_oSome ?_ | refine i_eM ?_ | refine i_sSq ?_ | refine i_sRange1 ?_ | refine i_sRange2 ?_ | refine i_sEnum ?_ | refine i_eIsi ?_ | refine i_eIsi2 ?_ | refine i_eLc ?_ | refine i_eLcM ?_ | refine i_sFor ?_ | refine i_eDisp1 ?_ | refine i_bl ?_ | refine i_int ?_ | refine i_nm ?_ | refine i_one ?_ | refine i_two ?_ | refine i_rng ?_ | refine i_len0 ?_ | refine i_int1 ?_ | refine i_intb ?_ | refine i_abs ?_ | refine i_add ?_ | refine i_sub ?_ | refine i_lt ?_ | refine i_le ?_ | refine i_gt ?_ | refine i_ge ?_ | refine i_eqi ?_ | refine i_is ?_ | refine i_isn ?_ | refine i_nes ?_ | refine i_rbl ?_) | ((with_reducible refine i_eVarX ?_); refine ⟨_, rfl, ?_⟩) | ((with_reducible refine i_len1 ?_ ?_); · exact Nat.le_of_ble_eq_true rfl))
    refine ⟨d3, t3, rfl, ht3, ?_⟩
    repeat (first | (with_reducible first | refine i_sIf ?_ | refine i_sNil ?_ | refine i_sRet ?_ | refine i_sAsg ?_ | refine i_sDrop ?_ | refine i_sPut ?_ | refine i_sPar ?_ | refine i_eC ?_ | refine i_eOp ?_ | refine i_eChain ?_ | refine i_eB ?_ | refine i_eUn ?_ | refine i_eTup ?_ | refine i_eLst ?_ | refine i_eLstM ?_ | refine i_eAnd ?_ | refine i_eOr ?_ | refine i_eNot ?_ | refine i_eIf ?_ | refine i_bOf ?_ | refine i_bAnd ?_ | refine i_bOr ?_ | refine i_bNot ?_ | refine i_bYes ?_ | refine i_aNil ?_ | refine i_aCons ?_ | refine i_eCall ?_ | refine i_eCallKw ?_ | refine i_eCut ?_ | refine i_oNone ?_ | refine i_oSome ?_ | refine i_eM ?_ | refine i_sSq ?_ | refine i_sRange1 ?_ | refine i_sRange2 ?_ | refine i_sEnum ?_ | refine i_eIsi ?_ | refine i_eIsi2 ?_ | refine i_eLc ?_ | refine i_eLcM ?_ | refine i_sFor ?_ | refine i_eDisp1 ?_ | refine i_bl ?_ | refine i_int ?_ | refine i_nm ?_ | refine i_one ?_ | refine i_two ?_ | refine i_rng ?_ | refine i_len0 ?_ | refine i_int1 ?_ | refine i_intb ?_ | refine i_abs ?_ | refine i_add ?_ | refine i_sub ?_ | refine i_lt ?_ | refine i_le ?_ | refine i_gt ?_ | refine i_ge ?_ | refine i_eqi ?_ | refine i_is ?_ | refine i_isn ?_ | refine i_nes ?_ | refine i_rbl ?_) | ((with_reducible refine i_eVarX ?_); refine ⟨_, rfl, ?_⟩) | ((with_reducible refine i_len1 ?_ ?_); · exact Nat.le_of_ble_eq_true rfl))
    rw [decide_eq_true rfl]
    refine iteF ?_
    repeat (first | (with_reducible first | refine i_sIf ?_ | refine i_sNil ?_ | refine i_sRet ?_ | refine i_sAsg ?_ | refine i_sDrop ?_ | refine i_sPut ?_ | refine i_sPar ?_ | refine i_eC ?_ | refine i_eOp ?_ | refine i_eChain ?_ | refine i_eB ?_ | refine i_eUn ?_ | refine i_eTup ?_ | refine i_eLst ?_ | refine i_eLstM ?_ | refine i_eAnd ?_ | refine i_eOr ?_ | refine i_eNot ?_ | refine i_eIf ?_ | refine i_bOf ?_ | refine i_bAnd ?_ | refine i_bOr ?_ | refine i_bNot ?_ | refine i_bYes ?_ | refine i_aNil ?_ | refine i_aCons ?_ | refine i_eCall ?_ | refine i_eCallKw ?_ | refine i_eCut ?_ | refine i_oNone ?_ | refine i_oSome ?_ | refine i_eM ?_ | refine i_sSq ?_ | refine i_sRange1 ?_ | refine i_sRange2 ?_ | refine i_sEnum ?_ | refine i_eIsi ?_ | refine i_eIsi2 ?_ | refine i_eLc ?_ | refine i_eLcM ?_ | refine i_sFor ?_ | refine i_eDisp1 ?_ | refine i_bl ?_ | refine i_int ?_ | refine i_nm ?_ | refine i_one ?_ | refine i_two ?_ | refine i_rng ?_ | refine i_len0 ?_ | refine i_int1 ?_ | refine i_intb ?_ | refine i_abs ?_ | refine i_add ?_ | refine i_sub ?_ | refine i_lt ?_ | refine i_le ?_ | refine i_gt ?_ | refine i_ge ?_ | refine i_eqi ?_ | refine i_is ?_ | refine i_isn ?_ | refine i_nes ?_ | refine i_rbl ?_) | ((with_reducible refine i_eVarX ?_); refine ⟨_, rfl, ?_⟩) | ((with_reducible refine i_len1 ?_ ?_); · exact Nat.le_of_ble_eq_true rfl))
    refine ⟨rfl, rfl, d3, t3, rfl, ht3, ?_⟩
    repeat (first | (with_reducible first | refine i_sIf ?_ | refine i_sNil ?_ | refine i_sRet ?_ | refine i_sAsg ?_ | refine i_sDrop ?_ | refine i_sPut ?_ | refine i_sPar ?_ | refine i_eC ?_ | refine i_eOp ?_ | refine i_eChain ?_ | refine i_eB ?_ | refine i_eUn ?_ | refine i_eTup ?_ | refine i_eLst ?_ | refine i_eLstM ?_ | refine i_eAnd ?_ | refine i_eOr ?_ | refine i_eNot ?_ | refine i_eIf ?_ | refine i_bOf ?_ | refine i_bAnd ?_ | refine i_bOr ?_ | refine i_bNot ?_ | refine i_bYes ?_ | refine i_aNil ?_ | refine i_aCons ?_ | refine i_eCall ?_ | refine i_eCallKw ?_ | refine i_eCut ?_ | refine i_oNone ?_ | refine i_oSome ?_ | refine i_eM ?_ | refine i_sSq ?_ | refine i_sRange1 ?_ | refine i_sRange2 ?_ | refine i_sEnum ?_ | refine i_eIsi ?_ | refine i_eIsi2 ?_ | refine i_eLc ?_ | refine i_eLcM ?_ | refine i_sFor ?_ | refine i_eDisp1 ?_ | refine i_bl ?_ | refine i_int ?_ | refine i_nm ?_ | refine i_one ?_ | refine i_two ?_ | refine i_rng ?_ | refine i_len0 ?_ | refine i_int1 ?_ | refine i_intb ?_ | refine i_abs ?_ | refine i_add ?_ | refine i_sub ?_ | refine i_lt ?_ | refine i_le ?_ | refine i_gt ?_ | refine i_ge ?_ | refine i_eqi ?_ | refine i_is ?_ | refine i_isn ?_ | refine i_nes ?_ | refine i_rbl ?_) | ((with_reducible refine i_eVarX ?_); refine ⟨_, rfl, ?_⟩) | ((with_reducible refine i_len1 ?_ ?_); · exact Nat.le_of_ble_eq_true rfl))
    rw [decide_eq_true rfl]
    refine iteF ?_
    repeat (first | (with_reducible first | refine i_sIf ?_ | refine i_sNil ?_ | refine i_sRet ?_ | refine i_sAsg ?_ | refine i_sDrop ?_ | refine i_sPut ?_ | refine i_sPar ?_ | refine i_eC ?_ | refine i_eOp ?_ | refine i_eChain ?_ | refine i_eB ?_ | refine i_eUn ?_ | refine i_eTup ?_ | refine i_eLst ?_ | refine i_eLstM ?_ | refine i_eAnd ?_ | refine i_eOr ?_ | refine i_eNot ?_ | refine i_eIf ?_ | refine i_bOf ?_ | refine i_bAnd ?_ | refine i_bOr ?_ | refine i_bNot ?_ | refine i_bYes ?_ | refine i_aNil ?_ | refine i_aCons ?_ | refine i_eCall ?_ | refine i_eCallKw ?_ | refine i_eCut ?_ | refine i_oNone ?_ | refine i_oSome ?_ | refine i_eM ?_ | refine i_sSq ?_ | refine i_sRange1 ?_ | refine i_sRange2 ?_ | refine i_sEnum ?_ | refine i_eIsi ?_ | refine i_eIsi2 ?_ | refine i_eLc ?_ | refine i_eLcM ?_ | refine i_sFor ?_ | refine i_eDisp1 ?_ | refine i_bl ?_ | refine i_int ?_ | refine i_nm ?_ | refine i_one ?_ | refine i_two ?_ | refine i_rng ?_ | refine i_len0 ?_ | refine i_int1 ?_ | refine i_intb ?_ | refine i_abs ?_ | refine i_add ?_ | refine i_sub ?_ | refine i_lt ?_ | refine i_le ?_ | refine i_gt ?_ | refine i_ge ?_ | refine i_eqi ?_ | refine i_is ?_ | refine i_isn ?_ | refine i_nes ?_ | refine i_rbl ?_) | ((with_reducible refine i_eVarX ?_); refine ⟨_, rfl, ?_⟩) | ((with_reducible refine i_len1 ?_ ?_); · exact Nat.le_of_ble_eq_true rfl))
    exact hnx _ _ ⟨rfl, rfl⟩
  obtain ⟨rfl, rfl⟩ := hP
  -- due, within
  refine cut (fun ρ' S' => S' = some o :: T ∧ ρ' = [x0, some (.ref 0), some d, some d3, some d4, some d5, some (.bl (inside d3 d4 d5)), x7, x8, x9, x10, x11, x12, x13]) (fun N' hrt hnx => ?_) (fun ρ' S' hP => ?_)
  · repeat (first | (with_reducible first | refine i_sIf ?_ | refine i_sNil ?_ | refine i_sRet ?_ | refine i_sAsg ?_ | refine i_sDrop ?_ | refine i_sPut ?_ | refine i_sPar ?_ | refine i_eC ?_ | refine i_eOp ?_ | refine i_eChain ?_ | refine i_eB ?_ | refine i_eUn ?_ | refine i_eTup ?_ | refine i_eLst ?_ | refine i_eLstM ?_ | refine i_eAnd ?_ | refine i_eOr ?_ | refine i_eNot ?_ | refine i_eIf ?_ | refine i_bOf ?_ | refine i_bAnd ?_ | refine i_bOr ?_ | refine i_bNot ?_ | refine i_bYes ?_ | refine i_aNil ?_ | refine i_aCons ?_ | refine i_eCall ?_ | refine i_eCallKw ?_ | refine i_eCut ?_ | refine i_oNone ?_ | refine i_oSome ?_ | refine i_eM ?_ | refine i_sSq ?_ | refine i_sRange1 ?_ | refine i_sRange2 ?_ | refine i_sEnum ?_ | refine i_eIsi ?_ | refine i_eIsi2 ?_ | refine i_eLc ?_ | refine i_eLcM ?_ | refine i_sFor ?_ | refine i_eDisp1 ?_ | refine i_bl ?_ | refine i_int ?_ | refine i_nm ?_ | refine i_one ?_ | refine i_two ?_ | refine i_rng ?_ | refine i_len0 ?_ | refine i_int1 ?_ | refine i_intb ?_ | refine i_abs ?_ | refine i_add ?_ | refine i_sub ?_ | refine i_lt ?_ | refine i_le ?_ | refine i_gt ?_ | refine i_ge ?_ | refine i_eqi ?_ | refine i_is ?_ | refine i_isn ?_ | refine i_nes ?_ | refine i_rbl ?_) | ((with_reducible refine i_eVarX ?_); refine ⟨_, rfl, ?_⟩) | ((with_reducible refine i_len1 ?_ ?_); · exact Nat.le_of_ble_eq_true rfl))
    refine ite_by (fun hn => ?_) (fun hn => ?_)
    · obtain ⟨n, rfl⟩ := val_int v3 hn
      repeat (first | (with_reducible first | refine i_sIf ?_ | refine i_sNil ?_ | refine i_sRet ?_ | refine i_sAsg ?_ | refine i_sDrop ?_ | refine i_sPut ?_ | refine i_sPar ?_ | refine i_eC ?_ | refine i_eOp ?_ | refine i_eChain ?_ | refine i_eB ?_ | refine i_eUn ?_ | refine i_eTup ?_ | refine i_eLst ?_ | refine i_eLstM ?_ | refine i_eAnd ?_ | refine i_eOr ?_ | refine i_eNot ?_ | refine i_eIf ?_ | refine i_bOf ?_ | refine i_bAnd ?_ | refine i_bOr ?_ | refine i_bNot ?_ | refine i_bYes ?_ | refine i_aNil ?_ | refine i_aCons ?_ | refine i_eCall ?_ | refine i_eCallKw ?_ | refine i_eCut ?_ | refine i_oNone ?_ | refine i_oSome ?_ | refine i_eM ?_ | refine i_sSq ?_ | refine i_sRange1 ?_ | refine i_sRange2 ?_ | refine i_sEnum ?_ | refine i_eIsi ?_ | refine i_eIsi2 ?_ | refine i_eLc ?_ | refine i_eLcM ?_ | refine i_sFor ?_ | refine i_eDisp1 ?_ | refine i_bl ?_ | refine i_int ?_ | refine i_nm ?_ | refine i_one ?_ | refine i_two ?_ | refine i_rng ?_ | refine i_len0 ?_ | refine i_int1 ?_ | refine i_intb ?_ | refine i_abs ?_ | refine i_add ?_ | refine i_sub ?_ | refine i_lt ?_ | refine i_le ?_ | refine i_gt ?_ | refine i_ge ?_ | refine i_eqi ?_ | refine i_is ?_ | refine i_isn ?_ | refine i_nes ?_ | refine i_rbl ?_) | ((with_reducible refine i_eVarX ?_); refine ⟨_, rfl, ?_⟩) | ((with_reducible refine i_len1 ?_ ?_); · exact Nat.le_of_ble_eq_true rfl))
      rcases v4 with rfl | ⟨a, rfl⟩
      · refine iteT ?_
        repeat (first | (with_reducible first | refine i_sIf ?_ | refine i_sNil ?_ | refine i_sRet ?_ | refine i_sAsg ?_ | refine i_sDrop ?_ | refine i_sPut ?_ | refine i_sPar ?_ | refine i_eC ?_ | refine i_eOp ?_ | refine i_eChain ?_ | refine i_eB ?_ | refine i_eUn ?_ | refine i_eTup ?_ | refine i_eLst ?_ | refine i_eLstM ?_ | refine i_eAnd ?_ | refine i_eOr ?_ | refine i_eNot ?_ | refine i_eIf ?_ | refine i_bOf ?_ | refine i_bAnd ?_ | refine i_bOr ?_ | refine i_bNot ?_ | refine i_bYes ?_ | refine i_aNil ?_ | refine i_aCons ?_ | refine i_eCall ?_ | refine i_eCallKw ?_ | refine i_eCut ?_ | refine i_oNone ?_ | refine i_oSome ?_ | refine i_eM ?_ | refine i_sSq ?_ | refine i_sRange1 ?_ | refine i_sRange2 ?_ | refine i_sEnum ?_ | refine i_eIsi ?_ | refine i_eIsi2 ?_ | refine i_eLc ?_ | refine i_eLcM ?_ | refine i_sFor ?_ | refine i_eDisp1 ?_ | refine i_bl ?_ | refine i_int ?_ | refine i_nm ?_ | refine i_one ?_ | refine i_two ?_ | refine i_rng ?_ | refine i_len0 ?_ | refine i_int1 ?_ | refine i_intb ?_ | refine i_abs ?_ | refine i_add ?_ | refine i_sub ?_ | refine i_lt ?_ | refine i_le ?_ | refine i_gt ?_ | refine i_ge ?_ | refine i_eqi ?_ | refine i_is ?_ | refine i_isn ?_ | refine i_nes ?_ | refine i_rbl ?_) | ((with_reducible refine i_eVarX ?_); refine ⟨_, rfl, ?_⟩) | ((with_reducible refine i_len1 ?_ ?_); · exact Nat.le_of_ble_eq_true rfl))
        refine iteT ?_
        repeat (first | (with_reducible first | refine i_sIf ?_ | refine i_sNil ?_ | refine i_sRet ?_ | refine i_sAsg ?_ | refine i_sDrop ?_ | refine i_sPut ?_ | refine i_sPar ?_ | refine i_eC ?_ | refine i_eOp ?_ | refine i_eChain ?_ | refine i_eB ?_ | refine i_eUn ?_ | refine i_eTup ?_ | refine i_eLst ?_ | refine i_eLstM ?_ | refine i_eAnd ?_ | refine i_eOr ?_ | refine i_eNot ?_ | refine i_eIf ?_ | refine i_bOf ?_ | refine i_bAnd ?_ | refine i_bOr ?_ | refine i_bNot ?_ | refine i_bYes ?_ | refine i_aNil ?_ | refine i_aCons ?_ | refine i_eCall ?_ | refine i_eCallKw ?_ | refine i_eCut ?_ | refine i_oNone ?_ | refine i_oSome ?_ | refine i_eM ?_ | refine i_sSq ?_ | refine i_sRange1 ?_ | refine i_sRange2 ?_ | refine i_sEnum ?_ | refine i_eIsi ?_ | refine i_eIsi2 ?_ | refine i_eLc ?_ | refine i_eLcM ?_ | refine i_sFor ?_ | refine i_eDisp1 ?_ | refine i_bl ?_ | refine i_int ?_ | refine i_nm ?_ | refine i_one ?_ | refine i_two ?_ | refine i_rng ?_ | refine i_len0 ?_ | refine i_int1 ?_ | refine i_intb ?_ | refine i_abs ?_ | refine i_add ?_ | refine i_sub ?_ | refine i_lt ?_ | refine i_le ?_ | refine i_gt ?_ | refine i_ge ?_ | refine i_eqi ?_ | refine i_is ?_ | refine i_isn ?_ | refine i_nes ?_ | refine i_rbl ?_) | ((with_reducible refine i_eVarX ?_); refine ⟨_, rfl, ?_⟩) | ((with_reducible refine i_len1 ?_ ?_); · exact Nat.le_of_ble_eq_true rfl))
        rcases v5 with rfl | ⟨b, rfl⟩
        · refine iteT ?_
          repeat (first | (with_reducible first | refine i_sIf ?_ | refine i_sNil ?_ | refine i_sRet ?_ | refine i_sAsg ?_ | refine i_sDrop ?_ | refine i_sPut ?_ | refine i_sPar ?_ | refine i_eC ?_ | refine i_eOp ?_ | refine i_eChain ?_ | refine i_eB ?_ | refine i_eUn ?_ | refine i_eTup ?_ | refine i_eLst ?_ | refine i_eLstM ?_ | refine i_eAnd ?_ | refine i_eOr ?_ | refine i_eNot ?_ | refine i_eIf ?_ | refine i_bOf ?_ | refine i_bAnd ?_ | refine i_bOr ?_ | refine i_bNot ?_ | refine i_bYes ?_ | refine i_aNil ?_ | refine i_aCons ?_ | refine i_eCall ?_ | refine i_eCallKw ?_ | refine i_eCut ?_ | refine i_oNone ?_ | refine i_oSome ?_ | refine i_eM ?_ | refine i_sSq ?_ | refine i_sRange1 ?_ | refine i_sRange2 ?_ | refine i_sEnum ?_ | refine i_eIsi ?_ | refine i_eIsi2 ?_ | refine i_eLc ?_ | refine i_eLcM ?_ | refine i_sFor ?_ | refine i_eDisp1 ?_ | refine i_bl ?_ | refine i_int ?_ | refine i_nm ?_ | refine i_one ?_ | refine i_two ?_ | refine i_rng ?_ | refine i_len0 ?_ | refine i_int1 ?_ | refine i_intb ?_ | refine i_abs ?_ | refine i_add ?_ | refine i_sub ?_ | refine i_lt ?_ | refine i_le ?_ | refine i_gt ?_ | refine i_ge ?_ | refine i_eqi ?_ | refine i_is ?_ | refine i_isn ?_ | refine i_nes ?_ | refine i_rbl ?_) | ((with_reducible refine i_eVarX ?_); refine ⟨_, rfl, ?_⟩) | ((with_reducible refine i_len1 ?_ ?_); · exact Nat.le_of_ble_eq_true rfl))
          exact hnx _ _ ⟨rfl, rfl⟩
        · refine iteF ?_
          repeat (first | (with_reducible first | refine i_sIf ?_ | refine i_sNil ?_ | refine i_sRet ?_ | refine i_sAsg ?_ | refine i_sDrop ?_ | refine i_sPut ?_ | refine i_sPar ?_ | refine i_eC ?_ | refine i_eOp ?_ | refine i_eChain ?_ | refine i_eB ?_ | refine i_eUn ?_ | refine i_eTup ?_ | refine i_eLst ?_ | refine i_eLstM ?_ | refine i_eAnd ?_ | refine i_eOr ?_ | refine i_eNot ?_ | refine i_eIf ?_ | refine i_bOf ?_ | refine i_bAnd ?_ | refine i_bOr ?_ | refine i_bNot ?_ | refine i_bYes ?_ | refine i_aNil ?_ | refine i_aCons ?_ | refine i_eCall ?_ | refine i_eCallKw ?_ | refine i_eCut ?_ | refine i_oNone ?_ | refine i_oSome ?_ | refine i_eM ?_ | refine i_sSq ?_ | refine i_sRange1 ?_ | refine i_sRange2 ?_ | refine i_sEnum ?_ | refine i_eIsi ?_ | refine i_eIsi2 ?_ | refine i_eLc ?_ | refine i_eLcM ?_ | refine i_sFor ?_ | refine i_eDisp1 ?_ | refine i_bl ?_ | refine i_int ?_ | refine i_nm ?_ | refine i_one ?_ | refine i_two ?_ | refine i_rng ?_ | refine i_len0 ?_ | refine i_int1 ?_ | refine i_intb ?_ | refine i_abs ?_ | refine i_add ?_ | refine i_sub ?_ | refine i_lt ?_ | refine i_le ?_ | refine i_gt ?_ | refine i_ge ?_ | refine i_eqi ?_ | refine i_is ?_ | refine i_isn ?_ | refine i_nes ?_ | refine i_rbl ?_) | ((with_reducible refine i_eVarX ?_); refine ⟨_, rfl, ?_⟩) | ((with_reducible refine i_len1 ?_ ?_); · exact Nat.le_of_ble_eq_true rfl))
          exact hnx _ _ ⟨rfl, rfl⟩
      · refine iteF ?_
        repeat (first | (with_reducible first | refine i_sIf ?_ | refine i_sNil ?_ | refine i_sRet ?_ | refine i_sAsg ?_ | refine i_sDrop ?_ | refine i_sPut ?_ | refine i_sPar ?_ | refine i_eC ?_ | refine i_eOp ?_ | refine i_eChain ?_ | refine i_eB ?_ | refine i_eUn ?_ | refine i_eTup ?_ | refine i_eLst ?_ | refine i_eLstM ?_ | refine i_eAnd ?_ | refine i_eOr ?_ | refine i_eNot ?_ | refine i_eIf ?_ | refine i_bOf ?_ | refine i_bAnd ?_ | refine i_bOr ?_ | refine i_bNot ?_ | refine i_bYes ?_ | refine i_aNil ?_ | refine i_aCons ?_ | refine i_eCall ?_ | refine i_eCallKw ?_ | refine i_eCut ?_ | refine i_oNone ?_ | refine i_oSome ?_ | refine i_eM ?_ | refine i_sSq ?_ | refine i_sRange1 ?_ | refine i_sRange2 ?_ | refine i_sEnum ?_ | refine i_eIsi ?_ | refine i_eIsi2 ?_ | refine i_eLc ?_ | refine i_eLcM ?_ | refine i_sFor ?_ | refine i_eDisp1 ?_ | refine i_bl ?_ | refine i_int ?_ | refine i_nm ?_ | refine i_one ?_ | refine i_two ?_ | refine i_rng ?_ | refine i_len0 ?_ | refine i_int1 ?_ | refine i_intb ?_ | refine i_abs ?_ | refine i_add ?_ | refine i_sub ?_ | refine i_lt ?_ | refine i_le ?_ | refine i_gt ?_ | refine i_ge ?_ | refine i_eqi ?_ | refine i_is ?_ | refine i_isn ?_ | refine i_nes ?_ | refine i_rbl ?_) | ((with_reducible refine i_eVarX ?_); refine ⟨_, rfl, ?_⟩) | ((with_reducible refine i_len1 ?_ ?_); · exact Nat.le_of_ble_eq_true rfl))
        refine ite_by (fun ha => ?_) (fun ha => ?_)
        · repeat (first | (with_reducible first | refine i_sIf ?_ | refine i_sNil ?_ | refine i_sRet ?_ | refine i_sAsg ?_ | refine i_sDrop ?_ | refine i_sPut ?_ | refine i_sPar ?_ | refine i_eC ?_ | refine i_eOp ?_ | refine i_eChain ?_ | refine i_eB ?_ | refine i_eUn ?_ | refine i_eTup ?_ | refine i_eLst ?_ | refine i_eLstM ?_ | refine i_eAnd ?_ | refine i_eOr ?_ | refine i_eNot ?_ | refine i_eIf ?_ | refine i_bOf ?_ | refine i_bAnd ?_ | refine i_bOr ?_ | refine i_bNot ?_ | refine i_bYes ?_ | refine i_aNil ?_ | refine i_aCons ?_ | refine i_eCall ?_ | refine i_eCallKw ?_ | refine i_eCut ?_ | refine i_oNone ?_ | refine i_oSome ?_ | refine i_eM ?_ | refine i_sSq ?_ | refine i_sRange1 ?_ | refine i_sRange2 ?_ | refine i_sEnum ?_ | refine i_eIsi ?_ | refine i_eIsi2 ?_ | refine i_eLc ?_ | refine i_eLcM ?_ | refine i_sFor ?_ | refine i_eDisp1 ?_ | refine i_bl ?_ | refine i_int ?_ | refine i_nm ?_ | refine i_one ?_ | refine i_two ?_ | refine i_rng ?_ | refine i_len0 ?_ | refine i_int1 ?_ | refine i_intb ?_ | refine i_abs ?_ | refine i_add ?_ | refine i_sub ?_ | refine i_lt ?_ | refine i_le ?_ | refine i_gt ?_ | refine i_ge ?_ | refine i_eqi ?_ | refine i_is ?_ | refine i_isn ?_ | refine i_nes ?_ | refine i_rbl ?_) | ((with_reducible refine i_eVarX ?_); refine ⟨_, rfl, ?_⟩) | ((with_reducible refine i_len1 ?_ ?_); · exact Nat.le_of_ble_eq_true rfl))
          rcases v5 with rfl | ⟨b, rfl⟩
          · refine iteT ?_
            repeat (first | (with_reducible first | refine i_sIf ?_ | refine i_sNil ?_ | refine i_sRet ?_ | refine i_sAsg ?_ | refine i_sDrop ?_ | refine i_sPut ?_ | refine i_sPar ?_ | refine i_eC ?_ | refine i_eOp ?_ | refine i_eChain ?_ | refine i_eB ?_ | refine i_eUn ?_ | refine i_eTup ?_ | refine i_eLst ?_ | refine i_eLstM ?_ | refine i_eAnd ?_ | refine i_eOr ?_ | refine i_eNot ?_ | refine i_eIf ?_ | refine i_bOf ?_ | refine i_bAnd ?_ | refine i_bOr ?_ | refine i_bNot ?_ | refine i_bYes ?_ | refine i_aNil ?_ | refine i_aCons ?_ | refine i_eCall ?_ | refine i_eCallKw ?_ | refine i_eCut ?_ | refine i_oNone ?_ | refine i_oSome ?_ | refine i_eM ?_ | refine i_sSq ?_ | refine i_sRange1 ?_ | refine i_sRange2 ?_ | refine i_sEnum ?_ | refine i_eIsi ?_ | refine i_eIsi2 ?_ | refine i_eLc ?_ | refine i_eLcM ?_ | refine i_sFor ?_ | refine i_eDisp1 ?_ | refine i_bl ?_ | refine i_int ?_ | refine i_nm ?_ | refine i_one ?_ | refine i_two ?_ | refine i_rng ?_ | refine i_len0 ?_ | refine i_int1 ?_ | refine i_intb ?_ | refine i_abs ?_ | refine i_add ?_ | refine i_sub ?_ | refine i_lt ?_ | refine i_le ?_ | refine i_gt ?_ | refine i_ge ?_ | refine i_eqi ?_ | refine i_is ?_ | refine i_isn ?_ | refine i_nes ?_ | refine i_rbl ?_) | ((with_reducible refine i_eVarX ?_); refine ⟨_, rfl, ?_⟩) | ((with_reducible refine i_len1 ?_ ?_); · exact Nat.le_of_ble_eq_true rfl))
            exact hnx _ _ ⟨rfl, by simp only [inside, isNum, isN, leD, ha]; rfl⟩
          · refine iteF ?_
            repeat (first | (with_reducible first | refine i_sIf ?_ | refine i_sNil ?_ | refine i_sRet ?_ | refine i_sAsg ?_ | refine i_sDrop ?_ | refine i_sPut ?_ | refine i_sPar ?_ | refine i_eC ?_ | refine i_eOp ?_ | refine i_eChain ?_ | refine i_eB ?_ | refine i_eUn ?_ | refine i_eTup ?_ | refine i_eLst ?_ | refine i_eLstM ?_ | refine i_eAnd ?_ | refine i_eOr ?_ | refine i_eNot ?_ | refine i_eIf ?_ | refine i_bOf ?_ | refine i_bAnd ?_ | refine i_bOr ?_ | refine i_bNot ?_ | refine i_bYes ?_ | refine i_aNil ?_ | refine i_aCons ?_ | refine i_eCall ?_ | refine i_eCallKw ?_ | refine i_eCut ?_ | refine i_oNone ?_ | refine i_oSome ?_ | refine i_eM ?_ | refine i_sSq ?_ | refine i_sRange1 ?_ | refine i_sRange2 ?_ | refine i_sEnum ?_ | refine i_eIsi ?_ | refine i_eIsi2 ?_ | refine i_eLc ?_ | refine i_eLcM ?_ | refine i_sFor ?_ | refine i_eDisp1 ?_ | refine i_bl ?_ | refine i_int ?_ | refine i_nm ?_ | refine i_one ?_ | refine i_two ?_ | refine i_rng ?_ | refine i_len0 ?_ | refine i_int1 ?_ | refine i_intb ?_ | refine i_abs ?_ | refine i_add ?_ | refine i_sub ?_ | refine i_lt ?_ | refine i_le ?_ | refine i_gt ?_ | refine i_ge ?_ | refine i_eqi ?_ | refine i_is ?_ | refine i_isn ?_ | refine i_nes ?_ | refine i_rbl ?_) | ((with_reducible refine i_eVarX ?_); refine ⟨_, rfl, ?_⟩) | ((with_reducible refine i_len1 ?_ ?_); · exact Nat.le_of_ble_eq_true rfl))
            exact hnx _ _ ⟨rfl, by simp only [inside, isNum, isN, leD, ha]; rfl⟩
        · repeat (first | (with_reducible first | refine i_sIf ?_ | refine i_sNil ?_ | refine i_sRet ?_ | refine i_sAsg ?_ | refine i_sDrop ?_ | refine i_sPut ?_ | refine i_sPar ?_ | refine i_eC ?_ | refine i_eOp ?_ | refine i_eChain ?_ | refine i_eB ?_ | refine i_eUn ?_ | refine i_eTup ?_ | refine i_eLst ?_ | refine i_eLstM ?_ | refine i_eAnd ?_ | refine i_eOr ?_ | refine i_eNot ?_ | refine i_eIf ?_ | refine i_bOf ?_ | refine i_bAnd ?_ | refine i_bOr ?_ | refine i_bNot ?_ | refine i_bYes ?_ | refine i_aNil ?_ | refine i_aCons ?_ | refine i_eCall ?_ | refine i_eCallKw ?_ | refine i_eCut ?_ | refine i_oNone ?_ | refine i_oSome ?_ | refine i_eM ?_ | refine i_sSq ?_ | refine i_sRange1 ?_ | refine i_sRange2 ?_ | refine i_sEnum ?_ | refine i_eIsi ?_ | refine i_eIsi2 ?_ | refine i_eLc ?_ | refine i_eLcM ?_ | refine i_sFor ?_ | refine i_eDisp1 ?_ | refine i_bl ?_ | refine i_int ?_ | refine i_nm ?_ | refine i_one ?_ | refine i_two ?_ | refine i_rng ?_ | refine i_len0 ?_ | refine i_int1 ?_ | refine i_intb ?_ | refine i_abs ?_ | refine i_add ?_ | refine i_sub ?_ | refine i_lt ?_ | refine i_le ?_ | refine i_gt ?_ | refine i_ge ?_ | refine i_eqi ?_ | refine i_is ?_ | refine i_isn ?_ | refine i_nes ?_ | refine i_rbl ?_) | ((with_reducible refine i_eVarX ?_); refine ⟨_, rfl, ?_⟩) | ((with_reducible refine i_len1 ?_ ?_); · exact Nat.le_of_ble_eq_true rfl))
          exact hnx _ _ ⟨rfl, by simp only [inside, isNum, isN, leD, ha]; rfl⟩
    · repeat (first | (with_reducible first | refine i_sIf ?_ | refine i_sNil ?_ | refine i_sRet ?_ | refine i_sAsg ?_ | refine i_sDrop ?_ | refine i_sPut ?_ | refine i_sPar ?_ | refine i_eC ?_ | refine i_eOp ?_ | refine i_eChain ?_ | refine i_eB ?_ | refine i_eUn ?_ | refine i_eTup ?_ | refine i_eLst ?_ | refine i_eLstM ?_ | refine i_eAnd ?_ | refine i_eOr ?_ | refine i_eNot ?_ | refine i_eIf ?_ | refine i_bOf ?_ | refine i_bAnd ?_ | refine i_bOr ?_ | refine i_bNot ?_ | refine i_bYes ?_ | refine i_aNil ?_ | refine i_aCons ?_ | refine i_eCall ?_ | refine i_eCallKw ?_ | refine i_eCut ?_ | refine i_oNone ?_ | refine i_oSome ?_ | refine i_eM ?_ | refine i_sSq ?_ | refine i_sRange1 ?_ | refine i_sRange2 ?_ | refine i_sEnum ?_ | refine i_eIsi ?_ | refine i_eIsi2 ?_ | refine i_eLc ?_ | refine i_eLcM ?_ | refine i_sFor ?_ | refine i_eDisp1 ?_ | refine i_bl ?_ | refine i_int ?_ | refine i_nm ?_ | refine i_one ?_ | refine i_two ?_ | refine i_rng ?_ | refine i_len0 ?_ | refine i_int1 ?_ | refine i_intb ?_ | refine i_abs ?_ | refine i_add ?_ | refine i_sub ?_ | refine i_lt ?_ | refine i_le ?_ | refine i_gt ?_ | refine i_ge ?_ | refine i_eqi ?_ | refine i_is ?_ | refine i_isn ?_ | refine i_nes ?_ | refine i_rbl ?_) | ((with_reducible refine i_eVarX ?_); refine ⟨_, rfl, ?_⟩) | ((with_reducible refine i_len1 ?_ ?_); · exact Nat.le_of_ble_eq_true rfl))
      exact hnx _ _ ⟨rfl, by simp only [inside, hn]; rfl⟩
  obtain ⟨rfl, rfl⟩ := hP
  -- is_within
  refine cut (fun ρ' S' => S' = some o :: T ∧ ρ' = [x0, some (.ref 0), some d, some d3, some d4, some d5, some (.bl (inside d3 d4 d5)), x7, x8, x9, x10, x11, x12, x13]) (fun N' hrt hnx => ?_) (fun ρ' S' hP => ?_)
  · repeat (first | (with_reducible first | refine i_sIf ?_ | refine i_sNil ?_ | refine i_sRet ?_ | refine i_sAsg ?_ | refine i_sDrop ?_ | refine i_sPut ?_ | refine i_sPar ?_ | refine i_eC ?_ | refine i_eOp ?_ | refine i_eChain ?_ | refine i_eB ?_ | refine i_eUn ?_ | refine i_eTup ?_ | refine i_eLst ?_ | refine i_eLstM ?_ | refine i_eAnd ?_ | refine i_eOr ?_ | refine i_eNot ?_ | refine i_eIf ?_ | refine i_bOf ?_ | refine i_bAnd ?_ | refine i_bOr ?_ | refine i_bNot ?_ | refine i_bYes ?_ | refine i_aNil ?_ | refine i_aCons ?_ | refine i_eCall ?_ | refine i_eCallKw ?_ | refine i_eCut ?_ | refine i_oNone ?_ | refine i_oSome ?_ | refine i_eM ?_ | refine i_sSq ?_ | refine i_sRange1 ?_ | refine i_sRange2 ?_ | refine i_sEnum ?_ | refine i_eIsi ?_ | refine i_eIsi2 ?_ | refine i_eLc ?_ | refine i_eLcM ?_ | refine i_sFor ?_ | refine i_eDisp1 ?_ | refine i_bl ?_ | refine i_int ?_ | refine i_nm ?_ | refine i_one ?_ | refine i_two ?_ | refine i_rng ?_ | refine i_len0 ?_ | refine i_int1 ?_ | refine i_intb ?_ | refine i_abs ?_ | refine i_add ?_ | refine i_sub ?_ | refine i_lt ?_ | refine i_le ?_ | refine i_gt ?_ | refine i_ge ?_ | refine i_eqi ?_ | refine i_is ?_ | refine i_isn ?_ | refine i_nes ?_ | refine i_rbl ?_) | ((with_reducible refine i_eVarX ?_); refine ⟨_, rfl, ?_⟩) | ((with_reducible refine i_len1 ?_ ?_); · exact Nat.le_of_ble_eq_true rfl))
    refine ⟨d3, d4, d5, t3, rfl, ht3, v4, v5, ?_⟩
    repeat (first | (with_reducible first | refine i_sIf ?_ | refine i_sNil ?_ | refine i_sRet ?_ | refine i_sAsg ?_ | refine i_sDrop ?_ | refine i_sPut ?_ | refine i_sPar ?_ | refine i_eC ?_ | refine i_eOp ?_ | refine i_eChain ?_ | refine i_eB ?_ | refine i_eUn ?_ | refine i_eTup ?_ | refine i_eLst ?_ | refine i_eLstM ?_ | refine i_eAnd ?_ | refine i_eOr ?_ | refine i_eNot ?_ | refine i_eIf ?_ | refine i_bOf ?_ | refine i_bAnd ?_ | refine i_bOr ?_ | refine i_bNot ?_ | refine i_bYes ?_ | refine i_aNil ?_ | refine i_aCons ?_ | refine i_eCall ?_ | refine i_eCallKw ?_ | refine i_eCut ?_ | refine i_oNone ?_ | refine i_oSome ?_ | refine i_eM ?_ | refine i_sSq ?_ | refine i_sRange1 ?_ | refine i_sRange2 ?_ | refine i_sEnum ?_ | refine i_eIsi ?_ | refine i_eIsi2 ?_ | refine i_eLc ?_ | refine i_eLcM ?_ | refine i_sFor ?_ | refine i_eDisp1 ?_ | refine i_bl ?_ | refine i_int ?_ | refine i_nm ?_ | refine i_one ?_ | refine i_two ?_ | refine i_rng ?_ | refine i_len0 ?_ | refine i_int1 ?_ | refine i_intb ?_ | refine i_abs ?_ | refine i_add ?_ | refine i_sub ?_ | refine i_lt ?_ | refine i_le ?_ | refine i_gt ?_ | refine i_ge ?_ | refine i_eqi ?_ | refine i_is ?_ | refine i_isn ?_ | refine i_nes ?_ | refine i_rbl ?_) | ((with_reducible refine i_eVarX ?_); refine ⟨_, rfl, ?_⟩) | ((with_reducible refine i_len1 ?_ ?_); · exact Nat.le_of_ble_eq_true rfl))
    rw [decide_eq_true rfl]
    refine iteF ?_
    repeat (first | (with_reducible first | refine i_sIf ?_ | refine i_sNil ?_ | refine i_sRet ?_ | refine i_sAsg ?_ | refine i_sDrop ?_ | refine i_sPut ?_ | refine i_sPar ?_ | refine i_eC ?_ | refine i_eOp ?_ | refine i_eChain ?_ | refine i_eB ?_ | refine i_eUn ?_ | refine i_eTup ?_ | refine i_eLst ?_ | refine i_eLstM ?_ | refine i_eAnd ?_ | refine i_eOr ?_ | refine i_eNot ?_ | refine i_eIf ?_ | refine i_bOf ?_ | refine i_bAnd ?_ | refine i_bOr ?_ | refine i_bNot ?_ | refine i_bYes ?_ | refine i_aNil ?_ | refine i_aCons ?_ | refine i_eCall ?_ | refine i_eCallKw ?_ | refine i_eCut ?_ | refine i_oNone ?_ | refine i_oSome ?_ | refine i_eM ?_ | refine i_sSq ?_ | refine i_sRange1 ?_ | refine i_sRange2 ?_ | refine i_sEnum ?_ | refine i_eIsi ?_ | refine i_eIsi2 ?_ | refine i_eLc ?_ | refine i_eLcM ?_ | refine i_sFor ?_ | refine i_eDisp1 ?_ | refine i_bl ?_ | refine i_int ?_ | refine i_nm ?_ | refine i_one ?_ | refine i_two ?_ | refine i_rng ?_ | refine i_len0 ?_ | refine i_int1 ?_ | refine i_intb ?_ | refine i_abs ?_ | refine i_add ?_ | refine i_sub ?_ | refine i_lt ?_ | refine i_le ?_ | refine i_gt ?_ | refine i_ge ?_ | refine i_eqi ?_ | refine i_is ?_ | refine i_isn ?_ | refine i_nes ?_ | refine i_rbl ?_) | ((with_reducible refine i_eVarX ?_); refine ⟨_, rfl, ?_⟩) | ((with_reducible refine i_len1 ?_ ?_); · exact Nat.le_of_ble_eq_true rfl))
    refine ⟨rfl, rfl, d3, d4, d5, t3, rfl, ht3, v4, v5, ?_⟩
    repeat (first | (with_reducible first | refine i_sIf ?_ | refine i_sNil ?_ | refine i_sRet ?_ | refine i_sAsg ?_ | refine i_sDrop ?_ | refine i_sPut ?_ | refine i_sPar ?_ | refine i_eC ?_ | refine i_eOp ?_ | refine i_eChain ?_ | refine i_eB ?_ | refine i_eUn ?_ | refine i_eTup ?_ | refine i_eLst ?_ | refine i_eLstM ?_ | refine i_eAnd ?_ | refine i_eOr ?_ | refine i_eNot ?_ | refine i_eIf ?_ | refine i_bOf ?_ | refine i_bAnd ?_ | refine i_bOr ?_ | refine i_bNot ?_ | refine i_bYes ?_ | refine i_aNil ?_ | refine i_aCons ?_ | refine i_eCall ?_ | refine i_eCallKw ?_ | refine i_eCut ?_ | refine i_oNone ?_ | refine i_oSome ?_ | refine i_eM ?_ | refine i_sSq ?_ | refine i_sRange1 ?_ | refine i_sRange2 ?_ | refine i_sEnum ?_ | refine i_eIsi ?_ | refine i_eIsi2 ?_ | refine i_eLc ?_ | refine i_eLcM ?_ | refine i_sFor ?_ | refine i_eDisp1 ?_ | refine i_bl ?_ | refine i_int ?_ | refine i_nm ?_ | refine i_one ?_ | refine i_two ?_ | refine i_rng ?_ | refine i_len0 ?_ | refine i_int1 ?_ | refine i_intb ?_ | refine i_abs ?_ | refine i_add ?_ | refine i_sub ?_ | refine i_lt ?_ | refine i_le ?_ | refine i_gt ?_ | refine i_ge ?_ | refine i_eqi ?_ | refine i_is ?_ | refine i_isn ?_ | refine i_nes ?_ | refine i_rbl ?_) | ((with_reducible refine i_eVarX ?_); refine ⟨_, rfl, ?_⟩) | ((with_reducible refine i_len1 ?_ ?_); · exact Nat.le_of_ble_eq_true rfl))
    rw [decide_eq_true rfl]
    refine iteF ?_
    repeat (first | (with_reducible first | refine i_sIf ?_ | refine i_sNil ?_ | refine i_sRet ?_ | refine i_sAsg ?_ | refine i_sDrop ?_ | refine i_sPut ?_ | refine i_sPar ?_ | refine i_eC ?_ | refine i_eOp ?_ | refine i_eChain ?_ | refine i_eB ?_ | refine i_eUn ?_ | refine i_eTup ?_ | refine i_eLst ?_ | refine i_eLstM ?_ | refine i_eAnd ?_ | refine i_eOr ?_ | refine i_eNot ?_ | refine i_eIf ?_ | refine i_bOf ?_ | refine i_bAnd ?_ | refine i_bOr ?_ | refine i_bNot ?_ | refine i_bYes ?_ | refine i_aNil ?_ | refine i_aCons ?_ | refine i_eCall ?_ | refine i_eCallKw ?_ | refine i_eCut ?_ | refine i_oNone ?_ | refine i_oSome ?_ | refine i_eM ?_ | refine i_sSq ?_ | refine i_sRange1 ?_ | refine i_sRange2 ?_ | refine i_sEnum ?_ | refine i_eIsi ?_ | refine i_eIsi2 ?_ | refine i_eLc ?_ | refine i_eLcM ?_ | refine i_sFor ?_ | refine i_eDisp1 ?_ | refine i_bl ?_ | refine i_int ?_ | refine i_nm ?_ | refine i_one ?_ | refine i_two ?_ | refine i_rng ?_ | refine i_len0 ?_ | refine i_int1 ?_ | refine i_intb ?_ | refine i_abs ?_ | refine i_add ?_ | refine i_sub ?_ | refine i_lt ?_ | refine i_le ?_ | refine i_gt ?_ | refine i_ge ?_ | refine i_eqi ?_ | refine i_is ?_ | refine i_isn ?_ | refine i_nes ?_ | refine i_rbl ?_) | ((with_reducible refine i_eVarX ?_); refine ⟨_, rfl, ?_⟩) | ((with_reducible refine i_len1 ?_ ?_); · exact Nat.le_of_ble_eq_true rfl))
    exact hnx _ _ ⟨rfl, rfl⟩
  obtain ⟨rfl, rfl⟩ := hP
  -- pair
  refine cut (fun ρ' S' => ∃ o p, Urn (K + 21) o ∧ Pr p ∧ S' = some o :: T ∧ ρ' = [x0, some (.ref 0), some d, some d3, some d4, some d5, some (.bl (inside d3 d4 d5)), some p, x8, x9, x10, x11, x12, x13]) (fun N' hrt hnx => ?_) (fun ρ' S' hP => ?_)
  · repeat (first | (with_reducible first | refine i_sIf ?_ | refine i_sNil ?_ | refine i_sRet ?_ | refine i_sAsg ?_ | refine i_sDrop ?_ | refine i_sPut ?_ | refine i_sPar ?_ | refine i_eC ?_ | refine i_eOp ?_ | refine i_eChain ?_ | refine i_eB ?_ | refine i_eUn ?_ | refine i_eTup ?_ | refine i_eLst ?_ | refine i_eLstM ?_ | refine i_eAnd ?_ | refine i_eOr ?_ | refine i_eNot ?_ | refine i_eIf ?_ | refine i_bOf ?_ | refine i_bAnd ?_ | refine i_bOr ?_ | refine i_bNot ?_ | refine i_bYes ?_ | refine i_aNil ?_ | refine i_aCons ?_ | refine i_eCall ?_ | refine i_eCallKw ?_ | refine i_eCut ?_ | refine i_oNone ?_ | refine i_oSome ?_ | refine i_eM ?_ | refine i_sSq ?_ | refine i_sRange1 ?_ | refine i_sRange2 ?_ | refine i_sEnum ?_ | refine i_eIsi ?_ | refine i_eIsi2 ?_ | refine i_eLc ?_ | refine i_eLcM ?_ | refine i_sFor ?_ | refine i_eDisp1 ?_ | refine i_bl ?_ | refine i_int ?_ | refine i_nm ?_ | refine i_one ?_ | refine i_two ?_ | refine i_rng ?_ | refine i_len0 ?_ | refine i_int1 ?_ | refine i_intb ?_ | refine i_abs ?_ | refine i_add ?_ | refine i_sub ?_ | refine i_lt ?_ | refine i_le ?_ | refine i_gt ?_ | refine i_ge ?_ | refine i_eqi ?_ | refine i_is ?_ | refine i_isn ?_ | refine i_nes ?_ | refine i_rbl ?_) | ((with_reducible refine i_eVarX ?_); refine ⟨_, rfl, ?_⟩) | ((with_reducible refine i_len1 ?_ ?_); · exact Nat.le_of_ble_eq_true rfl))
    refine ⟨K + 11, o, T, rfl, rfl, u, by omega, fun o1 p u1 pp => ?_⟩
    repeat (first | (with_reducible first | refine i_sIf ?_ | refine i_sNil ?_ | refine i_sRet ?_ | refine i_sAsg ?_ | refine i_sDrop ?_ | refine i_sPut ?_ | refine i_sPar ?_ | refine i_eC ?_ | refine i_eOp ?_ | refine i_eChain ?_ | refine i_eB ?_ | refine i_eUn ?_ | refine i_eTup ?_ | refine i_eLst ?_ | refine i_eLstM ?_ | refine i_eAnd ?_ | refine i_eOr ?_ | refine i_eNot ?_ | refine i_eIf ?_ | refine i_bOf ?_ | refine i_bAnd ?_ | refine i_bOr ?_ | refine i_bNot ?_ | refine i_bYes ?_ | refine i_aNil ?_ | refine i_aCons ?_ | refine i_eCall ?_ | refine i_eCallKw ?_ | refine i_eCut ?_ | refine i_oNone ?_ | refine i_oSome ?_ | refine i_eM ?_ | refine i_sSq ?_ | refine i_sRange1 ?_ | refine i_sRange2 ?_ | refine i_sEnum ?_ | refine i_eIsi ?_ | refine i_eIsi2 ?_ | refine i_eLc ?_ | refine i_eLcM ?_ | refine i_sFor ?_ | refine i_eDisp1 ?_ | refine i_bl ?_ | refine i_int ?_ | refine i_nm ?_ | refine i_one ?_ | refine i_two ?_ | refine i_rng ?_ | refine i_len0 ?_ | refine i_int1 ?_ | refine i_intb ?_ | refine i_abs ?_ | refine i_add ?_ | refine i_sub ?_ | refine i_lt ?_ | refine i_le ?_ | refine i_gt ?_ | refine i_ge ?_ | refine i_eqi ?_ | refine i_is ?_ | refine i_isn ?_ | refine i_nes ?_ | refine i_rbl ?_) | ((with_reducible refine i_eVarX ?_); refine ⟨_, rfl, ?_⟩) | ((with_reducible refine i_len1 ?_ ?_); · exact Nat.le_of_ble_eq_true rfl))
    exact hnx _ _ ⟨o1, p, u1, pp, rfl, rfl⟩
  clear u
  obtain ⟨o, p, u, vp, rfl, rfl⟩ := hP
  -- is_square
  refine cut (fun ρ' S' => S' = some o :: T ∧ ρ' = [x0, some (.ref 0), some d, some d3, some d4, some d5, some (.bl (inside d3 d4 d5)), some p, x8, x9, x10, x11, x12, x13]) (fun N' hrt hnx => ?_) (fun ρ' S' hP => ?_)
  · repeat (first | (with_reducible first | refine i_sIf ?_ | refine i_sNil ?_ | refine i_sRet ?_ | refine i_sAsg ?_ | refine i_sDrop ?_ | refine i_sPut ?_ | refine i_sPar ?_ | refine i_eC ?_ | refine i_eOp ?_ | refine i_eChain ?_ | refine i_eB ?_ | refine i_eUn ?_ | refine i_eTup ?_ | refine i_eLst ?_ | refine i_eLstM ?_ | refine i_eAnd ?_ | refine i_eOr ?_ | refine i_eNot ?_ | refine i_eIf ?_ | refine i_bOf ?_ | refine i_bAnd ?_ | refine i_bOr ?_ | refine i_bNot ?_ | refine i_bYes ?_ | refine i_aNil ?_ | refine i_aCons ?_ | refine i_eCall ?_ | refine i_eCallKw ?_ | refine i_eCut ?_ | refine i_oNone ?_ | refine i_oSome ?_ | refine i_eM ?_ | refine i_sSq ?_ | refine i_sRange1 ?_ | refine i_sRange2 ?_ | refine i_sEnum ?_ | refine i_eIsi ?_ | refine i_eIsi2 ?_ | refine i_eLc ?_ | refine i_eLcM ?_ | refine i_sFor ?_ | refine i_eDisp1 ?_ | refine i_bl ?_ | refine i_int ?_ | refine i_nm ?_ | refine i_one ?_ | refine i_two ?_ | refine i_rng ?_ | refine i_len0 ?_ | refine i_int1 ?_ | refine i_intb ?_ | refine i_abs ?_ | refine i_add ?_ | refine i_sub ?_ | refine i_lt ?_ | refine i_le ?_ | refine i_gt ?_ | refine i_ge ?_ | refine i_eqi ?_ | refine i_is ?_ | refine i_isn ?_ | refine i_nes ?_ | refine i_rbl ?_) | ((with_reducible refine i_eVarX ?_); refine ⟨_, rfl, ?_⟩) | ((with_reducible refine i_len1 ?_ ?_); · exact Nat.le_of_ble_eq_true rfl))
    refine ⟨p, rfl, pr_flat vp, ?_⟩
    repeat (first | (with_reducible first | refine i_sIf ?_ | refine i_sNil ?_ | refine i_sRet ?_ | refine i_sAsg ?_ | refine i_sDrop ?_ | refine i_sPut ?_ | refine i_sPar ?_ | refine i_eC ?_ | refine i_eOp ?_ | refine i_eChain ?_ | refine i_eB ?_ | refine i_eUn ?_ | refine i_eTup ?_ | refine i_eLst ?_ | refine i_eLstM ?_ | refine i_eAnd ?_ | refine i_eOr ?_ | refine i_eNot ?_ | refine i_eIf ?_ | refine i_bOf ?_ | refine i_bAnd ?_ | refine i_bOr ?_ | refine i_bNot ?_ | refine i_bYes ?_ | refine i_aNil ?_ | refine i_aCons ?_ | refine i_eCall ?_ | refine i_eCallKw ?_ | refine i_eCut ?_ | refine i_oNone ?_ | refine i_oSome ?_ | refine i_eM ?_ | refine i_sSq ?_ | refine i_sRange1 ?_ | refine i_sRange2 ?_ | refine i_sEnum ?_ | refine i_eIsi ?_ | refine i_eIsi2 ?_ | refine i_eLc ?_ | refine i_eLcM ?_ | refine i_sFor ?_ | refine i_eDisp1 ?_ | refine i_bl ?_ | refine i_int ?_ | refine i_nm ?_ | refine i_one ?_ | refine i_two ?_ | refine i_rng ?_ | refine i_len0 ?_ | refine i_int1 ?_ | refine i_intb ?_ | refine i_abs ?_ | refine i_add ?_ | refine i_sub ?_ | refine i_lt ?_ | refine i_le ?_ | refine i_gt ?_ | refine i_ge ?_ | refine i_eqi ?_ | refine i_is ?_ | refine i_isn ?_ | refine i_nes ?_ | refine i_rbl ?_) | ((with_reducible refine i_eVarX ?_); refine ⟨_, rfl, ?_⟩) | ((with_reducible refine i_len1 ?_ ?_); · exact Nat.le_of_ble_eq_true rfl))
    refine ⟨p, rfl, pr_flat vp, ?_⟩
    repeat (first | (with_reducible first | refine i_sIf ?_ | refine i_sNil ?_ | refine i_sRet ?_ | refine i_sAsg ?_ | refine i_sDrop ?_ | refine i_sPut ?_ | refine i_sPar ?_ | refine i_eC ?_ | refine i_eOp ?_ | refine i_eChain ?_ | refine i_eB ?_ | refine i_eUn ?_ | refine i_eTup ?_ | refine i_eLst ?_ | refine i_eLstM ?_ | refine i_eAnd ?_ | refine i_eOr ?_ | refine i_eNot ?_ | refine i_eIf ?_ | refine i_bOf ?_ | refine i_bAnd ?_ | refine i_bOr ?_ | refine i_bNot ?_ | refine i_bYes ?_ | refine i_aNil ?_ | refine i_aCons ?_ | refine i_eCall ?_ | refine i_eCallKw ?_ | refine i_eCut ?_ | refine i_oNone ?_ | refine i_oSome ?_ | refine i_eM ?_ | refine i_sSq ?_ | refine i_sRange1 ?_ | refine i_sRange2 ?_ | refine i_sEnum ?_ | refine i_eIsi ?_ | refine i_eIsi2 ?_ | refine i_eLc ?_ | refine i_eLcM ?_ | refine i_sFor ?_ | refine i_eDisp1 ?_ | refine i_bl ?_ | refine i_int ?_ | refine i_nm ?_ | refine i_one ?_ | refine i_two ?_ | refine i_rng ?_ | refine i_len0 ?_ | refine i_int1 ?_ | refine i_intb ?_ | refine i_abs ?_ | refine i_add ?_ | refine i_sub ?_ | refine i_lt ?_ | refine i_le ?_ | refine i_gt ?_ | refine i_ge ?_ | refine i_eqi ?_ | refine i_is ?_ | refine i_isn ?_ | refine i_nes ?_ | refine i_rbl ?_) | ((with_reducible refine i_eVarX ?_); refine ⟨_, rfl, ?_⟩) | ((with_reducible refine i_len1 ?_ ?_); · exact Nat.le_of_ble_eq_true rfl))
    rw [decide_eq_true rfl]
    refine iteF ?_
    repeat (first | (with_reducible first | refine i_sIf ?_ | refine i_sNil ?_ | refine i_sRet ?_ | refine i_sAsg ?_ | refine i_sDrop ?_ | refine i_sPut ?_ | refine i_sPar ?_ | refine i_eC ?_ | refine i_eOp ?_ | refine i_eChain ?_ | refine i_eB ?_ | refine i_eUn ?_ | refine i_eTup ?_ | refine i_eLst ?_ | refine i_eLstM ?_ | refine i_eAnd ?_ | refine i_eOr ?_ | refine i_eNot ?_ | refine i_eIf ?_ | refine i_bOf ?_ | refine i_bAnd ?_ | refine i_bOr ?_ | refine i_bNot ?_ | refine i_bYes ?_ | refine i_aNil ?_ | refine i_aCons ?_ | refine i_eCall ?_ | refine i_eCallKw ?_ | refine i_eCut ?_ | refine i_oNone ?_ | refine i_oSome ?_ | refine i_eM ?_ | refine i_sSq ?_ | refine i_sRange1 ?_ | refine i_sRange2 ?_ | refine i_sEnum ?_ | refine i_eIsi ?_ | refine i_eIsi2 ?_ | refine i_eLc ?_ | refine i_eLcM ?_ | refine i_sFor ?_ | refine i_eDisp1 ?_ | refine i_bl ?_ | refine i_int ?_ | refine i_nm ?_ | refine i_one ?_ | refine i_two ?_ | refine i_rng ?_ | refine i_len0 ?_ | refine i_int1 ?_ | refine i_intb ?_ | refine i_abs ?_ | refine i_add ?_ | refine i_sub ?_ | refine i_lt ?_ | refine i_le ?_ | refine i_gt ?_ | refine i_ge ?_ | refine i_eqi ?_ | refine i_is ?_ | refine i_isn ?_ | refine i_nes ?_ | refine i_rbl ?_) | ((with_reducible refine i_eVarX ?_); refine ⟨_, rfl, ?_⟩) | ((with_reducible refine i_len1 ?_ ?_); · exact Nat.le_of_ble_eq_true rfl))
    refine ⟨rfl, rfl, p, rfl, pr_flat vp, ?_⟩
    repeat (first | (with_reducible first | refine i_sIf ?_ | refine i_sNil ?_ | refine i_sRet ?_ | refine i_sAsg ?_ | refine i_sDrop ?_ | refine i_sPut ?_ | refine i_sPar ?_ | refine i_eC ?_ | refine i_eOp ?_ | refine i_eChain ?_ | refine i_eB ?_ | refine i_eUn ?_ | refine i_eTup ?_ | refine i_eLst ?_ | refine i_eLstM ?_ | refine i_eAnd ?_ | refine i_eOr ?_ | refine i_eNot ?_ | refine i_eIf ?_ | refine i_bOf ?_ | refine i_bAnd ?_ | refine i_bOr ?_ | refine i_bNot ?_ | refine i_bYes ?_ | refine i_aNil ?_ | refine i_aCons ?_ | refine i_eCall ?_ | refine i_eCallKw ?_ | refine i_eCut ?_ | refine i_oNone ?_ | refine i_oSome ?_ | refine i_eM ?_ | refine i_sSq ?_ | refine i_sRange1 ?_ | refine i_sRange2 ?_ | refine i_sEnum ?_ | refine i_eIsi ?_ | refine i_eIsi2 ?_ | refine i_eLc ?_ | refine i_eLcM ?_ | refine i_sFor ?_ | refine i_eDisp1 ?_ | refine i_bl ?_ | refine i_int ?_ | refine i_nm ?_ | refine i_one ?_ | refine i_two ?_ | refine i_rng ?_ | refine i_len0 ?_ | refine i_int1 ?_ | refine i_intb ?_ | refine i_abs ?_ | refine i_add ?_ | refine i_sub ?_ | refine i_lt ?_ | refine i_le ?_ | refine i_gt ?_ | refine i_ge ?_ | refine i_eqi ?_ | refine i_is ?_ | refine i_isn ?_ | refine i_nes ?_ | refine i_rbl ?_) | ((with_reducible refine i_eVarX ?_); refine ⟨_, rfl, ?_⟩) | ((with_reducible refine i_len1 ?_ ?_); · exact Nat.le_of_ble_eq_true rfl))
    refine ⟨p, rfl, pr_flat vp, ?_⟩
    repeat (first | (with_reducible first | refine i_sIf ?_ | refine i_sNil ?_ | refine i_sRet ?_ | refine i_sAsg ?_ | refine i_sDrop ?_ | refine i_sPut ?_ | refine i_sPar ?_ | refine i_eC ?_ | refine i_eOp ?_ | refine i_eChain ?_ | refine i_eB ?_ | refine i_eUn ?_ | refine i_eTup ?_ | refine i_eLst ?_ | refine i_eLstM ?_ | refine i_eAnd ?_ | refine i_eOr ?_ | refine i_eNot ?_ | refine i_eIf ?_ | refine i_bOf ?_ | refine i_bAnd ?_ | refine i_bOr ?_ | refine i_bNot ?_ | refine i_bYes ?_ | refine i_aNil ?_ | refine i_aCons ?_ | refine i_eCall ?_ | refine i_eCallKw ?_ | refine i_eCut ?_ | refine i_oNone ?_ | refine i_oSome ?_ | refine i_eM ?_ | refine i_sSq ?_ | refine i_sRange1 ?_ | refine i_sRange2 ?_ | refine i_sEnum ?_ | refine i_eIsi ?_ | refine i_eIsi2 ?_ | refine i_eLc ?_ | refine i_eLcM ?_ | refine i_sFor ?_ | refine i_eDisp1 ?_ | refine i_bl ?_ | refine i_int ?_ | refine i_nm ?_ | refine i_one ?_ | refine i_two ?_ | refine i_rng ?_ | refine i_len0 ?_ | refine i_int1 ?_ | refine i_intb ?_ | refine i_abs ?_ | refine i_add ?_ | refine i_sub ?_ | refine i_lt ?_ | refine i_le ?_ | refine i_gt ?_ | refine i_ge ?_ | refine i_eqi ?_ | refine i_is ?_ | refine i_isn ?_ | refine i_nes ?_ | refine i_rbl ?_) | ((with_reducible refine i_eVarX ?_); refine ⟨_, rfl, ?_⟩) | ((with_reducible refine i_len1 ?_ ?_); · exact Nat.le_of_ble_eq_true rfl))
    rw [decide_eq_true rfl]
    refine iteF ?_
    repeat (first | (with_reducible first | refine i_sIf ?_ | refine i_sNil ?_ | refine i_sRet ?_ | refine i_sAsg ?_ | refine i_sDrop ?_ | refine i_sPut ?_ | refine i_sPar ?_ | refine i_eC ?_ | refine i_eOp ?_ | refine i_eChain ?_ | refine i_eB ?_ | refine i_eUn ?_ | refine i_eTup ?_ | refine i_eLst ?_ | refine i_eLstM ?_ | refine i_eAnd ?_ | refine i_eOr ?_ | refine i_eNot ?_ | refine i_eIf ?_ | refine i_bOf ?_ | refine i_bAnd ?_ | refine i_bOr ?_ | refine i_bNot ?_ | refine i_bYes ?_ | refine i_aNil ?_ | refine i_aCons ?_ | refine i_eCall ?_ | refine i_eCallKw ?_ | refine i_eCut ?_ | refine i_oNone ?_ | refine i_oSome ?_ | refine i_eM ?_ | refine i_sSq ?_ | refine i_sRange1 ?_ | refine i_sRange2 ?_ | refine i_sEnum ?_ | refine i_eIsi ?_ | refine i_eIsi2 ?_ | refine i_eLc ?_ | refine i_eLcM ?_ | refine i_sFor ?_ | refine i_eDisp1 ?_ | refine i_bl ?_ | refine i_int ?_ | refine i_nm ?_ | refine i_one ?_ | refine i_two ?_ | refine i_rng ?_ | refine i_len0 ?_ | refine i_int1 ?_ | refine i_intb ?_ | refine i_abs ?_ | refine i_add ?_ | refine i_sub ?_ | refine i_lt ?_ | refine i_le ?_ | refine i_gt ?_ | refine i_ge ?_ | refine i_eqi ?_ | refine i_is ?_ | refine i_isn ?_ | refine i_nes ?_ | refine i_rbl ?_) | ((with_reducible refine i_eVarX ?_); refine ⟨_, rfl, ?_⟩) | ((with_reducible refine i_len1 ?_ ?_); · exact Nat.le_of_ble_eq_true rfl))
    exact hnx _ _ ⟨rfl, rfl⟩
  obtain ⟨rfl, rfl⟩ := hP
  -- some
  refine cut (fun ρ' S' => ∃ o T m ps, Urn (K + 70) o ∧ (∀ p ∈ ps, Pr p) ∧ ps.length ≤ 4 ∧ T[m]? = some (some (.lst ps)) ∧ S' = some o :: T ∧ ρ' = [x0, some (.ref 0), some d, some d3, some d4, some d5, some (.bl (inside d3 d4 d5)), some p, some (.ref (m + 1)), x9, x10, x11, x12, x13]) (fun N' hrt hnx => ?_) (fun ρ' S' hP => ?_)
  · repeat (first | (with_reducible first | refine i_sIf ?_ | refine i_sNil ?_ | refine i_sRet ?_ | refine i_sAsg ?_ | refine i_sDrop ?_ | refine i_sPut ?_ | refine i_sPar ?_ | refine i_eC ?_ | refine i_eOp ?_ | refine i_eChain ?_ | refine i_eB ?_ | refine i_eUn ?_ | refine i_eTup ?_ | refine i_eLst ?_ | refine i_eLstM ?_ | refine i_eAnd ?_ | refine i_eOr ?_ | refine i_eNot ?_ | refine i_eIf ?_ | refine i_bOf ?_ | refine i_bAnd ?_ | refine i_bOr ?_ | refine i_bNot ?_ | refine i_bYes ?_ | refine i_aNil ?_ | refine i_aCons ?_ | refine i_eCall ?_ | refine i_eCallKw ?_ | refine i_eCut ?_ | refine i_oNone ?_ | refine i_oSome ?_ | refine i_eM ?_ | refine i_sSq ?_ | refine i_sRange1 ?_ | refine i_sRange2 ?_ | refine i_sEnum ?_ | refine i_eIsi ?_ | refine i_eIsi2 ?_ | refine i_eLc ?_ | refine i_eLcM ?_ | refine i_sFor ?_ | refine i_eDisp1 ?_ | refine i_bl ?_ | refine i_int ?_ | refine i_nm ?_ | refine i_one ?_ | refine i_two ?_ | refine i_rng ?_ | refine i_len0 ?_ | refine i_int1 ?_ | refine i_intb ?_ | refine i_abs ?_ | refine i_add ?_ | refine i_sub ?_ | refine i_lt ?_ | refine i_le ?_ | refine i_gt ?_ | refine i_ge ?_ | refine i_eqi ?_ | refine i_is ?_ | refine i_isn ?_ | refine i_nes ?_ | refine i_rbl ?_) | ((with_reducible refine i_eVarX ?_); refine ⟨_, rfl, ?_⟩) | ((with_reducible refine i_len1 ?_ ?_); · exact Nat.le_of_ble_eq_true rfl))
    refine ⟨K + 21, o, T, 5, rfl, rfl, u, by omega, by decide, by decide, fun o1 n u1 n0 n1 => ?_⟩
    repeat (first | (with_reducible first | refine i_sIf ?_ | refine i_sNil ?_ | refine i_sRet ?_ | refine i_sAsg ?_ | refine i_sDrop ?_ | refine i_sPut ?_ | refine i_sPar ?_ | refine i_eC ?_ | refine i_eOp ?_ | refine i_eChain ?_ | refine i_eB ?_ | refine i_eUn ?_ | refine i_eTup ?_ | refine i_eLst ?_ | refine i_eLstM ?_ | refine i_eAnd ?_ | refine i_eOr ?_ | refine i_eNot ?_ | refine i_eIf ?_ | refine i_bOf ?_ | refine i_bAnd ?_ | refine i_bOr ?_ | refine i_bNot ?_ | refine i_bYes ?_ | refine i_aNil ?_ | refine i_aCons ?_ | refine i_eCall ?_ | refine i_eCallKw ?_ | refine i_eCut ?_ | refine i_oNone ?_ | refine i_oSome ?_ | refine i_eM ?_ | refine i_sSq ?_ | refine i_sRange1 ?_ | refine i_sRange2 ?_ | refine i_sEnum ?_ | refine i_eIsi ?_ | refine i_eIsi2 ?_ | refine i_eLc ?_ | refine i_eLcM ?_ | refine i_sFor ?_ | refine i_eDisp1 ?_ | refine i_bl ?_ | refine i_int ?_ | refine i_nm ?_ | refine i_one ?_ | refine i_two ?_ | refine i_rng ?_ | refine i_len0 ?_ | refine i_int1 ?_ | refine i_intb ?_ | refine i_abs ?_ | refine i_add ?_ | refine i_sub ?_ | refine i_lt ?_ | refine i_le ?_ | refine i_gt ?_ | refine i_ge ?_ | refine i_eqi ?_ | refine i_is ?_ | refine i_isn ?_ | refine i_nes ?_ | refine i_rbl ?_) | ((with_reducible refine i_eVarX ?_); refine ⟨_, rfl, ?_⟩) | ((with_reducible refine i_len1 ?_ ?_); · exact Nat.le_of_ble_eq_true rfl))
    have hl : (rangeD 0 n).length ≤ 4 := by
      rw [rangeD_len]
      omega
    refine ⟨by omega, by omega, lc_draw (k := K + 22) 10 Pr (fun _ => trivial) (by omega) u1 (fun _ _ => ⟨_, rfl, fun j o uj hj Q' q' => ?_⟩) (fun o' acc u' hlen hP => ?_)⟩
    · repeat (first | (with_reducible first | refine i_sIf ?_ | refine i_sNil ?_ | refine i_sRet ?_ | refine i_sAsg ?_ | refine i_sDrop ?_ | refine i_sPut ?_ | refine i_sPar ?_ | refine i_eC ?_ | refine i_eOp ?_ | refine i_eChain ?_ | refine i_eB ?_ | refine i_eUn ?_ | refine i_eTup ?_ | refine i_eLst ?_ | refine i_eLstM ?_ | refine i_eAnd ?_ | refine i_eOr ?_ | refine i_eNot ?_ | refine i_eIf ?_ | refine i_bOf ?_ | refine i_bAnd ?_ | refine i_bOr ?_ | refine i_bNot ?_ | refine i_bYes ?_ | refine i_aNil ?_ | refine i_aCons ?_ | refine i_eCall ?_ | refine i_eCallKw ?_ | refine i_eCut ?_ | refine i_oNone ?_ | refine i_oSome ?_ | refine i_eM ?_ | refine i_sSq ?_ | refine i_sRange1 ?_ | refine i_sRange2 ?_ | refine i_sEnum ?_ | refine i_eIsi ?_ | refine i_eIsi2 ?_ | refine i_eLc ?_ | refine i_eLcM ?_ | refine i_sFor ?_ | refine i_eDisp1 ?_ | refine i_bl ?_ | refine i_int ?_ | refine i_nm ?_ | refine i_one ?_ | refine i_two ?_ | refine i_rng ?_ | refine i_len0 ?_ | refine i_int1 ?_ | refine i_intb ?_ | refine i_abs ?_ | refine i_add ?_ | refine i_sub ?_ | refine i_lt ?_ | refine i_le ?_ | refine i_gt ?_ | refine i_ge ?_ | refine i_eqi ?_ | refine i_is ?_ | refine i_isn ?_ | refine i_nes ?_ | refine i_rbl ?_) | ((with_reducible refine i_eVarX ?_); refine ⟨_, rfl, ?_⟩) | ((with_reducible refine i_len1 ?_ ?_); · exact Nat.le_of_ble_eq_true rfl))
      exact ⟨j, o, T, rfl, rfl, uj, by omega, fun o'' p u'' hp => q' o'' p u'' hp⟩
    · repeat (first | (with_reducible first | refine i_sIf ?_ | refine i_sNil ?_ | refine i_sRet ?_ | refine i_sAsg ?_ | refine i_sDrop ?_ | refine i_sPut ?_ | refine i_sPar ?_ | refine i_eC ?_ | refine i_eOp ?_ | refine i_eChain ?_ | refine i_eB ?_ | refine i_eUn ?_ | refine i_eTup ?_ | refine i_eLst ?_ | refine i_eLstM ?_ | refine i_eAnd ?_ | refine i_eOr ?_ | refine i_eNot ?_ | refine i_eIf ?_ | refine i_bOf ?_ | refine i_bAnd ?_ | refine i_bOr ?_ | refine i_bNot ?_ | refine i_bYes ?_ | refine i_aNil ?_ | refine i_aCons ?_ | refine i_eCall ?_ | refine i_eCallKw ?_ | refine i_eCut ?_ | refine i_oNone ?_ | refine i_oSome ?_ | refine i_eM ?_ | refine i_sSq ?_ | refine i_sRange1 ?_ | refine i_sRange2 ?_ | refine i_sEnum ?_ | refine i_eIsi ?_ | refine i_eIsi2 ?_ | refine i_eLc ?_ | refine i_eLcM ?_ | refine i_sFor ?_ | refine i_eDisp1 ?_ | refine i_bl ?_ | refine i_int ?_ | refine i_nm ?_ | refine i_one ?_ | refine i_two ?_ | refine i_rng ?_ | refine i_len0 ?_ | refine i_int1 ?_ | refine i_intb ?_ | refine i_abs ?_ | refine i_add ?_ | refine i_sub ?_ | refine i_lt ?_ | refine i_le ?_ | refine i_gt ?_ | refine i_ge ?_ | refine i_eqi ?_ | refine i_is ?_ | refine i_isn ?_ | refine i_nes ?_ | refine i_rbl ?_) | ((with_reducible refine i_eVarX ?_); refine ⟨_, rfl, ?_⟩) | ((with_reducible refine i_len1 ?_ ?_); · exact Nat.le_of_ble_eq_true rfl))
      exact hnx _ _ ⟨o', T ++ [some (.lst acc)], T.length, acc, u'.mono (by omega), hP, by omega, by simp, rfl, rfl⟩
  clear u
  obtain ⟨o, T2, m, ps, u, hps, hpl, hm, rfl, rfl⟩ := hP
  -- some, perhaps only the pairs
  refine cut (fun ρ' S' => ∃ o T m ps, Urn (K + 71) o ∧ (∀ p ∈ ps, Pr p) ∧ ps.length ≤ 4 ∧ T[m]? = some (some (.lst ps)) ∧ S' = some o :: T ∧ ρ' = [x0, some (.ref 0), some d, some d3, some d4, some d5, some (.bl (inside d3 d4 d5)), some p, some (.ref (m + 1)), x9, x10, x11, x12, x13]) (fun N' hrt hnx => ?_) (fun ρ' S' hP => ?_)
  · repeat (first | (with_reducible first | refine i_sIf ?_ | refine i_sNil ?_ | refine i_sRet ?_ | refine i_sAsg ?_ | refine i_sDrop ?_ | refine i_sPut ?_ | refine i_sPar ?_ | refine i_eC ?_ | refine i_eOp ?_ | refine i_eChain ?_ | refine i_eB ?_ | refine i_eUn ?_ | refine i_eTup ?_ | refine i_eLst ?_ | refine i_eLstM ?_ | refine i_eAnd ?_ | refine i_eOr ?_ | refine i_eNot ?_ | refine i_eIf ?_ | refine i_bOf ?_ | refine i_bAnd ?_ | refine i_bOr ?_ | refine i_bNot ?_ | refine i_bYes ?_ | refine i_aNil ?_ | refine i_aCons ?_ | refine i_eCall ?_ | refine i_eCallKw ?_ | refine i_eCut ?_ | refine i_oNone ?_ | refine i_oSome ?_ | refine i_eM ?_ | refine i_sSq ?_ | refine i_sRange1 ?_ | refine i_sRange2 ?_ | refine i_sEnum ?_ | refine i_eIsi ?_ | refine i_eIsi2 ?_ | refine i_eLc ?_ | refine i_eLcM ?_ | refine i_sFor ?_ | refine i_eDisp1 ?_ | refine i_bl ?_ | refine i_int ?_ | refine i_nm ?_ | refine i_one ?_ | refine i_two ?_ | refine i_rng ?_ | refine i_len0 ?_ | refine i_int1 ?_ | refine i_intb ?_ | refine i_abs ?_ | refine i_add ?_ | refine i_sub ?_ | refine i_lt ?_ | refine i_le ?_ | refine i_gt ?_ | refine i_ge ?_ | refine i_eqi ?_ | refine i_is ?_ | refine i_isn ?_ | refine i_nes ?_ | refine i_rbl ?_) | ((with_reducible refine i_eVarX ?_); refine ⟨_, rfl, ?_⟩) | ((with_reducible refine i_len1 ?_ ?_); · exact Nat.le_of_ble_eq_true rfl))
    refine ⟨K + 70, o, T2, 2, rfl, rfl, u, by omega, by decide, by decide, fun o1 n u1 n0 n1 => ?_⟩
    repeat (first | (with_reducible first | refine i_sIf ?_ | refine i_sNil ?_ | refine i_sRet ?_ | refine i_sAsg ?_ | refine i_sDrop ?_ | refine i_sPut ?_ | refine i_sPar ?_ | refine i_eC ?_ | refine i_eOp ?_ | refine i_eChain ?_ | refine i_eB ?_ | refine i_eUn ?_ | refine i_eTup ?_ | refine i_eLst ?_ | refine i_eLstM ?_ | refine i_eAnd ?_ | refine i_eOr ?_ | refine i_eNot ?_ | refine i_eIf ?_ | refine i_bOf ?_ | refine i_bAnd ?_ | refine i_bOr ?_ | refine i_bNot ?_ | refine i_bYes ?_ | refine i_aNil ?_ | refine i_aCons ?_ | refine i_eCall ?_ | refine i_eCallKw ?_ | refine i_eCut ?_ | refine i_oNone ?_ | refine i_oSome ?_ | refine i_eM ?_ | refine i_sSq ?_ | refine i_sRange1 ?_ | refine i_sRange2 ?_ | refine i_sEnum ?_ | refine i_eIsi ?_ | refine i_eIsi2 ?_ | refine i_eLc ?_ | refine i_eLcM ?_ | refine i_sFor ?_ | refine i_eDisp1 ?_ | refine i_bl ?_ | refine i_int ?_ | refine i_nm ?_ | refine i_one ?_ | refine i_two ?_ | refine i_rng ?_ | refine i_len0 ?_ | refine i_int1 ?_ | refine i_intb ?_ | refine i_abs ?_ | refine i_add ?_ | refine i_sub ?_ | refine i_lt ?_ | refine i_le ?_ | refine i_gt ?_ | refine i_ge ?_ | refine i_eqi ?_ | refine i_is ?_ | refine i_isn ?_ | refine i_nes ?_ | refine i_rbl ?_) | ((with_reducible refine i_eVarX ?_); refine ⟨_, rfl, ?_⟩) | ((with_reducible refine i_len1 ?_ ?_); · exact Nat.le_of_ble_eq_true rfl))
    refine ite_by (fun _ => ?_) (fun _ => ?_)
    · repeat (first | (with_reducible first | refine i_sIf ?_ | refine i_sNil ?_ | refine i_sRet ?_ | refine i_sAsg ?_ | refine i_sDrop ?_ | refine i_sPut ?_ | refine i_sPar ?_ | refine i_eC ?_ | refine i_eOp ?_ | refine i_eChain ?_ | refine i_eB ?_ | refine i_eUn ?_ | refine i_eTup ?_ | refine i_eLst ?_ | refine i_eLstM ?_ | refine i_eAnd ?_ | refine i_eOr ?_ | refine i_eNot ?_ | refine i_eIf ?_ | refine i_bOf ?_ | refine i_bAnd ?_ | refine i_bOr ?_ | refine i_bNot ?_ | refine i_bYes ?_ | refine i_aNil ?_ | refine i_aCons ?_ | refine i_eCall ?_ | refine i_eCallKw ?_ | refine i_eCut ?_ | refine i_oNone ?_ | refine i_oSome ?_ | refine i_eM ?_ | refine i_sSq ?_ | refine i_sRange1 ?_ | refine i_sRange2 ?_ | refine i_sEnum ?_ | refine i_eIsi ?_ | refine i_eIsi2 ?_ | refine i_eLc ?_ | refine i_eLcM ?_ | refine i_sFor ?_ | refine i_eDisp1 ?_ | refine i_bl ?_ | refine i_int ?_ | refine i_nm ?_ | refine i_one ?_ | refine i_two ?_ | refine i_rng ?_ | refine i_len0 ?_ | refine i_int1 ?_ | refine i_intb ?_ | refine i_abs ?_ | refine i_add ?_ | refine i_sub ?_ | refine i_lt ?_ | refine i_le ?_ | refine i_gt ?_ | refine i_ge ?_ | refine i_eqi ?_ | refine i_is ?_ | refine i_isn ?_ | refine i_nes ?_ | refine i_rbl ?_) | ((with_reducible refine i_eVarX ?_); refine ⟨_, rfl, ?_⟩) | ((with_reducible refine i_len1 ?_ ?_); · exact Nat.le_of_ble_eq_true rfl))
      have hdr : drf (some o1 :: T2) (.ref (m + 1)) = .lst ps := drf_ref (n := m + 1) hm
      refine ⟨ps, by rw [hdr]; rfl, lc_pure (fun d => if isSq d = true then some d else none) rfl (Nat.le_trans hpl (by decide)) (fun y hy => ⟨_, rfl, fun Q' Q0 q1 q0 => ?_⟩) ?_⟩
      · repeat (first | (with_reducible first | refine i_sIf ?_ | refine i_sNil ?_ | refine i_sRet ?_ | refine i_sAsg ?_ | refine i_sDrop ?_ | refine i_sPut ?_ | refine i_sPar ?_ | refine i_eC ?_ | refine i_eOp ?_ | refine i_eChain ?_ | refine i_eB ?_ | refine i_eUn ?_ | refine i_eTup ?_ | refine i_eLst ?_ | refine i_eLstM ?_ | refine i_eAnd ?_ | refine i_eOr ?_ | refine i_eNot ?_ | refine i_eIf ?_ | refine i_bOf ?_ | refine i_bAnd ?_ | refine i_bOr ?_ | refine i_bNot ?_ | refine i_bYes ?_ | refine i_aNil ?_ | refine i_aCons ?_ | refine i_eCall ?_ | refine i_eCallKw ?_ | refine i_eCut ?_ | refine i_oNone ?_ | refine i_oSome ?_ | refine i_eM ?_ | refine i_sSq ?_ | refine i_sRange1 ?_ | refine i_sRange2 ?_ | refine i_sEnum ?_ | refine i_eIsi ?_ | refine i_eIsi2 ?_ | refine i_eLc ?_ | refine i_eLcM ?_ | refine i_sFor ?_ | refine i_eDisp1 ?_ | refine i_bl ?_ | refine i_int ?_ | refine i_nm ?_ | refine i_one ?_ | refine i_two ?_ | refine i_rng ?_ | refine i_len0 ?_ | refine i_int1 ?_ | refine i_intb ?_ | refine i_abs ?_ | refine i_add ?_ | refine i_sub ?_ | refine i_lt ?_ | refine i_le ?_ | refine i_gt ?_ | refine i_ge ?_ | refine i_eqi ?_ | refine i_is ?_ | refine i_isn ?_ | refine i_nes ?_ | refine i_rbl ?_) | ((with_reducible refine i_eVarX ?_); refine ⟨_, rfl, ?_⟩) | ((with_reducible refine i_len1 ?_ ?_); · exact Nat.le_of_ble_eq_true rfl))
        refine ⟨y, rfl, pr_flat (hps y hy), ?_⟩
        repeat (first | (with_reducible first | refine i_sIf ?_ | refine i_sNil ?_ | refine i_sRet ?_ | refine i_sAsg ?_ | refine i_sDrop ?_ | refine i_sPut ?_ | refine i_sPar ?_ | refine i_eC ?_ | refine i_eOp ?_ | refine i_eChain ?_ | refine i_eB ?_ | refine i_eUn ?_ | refine i_eTup ?_ | refine i_eLst ?_ | refine i_eLstM ?_ | refine i_eAnd ?_ | refine i_eOr ?_ | refine i_eNot ?_ | refine i_eIf ?_ | refine i_bOf ?_ | refine i_bAnd ?_ | refine i_bOr ?_ | refine i_bNot ?_ | refine i_bYes ?_ | refine i_aNil ?_ | refine i_aCons ?_ | refine i_eCall ?_ | refine i_eCallKw ?_ | refine i_eCut ?_ | refine i_oNone ?_ | refine i_oSome ?_ | refine i_eM ?_ | refine i_sSq ?_ | refine i_sRange1 ?_ | refine i_sRange2 ?_ | refine i_sEnum ?_ | refine i_eIsi ?_ | refine i_eIsi2 ?_ | refine i_eLc ?_ | refine i_eLcM ?_ | refine i_sFor ?_ | refine i_eDisp1 ?_ | refine i_bl ?_ | refine i_int ?_ | refine i_nm ?_ | refine i_one ?_ | refine i_two ?_ | refine i_rng ?_ | refine i_len0 ?_ | refine i_int1 ?_ | refine i_intb ?_ | refine i_abs ?_ | refine i_add ?_ | refine i_sub ?_ | refine i_lt ?_ | refine i_le ?_ | refine i_gt ?_ | refine i_ge ?_ | refine i_eqi ?_ | refine i_is ?_ | refine i_isn ?_ | refine i_nes ?_ | refine i_rbl ?_) | ((with_reducible refine i_eVarX ?_); refine ⟨_, rfl, ?_⟩) | ((with_reducible refine i_len1 ?_ ?_); · exact Nat.le_of_ble_eq_true rfl))
        refine ite_by (fun hq => ?_) (fun hq => ?_)
        · repeat (first | (with_reducible first | refine i_sIf ?_ | refine i_sNil ?_ | refine i_sRet ?_ | refine i_sAsg ?_ | refine i_sDrop ?_ | refine i_sPut ?_ | refine i_sPar ?_ | refine i_eC ?_ | refine i_eOp ?_ | refine i_eChain ?_ | refine i_eB ?_ | refine i_eUn ?_ | refine i_eTup ?_ | refine i_eLst ?_ | refine i_eLstM ?_ | refine i_eAnd ?_ | refine i_eOr ?_ | refine i_eNot ?_ | refine i_eIf ?_ | refine i_bOf ?_ | refine i_bAnd ?_ | refine i_bOr ?_ | refine i_bNot ?_ | refine i_bYes ?_ | refine i_aNil ?_ | refine i_aCons ?_ | refine i_eCall ?_ | refine i_eCallKw ?_ | refine i_eCut ?_ | refine i_oNone ?_ | refine i_oSome ?_ | refine i_eM ?_ | refine i_sSq ?_ | refine i_sRange1 ?_ | refine i_sRange2 ?_ | refine i_sEnum ?_ | refine i_eIsi ?_ | refine i_eIsi2 ?_ | refine i_eLc ?_ | refine i_eLcM ?_ | refine i_sFor ?_ | refine i_eDisp1 ?_ | refine i_bl ?_ | refine i_int ?_ | refine i_nm ?_ | refine i_one ?_ | refine i_two ?_ | refine i_rng ?_ | refine i_len0 ?_ | refine i_int1 ?_ | refine i_intb ?_ | refine i_abs ?_ | refine i_add ?_ | refine i_sub ?_ | refine i_lt ?_ | refine i_le ?_ | refine i_gt ?_ | refine i_ge ?_ | refine i_eqi ?_ | refine i_is ?_ | refine i_isn ?_ | refine i_nes ?_ | refine i_rbl ?_) | ((with_reducible refine i_eVarX ?_); refine ⟨_, rfl, ?_⟩) | ((with_reducible refine i_len1 ?_ ?_); · exact Nat.le_of_ble_eq_true rfl))
          exact q1 y (by rw [if_pos hq])
        · exact q0 (by rw [if_neg (by rw [hq]; decide)])
      · repeat (first | (with_reducible first | refine i_sIf ?_ | refine i_sNil ?_ | refine i_sRet ?_ | refine i_sAsg ?_ | refine i_sDrop ?_ | refine i_sPut ?_ | refine i_sPar ?_ | refine i_eC ?_ | refine i_eOp ?_ | refine i_eChain ?_ | refine i_eB ?_ | refine i_eUn ?_ | refine i_eTup ?_ | refine i_eLst ?_ | refine i_eLstM ?_ | refine i_eAnd ?_ | refine i_eOr ?_ | refine i_eNot ?_ | refine i_eIf ?_ | refine i_bOf ?_ | refine i_bAnd ?_ | refine i_bOr ?_ | refine i_bNot ?_ | refine i_bYes ?_ | refine i_aNil ?_ | refine i_aCons ?_ | refine i_eCall ?_ | refine i_eCallKw ?_ | refine i_eCut ?_ | refine i_oNone ?_ | refine i_oSome ?_ | refine i_eM ?_ | refine i_sSq ?_ | refine i_sRange1 ?_ | refine i_sRange2 ?_ | refine i_sEnum ?_ | refine i_eIsi ?_ | refine i_eIsi2 ?_ | refine i_eLc ?_ | refine i_eLcM ?_ | refine i_sFor ?_ | refine i_eDisp1 ?_ | refine i_bl ?_ | refine i_int ?_ | refine i_nm ?_ | refine i_one ?_ | refine i_two ?_ | refine i_rng ?_ | refine i_len0 ?_ | refine i_int1 ?_ | refine i_intb ?_ | refine i_abs ?_ | refine i_add ?_ | refine i_sub ?_ | refine i_lt ?_ | refine i_le ?_ | refine i_gt ?_ | refine i_ge ?_ | refine i_eqi ?_ | refine i_is ?_ | refine i_isn ?_ | refine i_nes ?_ | refine i_rbl ?_) | ((with_reducible refine i_eVarX ?_); refine ⟨_, rfl, ?_⟩) | ((with_reducible refine i_len1 ?_ ?_); · exact Nat.le_of_ble_eq_true rfl))
        refine hnx _ _ ⟨o1, T2 ++ [some (.lst (ps.filterMap fun d => if isSq d = true then some d else none))], T2.length, ps.filterMap (fun d => if isSq d = true then some d else none), u1, fun z hz => ?_, Nat.le_trans (List.length_filterMap_le ..) hpl, by simp, rfl, rfl⟩
        obtain ⟨y, hy, e⟩ := List.mem_filterMap.mp hz
        split at e
        · cases e
          exact hps _ hy
        · cases e
    · repeat (first | (with_reducible first | refine i_sIf ?_ | refine i_sNil ?_ | refine i_sRet ?_ | refine i_sAsg ?_ | refine i_sDrop ?_ | refine i_sPut ?_ | refine i_sPar ?_ | refine i_eC ?_ | refine i_eOp ?_ | refine i_eChain ?_ | refine i_eB ?_ | refine i_eUn ?_ | refine i_eTup ?_ | refine i_eLst ?_ | refine i_eLstM ?_ | refine i_eAnd ?_ | refine i_eOr ?_ | refine i_eNot ?_ | refine i_eIf ?_ | refine i_bOf ?_ | refine i_bAnd ?_ | refine i_bOr ?_ | refine i_bNot ?_ | refine i_bYes ?_ | refine i_aNil ?_ | refine i_aCons ?_ | refine i_eCall ?_ | refine i_eCallKw ?_ | refine i_eCut ?_ | refine i_oNone ?_ | refine i_oSome ?_ | refine i_eM ?_ | refine i_sSq ?_ | refine i_sRange1 ?_ | refine i_sRange2 ?_ | refine i_sEnum ?_ | refine i_eIsi ?_ | refine i_eIsi2 ?_ | refine i_eLc ?_ | refine i_eLcM ?_ | refine i_sFor ?_ | refine i_eDisp1 ?_ | refine i_bl ?_ | refine i_int ?_ | refine i_nm ?_ | refine i_one ?_ | refine i_two ?_ | refine i_rng ?_ | refine i_len0 ?_ | refine i_int1 ?_ | refine i_intb ?_ | refine i_abs ?_ | refine i_add ?_ | refine i_sub ?_ | refine i_lt ?_ | refine i_le ?_ | refine i_gt ?_ | refine i_ge ?_ | refine i_eqi ?_ | refine i_is ?_ | refine i_isn ?_ | refine i_nes ?_ | refine i_rbl ?_) | ((with_reducible refine i_eVarX ?_); refine ⟨_, rfl, ?_⟩) | ((with_reducible refine i_len1 ?_ ?_); · exact Nat.le_of_ble_eq_true rfl))
      exact hnx _ _ ⟨o1, T2, m, ps, u1, hps, hpl, hm, rfl, rfl⟩
  clear u hm hpl hps
  obtain ⟨o, T2, m, ps, u, hps, hpl, hm, rfl, rfl⟩ := hP
  -- some, perhaps with one more
  refine cut (fun ρ' S' => ∃ o T m ps, Urn (K + 73) o ∧ (∀ p ∈ ps, Pr p) ∧ ps.length ≤ 5 ∧ T[m]? = some (some (.lst ps)) ∧ S' = some o :: T ∧ ρ' = [x0, some (.ref 0), some d, some d3, some d4, some d5, some (.bl (inside d3 d4 d5)), some p, some (.ref (m + 1)), x9, x10, x11, x12, x13]) (fun N' hrt hnx => ?_) (fun ρ' S' hP => ?_)
  · have hdr : ∀ o', drf (some o' :: T2) (.ref (m + 1)) = .lst ps := fun o' => drf_ref (n := m + 1) hm
    repeat (first | (with_reducible first | refine i_sIf ?_ | refine i_sNil ?_ | refine i_sRet ?_ | refine i_sAsg ?_ | refine i_sDrop ?_ | refine i_sPut ?_ | refine i_sPar ?_ | refine i_eC ?_ | refine i_eOp ?_ | refine i_eChain ?_ | refine i_eB ?_ | refine i_eUn ?_ | refine i_eTup ?_ | refine i_eLst ?_ | refine i_eLstM ?_ | refine i_eAnd ?_ | refine i_eOr ?_ | refine i_eNot ?_ | refine i_eIf ?_ | refine i_bOf ?_ | refine i_bAnd ?_ | refine i_bOr ?_ | refine i_bNot ?_ | refine i_bYes ?_ | refine i_aNil ?_ | refine i_aCons ?_ | refine i_eCall ?_ | refine i_eCallKw ?_ | refine i_eCut ?_ | refine i_oNone ?_ | refine i_oSome ?_ | refine i_eM ?_ | refine i_sSq ?_ | refine i_sRange1 ?_ | refine i_sRange2 ?_ | refine i_sEnum ?_ | refine i_eIsi ?_ | refine i_eIsi2 ?_ | refine i_eLc ?_ | refine i_eLcM ?_ | refine i_sFor ?_ | refine i_eDisp1 ?_ | refine i_bl ?_ | refine i_int ?_ | refine i_nm ?_ | refine i_one ?_ | refine i_two ?_ | refine i_rng ?_ | refine i_len0 ?_ | refine i_int1 ?_ | refine i_intb ?_ | refine i_abs ?_ | refine i_add ?_ | refine i_sub ?_ | refine i_lt ?_ | refine i_le ?_ | refine i_gt ?_ | refine i_ge ?_ | refine i_eqi ?_ | refine i_is ?_ | refine i_isn ?_ | refine i_nes ?_ | refine i_rbl ?_) | ((with_reducible refine i_eVarX ?_); refine ⟨_, rfl, ?_⟩) | ((with_reducible refine i_len1 ?_ ?_); · exact Nat.le_of_ble_eq_true rfl))
    refine ne_nil (hdr o) ?_
    repeat (first | (with_reducible first | refine i_sIf ?_ | refine i_sNil ?_ | refine i_sRet ?_ | refine i_sAsg ?_ | refine i_sDrop ?_ | refine i_sPut ?_ | refine i_sPar ?_ | refine i_eC ?_ | refine i_eOp ?_ | refine i_eChain ?_ | refine i_eB ?_ | refine i_eUn ?_ | refine i_eTup ?_ | refine i_eLst ?_ | refine i_eLstM ?_ | refine i_eAnd ?_ | refine i_eOr ?_ | refine i_eNot ?_ | refine i_eIf ?_ | refine i_bOf ?_ | refine i_bAnd ?_ | refine i_bOr ?_ | refine i_bNot ?_ | refine i_bYes ?_ | refine i_aNil ?_ | refine i_aCons ?_ | refine i_eCall ?_ | refine i_eCallKw ?_ | refine i_eCut ?_ | refine i_oNone ?_ | refine i_oSome ?_ | refine i_eM ?_ | refine i_sSq ?_ | refine i_sRange1 ?_ | refine i_sRange2 ?_ | refine i_sEnum ?_ | refine i_eIsi ?_ | refine i_eIsi2 ?_ | refine i_eLc ?_ | refine i_eLcM ?_ | refine i_sFor ?_ | refine i_eDisp1 ?_ | refine i_bl ?_ | refine i_int ?_ | refine i_nm ?_ | refine i_one ?_ | refine i_two ?_ | refine i_rng ?_ | refine i_len0 ?_ | refine i_int1 ?_ | refine i_intb ?_ | refine i_abs ?_ | refine i_add ?_ | refine i_sub ?_ | refine i_lt ?_ | refine i_le ?_ | refine i_gt ?_ | refine i_ge ?_ | refine i_eqi ?_ | refine i_is ?_ | refine i_isn ?_ | refine i_nes ?_ | refine i_rbl ?_) | ((with_reducible refine i_eVarX ?_); refine ⟨_, rfl, ?_⟩) | ((with_reducible refine i_len1 ?_ ?_); · exact Nat.le_of_ble_eq_true rfl))
    refine ite_by (fun hne => ?_) (fun _ => ?_)
    · repeat (first | (with_reducible first | refine i_sIf ?_ | refine i_sNil ?_ | refine i_sRet ?_ | refine i_sAsg ?_ | refine i_sDrop ?_ | refine i_sPut ?_ | refine i_sPar ?_ | refine i_eC ?_ | refine i_eOp ?_ | refine i_eChain ?_ | refine i_eB ?_ | refine i_eUn ?_ | refine i_eTup ?_ | refine i_eLst ?_ | refine i_eLstM ?_ | refine i_eAnd ?_ | refine i_eOr ?_ | refine i_eNot ?_ | refine i_eIf ?_ | refine i_bOf ?_ | refine i_bAnd ?_ | refine i_bOr ?_ | refine i_bNot ?_ | refine i_bYes ?_ | refine i_aNil ?_ | refine i_aCons ?_ | refine i_eCall ?_ | refine i_eCallKw ?_ | refine i_eCut ?_ | refine i_oNone ?_ | refine i_oSome ?_ | refine i_eM ?_ | refine i_sSq ?_ | refine i_sRange1 ?_ | refine i_sRange2 ?_ | refine i_sEnum ?_ | refine i_eIsi ?_ | refine i_eIsi2 ?_ | refine i_eLc ?_ | refine i_eLcM ?_ | refine i_sFor ?_ | refine i_eDisp1 ?_ | refine i_bl ?_ | refine i_int ?_ | refine i_nm ?_ | refine i_one ?_ | refine i_two ?_ | refine i_rng ?_ | refine i_len0 ?_ | refine i_int1 ?_ | refine i_intb ?_ | refine i_abs ?_ | refine i_add ?_ | refine i_sub ?_ | refine i_lt ?_ | refine i_le ?_ | refine i_gt ?_ | refine i_ge ?_ | refine i_eqi ?_ | refine i_is ?_ | refine i_isn ?_ | refine i_nes ?_ | refine i_rbl ?_) | ((with_reducible refine i_eVarX ?_); refine ⟨_, rfl, ?_⟩) | ((with_reducible refine i_len1 ?_ ?_); · exact Nat.le_of_ble_eq_true rfl))
      refine ⟨K + 71, o, T2, 3, rfl, rfl, u, by omega, by decide, by decide, fun o1 n u1 n0 n1 => ?_⟩
      repeat (first | (with_reducible first | refine i_sIf ?_ | refine i_sNil ?_ | refine i_sRet ?_ | refine i_sAsg ?_ | refine i_sDrop ?_ | refine i_sPut ?_ | refine i_sPar ?_ | refine i_eC ?_ | refine i_eOp ?_ | refine i_eChain ?_ | refine i_eB ?_ | refine i_eUn ?_ | refine i_eTup ?_ | refine i_eLst ?_ | refine i_eLstM ?_ | refine i_eAnd ?_ | refine i_eOr ?_ | refine i_eNot ?_ | refine i_eIf ?_ | refine i_bOf ?_ | refine i_bAnd ?_ | refine i_bOr ?_ | refine i_bNot ?_ | refine i_bYes ?_ | refine i_aNil ?_ | refine i_aCons ?_ | refine i_eCall ?_ | refine i_eCallKw ?_ | refine i_eCut ?_ | refine i_oNone ?_ | refine i_oSome ?_ | refine i_eM ?_ | refine i_sSq ?_ | refine i_sRange1 ?_ | refine i_sRange2 ?_ | refine i_sEnum ?_ | refine i_eIsi ?_ | refine i_eIsi2 ?_ | refine i_eLc ?_ | refine i_eLcM ?_ | refine i_sFor ?_ | refine i_eDisp1 ?_ | refine i_bl ?_ | refine i_int ?_ | refine i_nm ?_ | refine i_one ?_ | refine i_two ?_ | refine i_rng ?_ | refine i_len0 ?_ | refine i_int1 ?_ | refine i_intb ?_ | refine i_abs ?_ | refine i_add ?_ | refine i_sub ?_ | refine i_lt ?_ | refine i_le ?_ | refine i_gt ?_ | refine i_ge ?_ | refine i_eqi ?_ | refine i_is ?_ | refine i_isn ?_ | refine i_nes ?_ | refine i_rbl ?_) | ((with_reducible refine i_eVarX ?_); refine ⟨_, rfl, ?_⟩) | ((with_reducible refine i_len1 ?_ ?_); · exact Nat.le_of_ble_eq_true rfl))
      refine ite_by (fun _ => ?_) (fun _ => ?_)
      · cases ps with
        | nil => cases hne
        | cons p0 rest =>
          have hsq : ∀ o', seqOf (drf (some o' :: T2) (.ref (m + 1))) = some (p0 :: rest) := fun o' => by
            rw [hdr]
            rfl
          repeat (first | (with_reducible first | refine i_sIf ?_ | refine i_sNil ?_ | refine i_sRet ?_ | refine i_sAsg ?_ | refine i_sDrop ?_ | refine i_sPut ?_ | refine i_sPar ?_ | refine i_eC ?_ | refine i_eOp ?_ | refine i_eChain ?_ | refine i_eB ?_ | refine i_eUn ?_ | refine i_eTup ?_ | refine i_eLst ?_ | refine i_eLstM ?_ | refine i_eAnd ?_ | refine i_eOr ?_ | refine i_eNot ?_ | refine i_eIf ?_ | refine i_bOf ?_ | refine i_bAnd ?_ | refine i_bOr ?_ | refine i_bNot ?_ | refine i_bYes ?_ | refine i_aNil ?_ | refine i_aCons ?_ | refine i_eCall ?_ | refine i_eCallKw ?_ | refine i_eCut ?_ | refine i_oNone ?_ | refine i_oSome ?_ | refine i_eM ?_ | refine i_sSq ?_ | refine i_sRange1 ?_ | refine i_sRange2 ?_ | refine i_sEnum ?_ | refine i_eIsi ?_ | refine i_eIsi2 ?_ | refine i_eLc ?_ | refine i_eLcM ?_ | refine i_sFor ?_ | refine i_eDisp1 ?_ | refine i_bl ?_ | refine i_int ?_ | refine i_nm ?_ | refine i_one ?_ | refine i_two ?_ | refine i_rng ?_ | refine i_len0 ?_ | refine i_int1 ?_ | refine i_intb ?_ | refine i_abs ?_ | refine i_add ?_ | refine i_sub ?_ | refine i_lt ?_ | refine i_le ?_ | refine i_gt ?_ | refine i_ge ?_ | refine i_eqi ?_ | refine i_is ?_ | refine i_isn ?_ | refine i_nes ?_ | refine i_rbl ?_) | ((with_reducible refine i_eVarX ?_); refine ⟨_, rfl, ?_⟩) | ((with_reducible refine i_len1 ?_ ?_); · exact Nat.le_of_ble_eq_true rfl))
          refine ix_of (i := 0) (hsq o1) rfl ?_
          repeat (first | (with_reducible first | refine i_sIf ?_ | refine i_sNil ?_ | refine i_sRet ?_ | refine i_sAsg ?_ | refine i_sDrop ?_ | refine i_sPut ?_ | refine i_sPar ?_ | refine i_eC ?_ | refine i_eOp ?_ | refine i_eChain ?_ | refine i_eB ?_ | refine i_eUn ?_ | refine i_eTup ?_ | refine i_eLst ?_ | refine i_eLstM ?_ | refine i_eAnd ?_ | refine i_eOr ?_ | refine i_eNot ?_ | refine i_eIf ?_ | refine i_bOf ?_ | refine i_bAnd ?_ | refine i_bOr ?_ | refine i_bNot ?_ | refine i_bYes ?_ | refine i_aNil ?_ | refine i_aCons ?_ | refine i_eCall ?_ | refine i_eCallKw ?_ | refine i_eCut ?_ | refine i_oNone ?_ | refine i_oSome ?_ | refine i_eM ?_ | refine i_sSq ?_ | refine i_sRange1 ?_ | refine i_sRange2 ?_ | refine i_sEnum ?_ | refine i_eIsi ?_ | refine i_eIsi2 ?_ | refine i_eLc ?_ | refine i_eLcM ?_ | refine i_sFor ?_ | refine i_eDisp1 ?_ | refine i_bl ?_ | refine i_int ?_ | refine i_nm ?_ | refine i_one ?_ | refine i_two ?_ | refine i_rng ?_ | refine i_len0 ?_ | refine i_int1 ?_ | refine i_intb ?_ | refine i_abs ?_ | refine i_add ?_ | refine i_sub ?_ | refine i_lt ?_ | refine i_le ?_ | refine i_gt ?_ | refine i_ge ?_ | refine i_eqi ?_ | refine i_is ?_ | refine i_isn ?_ | refine i_nes ?_ | refine i_rbl ?_) | ((with_reducible refine i_eVarX ?_); refine ⟨_, rfl, ?_⟩) | ((with_reducible refine i_len1 ?_ ?_); · exact Nat.le_of_ble_eq_true rfl))
          refine ⟨p0, rfl, pr_flat (hps p0 (by simp)), ?_⟩
          repeat (first | (with_reducible first | refine i_sIf ?_ | refine i_sNil ?_ | refine i_sRet ?_ | refine i_sAsg ?_ | refine i_sDrop ?_ | refine i_sPut ?_ | refine i_sPar ?_ | refine i_eC ?_ | refine i_eOp ?_ | refine i_eChain ?_ | refine i_eB ?_ | refine i_eUn ?_ | refine i_eTup ?_ | refine i_eLst ?_ | refine i_eLstM ?_ | refine i_eAnd ?_ | refine i_eOr ?_ | refine i_eNot ?_ | refine i_eIf ?_ | refine i_bOf ?_ | refine i_bAnd ?_ | refine i_bOr ?_ | refine i_bNot ?_ | refine i_bYes ?_ | refine i_aNil ?_ | refine i_aCons ?_ | refine i_eCall ?_ | refine i_eCallKw ?_ | refine i_eCut ?_ | refine i_oNone ?_ | refine i_oSome ?_ | refine i_eM ?_ | refine i_sSq ?_ | refine i_sRange1 ?_ | refine i_sRange2 ?_ | refine i_sEnum ?_ | refine i_eIsi ?_ | refine i_eIsi2 ?_ | refine i_eLc ?_ | refine i_eLcM ?_ | refine i_sFor ?_ | refine i_eDisp1 ?_ | refine i_bl ?_ | refine i_int ?_ | refine i_nm ?_ | refine i_one ?_ | refine i_two ?_ | refine i_rng ?_ | refine i_len0 ?_ | refine i_int1 ?_ | refine i_intb ?_ | refine i_abs ?_ | refine i_add ?_ | refine i_sub ?_ | refine i_lt ?_ | refine i_le ?_ | refine i_gt ?_ | refine i_ge ?_ | refine i_eqi ?_ | refine i_is ?_ | refine i_isn ?_ | refine i_nes ?_ | refine i_rbl ?_) | ((with_reducible refine i_eVarX ?_); refine ⟨_, rfl, ?_⟩) | ((with_reducible refine i_len1 ?_ ?_); · exact Nat.le_of_ble_eq_true rfl))
          refine ite_by (fun hq => ?_) (fun _ => ?_)
          · obtain ⟨a, b, e0, ba, bb⟩ := pr_sq (hps p0 (by simp)) hq
            obtain ⟨t0, ht0⟩ := ty_shw (pr_shw (hps p0 (by simp))).1
            have hs0 : ∀ S, seqOf (drf S p0) = some [.int a, .int b] := fun S => by
              rw [drf_ty ht0]
              exact e0
            repeat (first | (with_reducible first | refine i_sIf ?_ | refine i_sNil ?_ | refine i_sRet ?_ | refine i_sAsg ?_ | refine i_sDrop ?_ | refine i_sPut ?_ | refine i_sPar ?_ | refine i_eC ?_ | refine i_eOp ?_ | refine i_eChain ?_ | refine i_eB ?_ | refine i_eUn ?_ | refine i_eTup ?_ | refine i_eLst ?_ | refine i_eLstM ?_ | refine i_eAnd ?_ | refine i_eOr ?_ | refine i_eNot ?_ | refine i_eIf ?_ | refine i_bOf ?_ | refine i_bAnd ?_ | refine i_bOr ?_ | refine i_bNot ?_ | refine i_bYes ?_ | refine i_aNil ?_ | refine i_aCons ?_ | refine i_eCall ?_ | refine i_eCallKw ?_ | refine i_eCut ?_ | refine i_oNone ?_ | refine i_oSome ?_ | refine i_eM ?_ | refine i_sSq ?_ | refine i_sRange1 ?_ | refine i_sRange2 ?_ | refine i_sEnum ?_ | refine i_eIsi ?_ | refine i_eIsi2 ?_ | refine i_eLc ?_ | refine i_eLcM ?_ | refine i_sFor ?_ | refine i_eDisp1 ?_ | refine i_bl ?_ | refine i_int ?_ | refine i_nm ?_ | refine i_one ?_ | refine i_two ?_ | refine i_rng ?_ | refine i_len0 ?_ | refine i_int1 ?_ | refine i_intb ?_ | refine i_abs ?_ | refine i_add ?_ | refine i_sub ?_ | refine i_lt ?_ | refine i_le ?_ | refine i_gt ?_ | refine i_ge ?_ | refine i_eqi ?_ | refine i_is ?_ | refine i_isn ?_ | refine i_nes ?_ | refine i_rbl ?_) | ((with_reducible refine i_eVarX ?_); refine ⟨_, rfl, ?_⟩) | ((with_reducible refine i_len1 ?_ ?_); · exact Nat.le_of_ble_eq_true rfl))
            refine ⟨by rw [hdr]; rfl, ?_⟩
            repeat (first | (with_reducible first | refine i_sIf ?_ | refine i_sNil ?_ | refine i_sRet ?_ | refine i_sAsg ?_ | refine i_sDrop ?_ | refine i_sPut ?_ | refine i_sPar ?_ | refine i_eC ?_ | refine i_eOp ?_ | refine i_eChain ?_ | refine i_eB ?_ | refine i_eUn ?_ | refine i_eTup ?_ | refine i_eLst ?_ | refine i_eLstM ?_ | refine i_eAnd ?_ | refine i_eOr ?_ | refine i_eNot ?_ | refine i_eIf ?_ | refine i_bOf ?_ | refine i_bAnd ?_ | refine i_bOr ?_ | refine i_bNot ?_ | refine i_bYes ?_ | refine i_aNil ?_ | refine i_aCons ?_ | refine i_eCall ?_ | refine i_eCallKw ?_ | refine i_eCut ?_ | refine i_oNone ?_ | refine i_oSome ?_ | refine i_eM ?_ | refine i_sSq ?_ | refine i_sRange1 ?_ | refine i_sRange2 ?_ | refine i_sEnum ?_ | refine i_eIsi ?_ | refine i_eIsi2 ?_ | refine i_eLc ?_ | refine i_eLcM ?_ | refine i_sFor ?_ | refine i_eDisp1 ?_ | refine i_bl ?_ | refine i_int ?_ | refine i_nm ?_ | refine i_one ?_ | refine i_two ?_ | refine i_rng ?_ | refine i_len0 ?_ | refine i_int1 ?_ | refine i_intb ?_ | refine i_abs ?_ | refine i_add ?_ | refine i_sub ?_ | refine i_lt ?_ | refine i_le ?_ | refine i_gt ?_ | refine i_ge ?_ | refine i_eqi ?_ | refine i_is ?_ | refine i_isn ?_ | refine i_nes ?_ | refine i_rbl ?_) | ((with_reducible refine i_eVarX ?_); refine ⟨_, rfl, ?_⟩) | ((with_reducible refine i_len1 ?_ ?_); · exact Nat.le_of_ble_eq_true rfl))
            refine len_seq (hsq o1) ?_
            repeat (first | (with_reducible first | refine i_sIf ?_ | refine i_sNil ?_ | refine i_sRet ?_ | refine i_sAsg ?_ | refine i_sDrop ?_ | refine i_sPut ?_ | refine i_sPar ?_ | refine i_eC ?_ | refine i_eOp ?_ | refine i_eChain ?_ | refine i_eB ?_ | refine i_eUn ?_ | refine i_eTup ?_ | refine i_eLst ?_ | refine i_eLstM ?_ | refine i_eAnd ?_ | refine i_eOr ?_ | refine i_eNot ?_ | refine i_eIf ?_ | refine i_bOf ?_ | refine i_bAnd ?_ | refine i_bOr ?_ | refine i_bNot ?_ | refine i_bYes ?_ | refine i_aNil ?_ | refine i_aCons ?_ | refine i_eCall ?_ | refine i_eCallKw ?_ | refine i_eCut ?_ | refine i_oNone ?_ | refine i_oSome ?_ | refine i_eM ?_ | refine i_sSq ?_ | refine i_sRange1 ?_ | refine i_sRange2 ?_ | refine i_sEnum ?_ | refine i_eIsi ?_ | refine i_eIsi2 ?_ | refine i_eLc ?_ | refine i_eLcM ?_ | refine i_sFor ?_ | refine i_eDisp1 ?_ | refine i_bl ?_ | refine i_int ?_ | refine i_nm ?_ | refine i_one ?_ | refine i_two ?_ | refine i_rng ?_ | refine i_len0 ?_ | refine i_int1 ?_ | refine i_intb ?_ | refine i_abs ?_ | refine i_add ?_ | refine i_sub ?_ | refine i_lt ?_ | refine i_le ?_ | refine i_gt ?_ | refine i_ge ?_ | refine i_eqi ?_ | refine i_is ?_ | refine i_isn ?_ | refine i_nes ?_ | refine i_rbl ?_) | ((with_reducible refine i_eVarX ?_); refine ⟨_, rfl, ?_⟩) | ((with_reducible refine i_len1 ?_ ?_); · exact Nat.le_of_ble_eq_true rfl))
            have hl5 : rest.length ≤ 3 := by simpa using hpl
            refine ⟨K + 72, o1, T2, _, rfl, rfl, u1, by omega, by simp; omega, by simp; omega, fun o2 j u2 j0 j1 => ?_⟩
            have j1' : j < 5 := by
              simp at j1
              omega
            repeat (first | (with_reducible first | refine i_sIf ?_ | refine i_sNil ?_ | refine i_sRet ?_ | refine i_sAsg ?_ | refine i_sDrop ?_ | refine i_sPut ?_ | refine i_sPar ?_ | refine i_eC ?_ | refine i_eOp ?_ | refine i_eChain ?_ | refine i_eB ?_ | refine i_eUn ?_ | refine i_eTup ?_ | refine i_eLst ?_ | refine i_eLstM ?_ | refine i_eAnd ?_ | refine i_eOr ?_ | refine i_eNot ?_ | refine i_eIf ?_ | refine i_bOf ?_ | refine i_bAnd ?_ | refine i_bOr ?_ | refine i_bNot ?_ | refine i_bYes ?_ | refine i_aNil ?_ | refine i_aCons ?_ | refine i_eCall ?_ | refine i_eCallKw ?_ | refine i_eCut ?_ | refine i_oNone ?_ | refine i_oSome ?_ | refine i_eM ?_ | refine i_sSq ?_ | refine i_sRange1 ?_ | refine i_sRange2 ?_ | refine i_sEnum ?_ | refine i_eIsi ?_ | refine i_eIsi2 ?_ | refine i_eLc ?_ | refine i_eLcM ?_ | refine i_sFor ?_ | refine i_eDisp1 ?_ | refine i_bl ?_ | refine i_int ?_ | refine i_nm ?_ | refine i_one ?_ | refine i_two ?_ | refine i_rng ?_ | refine i_len0 ?_ | refine i_int1 ?_ | refine i_intb ?_ | refine i_abs ?_ | refine i_add ?_ | refine i_sub ?_ | refine i_lt ?_ | refine i_le ?_ | refine i_gt ?_ | refine i_ge ?_ | refine i_eqi ?_ | refine i_is ?_ | refine i_isn ?_ | refine i_nes ?_ | refine i_rbl ?_) | ((with_reducible refine i_eVarX ?_); refine ⟨_, rfl, ?_⟩) | ((with_reducible refine i_len1 ?_ ?_); · exact Nat.le_of_ble_eq_true rfl))
            refine ix_of (i := 0) (hsq o2) rfl ?_
            repeat (first | (with_reducible first | refine i_sIf ?_ | refine i_sNil ?_ | refine i_sRet ?_ | refine i_sAsg ?_ | refine i_sDrop ?_ | refine i_sPut ?_ | refine i_sPar ?_ | refine i_eC ?_ | refine i_eOp ?_ | refine i_eChain ?_ | refine i_eB ?_ | refine i_eUn ?_ | refine i_eTup ?_ | refine i_eLst ?_ | refine i_eLstM ?_ | refine i_eAnd ?_ | refine i_eOr ?_ | refine i_eNot ?_ | refine i_eIf ?_ | refine i_bOf ?_ | refine i_bAnd ?_ | refine i_bOr ?_ | refine i_bNot ?_ | refine i_bYes ?_ | refine i_aNil ?_ | refine i_aCons ?_ | refine i_eCall ?_ | refine i_eCallKw ?_ | refine i_eCut ?_ | refine i_oNone ?_ | refine i_oSome ?_ | refine i_eM ?_ | refine i_sSq ?_ | refine i_sRange1 ?_ | refine i_sRange2 ?_ | refine i_sEnum ?_ | refine i_eIsi ?_ | refine i_eIsi2 ?_ | refine i_eLc ?_ | refine i_eLcM ?_ | refine i_sFor ?_ | refine i_eDisp1 ?_ | refine i_bl ?_ | refine i_int ?_ | refine i_nm ?_ | refine i_one ?_ | refine i_two ?_ | refine i_rng ?_ | refine i_len0 ?_ | refine i_int1 ?_ | refine i_intb ?_ | refine i_abs ?_ | refine i_add ?_ | refine i_sub ?_ | refine i_lt ?_ | refine i_le ?_ | refine i_gt ?_ | refine i_ge ?_ | refine i_eqi ?_ | refine i_is ?_ | refine i_isn ?_ | refine i_nes ?_ | refine i_rbl ?_) | ((with_reducible refine i_eVarX ?_); refine ⟨_, rfl, ?_⟩) | ((with_reducible refine i_len1 ?_ ?_); · exact Nat.le_of_ble_eq_true rfl))
            refine ix_of (i := 0) (hs0 _) rfl ?_
            repeat (first | (with_reducible first | refine i_sIf ?_ | refine i_sNil ?_ | refine i_sRet ?_ | refine i_sAsg ?_ | refine i_sDrop ?_ | refine i_sPut ?_ | refine i_sPar ?_ | refine i_eC ?_ | refine i_eOp ?_ | refine i_eChain ?_ | refine i_eB ?_ | refine i_eUn ?_ | refine i_eTup ?_ | refine i_eLst ?_ | refine i_eLstM ?_ | refine i_eAnd ?_ | refine i_eOr ?_ | refine i_eNot ?_ | refine i_eIf ?_ | refine i_bOf ?_ | refine i_bAnd ?_ | refine i_bOr ?_ | refine i_bNot ?_ | refine i_bYes ?_ | refine i_aNil ?_ | refine i_aCons ?_ | refine i_eCall ?_ | refine i_eCallKw ?_ | refine i_eCut ?_ | refine i_oNone ?_ | refine i_oSome ?_ | refine i_eM ?_ | refine i_sSq ?_ | refine i_sRange1 ?_ | refine i_sRange2 ?_ | refine i_sEnum ?_ | refine i_eIsi ?_ | refine i_eIsi2 ?_ | refine i_eLc ?_ | refine i_eLcM ?_ | refine i_sFor ?_ | refine i_eDisp1 ?_ | refine i_bl ?_ | refine i_int ?_ | refine i_nm ?_ | refine i_one ?_ | refine i_two ?_ | refine i_rng ?_ | refine i_len0 ?_ | refine i_int1 ?_ | refine i_intb ?_ | refine i_abs ?_ | refine i_add ?_ | refine i_sub ?_ | refine i_lt ?_ | refine i_le ?_ | refine i_gt ?_ | refine i_ge ?_ | refine i_eqi ?_ | refine i_is ?_ | refine i_isn ?_ | refine i_nes ?_ | refine i_rbl ?_) | ((with_reducible refine i_eVarX ?_); refine ⟨_, rfl, ?_⟩) | ((with_reducible refine i_len1 ?_ ?_); · exact Nat.le_of_ble_eq_true rfl))
            refine ix_of (i := 0) (hsq o2) rfl ?_
            repeat (first | (with_reducible first | refine i_sIf ?_ | refine i_sNil ?_ | refine i_sRet ?_ | refine i_sAsg ?_ | refine i_sDrop ?_ | refine i_sPut ?_ | refine i_sPar ?_ | refine i_eC ?_ | refine i_eOp ?_ | refine i_eChain ?_ | refine i_eB ?_ | refine i_eUn ?_ | refine i_eTup ?_ | refine i_eLst ?_ | refine i_eLstM ?_ | refine i_eAnd ?_ | refine i_eOr ?_ | refine i_eNot ?_ | refine i_eIf ?_ | refine i_bOf ?_ | refine i_bAnd ?_ | refine i_bOr ?_ | refine i_bNot ?_ | refine i_bYes ?_ | refine i_aNil ?_ | refine i_aCons ?_ | refine i_eCall ?_ | refine i_eCallKw ?_ | refine i_eCut ?_ | refine i_oNone ?_ | refine i_oSome ?_ | refine i_eM ?_ | refine i_sSq ?_ | refine i_sRange1 ?_ | refine i_sRange2 ?_ | refine i_sEnum ?_ | refine i_eIsi ?_ | refine i_eIsi2 ?_ | refine i_eLc ?_ | refine i_eLcM ?_ | refine i_sFor ?_ | refine i_eDisp1 ?_ | refine i_bl ?_ | refine i_int ?_ | refine i_nm ?_ | refine i_one ?_ | refine i_two ?_ | refine i_rng ?_ | refine i_len0 ?_ | refine i_int1 ?_ | refine i_intb ?_ | refine i_abs ?_ | refine i_add ?_ | refine i_sub ?_ | refine i_lt ?_ | refine i_le ?_ | refine i_gt ?_ | refine i_ge ?_ | refine i_eqi ?_ | refine i_is ?_ | refine i_isn ?_ | refine i_nes ?_ | refine i_rbl ?_) | ((with_reducible refine i_eVarX ?_); refine ⟨_, rfl, ?_⟩) | ((with_reducible refine i_len1 ?_ ?_); · exact Nat.le_of_ble_eq_true rfl))
            refine ix_of (i := 1) (hs0 _) rfl ?_
            repeat (first | (with_reducible first | refine i_sIf ?_ | refine i_sNil ?_ | refine i_sRet ?_ | refine i_sAsg ?_ | refine i_sDrop ?_ | refine i_sPut ?_ | refine i_sPar ?_ | refine i_eC ?_ | refine i_eOp ?_ | refine i_eChain ?_ | refine i_eB ?_ | refine i_eUn ?_ | refine i_eTup ?_ | refine i_eLst ?_ | refine i_eLstM ?_ | refine i_eAnd ?_ | refine i_eOr ?_ | refine i_eNot ?_ | refine i_eIf ?_ | refine i_bOf ?_ | refine i_bAnd ?_ | refine i_bOr ?_ | refine i_bNot ?_ | refine i_bYes ?_ | refine i_aNil ?_ | refine i_aCons ?_ | refine i_eCall ?_ | refine i_eCallKw ?_ | refine i_eCut ?_ | refine i_oNone ?_ | refine i_oSome ?_ | refine i_eM ?_ | refine i_sSq ?_ | refine i_sRange1 ?_ | refine i_sRange2 ?_ | refine i_sEnum ?_ | refine i_eIsi ?_ | refine i_eIsi2 ?_ | refine i_eLc ?_ | refine i_eLcM ?_ | refine i_sFor ?_ | refine i_eDisp1 ?_ | refine i_bl ?_ | refine i_int ?_ | refine i_nm ?_ | refine i_one ?_ | refine i_two ?_ | refine i_rng ?_ | refine i_len0 ?_ | refine i_int1 ?_ | refine i_intb ?_ | refine i_abs ?_ | refine i_add ?_ | refine i_sub ?_ | refine i_lt ?_ | refine i_le ?_ | refine i_gt ?_ | refine i_ge ?_ | refine i_eqi ?_ | refine i_is ?_ | refine i_isn ?_ | refine i_nes ?_ | refine i_rbl ?_) | ((with_reducible refine i_eVarX ?_); refine ⟨_, rfl, ?_⟩) | ((with_reducible refine i_len1 ?_ ?_); · exact Nat.le_of_ble_eq_true rfl))
            refine ⟨m + 1, p0 :: rest, j, .lst [.int a, .int b], rfl, rfl, hm, Nat.lt_of_le_of_lt hpl (by decide), j0, by omega, ?_⟩
            repeat (first | (with_reducible first | refine i_sIf ?_ | refine i_sNil ?_ | refine i_sRet ?_ | refine i_sAsg ?_ | refine i_sDrop ?_ | refine i_sPut ?_ | refine i_sPar ?_ | refine i_eC ?_ | refine i_eOp ?_ | refine i_eChain ?_ | refine i_eB ?_ | refine i_eUn ?_ | refine i_eTup ?_ | refine i_eLst ?_ | refine i_eLstM ?_ | refine i_eAnd ?_ | refine i_eOr ?_ | refine i_eNot ?_ | refine i_eIf ?_ | refine i_bOf ?_ | refine i_bAnd ?_ | refine i_bOr ?_ | refine i_bNot ?_ | refine i_bYes ?_ | refine i_aNil ?_ | refine i_aCons ?_ | refine i_eCall ?_ | refine i_eCallKw ?_ | refine i_eCut ?_ | refine i_oNone ?_ | refine i_oSome ?_ | refine i_eM ?_ | refine i_sSq ?_ | refine i_sRange1 ?_ | refine i_sRange2 ?_ | refine i_sEnum ?_ | refine i_eIsi ?_ | refine i_eIsi2 ?_ | refine i_eLc ?_ | refine i_eLcM ?_ | refine i_sFor ?_ | refine i_eDisp1 ?_ | refine i_bl ?_ | refine i_int ?_ | refine i_nm ?_ | refine i_one ?_ | refine i_two ?_ | refine i_rng ?_ | refine i_len0 ?_ | refine i_int1 ?_ | refine i_intb ?_ | refine i_abs ?_ | refine i_add ?_ | refine i_sub ?_ | refine i_lt ?_ | refine i_le ?_ | refine i_gt ?_ | refine i_ge ?_ | refine i_eqi ?_ | refine i_is ?_ | refine i_isn ?_ | refine i_nes ?_ | refine i_rbl ?_) | ((with_reducible refine i_eVarX ?_); refine ⟨_, rfl, ?_⟩) | ((with_reducible refine i_len1 ?_ ?_); · exact Nat.le_of_ble_eq_true rfl))
            have hm' : m < T2.length := (List.getElem?_eq_some_iff.mp hm).1
            refine hnx _ _ ⟨o2, T2.set m (some (.lst ((p0 :: rest).take j.toNat ++ [.lst [.int a, .int b]] ++ (p0 :: rest).drop j.toNat))), m, _, u2, ?_, ?_, List.getElem?_set_self hm', rfl, rfl⟩
            · intro z hz
              rcases List.mem_append.mp hz with h | h
              · rcases List.mem_append.mp h with h | h
                · exact hps z (List.mem_of_mem_take h)
                · rw [List.mem_singleton.mp h]
                  exact .inr (.inl ⟨[a, b], rfl, by simp, by simp [ba, bb]⟩)
              · exact hps z (List.mem_of_mem_drop h)
            · simp
              omega
          · repeat (first | (with_reducible first | refine i_sIf ?_ | refine i_sNil ?_ | refine i_sRet ?_ | refine i_sAsg ?_ | refine i_sDrop ?_ | refine i_sPut ?_ | refine i_sPar ?_ | refine i_eC ?_ | refine i_eOp ?_ | refine i_eChain ?_ | refine i_eB ?_ | refine i_eUn ?_ | refine i_eTup ?_ | refine i_eLst ?_ | refine i_eLstM ?_ | refine i_eAnd ?_ | refine i_eOr ?_ | refine i_eNot ?_ | refine i_eIf ?_ | refine i_bOf ?_ | refine i_bAnd ?_ | refine i_bOr ?_ | refine i_bNot ?_ | refine i_bYes ?_ | refine i_aNil ?_ | refine i_aCons ?_ | refine i_eCall ?_ | refine i_eCallKw ?_ | refine i_eCut ?_ | refine i_oNone ?_ | refine i_oSome ?_ | refine i_eM ?_ | refine i_sSq ?_ | refine i_sRange1 ?_ | refine i_sRange2 ?_ | refine i_sEnum ?_ | refine i_eIsi ?_ | refine i_eIsi2 ?_ | refine i_eLc ?_ | refine i_eLcM ?_ | refine i_sFor ?_ | refine i_eDisp1 ?_ | refine i_bl ?_ | refine i_int ?_ | refine i_nm ?_ | refine i_one ?_ | refine i_two ?_ | refine i_rng ?_ | refine i_len0 ?_ | refine i_int1 ?_ | refine i_intb ?_ | refine i_abs ?_ | refine i_add ?_ | refine i_sub ?_ | refine i_lt ?_ | refine i_le ?_ | refine i_gt ?_ | refine i_ge ?_ | refine i_eqi ?_ | refine i_is ?_ | refine i_isn ?_ | refine i_nes ?_ | refine i_rbl ?_) | ((with_reducible refine i_eVarX ?_); refine ⟨_, rfl, ?_⟩) | ((with_reducible refine i_len1 ?_ ?_); · exact Nat.le_of_ble_eq_true rfl))
            exact hnx _ _ ⟨o1, T2, m, p0 :: rest, u1.mono (by omega), hps, Nat.le_trans hpl (by decide), hm, rfl, rfl⟩
      · repeat (first | (with_reducible first | refine i_sIf ?_ | refine i_sNil ?_ | refine i_sRet ?_ | refine i_sAsg ?_ | refine i_sDrop ?_ | refine i_sPut ?_ | refine i_sPar ?_ | refine i_eC ?_ | refine i_eOp ?_ | refine i_eChain ?_ | refine i_eB ?_ | refine i_eUn ?_ | refine i_eTup ?_ | refine i_eLst ?_ | refine i_eLstM ?_ | refine i_eAnd ?_ | refine i_eOr ?_ | refine i_eNot ?_ | refine i_eIf ?_ | refine i_bOf ?_ | refine i_bAnd ?_ | refine i_bOr ?_ | refine i_bNot ?_ | refine i_bYes ?_ | refine i_aNil ?_ | refine i_aCons ?_ | refine i_eCall ?_ | refine i_eCallKw ?_ | refine i_eCut ?_ | refine i_oNone ?_ | refine i_oSome ?_ | refine i_eM ?_ | refine i_sSq ?_ | refine i_sRange1 ?_ | refine i_sRange2 ?_ | refine i_sEnum ?_ | refine i_eIsi ?_ | refine i_eIsi2 ?_ | refine i_eLc ?_ | refine i_eLcM ?_ | refine i_sFor ?_ | refine i_eDisp1 ?_ | refine i_bl ?_ | refine i_int ?_ | refine i_nm ?_ | refine i_one ?_ | refine i_two ?_ | refine i_rng ?_ | refine i_len0 ?_ | refine i_int1 ?_ | refine i_intb ?_ | refine i_abs ?_ | refine i_add ?_ | refine i_sub ?_ | refine i_lt ?_ | refine i_le ?_ | refine i_gt ?_ | refine i_ge ?_ | refine i_eqi ?_ | refine i_is ?_ | refine i_isn ?_ | refine i_nes ?_ | refine i_rbl ?_) | ((with_reducible refine i_eVarX ?_); refine ⟨_, rfl, ?_⟩) | ((with_reducible refine i_len1 ?_ ?_); · exact Nat.le_of_ble_eq_true rfl))
        exact hnx _ _ ⟨o1, T2, m, ps, u1.mono (by omega), hps, Nat.le_trans hpl (by decide), hm, rfl, rfl⟩
    · repeat (first | (with_reducible first | refine i_sIf ?_ | refine i_sNil ?_ | refine i_sRet ?_ | refine i_sAsg ?_ | refine i_sDrop ?_ | refine i_sPut ?_ | refine i_sPar ?_ | refine i_eC ?_ | refine i_eOp ?_ | refine i_eChain ?_ | refine i_eB ?_ | refine i_eUn ?_ | refine i_eTup ?_ | refine i_eLst ?_ | refine i_eLstM ?_ | refine i_eAnd ?_ | refine i_eOr ?_ | refine i_eNot ?_ | refine i_eIf ?_ | refine i_bOf ?_ | refine i_bAnd ?_ | refine i_bOr ?_ | refine i_bNot ?_ | refine i_bYes ?_ | refine i_aNil ?_ | refine i_aCons ?_ | refine i_eCall ?_ | refine i_eCallKw ?_ | refine i_eCut ?_ | refine i_oNone ?_ | refine i_oSome ?_ | refine i_eM ?_ | refine i_sSq ?_ | refine i_sRange1 ?_ | refine i_sRange2 ?_ | refine i_sEnum ?_ | refine i_eIsi ?_ | refine i_eIsi2 ?_ | refine i_eLc ?_ | refine i_eLcM ?_ | refine i_sFor ?_ | refine i_eDisp1 ?_ | refine i_bl ?_ | refine i_int ?_ | refine i_nm ?_ | refine i_one ?_ | refine i_two ?_ | refine i_rng ?_ | refine i_len0 ?_ | refine i_int1 ?_ | refine i_intb ?_ | refine i_abs ?_ | refine i_add ?_ | refine i_sub ?_ | refine i_lt ?_ | refine i_le ?_ | refine i_gt ?_ | refine i_ge ?_ | refine i_eqi ?_ | refine i_is ?_ | refine i_isn ?_ | refine i_nes ?_ | refine i_rbl ?_) | ((with_reducible refine i_eVarX ?_); refine ⟨_, rfl, ?_⟩) | ((with_reducible refine i_len1 ?_ ?_); · exact Nat.le_of_ble_eq_true rfl))
      exact hnx _ _ ⟨o, T2, m, ps, u.mono (by omega), hps, Nat.le_trans hpl (by decide), hm, rfl, rfl⟩
  clear u hm hpl hps
  obtain ⟨o, T2, m, ps, u, hps, hpl, hm, rfl, rfl⟩ := hP
  -- value
  refine cut (fun ρ' S' => ∃ o v e, Urn (K + 74) o ∧ drf (some o :: T2) v = e ∧ (e = .lst ps ∨ e = .tup ps) ∧ S' = some o :: T2 ∧ ρ' = [x0, some (.ref 0), some d, some d3, some d4, some d5, some (.bl (inside d3 d4 d5)), some p, some (.ref (m + 1)), some v, x10, x11, x12, x13]) (fun N' hrt hnx => ?_) (fun ρ' S' hP => ?_)
  · repeat (first | (with_reducible first | refine i_sIf ?_ | refine i_sNil ?_ | refine i_sRet ?_ | refine i_sAsg ?_ | refine i_sDrop ?_ | refine i_sPut ?_ | refine i_sPar ?_ | refine i_eC ?_ | refine i_eOp ?_ | refine i_eChain ?_ | refine i_eB ?_ | refine i_eUn ?_ | refine i_eTup ?_ | refine i_eLst ?_ | refine i_eLstM ?_ | refine i_eAnd ?_ | refine i_eOr ?_ | refine i_eNot ?_ | refine i_eIf ?_ | refine i_bOf ?_ | refine i_bAnd ?_ | refine i_bOr ?_ | refine i_bNot ?_ | refine i_bYes ?_ | refine i_aNil ?_ | refine i_aCons ?_ | refine i_eCall ?_ | refine i_eCallKw ?_ | refine i_eCut ?_ | refine i_oNone ?_ | refine i_oSome ?_ | refine i_eM ?_ | refine i_sSq ?_ | refine i_sRange1 ?_ | refine i_sRange2 ?_ | refine i_sEnum ?_ | refine i_eIsi ?_ | refine i_eIsi2 ?_ | refine i_eLc ?_ | refine i_eLcM ?_ | refine i_sFor ?_ | refine i_eDisp1 ?_ | refine i_bl ?_ | refine i_int ?_ | refine i_nm ?_ | refine i_one ?_ | refine i_two ?_ | refine i_rng ?_ | refine i_len0 ?_ | refine i_int1 ?_ | refine i_intb ?_ | refine i_abs ?_ | refine i_add ?_ | refine i_sub ?_ | refine i_lt ?_ | refine i_le ?_ | refine i_gt ?_ | refine i_ge ?_ | refine i_eqi ?_ | refine i_is ?_ | refine i_isn ?_ | refine i_nes ?_ | refine i_rbl ?_) | ((with_reducible refine i_eVarX ?_); refine ⟨_, rfl, ?_⟩) | ((with_reducible refine i_len1 ?_ ?_); · exact Nat.le_of_ble_eq_true rfl))
    refine ⟨K + 73, o, T2, 2, rfl, rfl, u, by omega, by decide, by decide, fun o1 n u1 n0 n1 => ?_⟩
    have hdr : drf (some o1 :: T2) (.ref (m + 1)) = .lst ps := drf_ref (n := m + 1) hm
    repeat (first | (with_reducible first | refine i_sIf ?_ | refine i_sNil ?_ | refine i_sRet ?_ | refine i_sAsg ?_ | refine i_sDrop ?_ | refine i_sPut ?_ | refine i_sPar ?_ | refine i_eC ?_ | refine i_eOp ?_ | refine i_eChain ?_ | refine i_eB ?_ | refine i_eUn ?_ | refine i_eTup ?_ | refine i_eLst ?_ | refine i_eLstM ?_ | refine i_eAnd ?_ | refine i_eOr ?_ | refine i_eNot ?_ | refine i_eIf ?_ | refine i_bOf ?_ | refine i_bAnd ?_ | refine i_bOr ?_ | refine i_bNot ?_ | refine i_bYes ?_ | refine i_aNil ?_ | refine i_aCons ?_ | refine i_eCall ?_ | refine i_eCallKw ?_ | refine i_eCut ?_ | refine i_oNone ?_ | refine i_oSome ?_ | refine i_eM ?_ | refine i_sSq ?_ | refine i_sRange1 ?_ | refine i_sRange2 ?_ | refine i_sEnum ?_ | refine i_eIsi ?_ | refine i_eIsi2 ?_ | refine i_eLc ?_ | refine i_eLcM ?_ | refine i_sFor ?_ | refine i_eDisp1 ?_ | refine i_bl ?_ | refine i_int ?_ | refine i_nm ?_ | refine i_one ?_ | refine i_two ?_ | refine i_rng ?_ | refine i_len0 ?_ | refine i_int1 ?_ | refine i_intb ?_ | refine i_abs ?_ | refine i_add ?_ | refine i_sub ?_ | refine i_lt ?_ | refine i_le ?_ | refine i_gt ?_ | refine i_ge ?_ | refine i_eqi ?_ | refine i_is ?_ | refine i_isn ?_ | refine i_nes ?_ | refine i_rbl ?_) | ((with_reducible refine i_eVarX ?_); refine ⟨_, rfl, ?_⟩) | ((with_reducible refine i_len1 ?_ ?_); · exact Nat.le_of_ble_eq_true rfl))
    refine ite_by (fun _ => ?_) (fun _ => ?_)
    · repeat (first | (with_reducible first | refine i_sIf ?_ | refine i_sNil ?_ | refine i_sRet ?_ | refine i_sAsg ?_ | refine i_sDrop ?_ | refine i_sPut ?_ | refine i_sPar ?_ | refine i_eC ?_ | refine i_eOp ?_ | refine i_eChain ?_ | refine i_eB ?_ | refine i_eUn ?_ | refine i_eTup ?_ | refine i_eLst ?_ | refine i_eLstM ?_ | refine i_eAnd ?_ | refine i_eOr ?_ | refine i_eNot ?_ | refine i_eIf ?_ | refine i_bOf ?_ | refine i_bAnd ?_ | refine i_bOr ?_ | refine i_bNot ?_ | refine i_bYes ?_ | refine i_aNil ?_ | refine i_aCons ?_ | refine i_eCall ?_ | refine i_eCallKw ?_ | refine i_eCut ?_ | refine i_oNone ?_ | refine i_oSome ?_ | refine i_eM ?_ | refine i_sSq ?_ | refine i_sRange1 ?_ | refine i_sRange2 ?_ | refine i_sEnum ?_ | refine i_eIsi ?_ | refine i_eIsi2 ?_ | refine i_eLc ?_ | refine i_eLcM ?_ | refine i_sFor ?_ | refine i_eDisp1 ?_ | refine i_bl ?_ | refine i_int ?_ | refine i_nm ?_ | refine i_one ?_ | refine i_two ?_ | refine i_rng ?_ | refine i_len0 ?_ | refine i_int1 ?_ | refine i_intb ?_ | refine i_abs ?_ | refine i_add ?_ | refine i_sub ?_ | refine i_lt ?_ | refine i_le ?_ | refine i_gt ?_ | refine i_ge ?_ | refine i_eqi ?_ | refine i_is ?_ | refine i_isn ?_ | refine i_nes ?_ | refine i_rbl ?_) | ((with_reducible refine i_eVarX ?_); refine ⟨_, rfl, ?_⟩) | ((with_reducible refine i_len1 ?_ ?_); · exact Nat.le_of_ble_eq_true rfl))
      refine ⟨ps, by rw [hdr]; rfl, ?_⟩
      repeat (first | (with_reducible first | refine i_sIf ?_ | refine i_sNil ?_ | refine i_sRet ?_ | refine i_sAsg ?_ | refine i_sDrop ?_ | refine i_sPut ?_ | refine i_sPar ?_ | refine i_eC ?_ | refine i_eOp ?_ | refine i_eChain ?_ | refine i_eB ?_ | refine i_eUn ?_ | refine i_eTup ?_ | refine i_eLst ?_ | refine i_eLstM ?_ | refine i_eAnd ?_ | refine i_eOr ?_ | refine i_eNot ?_ | refine i_eIf ?_ | refine i_bOf ?_ | refine i_bAnd ?_ | refine i_bOr ?_ | refine i_bNot ?_ | refine i_bYes ?_ | refine i_aNil ?_ | refine i_aCons ?_ | refine i_eCall ?_ | refine i_eCallKw ?_ | refine i_eCut ?_ | refine i_oNone ?_ | refine i_oSome ?_ | refine i_eM ?_ | refine i_sSq ?_ | refine i_sRange1 ?_ | refine i_sRange2 ?_ | refine i_sEnum ?_ | refine i_eIsi ?_ | refine i_eIsi2 ?_ | refine i_eLc ?_ | refine i_eLcM ?_ | refine i_sFor ?_ | refine i_eDisp1 ?_ | refine i_bl ?_ | refine i_int ?_ | refine i_nm ?_ | refine i_one ?_ | refine i_two ?_ | refine i_rng ?_ | refine i_len0 ?_ | refine i_int1 ?_ | refine i_intb ?_ | refine i_abs ?_ | refine i_add ?_ | refine i_sub ?_ | refine i_lt ?_ | refine i_le ?_ | refine i_gt ?_ | refine i_ge ?_ | refine i_eqi ?_ | refine i_is ?_ | refine i_isn ?_ | refine i_nes ?_ | refine i_rbl ?_) | ((with_reducible refine i_eVarX ?_); refine ⟨_, rfl, ?_⟩) | ((with_reducible refine i_len1 ?_ ?_); · exact Nat.le_of_ble_eq_true rfl))
      exact hnx _ _ ⟨o1, .tup ps, .tup ps, u1, rfl, .inr rfl, rfl, rfl⟩
    · repeat (first | (with_reducible first | refine i_sIf ?_ | refine i_sNil ?_ | refine i_sRet ?_ | refine i_sAsg ?_ | refine i_sDrop ?_ | refine i_sPut ?_ | refine i_sPar ?_ | refine i_eC ?_ | refine i_eOp ?_ | refine i_eChain ?_ | refine i_eB ?_ | refine i_eUn ?_ | refine i_eTup ?_ | refine i_eLst ?_ | refine i_eLstM ?_ | refine i_eAnd ?_ | refine i_eOr ?_ | refine i_eNot ?_ | refine i_eIf ?_ | refine i_bOf ?_ | refine i_bAnd ?_ | refine i_bOr ?_ | refine i_bNot ?_ | refine i_bYes ?_ | refine i_aNil ?_ | refine i_aCons ?_ | refine i_eCall ?_ | refine i_eCallKw ?_ | refine i_eCut ?_ | refine i_oNone ?_ | refine i_oSome ?_ | refine i_eM ?_ | refine i_sSq ?_ | refine i_sRange1 ?_ | refine i_sRange2 ?_ | refine i_sEnum ?_ | refine i_eIsi ?_ | refine i_eIsi2 ?_ | refine i_eLc ?_ | refine i_eLcM ?_ | refine i_sFor ?_ | refine i_eDisp1 ?_ | refine i_bl ?_ | refine i_int ?_ | refine i_nm ?_ | refine i_one ?_ | refine i_two ?_ | refine i_rng ?_ | refine i_len0 ?_ | refine i_int1 ?_ | refine i_intb ?_ | refine i_abs ?_ | refine i_add ?_ | refine i_sub ?_ | refine i_lt ?_ | refine i_le ?_ | refine i_gt ?_ | refine i_ge ?_ | refine i_eqi ?_ | refine i_is ?_ | refine i_isn ?_ | refine i_nes ?_ | refine i_rbl ?_) | ((with_reducible refine i_eVarX ?_); refine ⟨_, rfl, ?_⟩) | ((with_reducible refine i_len1 ?_ ?_); · exact Nat.le_of_ble_eq_true rfl))
      exact hnx _ _ ⟨o1, .ref (m + 1), _, u1, hdr, .inl rfl, rfl, rfl⟩
  clear u
  obtain ⟨o, v, e, u, hde, he, rfl, rfl⟩ := hP
  have hse : seqOf e = some ps := by rcases he with rfl | rfl <;> rfl
  have hte : ∃ t, tyD e = some t := by rcases he with rfl | rfl <;> exact ⟨_, rfl⟩
  obtain ⟨te, hte⟩ := hte
  have hpsh : shws 59 ps = true := shws_all.mpr fun y hy => shw_up (by decide) (pr_shw (hps y hy)).1
  have hshe : shw 60 e = true := by rcases he with rfl | rfl <;> exact hpsh
  have hwe : wid e ≤ 3000 := by
    have h1 := wids_le (w := 400) (ds := ps) fun y hy => (pr_shw (hps y hy)).2.1
    have h2 : ps.length * (400 + 2) ≤ 5 * 402 := Nat.mul_le_mul_right _ hpl
    rcases he with rfl | rfl <;> simp only [wid] <;> omega
  have har : ∀ ys, seqOf e = some ys → ys.length < 60 ∧ ∀ y ∈ ys, Flat y := fun ys hy => by
    rw [hse] at hy
    cases hy
    exact ⟨by omega, fun y hy => pr_flat (hps y hy)⟩
  -- kept
  refine cut (fun ρ' S' => S' = some o :: T2 ∧ ρ' = [x0, some (.ref 0), some d, some d3, some d4, some d5, some (.bl (inside d3 d4 d5)), some p, some (.ref (m + 1)), some v, some (.str (shn e)), x11, x12, x13]) (fun N' hrt hnx => ?_) (fun ρ' S' hP => ?_)
  · repeat (first | (with_reducible first | refine i_sIf ?_ | refine i_sNil ?_ | refine i_sRet ?_ | refine i_sAsg ?_ | refine i_sDrop ?_ | refine i_sPut ?_ | refine i_sPar ?_ | refine i_eC ?_ | refine i_eOp ?_ | refine i_eChain ?_ | refine i_eB ?_ | refine i_eUn ?_ | refine i_eTup ?_ | refine i_eLst ?_ | refine i_eLstM ?_ | refine i_eAnd ?_ | refine i_eOr ?_ | refine i_eNot ?_ | refine i_eIf ?_ | refine i_bOf ?_ | refine i_bAnd ?_ | refine i_bOr ?_ | refine i_bNot ?_ | refine i_bYes ?_ | refine i_aNil ?_ | refine i_aCons ?_ | refine i_eCall ?_ | refine i_eCallKw ?_ | refine i_eCut ?_ | refine i_oNone ?_ | refine i_oSome ?_ | refine i_eM ?_ | refine i_sSq ?_ | refine i_sRange1 ?_ | refine i_sRange2 ?_ | refine i_sEnum ?_ | refine i_eIsi ?_ | refine i_eIsi2 ?_ | refine i_eLc ?_ | refine i_eLcM ?_ | refine i_sFor ?_ | refine i_eDisp1 ?_ | refine i_bl ?_ | refine i_int ?_ | refine i_nm ?_ | refine i_one ?_ | refine i_two ?_ | refine i_rng ?_ | refine i_len0 ?_ | refine i_int1 ?_ | refine i_intb ?_ | refine i_abs ?_ | refine i_add ?_ | refine i_sub ?_ | refine i_lt ?_ | refine i_le ?_ | refine i_gt ?_ | refine i_ge ?_ | refine i_eqi ?_ | refine i_is ?_ | refine i_isn ?_ | refine i_nes ?_ | refine i_rbl ?_) | ((with_reducible refine i_eVarX ?_); refine ⟨_, rfl, ?_⟩) | ((with_reducible refine i_len1 ?_ ?_); · exact Nat.le_of_ble_eq_true rfl))
    refine repr_of hde hshe hwe (by decide) ?_
    repeat (first | (with_reducible first | refine i_sIf ?_ | refine i_sNil ?_ | refine i_sRet ?_ | refine i_sAsg ?_ | refine i_sDrop ?_ | refine i_sPut ?_ | refine i_sPar ?_ | refine i_eC ?_ | refine i_eOp ?_ | refine i_eChain ?_ | refine i_eB ?_ | refine i_eUn ?_ | refine i_eTup ?_ | refine i_eLst ?_ | refine i_eLstM ?_ | refine i_eAnd ?_ | refine i_eOr ?_ | refine i_eNot ?_ | refine i_eIf ?_ | refine i_bOf ?_ | refine i_bAnd ?_ | refine i_bOr ?_ | refine i_bNot ?_ | refine i_bYes ?_ | refine i_aNil ?_ | refine i_aCons ?_ | refine i_eCall ?_ | refine i_eCallKw ?_ | refine i_eCut ?_ | refine i_oNone ?_ | refine i_oSome ?_ | refine i_eM ?_ | refine i_sSq ?_ | refine i_sRange1 ?_ | refine i_sRange2 ?_ | refine i_sEnum ?_ | refine i_eIsi ?_ | refine i_eIsi2 ?_ | refine i_eLc ?_ | refine i_eLcM ?_ | refine i_sFor ?_ | refine i_eDisp1 ?_ | refine i_bl ?_ | refine i_int ?_ | refine i_nm ?_ | refine i_one ?_ | refine i_two ?_ | refine i_rng ?_ | refine i_len0 ?_ | refine i_int1 ?_ | refine i_intb ?_ | refine i_abs ?_ | refine i_add ?_ | refine i_sub ?_ | refine i_lt ?_ | refine i_le ?_ | refine i_gt ?_ | refine i_ge ?_ | refine i_eqi ?_ | refine i_is ?_ | refine i_isn ?_ | refine i_nes ?_ | refine i_rbl ?_) | ((with_reducible refine i_eVarX ?_); refine ⟨_, rfl, ?_⟩) | ((with_reducible refine i_len1 ?_ ?_); · exact Nat.le_of_ble_eq_true rfl))
    exact hnx _ _ ⟨rfl, rfl⟩
  obtain ⟨rfl, rfl⟩ := hP
  -- are_squares
  refine cut (fun ρ' S' => S' = some o :: T2 ∧ ρ' = [x0, some (.ref 0), some d, some d3, some d4, some d5, some (.bl (inside d3 d4 d5)), some p, some (.ref (m + 1)), some v, some (.str (shn e)), x11, x12, x13]) (fun N' hrt hnx => ?_) (fun ρ' S' hP => ?_)
  · repeat (first | (with_reducible first | refine i_sIf ?_ | refine i_sNil ?_ | refine i_sRet ?_ | refine i_sAsg ?_ | refine i_sDrop ?_ | refine i_sPut ?_ | refine i_sPar ?_ | refine i_eC ?_ | refine i_eOp ?_ | refine i_eChain ?_ | refine i_eB ?_ | refine i_eUn ?_ | refine i_eTup ?_ | refine i_eLst ?_ | refine i_eLstM ?_ | refine i_eAnd ?_ | refine i_eOr ?_ | refine i_eNot ?_ | refine i_eIf ?_ | refine i_bOf ?_ | refine i_bAnd ?_ | refine i_bOr ?_ | refine i_bNot ?_ | refine i_bYes ?_ | refine i_aNil ?_ | refine i_aCons ?_ | refine i_eCall ?_ | refine i_eCallKw ?_ | refine i_eCut ?_ | refine i_oNone ?_ | refine i_oSome ?_ | refine i_eM ?_ | refine i_sSq ?_ | refine i_sRange1 ?_ | refine i_sRange2 ?_ | refine i_sEnum ?_ | refine i_eIsi ?_ | refine i_eIsi2 ?_ | refine i_eLc ?_ | refine i_eLcM ?_ | refine i_sFor ?_ | refine i_eDisp1 ?_ | refine i_bl ?_ | refine i_int ?_ | refine i_nm ?_ | refine i_one ?_ | refine i_two ?_ | refine i_rng ?_ | refine i_len0 ?_ | refine i_int1 ?_ | refine i_intb ?_ | refine i_abs ?_ | refine i_add ?_ | refine i_sub ?_ | refine i_lt ?_ | refine i_le ?_ | refine i_gt ?_ | refine i_ge ?_ | refine i_eqi ?_ | refine i_is ?_ | refine i_isn ?_ | refine i_nes ?_ | refine i_rbl ?_) | ((with_reducible refine i_eVarX ?_); refine ⟨_, rfl, ?_⟩) | ((with_reducible refine i_len1 ?_ ?_); · exact Nat.le_of_ble_eq_true rfl))
    refine ⟨v, e, te, rfl, hde, hte, har, ?_⟩
    repeat (first | (with_reducible first | refine i_sIf ?_ | refine i_sNil ?_ | refine i_sRet ?_ | refine i_sAsg ?_ | refine i_sDrop ?_ | refine i_sPut ?_ | refine i_sPar ?_ | refine i_eC ?_ | refine i_eOp ?_ | refine i_eChain ?_ | refine i_eB ?_ | refine i_eUn ?_ | refine i_eTup ?_ | refine i_eLst ?_ | refine i_eLstM ?_ | refine i_eAnd ?_ | refine i_eOr ?_ | refine i_eNot ?_ | refine i_eIf ?_ | refine i_bOf ?_ | refine i_bAnd ?_ | refine i_bOr ?_ | refine i_bNot ?_ | refine i_bYes ?_ | refine i_aNil ?_ | refine i_aCons ?_ | refine i_eCall ?_ | refine i_eCallKw ?_ | refine i_eCut ?_ | refine i_oNone ?_ | refine i_oSome ?_ | refine i_eM ?_ | refine i_sSq ?_ | refine i_sRange1 ?_ | refine i_sRange2 ?_ | refine i_sEnum ?_ | refine i_eIsi ?_ | refine i_eIsi2 ?_ | refine i_eLc ?_ | refine i_eLcM ?_ | refine i_sFor ?_ | refine i_eDisp1 ?_ | refine i_bl ?_ | refine i_int ?_ | refine i_nm ?_ | refine i_one ?_ | refine i_two ?_ | refine i_rng ?_ | refine i_len0 ?_ | refine i_int1 ?_ | refine i_intb ?_ | refine i_abs ?_ | refine i_add ?_ | refine i_sub ?_ | refine i_lt ?_ | refine i_le ?_ | refine i_gt ?_ | refine i_ge ?_ | refine i_eqi ?_ | refine i_is ?_ | refine i_isn ?_ | refine i_nes ?_ | refine i_rbl ?_) | ((with_reducible refine i_eVarX ?_); refine ⟨_, rfl, ?_⟩) | ((with_reducible refine i_len1 ?_ ?_); · exact Nat.le_of_ble_eq_true rfl))
    refine ⟨v, e, te, rfl, hde, hte, har, ?_⟩
    repeat (first | (with_reducible first | refine i_sIf ?_ | refine i_sNil ?_ | refine i_sRet ?_ | refine i_sAsg ?_ | refine i_sDrop ?_ | refine i_sPut ?_ | refine i_sPar ?_ | refine i_eC ?_ | refine i_eOp ?_ | refine i_eChain ?_ | refine i_eB ?_ | refine i_eUn ?_ | refine i_eTup ?_ | refine i_eLst ?_ | refine i_eLstM ?_ | refine i_eAnd ?_ | refine i_eOr ?_ | refine i_eNot ?_ | refine i_eIf ?_ | refine i_bOf ?_ | refine i_bAnd ?_ | refine i_bOr ?_ | refine i_bNot ?_ | refine i_bYes ?_ | refine i_aNil ?_ | refine i_aCons ?_ | refine i_eCall ?_ | refine i_eCallKw ?_ | refine i_eCut ?_ | refine i_oNone ?_ | refine i_oSome ?_ | refine i_eM ?_ | refine i_sSq ?_ | refine i_sRange1 ?_ | refine i_sRange2 ?_ | refine i_sEnum ?_ | refine i_eIsi ?_ | refine i_eIsi2 ?_ | refine i_eLc ?_ | refine i_eLcM ?_ | refine i_sFor ?_ | refine i_eDisp1 ?_ | refine i_bl ?_ | refine i_int ?_ | refine i_nm ?_ | refine i_one ?_ | refine i_two ?_ | refine i_rng ?_ | refine i_len0 ?_ | refine i_int1 ?_ | refine i_intb ?_ | refine i_abs ?_ | refine i_add ?_ | refine i_sub ?_ | refine i_lt ?_ | refine i_le ?_ | refine i_gt ?_ | refine i_ge ?_ | refine i_eqi ?_ | refine i_is ?_ | refine i_isn ?_ | refine i_nes ?_ | refine i_rbl ?_) | ((with_reducible refine i_eVarX ?_); refine ⟨_, rfl, ?_⟩) | ((with_reducible refine i_len1 ?_ ?_); · exact Nat.le_of_ble_eq_true rfl))
    rw [decide_eq_true rfl]
    refine iteF ?_
    repeat (first | (with_reducible first | refine i_sIf ?_ | refine i_sNil ?_ | refine i_sRet ?_ | refine i_sAsg ?_ | refine i_sDrop ?_ | refine i_sPut ?_ | refine i_sPar ?_ | refine i_eC ?_ | refine i_eOp ?_ | refine i_eChain ?_ | refine i_eB ?_ | refine i_eUn ?_ | refine i_eTup ?_ | refine i_eLst ?_ | refine i_eLstM ?_ | refine i_eAnd ?_ | refine i_eOr ?_ | refine i_eNot ?_ | refine i_eIf ?_ | refine i_bOf ?_ | refine i_bAnd ?_ | refine i_bOr ?_ | refine i_bNot ?_ | refine i_bYes ?_ | refine i_aNil ?_ | refine i_aCons ?_ | refine i_eCall ?_ | refine i_eCallKw ?_ | refine i_eCut ?_ | refine i_oNone ?_ | refine i_oSome ?_ | refine i_eM ?_ | refine i_sSq ?_ | refine i_sRange1 ?_ | refine i_sRange2 ?_ | refine i_sEnum ?_ | refine i_eIsi ?_ | refine i_eIsi2 ?_ | refine i_eLc ?_ | refine i_eLcM ?_ | refine i_sFor ?_ | refine i_eDisp1 ?_ | refine i_bl ?_ | refine i_int ?_ | refine i_nm ?_ | refine i_one ?_ | refine i_two ?_ | refine i_rng ?_ | refine i_len0 ?_ | refine i_int1 ?_ | refine i_intb ?_ | refine i_abs ?_ | refine i_add ?_ | refine i_sub ?_ | refine i_lt ?_ | refine i_le ?_ | refine i_gt ?_ | refine i_ge ?_ | refine i_eqi ?_ | refine i_is ?_ | refine i_isn ?_ | refine i_nes ?_ | refine i_rbl ?_) | ((with_reducible refine i_eVarX ?_); refine ⟨_, rfl, ?_⟩) | ((with_reducible refine i_len1 ?_ ?_); · exact Nat.le_of_ble_eq_true rfl))
    refine ⟨rfl, rfl, v, e, te, rfl, hde, hte, har, ?_⟩
    repeat (first | (with_reducible first | refine i_sIf ?_ | refine i_sNil ?_ | refine i_sRet ?_ | refine i_sAsg ?_ | refine i_sDrop ?_ | refine i_sPut ?_ | refine i_sPar ?_ | refine i_eC ?_ | refine i_eOp ?_ | refine i_eChain ?_ | refine i_eB ?_ | refine i_eUn ?_ | refine i_eTup ?_ | refine i_eLst ?_ | refine i_eLstM ?_ | refine i_eAnd ?_ | refine i_eOr ?_ | refine i_eNot ?_ | refine i_eIf ?_ | refine i_bOf ?_ | refine i_bAnd ?_ | refine i_bOr ?_ | refine i_bNot ?_ | refine i_bYes ?_ | refine i_aNil ?_ | refine i_aCons ?_ | refine i_eCall ?_ | refine i_eCallKw ?_ | refine i_eCut ?_ | refine i_oNone ?_ | refine i_oSome ?_ | refine i_eM ?_ | refine i_sSq ?_ | refine i_sRange1 ?_ | refine i_sRange2 ?_ | refine i_sEnum ?_ | refine i_eIsi ?_ | refine i_eIsi2 ?_ | refine i_eLc ?_ | refine i_eLcM ?_ | refine i_sFor ?_ | refine i_eDisp1 ?_ | refine i_bl ?_ | refine i_int ?_ | refine i_nm ?_ | refine i_one ?_ | refine i_two ?_ | refine i_rng ?_ | refine i_len0 ?_ | refine i_int1 ?_ | refine i_intb ?_ | refine i_abs ?_ | refine i_add ?_ | refine i_sub ?_ | refine i_lt ?_ | refine i_le ?_ | refine i_gt ?_ | refine i_ge ?_ | refine i_eqi ?_ | refine i_is ?_ | refine i_isn ?_ | refine i_nes ?_ | refine i_rbl ?_) | ((with_reducible refine i_eVarX ?_); refine ⟨_, rfl, ?_⟩) | ((with_reducible refine i_len1 ?_ ?_); · exact Nat.le_of_ble_eq_true rfl))
    refine ⟨v, e, te, rfl, hde, hte, har, ?_⟩
    repeat (first | (with_reducible first | refine i_sIf ?_ | refine i_sNil ?_ | refine i_sRet ?_ | refine i_sAsg ?_ | refine i_sDrop ?_ | refine i_sPut ?_ | refine i_sPar ?_ | refine i_eC ?_ | refine i_eOp ?_ | refine i_eChain ?_ | refine i_eB ?_ | refine i_eUn ?_ | refine i_eTup ?_ | refine i_eLst ?_ | refine i_eLstM ?_ | refine i_eAnd ?_ | refine i_eOr ?_ | refine i_eNot ?_ | refine i_eIf ?_ | refine i_bOf ?_ | refine i_bAnd ?_ | refine i_bOr ?_ | refine i_bNot ?_ | refine i_bYes ?_ | refine i_aNil ?_ | refine i_aCons ?_ | refine i_eCall ?_ | refine i_eCallKw ?_ | refine i_eCut ?_ | refine i_oNone ?_ | refine i_oSome ?_ | refine i_eM ?_ | refine i_sSq ?_ | refine i_sRange1 ?_ | refine i_sRange2 ?_ | refine i_sEnum ?_ | refine i_eIsi ?_ | refine i_eIsi2 ?_ | refine i_eLc ?_ | refine i_eLcM ?_ | refine i_sFor ?_ | refine i_eDisp1 ?_ | refine i_bl ?_ | refine i_int ?_ | refine i_nm ?_ | refine i_one ?_ | refine i_two ?_ | refine i_rng ?_ | refine i_len0 ?_ | refine i_int1 ?_ | refine i_intb ?_ | refine i_abs ?_ | refine i_add ?_ | refine i_sub ?_ | refine i_lt ?_ | refine i_le ?_ | refine i_gt ?_ | refine i_ge ?_ | refine i_eqi ?_ | refine i_is ?_ | refine i_isn ?_ | refine i_nes ?_ | refine i_rbl ?_) | ((with_reducible refine i_eVarX ?_); refine ⟨_, rfl, ?_⟩) | ((with_reducible refine i_len1 ?_ ?_); · exact Nat.le_of_ble_eq_true rfl))
    rw [decide_eq_true rfl]
    refine iteF ?_
    repeat (first | (with_reducible first | refine i_sIf ?_ | refine i_sNil ?_ | refine i_sRet ?_ | refine i_sAsg ?_ | refine i_sDrop ?_ | refine i_sPut ?_ | refine i_sPar ?_ | refine i_eC ?_ | refine i_eOp ?_ | refine i_eChain ?_ | refine i_eB ?_ | refine i_eUn ?_ | refine i_eTup ?_ | refine i_eLst ?_ | refine i_eLstM ?_ | refine i_eAnd ?_ | refine i_eOr ?_ | refine i_eNot ?_ | refine i_eIf ?_ | refine i_bOf ?_ | refine i_bAnd ?_ | refine i_bOr ?_ | refine i_bNot ?_ | refine i_bYes ?_ | refine i_aNil ?_ | refine i_aCons ?_ | refine i_eCall ?_ | refine i_eCallKw ?_ | refine i_eCut ?_ | refine i_oNone ?_ | refine i_oSome ?_ | refine i_eM ?_ | refine i_sSq ?_ | refine i_sRange1 ?_ | refine i_sRange2 ?_ | refine i_sEnum ?_ | refine i_eIsi ?_ | refine i_eIsi2 ?_ | refine i_eLc ?_ | refine i_eLcM ?_ | refine i_sFor ?_ | refine i_eDisp1 ?_ | refine i_bl ?_ | refine i_int ?_ | refine i_nm ?_ | refine i_one ?_ | refine i_two ?_ | refine i_rng ?_ | refine i_len0 ?_ | refine i_int1 ?_ | refine i_intb ?_ | refine i_abs ?_ | refine i_add ?_ | refine i_sub ?_ | refine i_lt ?_ | refine i_le ?_ | refine i_gt ?_ | refine i_ge ?_ | refine i_eqi ?_ | refine i_is ?_ | refine i_isn ?_ | refine i_nes ?_ | refine i_rbl ?_) | ((with_reducible refine i_eVarX ?_); refine ⟨_, rfl, ?_⟩) | ((with_reducible refine i_len1 ?_ ?_); · exact Nat.le_of_ble_eq_true rfl))
    refine repr_of hde hshe hwe (by decide) ?_
    repeat (first | (with_reducible first | refine i_sIf ?_ | refine i_sNil ?_ | refine i_sRet ?_ | refine i_sAsg ?_ | refine i_sDrop ?_ | refine i_sPut ?_ | refine i_sPar ?_ | refine i_eC ?_ | refine i_eOp ?_ | refine i_eChain ?_ | refine i_eB ?_ | refine i_eUn ?_ | refine i_eTup ?_ | refine i_eLst ?_ | refine i_eLstM ?_ | refine i_eAnd ?_ | refine i_eOr ?_ | refine i_eNot ?_ | refine i_eIf ?_ | refine i_bOf ?_ | refine i_bAnd ?_ | refine i_bOr ?_ | refine i_bNot ?_ | refine i_bYes ?_ | refine i_aNil ?_ | refine i_aCons ?_ | refine i_eCall ?_ | refine i_eCallKw ?_ | refine i_eCut ?_ | refine i_oNone ?_ | refine i_oSome ?_ | refine i_eM ?_ | refine i_sSq ?_ | refine i_sRange1 ?_ | refine i_sRange2 ?_ | refine i_sEnum ?_ | refine i_eIsi ?_ | refine i_eIsi2 ?_ | refine i_eLc ?_ | refine i_eLcM ?_ | refine i_sFor ?_ | refine i_eDisp1 ?_ | refine i_bl ?_ | refine i_int ?_ | refine i_nm ?_ | refine i_one ?_ | refine i_two ?_ | refine i_rng ?_ | refine i_len0 ?_ | refine i_int1 ?_ | refine i_intb ?_ | refine i_abs ?_ | refine i_add ?_ | refine i_sub ?_ | refine i_lt ?_ | refine i_le ?_ | refine i_gt ?_ | refine i_ge ?_ | refine i_eqi ?_ | refine i_is ?_ | refine i_isn ?_ | refine i_nes ?_ | refine i_rbl ?_) | ((with_reducible refine i_eVarX ?_); refine ⟨_, rfl, ?_⟩) | ((with_reducible refine i_len1 ?_ ?_); · exact Nat.le_of_ble_eq_true rfl))
    rw [decide_eq_true rfl]
    refine iteF ?_
    repeat (first | (with_reducible first | refine i_sIf ?_ | refine i_sNil ?_ | refine i_sRet ?_ | refine i_sAsg ?_ | refine i_sDrop ?_ | refine i_sPut ?_ | refine i_sPar ?_ | refine i_eC ?_ | refine i_eOp ?_ | refine i_eChain ?_ | refine i_eB ?_ | refine i_eUn ?_ | refine i_eTup ?_ | refine i_eLst ?_ | refine i_eLstM ?_ | refine i_eAnd ?_ | refine i_eOr ?_ | refine i_eNot ?_ | refine i_eIf ?_ | refine i_bOf ?_ | refine i_bAnd ?_ | refine i_bOr ?_ | refine i_bNot ?_ | refine i_bYes ?_ | refine i_aNil ?_ | refine i_aCons ?_ | refine i_eCall ?_ | refine i_eCallKw ?_ | refine i_eCut ?_ | refine i_oNone ?_ | refine i_oSome ?_ | refine i_eM ?_ | refine i_sSq ?_ | refine i_sRange1 ?_ | refine i_sRange2 ?_ | refine i_sEnum ?_ | refine i_eIsi ?_ | refine i_eIsi2 ?_ | refine i_eLc ?_ | refine i_eLcM ?_ | refine i_sFor ?_ | refine i_eDisp1 ?_ | refine i_bl ?_ | refine i_int ?_ | refine i_nm ?_ | refine i_one ?_ | refine i_two ?_ | refine i_rng ?_ | refine i_len0 ?_ | refine i_int1 ?_ | refine i_intb ?_ | refine i_abs ?_ | refine i_add ?_ | refine i_sub ?_ | refine i_lt ?_ | refine i_le ?_ | refine i_gt ?_ | refine i_ge ?_ | refine i_eqi ?_ | refine i_is ?_ | refine i_isn ?_ | refine i_nes ?_ | refine i_rbl ?_) | ((with_reducible refine i_eVarX ?_); refine ⟨_, rfl, ?_⟩) | ((with_reducible refine i_len1 ?_ ?_); · exact Nat.le_of_ble_eq_true rfl))
    exact hnx _ _ ⟨rfl, rfl⟩
  obtain ⟨rfl, rfl⟩ := hP
  -- odd
  refine cut (fun ρ' S' => ∃ o w, Urn (K + 75) o ∧ w ∈ odds ∧ S' = some o :: T2 ∧ ρ' = [x0, some (.ref 0), some d, some d3, some d4, some d5, some (.bl (inside d3 d4 d5)), some p, some (.ref (m + 1)), some v, some (.str (shn e)), some w, x12, x13]) (fun N' hrt hnx => ?_) (fun ρ' S' hP => ?_)
  · repeat (first | (with_reducible first | refine i_sIf ?_ | refine i_sNil ?_ | refine i_sRet ?_ | refine i_sAsg ?_ | refine i_sDrop ?_ | refine i_sPut ?_ | refine i_sPar ?_ | refine i_eC ?_ | refine i_eOp ?_ | refine i_eChain ?_ | refine i_eB ?_ | refine i_eUn ?_ | refine i_eTup ?_ | refine i_eLst ?_ | refine i_eLstM ?_ | refine i_eAnd ?_ | refine i_eOr ?_ | refine i_eNot ?_ | refine i_eIf ?_ | refine i_bOf ?_ | refine i_bAnd ?_ | refine i_bOr ?_ | refine i_bNot ?_ | refine i_bYes ?_ | refine i_aNil ?_ | refine i_aCons ?_ | refine i_eCall ?_ | refine i_eCallKw ?_ | refine i_eCut ?_ | refine i_oNone ?_ | refine i_oSome ?_ | refine i_eM ?_ | refine i_sSq ?_ | refine i_sRange1 ?_ | refine i_sRange2 ?_ | refine i_sEnum ?_ | refine i_eIsi ?_ | refine i_eIsi2 ?_ | refine i_eLc ?_ | refine i_eLcM ?_ | refine i_sFor ?_ | refine i_eDisp1 ?_ | refine i_bl ?_ | refine i_int ?_ | refine i_nm ?_ | refine i_one ?_ | refine i_two ?_ | refine i_rng ?_ | refine i_len0 ?_ | refine i_int1 ?_ | refine i_intb ?_ | refine i_abs ?_ | refine i_add ?_ | refine i_sub ?_ | refine i_lt ?_ | refine i_le ?_ | refine i_gt ?_ | refine i_ge ?_ | refine i_eqi ?_ | refine i_is ?_ | refine i_isn ?_ | refine i_nes ?_ | refine i_rbl ?_) | ((with_reducible refine i_eVarX ?_); refine ⟨_, rfl, ?_⟩) | ((with_reducible refine i_len1 ?_ ?_); · exact Nat.le_of_ble_eq_true rfl))
    refine ⟨K + 74, o, T2, rfl, rfl, u, by omega, fun o1 w u1 hw => ?_⟩
    repeat (first | (with_reducible first | refine i_sIf ?_ | refine i_sNil ?_ | refine i_sRet ?_ | refine i_sAsg ?_ | refine i_sDrop ?_ | refine i_sPut ?_ | refine i_sPar ?_ | refine i_eC ?_ | refine i_eOp ?_ | refine i_eChain ?_ | refine i_eB ?_ | refine i_eUn ?_ | refine i_eTup ?_ | refine i_eLst ?_ | refine i_eLstM ?_ | refine i_eAnd ?_ | refine i_eOr ?_ | refine i_eNot ?_ | refine i_eIf ?_ | refine i_bOf ?_ | refine i_bAnd ?_ | refine i_bOr ?_ | refine i_bNot ?_ | refine i_bYes ?_ | refine i_aNil ?_ | refine i_aCons ?_ | refine i_eCall ?_ | refine i_eCallKw ?_ | refine i_eCut ?_ | refine i_oNone ?_ | refine i_oSome ?_ | refine i_eM ?_ | refine i_sSq ?_ | refine i_sRange1 ?_ | refine i_sRange2 ?_ | refine i_sEnum ?_ | refine i_eIsi ?_ | refine i_eIsi2 ?_ | refine i_eLc ?_ | refine i_eLcM ?_ | refine i_sFor ?_ | refine i_eDisp1 ?_ | refine i_bl ?_ | refine i_int ?_ | refine i_nm ?_ | refine i_one ?_ | refine i_two ?_ | refine i_rng ?_ | refine i_len0 ?_ | refine i_int1 ?_ | refine i_intb ?_ | refine i_abs ?_ | refine i_add ?_ | refine i_sub ?_ | refine i_lt ?_ | refine i_le ?_ | refine i_gt ?_ | refine i_ge ?_ | refine i_eqi ?_ | refine i_is ?_ | refine i_isn ?_ | refine i_nes ?_ | refine i_rbl ?_) | ((with_reducible refine i_eVarX ?_); refine ⟨_, rfl, ?_⟩) | ((with_reducible refine i_len1 ?_ ?_); · exact Nat.le_of_ble_eq_true rfl))
    exact hnx _ _ ⟨o1, w, u1, hw, rfl, rfl⟩
  clear u
  obtain ⟨o, w, u, hw, rfl, rfl⟩ := hP
  obtain ⟨tw, htw⟩ := ty_shw (odd_shw w hw)
  obtain ⟨bw, hw1, hw2, hw3⟩ := odd_eq w hw
  repeat (first | (with_reducible first | refine i_sIf ?_ | refine i_sNil ?_ | refine i_sRet ?_ | refine i_sAsg ?_ | refine i_sDrop ?_ | refine i_sPut ?_ | refine i_sPar ?_ | refine i_eC ?_ | refine i_eOp ?_ | refine i_eChain ?_ | refine i_eB ?_ | refine i_eUn ?_ | refine i_eTup ?_ | refine i_eLst ?_ | refine i_eLstM ?_ | refine i_eAnd ?_ | refine i_eOr ?_ | refine i_eNot ?_ | refine i_eIf ?_ | refine i_bOf ?_ | refine i_bAnd ?_ | refine i_bOr ?_ | refine i_bNot ?_ | refine i_bYes ?_ | refine i_aNil ?_ | refine i_aCons ?_ | refine i_eCall ?_ | refine i_eCallKw ?_ | refine i_eCut ?_ | refine i_oNone ?_ | refine i_oSome ?_ | refine i_eM ?_ | refine i_sSq ?_ | refine i_sRange1 ?_ | refine i_sRange2 ?_ | refine i_sEnum ?_ | refine i_eIsi ?_ | refine i_eIsi2 ?_ | refine i_eLc ?_ | refine i_eLcM ?_ | refine i_sFor ?_ | refine i_eDisp1 ?_ | refine i_bl ?_ | refine i_int ?_ | refine i_nm ?_ | refine i_one ?_ | refine i_two ?_ | refine i_rng ?_ | refine i_len0 ?_ | refine i_int1 ?_ | refine i_intb ?_ | refine i_abs ?_ | refine i_add ?_ | refine i_sub ?_ | refine i_lt ?_ | refine i_le ?_ | refine i_gt ?_ | refine i_ge ?_ | refine i_eqi ?_ | refine i_is ?_ | refine i_isn ?_ | refine i_nes ?_ | refine i_rbl ?_) | ((with_reducible refine i_eVarX ?_); refine ⟨_, rfl, ?_⟩) | ((with_reducible refine i_len1 ?_ ?_); · exact Nat.le_of_ble_eq_true rfl))
  refine ⟨w, w, tw, rfl, drf_ty htw, htw, odd_items w hw, ?_⟩
  repeat (first | (with_reducible first | refine i_sIf ?_ | refine i_sNil ?_ | refine i_sRet ?_ | refine i_sAsg ?_ | refine i_sDrop ?_ | refine i_sPut ?_ | refine i_sPar ?_ | refine i_eC ?_ | refine i_eOp ?_ | refine i_eChain ?_ | refine i_eB ?_ | refine i_eUn ?_ | refine i_eTup ?_ | refine i_eLst ?_ | refine i_eLstM ?_ | refine i_eAnd ?_ | refine i_eOr ?_ | refine i_eNot ?_ | refine i_eIf ?_ | refine i_bOf ?_ | refine i_bAnd ?_ | refine i_bOr ?_ | refine i_bNot ?_ | refine i_bYes ?_ | refine i_aNil ?_ | refine i_aCons ?_ | refine i_eCall ?_ | refine i_eCallKw ?_ | refine i_eCut ?_ | refine i_oNone ?_ | refine i_oSome ?_ | refine i_eM ?_ | refine i_sSq ?_ | refine i_sRange1 ?_ | refine i_sRange2 ?_ | refine i_sEnum ?_ | refine i_eIsi ?_ | refine i_eIsi2 ?_ | refine i_eLc ?_ | refine i_eLcM ?_ | refine i_sFor ?_ | refine i_eDisp1 ?_ | refine i_bl ?_ | refine i_int ?_ | refine i_nm ?_ | refine i_one ?_ | refine i_two ?_ | refine i_rng ?_ | refine i_len0 ?_ | refine i_int1 ?_ | refine i_intb ?_ | refine i_abs ?_ | refine i_add ?_ | refine i_sub ?_ | refine i_lt ?_ | refine i_le ?_ | refine i_gt ?_ | refine i_ge ?_ | refine i_eqi ?_ | refine i_is ?_ | refine i_isn ?_ | refine i_nes ?_ | refine i_rbl ?_) | ((with_reducible refine i_eVarX ?_); refine ⟨_, rfl, ?_⟩) | ((with_reducible refine i_len1 ?_ ?_); · exact Nat.le_of_ble_eq_true rfl))
  have hq : EqR3 (drf (some o :: T2) w) (drf (some o :: T2) (.lst [])) bw := by
    rw [drf_ty htw]
    exact hw1
  refine ⟨bw, hq, ?_⟩
  repeat (first | (with_reducible first | refine i_sIf ?_ | refine i_sNil ?_ | refine i_sRet ?_ | refine i_sAsg ?_ | refine i_sDrop ?_ | refine i_sPut ?_ | refine i_sPar ?_ | refine i_eC ?_ | refine i_eOp ?_ | refine i_eChain ?_ | refine i_eB ?_ | refine i_eUn ?_ | refine i_eTup ?_ | refine i_eLst ?_ | refine i_eLstM ?_ | refine i_eAnd ?_ | refine i_eOr ?_ | refine i_eNot ?_ | refine i_eIf ?_ | refine i_bOf ?_ | refine i_bAnd ?_ | refine i_bOr ?_ | refine i_bNot ?_ | refine i_bYes ?_ | refine i_aNil ?_ | refine i_aCons ?_ | refine i_eCall ?_ | refine i_eCallKw ?_ | refine i_eCut ?_ | refine i_oNone ?_ | refine i_oSome ?_ | refine i_eM ?_ | refine i_sSq ?_ | refine i_sRange1 ?_ | refine i_sRange2 ?_ | refine i_sEnum ?_ | refine i_eIsi ?_ | refine i_eIsi2 ?_ | refine i_eLc ?_ | refine i_eLcM ?_ | refine i_sFor ?_ | refine i_eDisp1 ?_ | refine i_bl ?_ | refine i_int ?_ | refine i_nm ?_ | refine i_one ?_ | refine i_two ?_ | refine i_rng ?_ | refine i_len0 ?_ | refine i_int1 ?_ | refine i_intb ?_ | refine i_abs ?_ | refine i_add ?_ | refine i_sub ?_ | refine i_lt ?_ | refine i_le ?_ | refine i_gt ?_ | refine i_ge ?_ | refine i_eqi ?_ | refine i_is ?_ | refine i_isn ?_ | refine i_nes ?_ | refine i_rbl ?_) | ((with_reducible refine i_eVarX ?_); refine ⟨_, rfl, ?_⟩) | ((with_reducible refine i_len1 ?_ ?_); · exact Nat.le_of_ble_eq_true rfl))
  cases bw with
  | true =>
    refine iteT ?_
    repeat (first | (with_reducible first | refine i_sIf ?_ | refine i_sNil ?_ | refine i_sRet ?_ | refine i_sAsg ?_ | refine i_sDrop ?_ | refine i_sPut ?_ | refine i_sPar ?_ | refine i_eC ?_ | refine i_eOp ?_ | refine i_eChain ?_ | refine i_eB ?_ | refine i_eUn ?_ | refine i_eTup ?_ | refine i_eLst ?_ | refine i_eLstM ?_ | refine i_eAnd ?_ | refine i_eOr ?_ | refine i_eNot ?_ | refine i_eIf ?_ | refine i_bOf ?_ | refine i_bAnd ?_ | refine i_bOr ?_ | refine i_bNot ?_ | refine i_bYes ?_ | refine i_aNil ?_ | refine i_aCons ?_ | refine i_eCall ?_ | refine i_eCallKw ?_ | refine i_eCut ?_ | refine i_oNone ?_ | refine i_oSome ?_ | refine i_eM ?_ | refine i_sSq ?_ | refine i_sRange1 ?_ | refine i_sRange2 ?_ | refine i_sEnum ?_ | refine i_eIsi ?_ | refine i_eIsi2 ?_ | refine i_eLc ?_ | refine i_eLcM ?_ | refine i_sFor ?_ | refine i_eDisp1 ?_ | refine i_bl ?_ | refine i_int ?_ | refine i_nm ?_ | refine i_one ?_ | refine i_two ?_ | refine i_rng ?_ | refine i_len0 ?_ | refine i_int1 ?_ | refine i_intb ?_ | refine i_abs ?_ | refine i_add ?_ | refine i_sub ?_ | refine i_lt ?_ | refine i_le ?_ | refine i_gt ?_ | refine i_ge ?_ | refine i_eqi ?_ | refine i_is ?_ | refine i_isn ?_ | refine i_nes ?_ | refine i_rbl ?_) | ((with_reducible refine i_eVarX ?_); refine ⟨_, rfl, ?_⟩) | ((with_reducible refine i_len1 ?_ ?_); · exact Nat.le_of_ble_eq_true rfl))
    refine ⟨_, by rw [drf_ty htw]; exact isi_list htw, ?_⟩
    repeat (first | (with_reducible first | refine i_sIf ?_ | refine i_sNil ?_ | refine i_sRet ?_ | refine i_sAsg ?_ | refine i_sDrop ?_ | refine i_sPut ?_ | refine i_sPar ?_ | refine i_eC ?_ | refine i_eOp ?_ | refine i_eChain ?_ | refine i_eB ?_ | refine i_eUn ?_ | refine i_eTup ?_ | refine i_eLst ?_ | refine i_eLstM ?_ | refine i_eAnd ?_ | refine i_eOr ?_ | refine i_eNot ?_ | refine i_eIf ?_ | refine i_bOf ?_ | refine i_bAnd ?_ | refine i_bOr ?_ | refine i_bNot ?_ | refine i_bYes ?_ | refine i_aNil ?_ | refine i_aCons ?_ | refine i_eCall ?_ | refine i_eCallKw ?_ | refine i_eCut ?_ | refine i_oNone ?_ | refine i_oSome ?_ | refine i_eM ?_ | refine i_sSq ?_ | refine i_sRange1 ?_ | refine i_sRange2 ?_ | refine i_sEnum ?_ | refine i_eIsi ?_ | refine i_eIsi2 ?_ | refine i_eLc ?_ | refine i_eLcM ?_ | refine i_sFor ?_ | refine i_eDisp1 ?_ | refine i_bl ?_ | refine i_int ?_ | refine i_nm ?_ | refine i_one ?_ | refine i_two ?_ | refine i_rng ?_ | refine i_len0 ?_ | refine i_int1 ?_ | refine i_intb ?_ | refine i_abs ?_ | refine i_add ?_ | refine i_sub ?_ | refine i_lt ?_ | refine i_le ?_ | refine i_gt ?_ | refine i_ge ?_ | refine i_eqi ?_ | refine i_is ?_ | refine i_isn ?_ | refine i_nes ?_ | refine i_rbl ?_) | ((with_reducible refine i_eVarX ?_); refine ⟨_, rfl, ?_⟩) | ((with_reducible refine i_len1 ?_ ?_); · exact Nat.le_of_ble_eq_true rfl))
    rw [hw3 rfl, ← hw2, decide_eq_true rfl]
    refine iteF ?_
    repeat (first | (with_reducible first | refine i_sIf ?_ | refine i_sNil ?_ | refine i_sRet ?_ | refine i_sAsg ?_ | refine i_sDrop ?_ | refine i_sPut ?_ | refine i_sPar ?_ | refine i_eC ?_ | refine i_eOp ?_ | refine i_eChain ?_ | refine i_eB ?_ | refine i_eUn ?_ | refine i_eTup ?_ | refine i_eLst ?_ | refine i_eLstM ?_ | refine i_eAnd ?_ | refine i_eOr ?_ | refine i_eNot ?_ | refine i_eIf ?_ | refine i_bOf ?_ | refine i_bAnd ?_ | refine i_bOr ?_ | refine i_bNot ?_ | refine i_bYes ?_ | refine i_aNil ?_ | refine i_aCons ?_ | refine i_eCall ?_ | refine i_eCallKw ?_ | refine i_eCut ?_ | refine i_oNone ?_ | refine i_oSome ?_ | refine i_eM ?_ | refine i_sSq ?_ | refine i_sRange1 ?_ | refine i_sRange2 ?_ | refine i_sEnum ?_ | refine i_eIsi ?_ | refine i_eIsi2 ?_ | refine i_eLc ?_ | refine i_eLcM ?_ | refine i_sFor ?_ | refine i_eDisp1 ?_ | refine i_bl ?_ | refine i_int ?_ | refine i_nm ?_ | refine i_one ?_ | refine i_two ?_ | refine i_rng ?_ | refine i_len0 ?_ | refine i_int1 ?_ | refine i_intb ?_ | refine i_abs ?_ | refine i_add ?_ | refine i_sub ?_ | refine i_lt ?_ | refine i_le ?_ | refine i_gt ?_ | refine i_ge ?_ | refine i_eqi ?_ | refine i_is ?_ | refine i_isn ?_ | refine i_nes ?_ | refine i_rbl ?_) | ((with_reducible refine i_eVarX ?_); refine ⟨_, rfl, ?_⟩) | ((with_reducible refine i_len1 ?_ ?_); · exact Nat.le_of_ble_eq_true rfl))
    exact ⟨o, T2, _, _, _, _, _, _, _, _, _, _, _, _, _, by rw [← hK] at u; exact u.mono (by omega), rfl, rfl⟩
  | false =>
    refine iteF ?_
    repeat (first | (with_reducible first | refine i_sIf ?_ | refine i_sNil ?_ | refine i_sRet ?_ | refine i_sAsg ?_ | refine i_sDrop ?_ | refine i_sPut ?_ | refine i_sPar ?_ | refine i_eC ?_ | refine i_eOp ?_ | refine i_eChain ?_ | refine i_eB ?_ | refine i_eUn ?_ | refine i_eTup ?_ | refine i_eLst ?_ | refine i_eLstM ?_ | refine i_eAnd ?_ | refine i_eOr ?_ | refine i_eNot ?_ | refine i_eIf ?_ | refine i_bOf ?_ | refine i_bAnd ?_ | refine i_bOr ?_ | refine i_bNot ?_ | refine i_bYes ?_ | refine i_aNil ?_ | refine i_aCons ?_ | refine i_eCall ?_ | refine i_eCallKw ?_ | refine i_eCut ?_ | refine i_oNone ?_ | refine i_oSome ?_ | refine i_eM ?_ | refine i_sSq ?_ | refine i_sRange1 ?_ | refine i_sRange2 ?_ | refine i_sEnum ?_ | refine i_eIsi ?_ | refine i_eIsi2 ?_ | refine i_eLc ?_ | refine i_eLcM ?_ | refine i_sFor ?_ | refine i_eDisp1 ?_ | refine i_bl ?_ | refine i_int ?_ | refine i_nm ?_ | refine i_one ?_ | refine i_two ?_ | refine i_rng ?_ | refine i_len0 ?_ | refine i_int1 ?_ | refine i_intb ?_ | refine i_abs ?_ | refine i_add ?_ | refine i_sub ?_ | refine i_lt ?_ | refine i_le ?_ | refine i_gt ?_ | refine i_ge ?_ | refine i_eqi ?_ | refine i_is ?_ | refine i_isn ?_ | refine i_nes ?_ | refine i_rbl ?_) | ((with_reducible refine i_eVarX ?_); refine ⟨_, rfl, ?_⟩) | ((with_reducible refine i_len1 ?_ ?_); · exact Nat.le_of_ble_eq_true rfl))
    rw [← hw2, decide_eq_true rfl]
    refine iteF ?_
    repeat (first | (with_reducible first | refine i_sIf ?_ | refine i_sNil ?_ | refine i_sRet ?_ | refine i_sAsg ?_ | refine i_sDrop ?_ | refine i_sPut ?_ | refine i_sPar ?_ | refine i_eC ?_ | refine i_eOp ?_ | refine i_eChain ?_ | refine i_eB ?_ | refine i_eUn ?_ | refine i_eTup ?_ | refine i_eLst ?_ | refine i_eLstM ?_ | refine i_eAnd ?_ | refine i_eOr ?_ | refine i_eNot ?_ | refine i_eIf ?_ | refine i_bOf ?_ | refine i_bAnd ?_ | refine i_bOr ?_ | refine i_bNot ?_ | refine i_bYes ?_ | refine i_aNil ?_ | refine i_aCons ?_ | refine i_eCall ?_ | refine i_eCallKw ?_ | refine i_eCut ?_ | refine i_oNone ?_ | refine i_oSome ?_ | refine i_eM ?_ | refine i_sSq ?_ | refine i_sRange1 ?_ | refine i_sRange2 ?_ | refine i_sEnum ?_ | refine i_eIsi ?_ | refine i_eIsi2 ?_ | refine i_eLc ?_ | refine i_eLcM ?_ | refine i_sFor ?_ | refine i_eDisp1 ?_ | refine i_bl ?_ | refine i_int ?_ | refine i_nm ?_ | refine i_one ?_ | refine i_two ?_ | refine i_rng ?_ | refine i_len0 ?_ | refine i_int1 ?_ | refine i_intb ?_ | refine i_abs ?_ | refine i_add ?_ | refine i_sub ?_ | refine i_lt ?_ | refine i_le ?_ | refine i_gt ?_ | refine i_ge ?_ | refine i_eqi ?_ | refine i_is ?_ | refine i_isn ?_ | refine i_nes ?_ | refine i_rbl ?_) | ((with_reducible refine i_eVarX ?_); refine ⟨_, rfl, ?_⟩) | ((with_reducible refine i_len1 ?_ ?_); · exact Nat.le_of_ble_eq_true rfl))
    exact ⟨o, T2, _, _, _, _, _, _, _, _, _, _, _, _, _, by rw [← hK] at u; exact u.mono (by omega), rfl, rfl⟩
theorem law_true : TrueAt r_law 63 := fun ns h => ⟨ns, rfl, rfl, h, fun _ => rfl⟩

section
variable {P : Program} {w : World} {K : PySem.W.Frag} {mg : Str → Option Value} {base : Heap}
def top (i : Nat) : Stmt := PySem.Challenge.pw_nevercaught_k02_plain_values.main.body.getD i (.Pass ⟨0, 0, 0, 0⟩)
abbrev s_law_urn : Stmt := top 6
abbrev n_law_urn : List Str := ["script", "cell"]
theorem sc_law_urn : FnScope n_law_urn ["script"] (defScope s_law_urn) := ⟨rfl, rfl, rfl, by decide +kernel, rfl, by decide +kernel, by decide +kernel⟩
theorem ok_law_urn {f : Addr} {fd : FuncData} (F : Fun K "_law_urn" "_law_urn" s_law_urn f fd) (z_int : mg "int" = none) : FnG P w K mg base CX0 1 f fd ["script"] (lsp K r_law_urn) := by
  refine def_ok (tb := b_law_urn) F sc_law_urn len_law_urn (fun cdv A outer s H E room hgd => ?_) run_law_urn
  have nd := sc_law_urn.nd
  have hu := Room.units room
  have hu5 := Room.u65 room
  exact (ds_one (ds_ret (de_lstM (da_cons (de_lcOf (pe_lc (own := [("cell", 1)]) (g := toG _ (.nm 1)) (tt := tT _ bYes) (te := tE _ (eB rInt1 (aCons (eVar 1) aNil))) rfl nd (di_seq (de_cut (de_var 0 (pv 0)) do_none (do_some de_int))) (blkOk_by (N := n_law_urn) (sc := defScope s_law_urn) (by decide +kernel)) (fun _ _ _ _ _ => (dg_nm (i := 1) nd rfl (by first | exact .inl rfl | exact .inr rfl) (by first | exact .inl rfl | exact .inr rfl))) (fun _ _ _ _ _ => dts_nil) (fun _ _ _ _ _ => (de_Ty c_int z_int bt_int (da_cons (de_var 1 (pv 1)) da_nil)))) (by decide)) (da_cons de_int (da_cons de_int da_nil))))))

abbrev s_law_draw : Stmt := top 7
abbrev n_law_draw : List Str := ["jar", "many", "at", "cell", "mixed", "rest"]
theorem sc_law_draw : FnScope n_law_draw ["jar", "many"] (defScope s_law_draw) := ⟨rfl, rfl, rfl, by decide +kernel, rfl, by decide +kernel, by decide +kernel⟩
theorem ok_law_draw {f : Addr} {fd : FuncData} (F : Fun K "_law_draw" "_law_draw" s_law_draw f fd) (z_int : mg "int" = none) (z_len : mg "len" = none) (z_abs : mg "abs" = none) : FnG P w K mg base CX0 1 f fd ["jar", "many"] (lsp K r_law_draw) := by
  refine def_ok (tb := b_law_draw) F sc_law_draw len_law_draw (fun cdv A outer s H E room hgd => ?_) run_law_draw
  have nd := sc_law_draw.nd
  have hu := Room.units room
  have hu5 := Room.u65 room
  exact (ds_cons (ds_if (dt_cmp o_gt (de_ix o_ix (de_var 0 (pv 0)) de_int (fun _ _ => rfl)) de_int (nomark _))
    (ds_cons (ds_set (i := 5) nd rfl (by first | exact .inl rfl | exact .inr rfl) (de_Ty c_int z_int bt_int (da_cons (de_ix o_ix (de_var 0 (pv 0)) de_int (fun _ _ => rfl)) da_nil)))
    (ds_cons (ds_put (ps_asg (de_op o_div (de_var 5 (pv 5)) (de_var 1 (pv 1))) (pg_sub (de_var 0 (pv 0)) de_int set_list)))
    (ds_one (ds_ret (de_op o_mod (de_Ty c_int z_int bt_int (da_cons (de_var 5 (pv 5)) da_nil)) (de_var 1 (pv 1)))))))
    ds_nil)
    (ds_cons (ds_set (i := 2) nd rfl (by first | exact .inl rfl | exact .inr rfl) (de_ix o_ix (de_var 0 (pv 0)) de_int (fun _ _ => rfl)))
    (ds_cons (ds_put (ps_asg (de_op o_add (de_var 2 (pv 2)) de_int) (pg_sub (de_var 0 (pv 0)) de_int set_list)))
    (ds_cons (ds_set (i := 3) nd rfl (by first | exact .inl rfl | exact .inr rfl) (de_op o_add (de_op o_mul de_int (de_var 2 (pv 2))) de_int))
    (ds_cons (ds_if (dt_cmp (op_ne3 hu) (de_ix o_ix (de_var 0 (pv 0)) de_int (fun _ _ => rfl)) (de_lst da_nil) (nomark _))
    (ds_one (ds_set (i := 3) nd rfl (by first | exact .inl rfl | exact .inr rfl) (de_ix o_ix (de_ix o_ix (de_var 0 (pv 0)) de_int (fun _ _ => rfl)) (de_op o_mod (de_Ty c_int z_int bt_int (da_cons (de_var 2 (pv 2)) da_nil)) (de_B c_len z_len PySem.boot_len (da_cons (de_ix o_ix (de_var 0 (pv 0)) de_int (fun _ _ => rfl)) da_nil))) (fun _ _ => rfl))))
    ds_nil)
    (ds_cons (ds_if (dt_w (dw_and (dt_cmp o_lt (de_var 2 (pv 2)) (de_B c_len z_len PySem.boot_len (da_cons (de_ix o_ix (de_var 0 (pv 0)) de_int (fun _ _ => rfl)) da_nil)) (nomark _)) (dw_and1 (dt_cmp o_ge (de_B c_abs z_abs bt_abs (da_cons (de_var 3 (pv 3)) da_nil)) (de_op o_pow de_int de_int) (nomark _)))))
    (ds_cons (ds_set (i := 5) nd rfl (by first | exact .inl rfl | exact .inr rfl) (de_op o_add (de_op o_mul de_int (de_op o_sub (de_B c_abs z_abs bt_abs (da_cons (de_var 3 (pv 3)) da_nil)) (de_op o_pow de_int de_int))) (de_Ty c_int z_int bt_int (da_cons (de_cmp o_lt (de_var 3 (pv 3)) de_int (nomark _)) da_nil))))
    (ds_cons (ds_put (ps_asg (de_op o_div (de_Ty c_int z_int bt_int (da_cons (de_var 5 (pv 5)) da_nil)) (de_var 1 (pv 1))) (pg_sub (de_var 0 (pv 0)) de_int set_list)))
    (ds_one (ds_ret (de_op o_mod (de_Ty c_int z_int bt_int (da_cons (de_var 5 (pv 5)) da_nil)) (de_var 1 (pv 1)))))))
    ds_nil)
    (ds_cons (ds_set (i := 4) nd rfl (by first | exact .inl rfl | exact .inr rfl) (de_op o_mod (de_Ty c_int z_int bt_int (da_cons (de_op o_pow (de_op o_add (de_op o_add (de_op o_mod (de_Ty c_int z_int bt_int (da_cons (de_var 3 (pv 3)) da_nil)) de_int) (de_op o_mul de_int (de_var 2 (pv 2)))) de_int) de_int) da_nil)) de_int))
    (ds_cons (ds_set (i := 4) nd rfl (by first | exact .inl rfl | exact .inr rfl) (de_op o_mod (de_Ty c_int z_int bt_int (da_cons (de_op o_pow (de_op o_add (de_op o_add (de_op o_mul (de_var 4 (pv 4)) (de_op o_add (de_op o_mul de_int (de_var 2 (pv 2))) de_int)) (de_op o_mul (de_op o_mul de_int (de_var 2 (pv 2))) (de_var 2 (pv 2)))) de_int) de_int) da_nil)) de_int))
    (ds_one (ds_ret (de_op o_mod (de_Ty c_int z_int bt_int (da_cons (de_op o_div (de_var 4 (pv 4)) de_int) da_nil)) (de_var 1 (pv 1)))))))))))))

abbrev s_law_number : Stmt := top 8
abbrev n_law_number : List Str := ["urn", "size"]
theorem sc_law_number : FnScope n_law_number ["urn"] (defScope s_law_number) := ⟨rfl, rfl, rfl, by decide +kernel, rfl, by decide +kernel, by decide +kernel⟩
theorem ok_law_number {f : Addr} {fd : FuncData} (F : Fun K "_law_number" "_law_number" s_law_number f fd)
    {f_law_draw : Addr} {d_law_draw : FuncData} (F_law_draw : FnG P w K mg base CX0 1 f_law_draw d_law_draw ["jar", "many"] (lsp K r_law_draw)) (m_law_draw : mg "_law_draw" = some (.ref f_law_draw)) (k_law_draw : PySem.W.keepIn K (.ref f_law_draw) = true) (q_law_draw : Binds K d_law_draw ["jar", "many"] []) : FnG P w K mg base CX0 2 f fd ["urn"] (lsp K r_law_number) := by
  refine def_ok (tb := b_law_number) F sc_law_number len_law_number (fun cdv A outer s H E room hgd => ?_) run_law_number
  have nd := sc_law_number.nd
  have hu := Room.units room
  have hu5 := Room.u65 room
  exact (ds_cons (ds_set (i := 1) nd rfl (by first | exact .inl rfl | exact .inr rfl) (de_ix o_ix (de_lst (da_cons de_int (da_cons de_int (da_cons (de_op o_pow de_int de_int) (da_cons (de_op o_pow de_int de_int) da_nil))))) (de_call F_law_draw (room.mono (by decide)) hgd (by rfl) m_law_draw k_law_draw q_law_draw (da_cons (de_var 0 (pv 0)) (da_cons de_int da_nil))) (fun _ _ => rfl)))
    (ds_one (ds_ret (de_op o_sub (de_call F_law_draw (room.mono (by decide)) hgd (by rfl) m_law_draw k_law_draw q_law_draw (da_cons (de_var 0 (pv 0)) (da_cons (de_op o_add (de_op o_mul de_int (de_var 1 (pv 1))) de_int) da_nil))) (de_var 1 (pv 1))))))

abbrev s_law_odd : Stmt := top 9
abbrev n_law_odd : List Str := ["urn"]
theorem sc_law_odd : FnScope n_law_odd ["urn"] (defScope s_law_odd) := ⟨rfl, rfl, rfl, by decide +kernel, rfl, by decide +kernel, by decide +kernel⟩
theorem ok_law_odd {f : Addr} {fd : FuncData} (F : Fun K "_law_odd" "_law_odd" s_law_odd f fd)
    {f_law_draw : Addr} {d_law_draw : FuncData} (F_law_draw : FnG P w K mg base CX0 1 f_law_draw d_law_draw ["jar", "many"] (lsp K r_law_draw)) (m_law_draw : mg "_law_draw" = some (.ref f_law_draw)) (k_law_draw : PySem.W.keepIn K (.ref f_law_draw) = true) (q_law_draw : Binds K d_law_draw ["jar", "many"] []) : FnG P w K mg base CX0 2 f fd ["urn"] (lsp K r_law_odd) := by
  refine def_ok (tb := b_law_odd) F sc_law_odd len_law_odd (fun cdv A outer s H E room hgd => ?_) run_law_odd
  have nd := sc_law_odd.nd
  have hu := Room.units room
  have hu5 := Room.u65 room
  exact (ds_one (ds_ret (de_ix o_ix (de_lst (da_cons de_non (da_cons de_bl (da_cons de_bl (da_cons de_str (da_cons de_str (da_cons (de_lst da_nil) (da_cons (de_lst (da_cons de_int da_nil)) (da_cons (de_tup (da_cons de_int (da_cons de_int da_nil))) (da_cons de_dnew (da_cons (de_disp (ps := [((.inl 1), (eC (.int 2)))]) (pps_cons de_int de_int pps_nil) rfl rfl (by simp) (by decide) (by decide)) da_nil))))))))))) (de_call F_law_draw (room.mono (by decide)) hgd (by rfl) m_law_draw k_law_draw q_law_draw (da_cons (de_var 0 (pv 0)) (da_cons de_int da_nil))) (fun _ _ => rfl))))

abbrev s_law_is_number : Stmt := top 11
abbrev n_law_is_number : List Str := ["value"]
theorem sc_law_is_number : FnScope n_law_is_number ["value"] (defScope s_law_is_number) := ⟨rfl, rfl, rfl, by decide +kernel, rfl, by decide +kernel, by decide +kernel⟩
theorem ok_law_is_number {f : Addr} {fd : FuncData} (F : Fun K "_law_is_number" "_law_is_number" s_law_is_number f fd) (z_isinstance : mg "isinstance" = none) (z_bool : mg "bool" = none) (z_int : mg "int" = none) : FnG P w K mg base CX0 1 f fd ["value"] (lsp K r_law_is_number) := by
  refine def_ok (tb := b_law_is_number) F sc_law_is_number len_law_is_number (fun cdv A outer s H E room hgd => ?_) run_law_is_number
  have nd := sc_law_is_number.nd
  have hu := Room.units room
  have hu5 := Room.u65 room
  exact (ds_one (ds_ret (de_and (de_isi (T := "int") (pe_callB call_isi (by rfl) z_isinstance bt_isinstance (pa_cons (de_var 0 (pv 0)) (pa_cons (pe_T z_int bt_int) pa_nil)))) (de_one (de_not (de_isi (T := "bool") (pe_callB call_isi (by rfl) z_isinstance bt_isinstance (pa_cons (de_var 0 (pv 0)) (pa_cons (pe_T z_bool bt_bool) pa_nil)))))))))

abbrev s_is_integer : Stmt := top 1
abbrev n_is_integer : List Str := ["value"]
theorem sc_is_integer : FnScope n_is_integer ["value"] (defScope s_is_integer) := ⟨rfl, rfl, rfl, by decide +kernel, rfl, by decide +kernel, by decide +kernel⟩
theorem ok_is_integer {f : Addr} {fd : FuncData} (F : Fun K "is_integer" "is_integer" s_is_integer f fd) (z_isinstance : mg "isinstance" = none) (z_bool : mg "bool" = none) (z_int : mg "int" = none) : FnG P w K mg base CX0 1 f fd ["value"] (lsp K r_is_integer) := by
  refine def_ok (tb := b_is_integer) F sc_is_integer len_is_integer (fun cdv A outer s H E room hgd => ?_) run_is_integer
  have nd := sc_is_integer.nd
  have hu := Room.units room
  have hu5 := Room.u65 room
  exact (ds_one (ds_ret (de_and (de_isi (T := "int") (pe_callB call_isi (by rfl) z_isinstance bt_isinstance (pa_cons (de_var 0 (pv 0)) (pa_cons (pe_T z_int bt_int) pa_nil)))) (de_one (de_not (de_isi (T := "bool") (pe_callB call_isi (by rfl) z_isinstance bt_isinstance (pa_cons (de_var 0 (pv 0)) (pa_cons (pe_T z_bool bt_bool) pa_nil)))))))))

abbrev s_is_within : Stmt := top 2
abbrev n_is_within : List Str := ["value", "least", "most"]
theorem sc_is_within : FnScope n_is_within ["value", "least", "most"] (defScope s_is_within) := ⟨rfl, rfl, rfl, by decide +kernel, rfl, by decide +kernel, by decide +kernel⟩
theorem ok_is_within {f : Addr} {fd : FuncData} (F : Fun K "is_within" "is_within" s_is_within f fd)
    {f_is_integer : Addr} {d_is_integer : FuncData} (F_is_integer : FnG P w K mg base CX0 1 f_is_integer d_is_integer ["value"] (lsp K r_is_integer)) (m_is_integer : mg "is_integer" = some (.ref f_is_integer)) (k_is_integer : PySem.W.keepIn K (.ref f_is_integer) = true) (q_is_integer : Binds K d_is_integer ["value"] []) : FnG P w K mg base CX0 2 f fd ["value", "least", "most"] (lsp K r_is_within) := by
  refine def_ok (tb := b_is_within) F sc_is_within len_is_within (fun cdv A outer s H E room hgd => ?_) run_is_within
  have nd := sc_is_within.nd
  have hu := Room.units room
  have hu5 := Room.u65 room
  exact (ds_cons (ds_if (dt_not (dt_val (de_call F_is_integer (room.mono (by decide)) hgd (by rfl) m_is_integer k_is_integer q_is_integer (da_cons (de_var 0 (pv 0)) da_nil))))
    (ds_one (ds_ret de_bl))
    ds_nil)
    (ds_one (ds_ret (de_and (de_or (de_cmp o_is (de_var 1 (pv 1)) de_non (nomark _)) (de_one (de_cmp o_le (de_var 1 (pv 1)) (de_var 0 (pv 0)) (nomark _)))) (de_one (de_or (de_cmp o_is (de_var 2 (pv 2)) de_non (nomark _)) (de_one (de_cmp o_le (de_var 0 (pv 0)) (de_var 2 (pv 2)) (nomark _)))))))))

abbrev s_law_pair : Stmt := top 10
abbrev n_law_pair : List Str := ["urn", "kind", "pair", "turn"]
theorem sc_law_pair : FnScope n_law_pair ["urn"] (defScope s_law_pair) := ⟨rfl, rfl, rfl, by decide +kernel, rfl, by decide +kernel, by decide +kernel⟩
theorem ok_law_pair {f : Addr} {fd : FuncData} (F : Fun K "_law_pair" "_law_pair" s_law_pair f fd)
    {f_law_draw : Addr} {d_law_draw : FuncData} (F_law_draw : FnG P w K mg base CX0 1 f_law_draw d_law_draw ["jar", "many"] (lsp K r_law_draw)) (m_law_draw : mg "_law_draw" = some (.ref f_law_draw)) (k_law_draw : PySem.W.keepIn K (.ref f_law_draw) = true) (q_law_draw : Binds K d_law_draw ["jar", "many"] [])
    {f_law_number : Addr} {d_law_number : FuncData} (F_law_number : FnG P w K mg base CX0 2 f_law_number d_law_number ["urn"] (lsp K r_law_number)) (m_law_number : mg "_law_number" = some (.ref f_law_number)) (k_law_number : PySem.W.keepIn K (.ref f_law_number) = true) (q_law_number : Binds K d_law_number ["urn"] [])
    {f_law_odd : Addr} {d_law_odd : FuncData} (F_law_odd : FnG P w K mg base CX0 2 f_law_odd d_law_odd ["urn"] (lsp K r_law_odd)) (m_law_odd : mg "_law_odd" = some (.ref f_law_odd)) (k_law_odd : PySem.W.keepIn K (.ref f_law_odd) = true) (q_law_odd : Binds K d_law_odd ["urn"] []) (z_range : mg "range" = none) (z_tuple : mg "tuple" = none) : FnG P w K mg base CX0 3 f fd ["urn"] (lsp K r_law_pair) := by
  refine def_ok (tb := b_law_pair) F sc_law_pair len_law_pair (fun cdv A outer s H E room hgd => ?_) run_law_pair
  have nd := sc_law_pair.nd
  have hu := Room.units room
  have hu5 := Room.u65 room
  exact (ds_cons (ds_set (i := 1) nd rfl (by first | exact .inl rfl | exact .inr rfl) (de_call F_law_draw (room.mono (by decide)) hgd (by rfl) m_law_draw k_law_draw q_law_draw (da_cons (de_var 0 (pv 0)) (da_cons de_int da_nil))))
    (ds_cons (ds_if (dt_cmp (op_eq3 hu) (de_var 1 (pv 1)) de_int (nomark _))
    (ds_one (ds_ret (de_lcOf (pe_lc (own := [("turn", 3)]) (g := toG _ (.nm 3)) (tt := tT _ bYes) (te := tE _ (eCall r_law_number (aCons (eVar 0) aNil))) rfl nd (di_range1 (by rfl) z_range (da_cons (de_ix o_ix (de_lst (da_cons de_int (da_cons de_int (da_cons de_int (da_cons de_int da_nil))))) (de_call F_law_draw (room.mono (by decide)) hgd (by rfl) m_law_draw k_law_draw q_law_draw (da_cons (de_var 0 (pv 0)) (da_cons de_int da_nil))) (fun _ _ => rfl)) da_nil)) (blkOk_by (N := n_law_pair) (sc := defScope s_law_pair) (by decide +kernel)) (fun _ _ _ _ _ => (dg_nm (i := 3) nd rfl (by first | exact .inl rfl | exact .inr rfl) (by first | exact .inl rfl | exact .inr rfl))) (fun _ _ _ _ _ => dts_nil) (fun _ _ _ _ _ => (de_call F_law_number (room.mono (by decide)) hgd (by rfl) m_law_number k_law_number q_law_number (da_cons (de_var 0 (pv 0)) da_nil)))) (by decide))))
    ds_nil)
    (ds_cons (ds_if (dt_cmp (op_eq3 hu) (de_var 1 (pv 1)) de_int (nomark _))
    (ds_one (ds_ret (de_tup (da_cons (de_call F_law_number (room.mono (by decide)) hgd (by rfl) m_law_number k_law_number q_law_number (da_cons (de_var 0 (pv 0)) da_nil)) (da_cons (de_call F_law_odd (room.mono (by decide)) hgd (by rfl) m_law_odd k_law_odd q_law_odd (da_cons (de_var 0 (pv 0)) da_nil)) da_nil)))))
    ds_nil)
    (ds_cons (ds_if (dt_cmp (op_eq3 hu) (de_var 1 (pv 1)) de_int (nomark _))
    (ds_one (ds_ret (de_call F_law_odd (room.mono (by decide)) hgd (by rfl) m_law_odd k_law_odd q_law_odd (da_cons (de_var 0 (pv 0)) da_nil))))
    ds_nil)
    (ds_cons (ds_set (i := 2) nd rfl (by first | exact .inl rfl | exact .inr rfl) (de_lst (da_cons (de_op o_sub (de_call F_law_draw (room.mono (by decide)) hgd (by rfl) m_law_draw k_law_draw q_law_draw (da_cons (de_var 0 (pv 0)) (da_cons de_int da_nil))) de_int) (da_cons (de_op o_sub (de_call F_law_draw (room.mono (by decide)) hgd (by rfl) m_law_draw k_law_draw q_law_draw (da_cons (de_var 0 (pv 0)) (da_cons de_int da_nil))) de_int) da_nil))))
    (ds_one (ds_ret (de_if (dt_cmp (op_eq3 hu) (de_call F_law_draw (room.mono (by decide)) hgd (by rfl) m_law_draw k_law_draw q_law_draw (da_cons (de_var 0 (pv 0)) (da_cons de_int da_nil))) de_int (nomark _)) (de_Ty c_tuple z_tuple bt_tuple (da_cons (de_var 2 (pv 2)) da_nil)) (de_var 2 (pv 2))))))))))

abbrev s_is_square : Stmt := top 3
abbrev n_is_square : List Str := ["value", "number"]
theorem sc_is_square : FnScope n_is_square ["value"] (defScope s_is_square) := ⟨rfl, rfl, rfl, by decide +kernel, rfl, by decide +kernel, by decide +kernel⟩
theorem ok_is_square {f : Addr} {fd : FuncData} (F : Fun K "is_square" "is_square" s_is_square f fd)
    {f_is_integer : Addr} {d_is_integer : FuncData} (F_is_integer : FnG P w K mg base CX0 1 f_is_integer d_is_integer ["value"] (lsp K r_is_integer)) (m_is_integer : mg "is_integer" = some (.ref f_is_integer)) (k_is_integer : PySem.W.keepIn K (.ref f_is_integer) = true) (q_is_integer : Binds K d_is_integer ["value"] []) (z_all : mg "all" = none) (z_len : mg "len" = none) (z_isinstance : mg "isinstance" = none) (z_list : mg "list" = none) (z_tuple : mg "tuple" = none) : FnG P w K mg base CX0 2 f fd ["value"] (lsp K r_is_square) := by
  refine def_ok (tb := b_is_square) F sc_is_square len_is_square (fun cdv A outer s H E room hgd => ?_) run_is_square
  have nd := sc_is_square.nd
  have hu := Room.units room
  have hu5 := Room.u65 room
  exact (ds_one (ds_ret (de_and (de_isi2 (T1 := "list") (T2 := "tuple") (pe_callB call_isiT (by rfl) z_isinstance bt_isinstance (pa_cons (de_var 0 (pv 0)) (pa_cons (pe_tup (pa_cons (pe_T z_list bt_list) (pa_cons (pe_T z_tuple bt_tuple) pa_nil))) pa_nil)))) (de_and (de_cmp (op_eq3 hu) (de_B c_len z_len PySem.boot_len (da_cons (de_var 0 (pv 0)) da_nil)) de_int (nomark _)) (de_one (de_B (c_all rfl) z_all bt_all (da_cons (de_lcOf (pe_lc (own := [("number", 1)]) (g := toG _ (.nm 1)) (tt := tT _ bYes) (te := tE _ (eCall r_is_integer (aCons (eVar 1) aNil))) rfl nd (di_seq (de_var 0 (pv 0))) (blkOk_by (N := n_is_square) (sc := defScope s_is_square) (by decide +kernel)) (fun _ _ _ _ _ => (dg_nm (i := 1) nd rfl (by first | exact .inl rfl | exact .inr rfl) (by first | exact .inl rfl | exact .inr rfl))) (fun _ _ _ _ _ => dts_nil) (fun _ _ _ _ _ => (de_call F_is_integer (room.mono (by decide)) hgd (by rfl) m_is_integer k_is_integer q_is_integer (da_cons (de_var 1 (pv 1)) da_nil)))) (by decide)) da_nil)))))))

abbrev s_law_is_pair : Stmt := top 12
abbrev n_law_is_pair : List Str := ["value"]
theorem sc_law_is_pair : FnScope n_law_is_pair ["value"] (defScope s_law_is_pair) := ⟨rfl, rfl, rfl, by decide +kernel, rfl, by decide +kernel, by decide +kernel⟩
theorem ok_law_is_pair {f : Addr} {fd : FuncData} (F : Fun K "_law_is_pair" "_law_is_pair" s_law_is_pair f fd)
    {f_law_is_number : Addr} {d_law_is_number : FuncData} (F_law_is_number : FnG P w K mg base CX0 1 f_law_is_number d_law_is_number ["value"] (lsp K r_law_is_number)) (m_law_is_number : mg "_law_is_number" = some (.ref f_law_is_number)) (k_law_is_number : PySem.W.keepIn K (.ref f_law_is_number) = true) (q_law_is_number : Binds K d_law_is_number ["value"] []) (z_len : mg "len" = none) (z_isinstance : mg "isinstance" = none) (z_list : mg "list" = none) (z_tuple : mg "tuple" = none) : FnG P w K mg base CX0 2 f fd ["value"] (lsp K r_law_is_pair) := by
  refine def_ok (tb := b_law_is_pair) F sc_law_is_pair len_law_is_pair (fun cdv A outer s H E room hgd => ?_) run_law_is_pair
  have nd := sc_law_is_pair.nd
  have hu := Room.units room
  have hu5 := Room.u65 room
  exact (ds_one (ds_ret (de_and (de_isi2 (T1 := "list") (T2 := "tuple") (pe_callB call_isiT (by rfl) z_isinstance bt_isinstance (pa_cons (de_var 0 (pv 0)) (pa_cons (pe_tup (pa_cons (pe_T z_list bt_list) (pa_cons (pe_T z_tuple bt_tuple) pa_nil))) pa_nil)))) (de_and (de_cmp (op_eq3 hu) (de_B c_len z_len PySem.boot_len (da_cons (de_var 0 (pv 0)) da_nil)) de_int (nomark _)) (de_and (de_call F_law_is_number (room.mono (by decide)) hgd (by rfl) m_law_is_number k_law_is_number q_law_is_number (da_cons (de_ix o_ix (de_var 0 (pv 0)) de_int (fun _ _ => rfl)) da_nil)) (de_one (de_call F_law_is_number (room.mono (by decide)) hgd (by rfl) m_law_is_number k_law_is_number q_law_is_number (da_cons (de_ix o_ix (de_var 0 (pv 0)) de_int (fun _ _ => rfl)) da_nil))))))))

abbrev s_are_squares : Stmt := top 4
abbrev n_are_squares : List Str := ["value", "each"]
theorem sc_are_squares : FnScope n_are_squares ["value"] (defScope s_are_squares) := ⟨rfl, rfl, rfl, by decide +kernel, rfl, by decide +kernel, by decide +kernel⟩
theorem ok_are_squares {f : Addr} {fd : FuncData} (F : Fun K "are_squares" "are_squares" s_are_squares f fd)
    {f_is_square : Addr} {d_is_square : FuncData} (F_is_square : FnG P w K mg base CX0 2 f_is_square d_is_square ["value"] (lsp K r_is_square)) (m_is_square : mg "is_square" = some (.ref f_is_square)) (k_is_square : PySem.W.keepIn K (.ref f_is_square) = true) (q_is_square : Binds K d_is_square ["value"] []) (z_all : mg "all" = none) (z_isinstance : mg "isinstance" = none) (z_list : mg "list" = none) (z_tuple : mg "tuple" = none) (z_len : mg "len" = none) (z_set : mg "set" = none) : FnG P w K mg base CX0 3 f fd ["value"] (lsp K r_are_squares) := by
  refine def_ok (tb := b_are_squares) F sc_are_squares len_are_squares (fun cdv A outer s H E room hgd => ?_) run_are_squares
  have nd := sc_are_squares.nd
  have hu := Room.units room
  have hu5 := Room.u65 room
  exact (ds_cons (ds_if (dt_w (dw_or (dt_not (dt_val (de_isi2 (T1 := "list") (T2 := "tuple") (pe_callB call_isiT (by rfl) z_isinstance bt_isinstance (pa_cons (de_var 0 (pv 0)) (pa_cons (pe_tup (pa_cons (pe_T z_list bt_list) (pa_cons (pe_T z_tuple bt_tuple) pa_nil))) pa_nil)))))) (dw_or1 (dt_not (dt_val (de_B (c_all rfl) z_all bt_all (da_cons (de_lcOf (pe_lc (own := [("each", 1)]) (g := toG _ (.nm 1)) (tt := tT _ bYes) (te := tE _ (eCall r_is_square (aCons (eVar 1) aNil))) rfl nd (di_seq (de_var 0 (pv 0))) (blkOk_by (N := n_are_squares) (sc := defScope s_are_squares) (by decide +kernel)) (fun _ _ _ _ _ => (dg_nm (i := 1) nd rfl (by first | exact .inl rfl | exact .inr rfl) (by first | exact .inl rfl | exact .inr rfl))) (fun _ _ _ _ _ => dts_nil) (fun _ _ _ _ _ => (de_call F_is_square (room.mono (by decide)) hgd (by rfl) m_is_square k_is_square q_is_square (da_cons (de_var 1 (pv 1)) da_nil)))) (by decide)) da_nil)))))))
    (ds_one (ds_ret de_bl))
    ds_nil)
    (ds_one (ds_ret (de_cmp (op_eq3 hu) (de_lenSet (pe_callB c_lenSet (by rfl) z_len PySem.boot_len (pa_cons (pe_callTy (cr_setOfT rfl hu) (by rfl) z_set bt_set (pa_cons (de_lcOf (pe_lc (own := [("each", 1)]) (g := toG _ (.nm 1)) (tt := tT _ bYes) (te := tE _ (eB rTuple (aCons (eVar 1) aNil))) rfl nd (di_seq (de_var 0 (pv 0))) (blkOk_by (N := n_are_squares) (sc := defScope s_are_squares) (by decide +kernel)) (fun _ _ _ _ _ => (dg_nm (i := 1) nd rfl (by first | exact .inl rfl | exact .inr rfl) (by first | exact .inl rfl | exact .inr rfl))) (fun _ _ _ _ _ => dts_nil) (fun _ _ _ _ _ => (de_Ty c_tuple z_tuple bt_tuple (da_cons (de_var 1 (pv 1)) da_nil)))) (by decide)) pa_nil)) pa_nil))) (de_B c_len z_len PySem.boot_len (da_cons (de_var 0 (pv 0)) da_nil)) (nomark _)))))

abbrev s_law_are_pairs : Stmt := top 13
abbrev n_law_are_pairs : List Str := ["value", "rows", "each", "at", "row"]
theorem sc_law_are_pairs : FnScope n_law_are_pairs ["value"] (defScope s_law_are_pairs) := ⟨rfl, rfl, rfl, by decide +kernel, rfl, by decide +kernel, by decide +kernel⟩
theorem ok_law_are_pairs {f : Addr} {fd : FuncData} (F : Fun K "_law_are_pairs" "_law_are_pairs" s_law_are_pairs f fd)
    {f_law_is_pair : Addr} {d_law_is_pair : FuncData} (F_law_is_pair : FnG P w K mg base CX0 2 f_law_is_pair d_law_is_pair ["value"] (lsp K r_law_is_pair)) (m_law_is_pair : mg "_law_is_pair" = some (.ref f_law_is_pair)) (k_law_is_pair : PySem.W.keepIn K (.ref f_law_is_pair) = true) (q_law_is_pair : Binds K d_law_is_pair ["value"] []) (z_isinstance : mg "isinstance" = none) (z_list : mg "list" = none) (z_tuple : mg "tuple" = none) (z_enumerate : mg "enumerate" = none) : FnG P w K mg base CX0 3 f fd ["value"] (lsp K r_law_are_pairs) := by
  refine def_ok (tb := b_law_are_pairs) F sc_law_are_pairs len_law_are_pairs (fun cdv A outer s H E room hgd => ?_) run_law_are_pairs
  have nd := sc_law_are_pairs.nd
  have hu := Room.units room
  have hu5 := Room.u65 room
  exact (ds_cons (ds_if (dt_w (dw_or (dt_not (dt_val (de_isi2 (T1 := "list") (T2 := "tuple") (pe_callB call_isiT (by rfl) z_isinstance bt_isinstance (pa_cons (de_var 0 (pv 0)) (pa_cons (pe_tup (pa_cons (pe_T z_list bt_list) (pa_cons (pe_T z_tuple bt_tuple) pa_nil))) pa_nil)))))) (dw_or1 (dt_cmp (op_ne3 hu) (de_lcOf (pe_lc (own := [("each", 2)]) (g := toG _ (.nm 2)) (tt := tT _ (bNot (bOf (eCall r_law_is_pair (aCons (eVar 2) aNil))))) (te := tE _ (eVar 2)) rfl nd (di_seq (de_var 0 (pv 0))) (blkOk_by (N := n_law_are_pairs) (sc := defScope s_law_are_pairs) (by decide +kernel)) (fun _ _ _ _ _ => (dg_nm (i := 2) nd rfl (by first | exact .inl rfl | exact .inr rfl) (by first | exact .inl rfl | exact .inr rfl))) (fun _ _ _ _ _ => (dts_one (dt_not (dt_val (de_call F_law_is_pair (room.mono (by decide)) hgd (by rfl) m_law_is_pair k_law_is_pair q_law_is_pair (da_cons (de_var 2 (pv 2)) da_nil)))))) (fun _ _ _ _ _ => (de_var 2 (pv 2)))) (by decide)) (de_lst da_nil) (nomark _)))))
    (ds_one (ds_ret de_bl))
    ds_nil)
    (ds_cons (ds_set (i := 1) nd rfl (by first | exact .inl rfl | exact .inr rfl) (de_lcOf (pe_lc (own := [("each", 2)]) (g := toG _ (.nm 2)) (tt := tT _ bYes) (te := tE _ (eLst (aCons (eOp rIx2 (eVar 2) (eC (.int 0))) (aCons (eOp rIx2 (eVar 2) (eC (.int 1))) aNil)))) rfl nd (di_seq (de_var 0 (pv 0))) (blkOk_by (N := n_law_are_pairs) (sc := defScope s_law_are_pairs) (by decide +kernel)) (fun _ _ _ _ _ => (dg_nm (i := 2) nd rfl (by first | exact .inl rfl | exact .inr rfl) (by first | exact .inl rfl | exact .inr rfl))) (fun _ _ _ _ _ => dts_nil) (fun _ _ _ _ _ => (de_lst (da_cons (de_ix o_ix (de_var 2 (pv 2)) de_int (fun _ _ => rfl)) (da_cons (de_ix o_ix (de_var 2 (pv 2)) de_int (fun _ _ => rfl)) da_nil))))) (by decide)))
    (ds_one (ds_ret (de_cmp (op_eq3 hu) (de_lcOf (pe_lc (own := [("at", 3), ("row", 4)]) (g := toG _ (.tp [(.nm 3), (.nm 4)])) (tt := tT _ (bOf (eOp rInD2 (eVar 4) (eCut (eVar 1) oNone (oSome (eVar 3)))))) (te := tE _ (eVar 3)) rfl nd (di_enum (by rfl) z_enumerate (de_var 1 (pv 1))) (blkOk_by (N := n_law_are_pairs) (sc := defScope s_law_are_pairs) (by decide +kernel)) (fun _ _ _ _ _ => (dg_tp rfl (dgs_cons (dg_nm (i := 3) nd rfl (by first | exact .inl rfl | exact .inr rfl) (by first | exact .inl rfl | exact .inr rfl)) (dgs_cons (dg_nm (i := 4) nd rfl (by first | exact .inl rfl | exact .inr rfl) (by first | exact .inl rfl | exact .inr rfl)) dgs_nil)))) (fun _ _ _ _ _ => (dts_one (dt_cmp (op_in' hu5) (de_var 4 (pv 4)) (de_cut (de_var 1 (pv 1)) do_none (do_some (de_var 3 (pv 3)))) (by with_unfolding_all rfl)))) (fun _ _ _ _ _ => (de_var 3 (pv 3)))) (by decide)) (de_lst da_nil) (nomark _))))))

abbrev s_law : Stmt := top 14
abbrev n_law : List Str := ["script", "urn", "turn", "number", "least", "most", "due", "pair", "some", "value", "kept", "odd", "spot", "each"]
theorem sc_law : FnScope n_law ["script"] (defScope s_law) := ⟨rfl, rfl, rfl, by decide +kernel, rfl, by decide +kernel, by decide +kernel⟩
theorem ok_law {f : Addr} {fd : FuncData} (F : Fun K "law" "law" s_law f fd)
    {f_law_urn : Addr} {d_law_urn : FuncData} (F_law_urn : FnG P w K mg base CX0 1 f_law_urn d_law_urn ["script"] (lsp K r_law_urn)) (m_law_urn : mg "_law_urn" = some (.ref f_law_urn)) (k_law_urn : PySem.W.keepIn K (.ref f_law_urn) = true) (q_law_urn : Binds K d_law_urn ["script"] [])
    {f_law_draw : Addr} {d_law_draw : FuncData} (F_law_draw : FnG P w K mg base CX0 1 f_law_draw d_law_draw ["jar", "many"] (lsp K r_law_draw)) (m_law_draw : mg "_law_draw" = some (.ref f_law_draw)) (k_law_draw : PySem.W.keepIn K (.ref f_law_draw) = true) (q_law_draw : Binds K d_law_draw ["jar", "many"] [])
    {f_law_number : Addr} {d_law_number : FuncData} (F_law_number : FnG P w K mg base CX0 2 f_law_number d_law_number ["urn"] (lsp K r_law_number)) (m_law_number : mg "_law_number" = some (.ref f_law_number)) (k_law_number : PySem.W.keepIn K (.ref f_law_number) = true) (q_law_number : Binds K d_law_number ["urn"] [])
    {f_law_odd : Addr} {d_law_odd : FuncData} (F_law_odd : FnG P w K mg base CX0 2 f_law_odd d_law_odd ["urn"] (lsp K r_law_odd)) (m_law_odd : mg "_law_odd" = some (.ref f_law_odd)) (k_law_odd : PySem.W.keepIn K (.ref f_law_odd) = true) (q_law_odd : Binds K d_law_odd ["urn"] [])
    {f_law_is_number : Addr} {d_law_is_number : FuncData} (F_law_is_number : FnG P w K mg base CX0 1 f_law_is_number d_law_is_number ["value"] (lsp K r_law_is_number)) (m_law_is_number : mg "_law_is_number" = some (.ref f_law_is_number)) (k_law_is_number : PySem.W.keepIn K (.ref f_law_is_number) = true) (q_law_is_number : Binds K d_law_is_number ["value"] [])
    {f_is_integer : Addr} {d_is_integer : FuncData} (F_is_integer : FnG P w K mg base CX0 1 f_is_integer d_is_integer ["value"] (lsp K r_is_integer)) (m_is_integer : mg "is_integer" = some (.ref f_is_integer)) (k_is_integer : PySem.W.keepIn K (.ref f_is_integer) = true) (q_is_integer : Binds K d_is_integer ["value"] [])
    {f_is_within : Addr} {d_is_within : FuncData} (F_is_within : FnG P w K mg base CX0 2 f_is_within d_is_within ["value", "least", "most"] (lsp K r_is_within)) (m_is_within : mg "is_within" = some (.ref f_is_within)) (k_is_within : PySem.W.keepIn K (.ref f_is_within) = true) (q_is_within : Binds K d_is_within ["value", "least", "most"] [])
    {f_law_pair : Addr} {d_law_pair : FuncData} (F_law_pair : FnG P w K mg base CX0 3 f_law_pair d_law_pair ["urn"] (lsp K r_law_pair)) (m_law_pair : mg "_law_pair" = some (.ref f_law_pair)) (k_law_pair : PySem.W.keepIn K (.ref f_law_pair) = true) (q_law_pair : Binds K d_law_pair ["urn"] [])
    {f_is_square : Addr} {d_is_square : FuncData} (F_is_square : FnG P w K mg base CX0 2 f_is_square d_is_square ["value"] (lsp K r_is_square)) (m_is_square : mg "is_square" = some (.ref f_is_square)) (k_is_square : PySem.W.keepIn K (.ref f_is_square) = true) (q_is_square : Binds K d_is_square ["value"] [])
    {f_law_is_pair : Addr} {d_law_is_pair : FuncData} (F_law_is_pair : FnG P w K mg base CX0 2 f_law_is_pair d_law_is_pair ["value"] (lsp K r_law_is_pair)) (m_law_is_pair : mg "_law_is_pair" = some (.ref f_law_is_pair)) (k_law_is_pair : PySem.W.keepIn K (.ref f_law_is_pair) = true) (q_law_is_pair : Binds K d_law_is_pair ["value"] [])
    {f_are_squares : Addr} {d_are_squares : FuncData} (F_are_squares : FnG P w K mg base CX0 3 f_are_squares d_are_squares ["value"] (lsp K r_are_squares)) (m_are_squares : mg "are_squares" = some (.ref f_are_squares)) (k_are_squares : PySem.W.keepIn K (.ref f_are_squares) = true) (q_are_squares : Binds K d_are_squares ["value"] [])
    {f_law_are_pairs : Addr} {d_law_are_pairs : FuncData} (F_law_are_pairs : FnG P w K mg base CX0 3 f_law_are_pairs d_law_are_pairs ["value"] (lsp K r_law_are_pairs)) (m_law_are_pairs : mg "_law_are_pairs" = some (.ref f_law_are_pairs)) (k_law_are_pairs : PySem.W.keepIn K (.ref f_law_are_pairs) = true) (q_law_are_pairs : Binds K d_law_are_pairs ["value"] [])
    (kw_is_integer_0_value : KwB K d_is_integer ["value"] 0 ["value"] [0])
    (kw_is_within_0_most_value_least : KwB K d_is_within ["value", "least", "most"] 0 ["most", "value", "least"] [1, 2, 0])
    (kw_is_square_0_value : KwB K d_is_square ["value"] 0 ["value"] [0])
    (kw_are_squares_0_value : KwB K d_are_squares ["value"] 0 ["value"] [0]) (z_range : mg "range" = none) (z_repr : mg "repr" = none) (z_len : mg "len" = none) (z_tuple : mg "tuple" = none) (z_isinstance : mg "isinstance" = none) (z_list : mg "list" = none) : FnG P w K mg base CX0 4 f fd ["script"] (lsp K r_law) := by
  refine def_ok (tb := b_law) F sc_law len_law (fun cdv A outer s H E room hgd => ?_) run_law
  have nd := sc_law.nd
  have hu := Room.units room
  have hu5 := Room.u65 room
  exact (ds_cons (ds_set (i := 1) nd rfl (by first | exact .inl rfl | exact .inr rfl) (de_call F_law_urn (room.mono (by decide)) hgd (by rfl) m_law_urn k_law_urn q_law_urn (da_cons (de_var 0 (pv 0)) da_nil)))
    (ds_cons (ds_for PassesOwn.never rfl (di_range1 (by rfl) z_range (da_cons de_int da_nil)) (dg_nm (i := 2) nd rfl (by first | exact .inl rfl | exact .inr rfl) (by first | exact .inl rfl | exact .inr rfl))
    (ds_cons (ds_set (i := 3) nd rfl (by first | exact .inl rfl | exact .inr rfl) (de_if (dt_cmp o_gt (de_call F_law_draw (room.mono (by decide)) hgd (by rfl) m_law_draw k_law_draw q_law_draw (da_cons (de_var 1 (pv 1)) (da_cons de_int da_nil))) de_int (nomark _)) (de_call F_law_number (room.mono (by decide)) hgd (by rfl) m_law_number k_law_number q_law_number (da_cons (de_var 1 (pv 1)) da_nil)) (de_call F_law_odd (room.mono (by decide)) hgd (by rfl) m_law_odd k_law_odd q_law_odd (da_cons (de_var 1 (pv 1)) da_nil))))
    (ds_cons (ds_set (i := 4) nd rfl (by first | exact .inl rfl | exact .inr rfl) (de_if (dt_cmp (op_eq3 hu) (de_call F_law_draw (room.mono (by decide)) hgd (by rfl) m_law_draw k_law_draw q_law_draw (da_cons (de_var 1 (pv 1)) (da_cons de_int da_nil))) de_int (nomark _)) de_non (de_call F_law_number (room.mono (by decide)) hgd (by rfl) m_law_number k_law_number q_law_number (da_cons (de_var 1 (pv 1)) da_nil))))
    (ds_cons (ds_set (i := 5) nd rfl (by first | exact .inl rfl | exact .inr rfl) (de_if (dt_cmp (op_eq3 hu) (de_call F_law_draw (room.mono (by decide)) hgd (by rfl) m_law_draw k_law_draw q_law_draw (da_cons (de_var 1 (pv 1)) (da_cons de_int da_nil))) de_int (nomark _)) de_non (de_call F_law_number (room.mono (by decide)) hgd (by rfl) m_law_number k_law_number q_law_number (da_cons (de_var 1 (pv 1)) da_nil))))
    (ds_cons (ds_if (dt_w (dw_and (dt_val (de_call F_law_is_number (room.mono (by decide)) hgd (by rfl) m_law_is_number k_law_is_number q_law_is_number (da_cons (de_var 3 (pv 3)) da_nil))) (dw_and1 (dt_cmp (op_eq3 hu) (de_call F_law_draw (room.mono (by decide)) hgd (by rfl) m_law_draw k_law_draw q_law_draw (da_cons (de_var 1 (pv 1)) (da_cons de_int da_nil))) de_int (nomark _)))))
    (ds_one (ds_asg (ps_asg (de_ix o_ix (de_lst (da_cons (de_tup (da_cons (de_var 3 (pv 3)) (da_cons de_non da_nil))) (da_cons (de_tup (da_cons de_non (da_cons (de_var 3 (pv 3)) da_nil))) (da_cons (de_tup (da_cons (de_var 3 (pv 3)) (da_cons (de_var 3 (pv 3)) da_nil))) (da_cons (de_tup (da_cons (de_op o_add (de_var 3 (pv 3)) de_int) (da_cons de_non da_nil))) (da_cons (de_tup (da_cons de_non (da_cons (de_op o_sub (de_var 3 (pv 3)) de_int) da_nil))) da_nil)))))) (de_call F_law_draw (room.mono (by decide)) hgd (by rfl) m_law_draw k_law_draw q_law_draw (da_cons (de_var 1 (pv 1)) (da_cons de_int da_nil))) (fun _ _ => rfl)) (dg_tp rfl (dgs_cons (dg_nm (i := 4) nd rfl (by first | exact .inl rfl | exact .inr rfl) (by first | exact .inl rfl | exact .inr rfl)) (dgs_cons (dg_nm (i := 5) nd rfl (by first | exact .inl rfl | exact .inr rfl) (by first | exact .inl rfl | exact .inr rfl)) dgs_nil))))))
    ds_nil)
    (ds_cons (ds_set (i := 6) nd rfl (by first | exact .inl rfl | exact .inr rfl) (de_call F_law_is_number (room.mono (by decide)) hgd (by rfl) m_law_is_number k_law_is_number q_law_is_number (da_cons (de_var 3 (pv 3)) da_nil)))
    (ds_cons (ds_if (dt_w (dw_or (dt_cmp (op_ne3 hu) (de_B (c_repr hgd hu) z_repr bt_repr (da_cons (de_call F_is_integer (room.mono (by decide)) hgd (by rfl) m_is_integer k_is_integer q_is_integer (da_cons (de_var 3 (pv 3)) da_nil)) da_nil)) (de_B (c_repr hgd hu) z_repr bt_repr (da_cons (de_var 6 (pv 6)) da_nil)) (nomark _)) (dw_or1 (dt_cmp (op_ne3 hu) (de_B (c_repr hgd hu) z_repr bt_repr (da_cons (de_kw0 F_is_integer (room.mono (by decide)) hgd m_is_integer k_is_integer kw_is_integer_0_value (dk_cons (de_var 3 (pv 3)) dk_nil) rfl) da_nil)) (de_B (c_repr hgd hu) z_repr bt_repr (da_cons (de_var 6 (pv 6)) da_nil)) (nomark _)))))
    (ds_one (ds_ret de_bl))
    ds_nil)
    (ds_cons (ds_set (i := 6) nd rfl (by first | exact .inl rfl | exact .inr rfl) (de_and (de_var 6 (pv 6)) (de_and (de_or (de_cmp o_is (de_var 4 (pv 4)) de_non (nomark _)) (de_one (de_cmp o_ge (de_var 3 (pv 3)) (de_var 4 (pv 4)) (nomark _)))) (de_one (de_or (de_cmp o_is (de_var 5 (pv 5)) de_non (nomark _)) (de_one (de_cmp o_le (de_var 3 (pv 3)) (de_var 5 (pv 5)) (nomark _))))))))
    (ds_cons (ds_if (dt_w (dw_or (dt_cmp (op_ne3 hu) (de_B (c_repr hgd hu) z_repr bt_repr (da_cons (de_call F_is_within (room.mono (by decide)) hgd (by rfl) m_is_within k_is_within q_is_within (da_cons (de_var 3 (pv 3)) (da_cons (de_var 4 (pv 4)) (da_cons (de_var 5 (pv 5)) da_nil)))) da_nil)) (de_B (c_repr hgd hu) z_repr bt_repr (da_cons (de_var 6 (pv 6)) da_nil)) (nomark _)) (dw_or1 (dt_cmp (op_ne3 hu) (de_B (c_repr hgd hu) z_repr bt_repr (da_cons (de_kw0 F_is_within (room.mono (by decide)) hgd m_is_within k_is_within kw_is_within_0_most_value_least (dk_cons (de_var 5 (pv 5)) (dk_cons (de_var 3 (pv 3)) (dk_cons (de_var 4 (pv 4)) dk_nil))) rfl) da_nil)) (de_B (c_repr hgd hu) z_repr bt_repr (da_cons (de_var 6 (pv 6)) da_nil)) (nomark _)))))
    (ds_one (ds_ret de_bl))
    ds_nil)
    (ds_cons (ds_set (i := 7) nd rfl (by first | exact .inl rfl | exact .inr rfl) (de_call F_law_pair (room.mono (by decide)) hgd (by rfl) m_law_pair k_law_pair q_law_pair (da_cons (de_var 1 (pv 1)) da_nil)))
    (ds_cons (ds_if (dt_w (dw_or (dt_cmp (op_ne3 hu) (de_B (c_repr hgd hu) z_repr bt_repr (da_cons (de_call F_is_square (room.mono (by decide)) hgd (by rfl) m_is_square k_is_square q_is_square (da_cons (de_var 7 (pv 7)) da_nil)) da_nil)) (de_B (c_repr hgd hu) z_repr bt_repr (da_cons (de_call F_law_is_pair (room.mono (by decide)) hgd (by rfl) m_law_is_pair k_law_is_pair q_law_is_pair (da_cons (de_var 7 (pv 7)) da_nil)) da_nil)) (nomark _)) (dw_or1 (dt_cmp (op_ne3 hu) (de_B (c_repr hgd hu) z_repr bt_repr (da_cons (de_kw0 F_is_square (room.mono (by decide)) hgd m_is_square k_is_square kw_is_square_0_value (dk_cons (de_var 7 (pv 7)) dk_nil) rfl) da_nil)) (de_B (c_repr hgd hu) z_repr bt_repr (da_cons (de_call F_law_is_pair (room.mono (by decide)) hgd (by rfl) m_law_is_pair k_law_is_pair q_law_is_pair (da_cons (de_var 7 (pv 7)) da_nil)) da_nil)) (nomark _)))))
    (ds_one (ds_ret de_bl))
    ds_nil)
    (ds_cons (lcS (ps_setLc (i := 8) (own := [("spot", 12)]) (g := toG _ (.nm 12)) (tt := tT _ bYes) (te := tE _ (eCall r_law_pair (aCons (eVar 1) aNil))) rfl nd rfl rfl (sw_true rfl rfl rfl (by decide +kernel)) (di_range1 (by rfl) z_range (da_cons (de_call F_law_draw (room.mono (by decide)) hgd (by rfl) m_law_draw k_law_draw q_law_draw (da_cons (de_var 1 (pv 1)) (da_cons de_int da_nil))) da_nil)) (blkOk_by (N := n_law) (sc := defScope s_law) (by decide +kernel)) (fun _ _ _ _ _ => (dg_nm (i := 12) nd rfl (by first | exact .inl rfl | exact .inr rfl) (by first | exact .inl rfl | exact .inr rfl))) (fun _ _ _ _ _ => dts_nil) (fun _ _ _ _ _ => (de_call F_law_pair (room.mono (by decide)) hgd (by rfl) m_law_pair k_law_pair q_law_pair (da_cons (de_var 1 (pv 1)) da_nil)))) (fun _ _ _ => lcM_lift (by decide)))
    (ds_cons (ds_if (dt_cmp (op_eq3 hu) (de_call F_law_draw (room.mono (by decide)) hgd (by rfl) m_law_draw k_law_draw q_law_draw (da_cons (de_var 1 (pv 1)) (da_cons de_int da_nil))) de_int (nomark _))
    (ds_one (lcS (ps_setLc (i := 8) (own := [("each", 13)]) (g := toG _ (.nm 13)) (tt := tT _ (bOf (eCall r_law_is_pair (aCons (eVar 13) aNil)))) (te := tE _ (eVar 13)) rfl nd rfl rfl (sw_true rfl rfl rfl (by decide +kernel)) (di_seq (de_var 8 (pv 8))) (blkOk_by (N := n_law) (sc := defScope s_law) (by decide +kernel)) (fun _ _ _ _ _ => (dg_nm (i := 13) nd rfl (by first | exact .inl rfl | exact .inr rfl) (by first | exact .inl rfl | exact .inr rfl))) (fun _ _ _ _ _ => (dts_one (dt_val (de_call F_law_is_pair (room.mono (by decide)) hgd (by rfl) m_law_is_pair k_law_is_pair q_law_is_pair (da_cons (de_var 13 (pv 13)) da_nil))))) (fun _ _ _ _ _ => (de_var 13 (pv 13)))) (fun _ _ _ => lcM_lift (by decide))))
    ds_nil)
    (ds_cons (ds_if (dt_w (dw_and (dt_cmp (op_ne3 hu) (de_var 8 (pv 8)) (de_lst da_nil) (nomark _)) (dw_and (dt_cmp (op_eq3 hu) (de_call F_law_draw (room.mono (by decide)) hgd (by rfl) m_law_draw k_law_draw q_law_draw (da_cons (de_var 1 (pv 1)) (da_cons de_int da_nil))) de_int (nomark _)) (dw_and1 (dt_val (de_call F_law_is_pair (room.mono (by decide)) hgd (by rfl) m_law_is_pair k_law_is_pair q_law_is_pair (da_cons (de_ix o_ix (de_var 8 (pv 8)) de_int (fun _ _ => rfl)) da_nil)))))))
    (ds_one (ds_expr (de_mOf (pe_bm PySem.F.plainAttrs_list PySem.F.slot_list_insert PySem.F.type_list_insert m_ins (de_var 8 (pv 8)) (da_cons (de_call F_law_draw (room.mono (by decide)) hgd (by rfl) m_law_draw k_law_draw q_law_draw (da_cons (de_var 1 (pv 1)) (da_cons (de_op o_add (de_B c_len z_len PySem.boot_len (da_cons (de_var 8 (pv 8)) da_nil)) de_int) da_nil))) (da_cons (de_lst (da_cons (de_ix o_ix (de_ix o_ix (de_var 8 (pv 8)) de_int (fun _ _ => rfl)) de_int (fun _ _ => rfl)) (da_cons (de_ix o_ix (de_ix o_ix (de_var 8 (pv 8)) de_int (fun _ _ => rfl)) de_int (fun _ _ => rfl)) da_nil))) da_nil))))))
    ds_nil)
    (ds_cons (ds_set (i := 9) nd rfl (by first | exact .inl rfl | exact .inr rfl) (de_if (dt_cmp (op_eq3 hu) (de_call F_law_draw (room.mono (by decide)) hgd (by rfl) m_law_draw k_law_draw q_law_draw (da_cons (de_var 1 (pv 1)) (da_cons de_int da_nil))) de_int (nomark _)) (de_Ty c_tuple z_tuple bt_tuple (da_cons (de_var 8 (pv 8)) da_nil)) (de_var 8 (pv 8))))
    (ds_cons (ds_set (i := 10) nd rfl (by first | exact .inl rfl | exact .inr rfl) (de_B (c_repr hgd hu) z_repr bt_repr (da_cons (de_var 9 (pv 9)) da_nil)))
    (ds_cons (ds_if (dt_w (dw_or (dt_cmp (op_ne3 hu) (de_B (c_repr hgd hu) z_repr bt_repr (da_cons (de_call F_are_squares (room.mono (by decide)) hgd (by rfl) m_are_squares k_are_squares q_are_squares (da_cons (de_var 9 (pv 9)) da_nil)) da_nil)) (de_B (c_repr hgd hu) z_repr bt_repr (da_cons (de_call F_law_are_pairs (room.mono (by decide)) hgd (by rfl) m_law_are_pairs k_law_are_pairs q_law_are_pairs (da_cons (de_var 9 (pv 9)) da_nil)) da_nil)) (nomark _)) (dw_or (dt_cmp (op_ne3 hu) (de_B (c_repr hgd hu) z_repr bt_repr (da_cons (de_kw0 F_are_squares (room.mono (by decide)) hgd m_are_squares k_are_squares kw_are_squares_0_value (dk_cons (de_var 9 (pv 9)) dk_nil) rfl) da_nil)) (de_B (c_repr hgd hu) z_repr bt_repr (da_cons (de_call F_law_are_pairs (room.mono (by decide)) hgd (by rfl) m_law_are_pairs k_law_are_pairs q_law_are_pairs (da_cons (de_var 9 (pv 9)) da_nil)) da_nil)) (nomark _)) (dw_or1 (dt_cmp (op_ne3 hu) (de_B (c_repr hgd hu) z_repr bt_repr (da_cons (de_var 9 (pv 9)) da_nil)) (de_var 10 (pv 10)) (nomark _))))))
    (ds_one (ds_ret de_bl))
    ds_nil)
    (ds_cons (ds_set (i := 11) nd rfl (by first | exact .inl rfl | exact .inr rfl) (de_call F_law_odd (room.mono (by decide)) hgd (by rfl) m_law_odd k_law_odd q_law_odd (da_cons (de_var 1 (pv 1)) da_nil)))
    (ds_one (ds_if (dt_cmp (op_ne3 hu) (de_B (c_repr hgd hu) z_repr bt_repr (da_cons (de_call F_are_squares (room.mono (by decide)) hgd (by rfl) m_are_squares k_are_squares q_are_squares (da_cons (de_var 11 (pv 11)) da_nil)) da_nil)) (de_B (c_repr hgd hu) z_repr bt_repr (da_cons (de_and (de_cmp (op_eq3 hu) (de_var 11 (pv 11)) (de_lst da_nil) (nomark _)) (de_one (de_isi (T := "list") (pe_callB call_isi (by rfl) z_isinstance bt_isinstance (pa_cons (de_var 11 (pv 11)) (pa_cons (pe_T z_list bt_list) pa_nil)))))) da_nil)) (nomark _))
    (ds_one (ds_ret de_bl))
    ds_nil))))))))))))))))))))
    (ds_one (ds_ret de_bl))))


end
theorem all_mk {l : PySem.W.OpenLaw} {w : World} {K : PySem.W.Frag} {h : Heap} {mg : Str → Option Value} {fa : Addr} (X : K.In h) (G : h.Ns mainGlobals mg) (hfa : mg "law" = some (.ref fa)) {f_law_urn : Addr} {od_law_urn an_law_urn : Option Addr} {sl_law_urn : Array (Option Value)} {v1_law_urn v2_law_urn v3_law_urn v4_law_urn v5_law_urn v6_law_urn : Value} {f_law_draw : Addr} {od_law_draw an_law_draw : Option Addr} {sl_law_draw : Array (Option Value)} {v1_law_draw v2_law_draw v3_law_draw v4_law_draw v5_law_draw v6_law_draw : Value} {f_law_number : Addr} {od_law_number an_law_number : Option Addr} {sl_law_number : Array (Option Value)} {v1_law_number v2_law_number v3_law_number v4_law_number v5_law_number v6_law_number : Value} {f_law_odd : Addr} {od_law_odd an_law_odd : Option Addr} {sl_law_odd : Array (Option Value)} {v1_law_odd v2_law_odd v3_law_odd v4_law_odd v5_law_odd v6_law_odd : Value} {f_law_is_number : Addr} {od_law_is_number an_law_is_number : Option Addr} {sl_law_is_number : Array (Option Value)} {v1_law_is_number v2_law_is_number v3_law_is_number v4_law_is_number v5_law_is_number v6_law_is_number : Value} {f_is_integer : Addr} {od_is_integer an_is_integer : Option Addr} {sl_is_integer : Array (Option Value)} {v1_is_integer v2_is_integer v3_is_integer v4_is_integer v5_is_integer v6_is_integer : Value} {f_is_within : Addr} {od_is_within an_is_within : Option Addr} {sl_is_within : Array (Option Value)} {v1_is_within v2_is_within v3_is_within v4_is_within v5_is_within v6_is_within : Value} {f_law_pair : Addr} {od_law_pair an_law_pair : Option Addr} {sl_law_pair : Array (Option Value)} {v1_law_pair v2_law_pair v3_law_pair v4_law_pair v5_law_pair v6_law_pair : Value} {f_is_square : Addr} {od_is_square an_is_square : Option Addr} {sl_is_square : Array (Option Value)} {v1_is_square v2_is_square v3_is_square v4_is_square v5_is_square v6_is_square : Value} {f_law_is_pair : Addr} {od_law_is_pair an_law_is_pair : Option Addr} {sl_law_is_pair : Array (Option Value)} {v1_law_is_pair v2_law_is_pair v3_law_is_pair v4_law_is_pair v5_law_is_pair v6_law_is_pair : Value} {f_are_squares : Addr} {od_are_squares an_are_squares : Option Addr} {sl_are_squares : Array (Option Value)} {v1_are_squares v2_are_squares v3_are_squares v4_are_squares v5_are_squares v6_are_squares : Value} {f_law_are_pairs : Addr} {od_law_are_pairs an_law_are_pairs : Option Addr} {sl_law_are_pairs : Array (Option Value)} {v1_law_are_pairs v2_law_are_pairs v3_law_are_pairs v4_law_are_pairs v5_law_are_pairs v6_law_are_pairs : Value} {f_law : Addr} {od_law an_law : Option Addr} {sl_law : Array (Option Value)} {v1_law v2_law v3_law v4_law v5_law v6_law : Value}
    (a_law_urn : PySem.W.nsIn K mainGlobals "_law_urn" = some (some (.ref f_law_urn))) (l_law_urn : K.lookup f_law_urn = some ⟨v1_law_urn, od_law_urn, .func (PySem.W.fnOf "_law_urn" "_law_urn" (defArgs s_law_urn) (defBody s_law_urn) (defScope s_law_urn) .none v2_law_urn v3_law_urn v4_law_urn an_law_urn v5_law_urn v6_law_urn), sl_law_urn⟩) (c_law_urn : PySem.W.codeIn K v5_law_urn "_law_urn" = true) (k_law_urn : PySem.W.keepIn K (.ref f_law_urn) = true)
    (a_law_draw : PySem.W.nsIn K mainGlobals "_law_draw" = some (some (.ref f_law_draw))) (l_law_draw : K.lookup f_law_draw = some ⟨v1_law_draw, od_law_draw, .func (PySem.W.fnOf "_law_draw" "_law_draw" (defArgs s_law_draw) (defBody s_law_draw) (defScope s_law_draw) .none v2_law_draw v3_law_draw v4_law_draw an_law_draw v5_law_draw v6_law_draw), sl_law_draw⟩) (c_law_draw : PySem.W.codeIn K v5_law_draw "_law_draw" = true) (k_law_draw : PySem.W.keepIn K (.ref f_law_draw) = true)
    (a_law_number : PySem.W.nsIn K mainGlobals "_law_number" = some (some (.ref f_law_number))) (l_law_number : K.lookup f_law_number = some ⟨v1_law_number, od_law_number, .func (PySem.W.fnOf "_law_number" "_law_number" (defArgs s_law_number) (defBody s_law_number) (defScope s_law_number) .none v2_law_number v3_law_number v4_law_number an_law_number v5_law_number v6_law_number), sl_law_number⟩) (c_law_number : PySem.W.codeIn K v5_law_number "_law_number" = true) (k_law_number : PySem.W.keepIn K (.ref f_law_number) = true)
    (a_law_odd : PySem.W.nsIn K mainGlobals "_law_odd" = some (some (.ref f_law_odd))) (l_law_odd : K.lookup f_law_odd = some ⟨v1_law_odd, od_law_odd, .func (PySem.W.fnOf "_law_odd" "_law_odd" (defArgs s_law_odd) (defBody s_law_odd) (defScope s_law_odd) .none v2_law_odd v3_law_odd v4_law_odd an_law_odd v5_law_odd v6_law_odd), sl_law_odd⟩) (c_law_odd : PySem.W.codeIn K v5_law_odd "_law_odd" = true) (k_law_odd : PySem.W.keepIn K (.ref f_law_odd) = true)
    (a_law_is_number : PySem.W.nsIn K mainGlobals "_law_is_number" = some (some (.ref f_law_is_number))) (l_law_is_number : K.lookup f_law_is_number = some ⟨v1_law_is_number, od_law_is_number, .func (PySem.W.fnOf "_law_is_number" "_law_is_number" (defArgs s_law_is_number) (defBody s_law_is_number) (defScope s_law_is_number) .none v2_law_is_number v3_law_is_number v4_law_is_number an_law_is_number v5_law_is_number v6_law_is_number), sl_law_is_number⟩) (c_law_is_number : PySem.W.codeIn K v5_law_is_number "_law_is_number" = true) (k_law_is_number : PySem.W.keepIn K (.ref f_law_is_number) = true)
    (a_is_integer : PySem.W.nsIn K mainGlobals "is_integer" = some (some (.ref f_is_integer))) (l_is_integer : K.lookup f_is_integer = some ⟨v1_is_integer, od_is_integer, .func (PySem.W.fnOf "is_integer" "is_integer" (defArgs s_is_integer) (defBody s_is_integer) (defScope s_is_integer) .none v2_is_integer v3_is_integer v4_is_integer an_is_integer v5_is_integer v6_is_integer), sl_is_integer⟩) (c_is_integer : PySem.W.codeIn K v5_is_integer "is_integer" = true) (k_is_integer : PySem.W.keepIn K (.ref f_is_integer) = true)
    (a_is_within : PySem.W.nsIn K mainGlobals "is_within" = some (some (.ref f_is_within))) (l_is_within : K.lookup f_is_within = some ⟨v1_is_within, od_is_within, .func (PySem.W.fnOf "is_within" "is_within" (defArgs s_is_within) (defBody s_is_within) (defScope s_is_within) .none v2_is_within v3_is_within v4_is_within an_is_within v5_is_within v6_is_within), sl_is_within⟩) (c_is_within : PySem.W.codeIn K v5_is_within "is_within" = true) (k_is_within : PySem.W.keepIn K (.ref f_is_within) = true)
    (a_law_pair : PySem.W.nsIn K mainGlobals "_law_pair" = some (some (.ref f_law_pair))) (l_law_pair : K.lookup f_law_pair = some ⟨v1_law_pair, od_law_pair, .func (PySem.W.fnOf "_law_pair" "_law_pair" (defArgs s_law_pair) (defBody s_law_pair) (defScope s_law_pair) .none v2_law_pair v3_law_pair v4_law_pair an_law_pair v5_law_pair v6_law_pair), sl_law_pair⟩) (c_law_pair : PySem.W.codeIn K v5_law_pair "_law_pair" = true) (k_law_pair : PySem.W.keepIn K (.ref f_law_pair) = true)
    (a_is_square : PySem.W.nsIn K mainGlobals "is_square" = some (some (.ref f_is_square))) (l_is_square : K.lookup f_is_square = some ⟨v1_is_square, od_is_square, .func (PySem.W.fnOf "is_square" "is_square" (defArgs s_is_square) (defBody s_is_square) (defScope s_is_square) .none v2_is_square v3_is_square v4_is_square an_is_square v5_is_square v6_is_square), sl_is_square⟩) (c_is_square : PySem.W.codeIn K v5_is_square "is_square" = true) (k_is_square : PySem.W.keepIn K (.ref f_is_square) = true)
    (a_law_is_pair : PySem.W.nsIn K mainGlobals "_law_is_pair" = some (some (.ref f_law_is_pair))) (l_law_is_pair : K.lookup f_law_is_pair = some ⟨v1_law_is_pair, od_law_is_pair, .func (PySem.W.fnOf "_law_is_pair" "_law_is_pair" (defArgs s_law_is_pair) (defBody s_law_is_pair) (defScope s_law_is_pair) .none v2_law_is_pair v3_law_is_pair v4_law_is_pair an_law_is_pair v5_law_is_pair v6_law_is_pair), sl_law_is_pair⟩) (c_law_is_pair : PySem.W.codeIn K v5_law_is_pair "_law_is_pair" = true) (k_law_is_pair : PySem.W.keepIn K (.ref f_law_is_pair) = true)
    (a_are_squares : PySem.W.nsIn K mainGlobals "are_squares" = some (some (.ref f_are_squares))) (l_are_squares : K.lookup f_are_squares = some ⟨v1_are_squares, od_are_squares, .func (PySem.W.fnOf "are_squares" "are_squares" (defArgs s_are_squares) (defBody s_are_squares) (defScope s_are_squares) .none v2_are_squares v3_are_squares v4_are_squares an_are_squares v5_are_squares v6_are_squares), sl_are_squares⟩) (c_are_squares : PySem.W.codeIn K v5_are_squares "are_squares" = true) (k_are_squares : PySem.W.keepIn K (.ref f_are_squares) = true)
    (a_law_are_pairs : PySem.W.nsIn K mainGlobals "_law_are_pairs" = some (some (.ref f_law_are_pairs))) (l_law_are_pairs : K.lookup f_law_are_pairs = some ⟨v1_law_are_pairs, od_law_are_pairs, .func (PySem.W.fnOf "_law_are_pairs" "_law_are_pairs" (defArgs s_law_are_pairs) (defBody s_law_are_pairs) (defScope s_law_are_pairs) .none v2_law_are_pairs v3_law_are_pairs v4_law_are_pairs an_law_are_pairs v5_law_are_pairs v6_law_are_pairs), sl_law_are_pairs⟩) (c_law_are_pairs : PySem.W.codeIn K v5_law_are_pairs "_law_are_pairs" = true) (k_law_are_pairs : PySem.W.keepIn K (.ref f_law_are_pairs) = true)
    (a_law : PySem.W.nsIn K mainGlobals "law" = some (some (.ref f_law))) (l_law : K.lookup f_law = some ⟨v1_law, od_law, .func (PySem.W.fnOf "law" "law" (defArgs s_law) (defBody s_law) (defScope s_law) .none v2_law v3_law v4_law an_law v5_law v6_law), sl_law⟩) (c_law : PySem.W.codeIn K v5_law "law" = true) (k_law : PySem.W.keepIn K (.ref f_law) = true)
    (z_int : PySem.W.nsIn K mainGlobals "int" = some none) (z_len : PySem.W.nsIn K mainGlobals "len" = some none) (z_abs : PySem.W.nsIn K mainGlobals "abs" = some none) (z_isinstance : PySem.W.nsIn K mainGlobals "isinstance" = some none) (z_bool : PySem.W.nsIn K mainGlobals "bool" = some none) (z_range : PySem.W.nsIn K mainGlobals "range" = some none) (z_tuple : PySem.W.nsIn K mainGlobals "tuple" = some none) (z_all : PySem.W.nsIn K mainGlobals "all" = some none) (z_list : PySem.W.nsIn K mainGlobals "list" = some none) (z_set : PySem.W.nsIn K mainGlobals "set" = some none) (z_enumerate : PySem.W.nsIn K mainGlobals "enumerate" = some none) (z_repr : PySem.W.nsIn K mainGlobals "repr" = some none) :
    ∃ fd : FuncData, (∀ (s : Shared) (v : Value), BindsTo s fd ⟨[v], []⟩ [("script", v)]) ∧ ∀ base : Heap, K.In base → base.Ns mainGlobals mg → FnG l.prog w K mg base CX0 4 fa fd ["script"] (lsp K r_law) := by
  have e := hfa.symm.trans (PySem.W.mg_of X G a_law)
  cases e
  have T_law_urn := fun_mk (st := s_law_urn) l_law_urn c_law_urn k_law_urn
  have m_law_urn := PySem.W.mg_of X G a_law_urn
  have q_law_urn := T_law_urn.binds (ps := ["script"]) fun _ _ _ _ _ _ us hl => match us, hl with | [_], _ => rfl
  have T_law_draw := fun_mk (st := s_law_draw) l_law_draw c_law_draw k_law_draw
  have m_law_draw := PySem.W.mg_of X G a_law_draw
  have q_law_draw := T_law_draw.binds (ps := ["jar", "many"]) fun _ _ _ _ _ _ us hl => match us, hl with | [_, _], _ => rfl
  have T_law_number := fun_mk (st := s_law_number) l_law_number c_law_number k_law_number
  have m_law_number := PySem.W.mg_of X G a_law_number
  have q_law_number := T_law_number.binds (ps := ["urn"]) fun _ _ _ _ _ _ us hl => match us, hl with | [_], _ => rfl
  have T_law_odd := fun_mk (st := s_law_odd) l_law_odd c_law_odd k_law_odd
  have m_law_odd := PySem.W.mg_of X G a_law_odd
  have q_law_odd := T_law_odd.binds (ps := ["urn"]) fun _ _ _ _ _ _ us hl => match us, hl with | [_], _ => rfl
  have T_law_is_number := fun_mk (st := s_law_is_number) l_law_is_number c_law_is_number k_law_is_number
  have m_law_is_number := PySem.W.mg_of X G a_law_is_number
  have q_law_is_number := T_law_is_number.binds (ps := ["value"]) fun _ _ _ _ _ _ us hl => match us, hl with | [_], _ => rfl
  have T_is_integer := fun_mk (st := s_is_integer) l_is_integer c_is_integer k_is_integer
  have m_is_integer := PySem.W.mg_of X G a_is_integer
  have q_is_integer := T_is_integer.binds (ps := ["value"]) fun _ _ _ _ _ _ us hl => match us, hl with | [_], _ => rfl
  have T_is_within := fun_mk (st := s_is_within) l_is_within c_is_within k_is_within
  have m_is_within := PySem.W.mg_of X G a_is_within
  have q_is_within := T_is_within.binds (ps := ["value", "least", "most"]) fun _ _ _ _ _ _ us hl => match us, hl with | [_, _, _], _ => rfl
  have T_law_pair := fun_mk (st := s_law_pair) l_law_pair c_law_pair k_law_pair
  have m_law_pair := PySem.W.mg_of X G a_law_pair
  have q_law_pair := T_law_pair.binds (ps := ["urn"]) fun _ _ _ _ _ _ us hl => match us, hl with | [_], _ => rfl
  have T_is_square := fun_mk (st := s_is_square) l_is_square c_is_square k_is_square
  have m_is_square := PySem.W.mg_of X G a_is_square
  have q_is_square := T_is_square.binds (ps := ["value"]) fun _ _ _ _ _ _ us hl => match us, hl with | [_], _ => rfl
  have T_law_is_pair := fun_mk (st := s_law_is_pair) l_law_is_pair c_law_is_pair k_law_is_pair
  have m_law_is_pair := PySem.W.mg_of X G a_law_is_pair
  have q_law_is_pair := T_law_is_pair.binds (ps := ["value"]) fun _ _ _ _ _ _ us hl => match us, hl with | [_], _ => rfl
  have T_are_squares := fun_mk (st := s_are_squares) l_are_squares c_are_squares k_are_squares
  have m_are_squares := PySem.W.mg_of X G a_are_squares
  have q_are_squares := T_are_squares.binds (ps := ["value"]) fun _ _ _ _ _ _ us hl => match us, hl with | [_], _ => rfl
  have T_law_are_pairs := fun_mk (st := s_law_are_pairs) l_law_are_pairs c_law_are_pairs k_law_are_pairs
  have m_law_are_pairs := PySem.W.mg_of X G a_law_are_pairs
  have q_law_are_pairs := T_law_are_pairs.binds (ps := ["value"]) fun _ _ _ _ _ _ us hl => match us, hl with | [_], _ => rfl
  have T_law := fun_mk (st := s_law) l_law c_law k_law
  have kw_is_integer_0_value : KwB K (PySem.W.fnOf "is_integer" "is_integer" (defArgs s_is_integer) (defBody s_is_integer) (defScope s_is_integer) .none v2_is_integer v3_is_integer v4_is_integer an_is_integer v5_is_integer v6_is_integer) ["value"] 0 ["value"] [0] := ⟨fun s us ws _ h1 h2 => match us, ws, h1, h2 with | [], [_], _, _ => .of_eq rfl⟩
  have kw_is_within_0_most_value_least : KwB K (PySem.W.fnOf "is_within" "is_within" (defArgs s_is_within) (defBody s_is_within) (defScope s_is_within) .none v2_is_within v3_is_within v4_is_within an_is_within v5_is_within v6_is_within) ["value", "least", "most"] 0 ["most", "value", "least"] [1, 2, 0] := ⟨fun s us ws _ h1 h2 => match us, ws, h1, h2 with | [], [_, _, _], _, _ => .of_eq rfl⟩
  have kw_is_square_0_value : KwB K (PySem.W.fnOf "is_square" "is_square" (defArgs s_is_square) (defBody s_is_square) (defScope s_is_square) .none v2_is_square v3_is_square v4_is_square an_is_square v5_is_square v6_is_square) ["value"] 0 ["value"] [0] := ⟨fun s us ws _ h1 h2 => match us, ws, h1, h2 with | [], [_], _, _ => .of_eq rfl⟩
  have kw_are_squares_0_value : KwB K (PySem.W.fnOf "are_squares" "are_squares" (defArgs s_are_squares) (defBody s_are_squares) (defScope s_are_squares) .none v2_are_squares v3_are_squares v4_are_squares an_are_squares v5_are_squares v6_are_squares) ["value"] 0 ["value"] [0] := ⟨fun s us ws _ h1 h2 => match us, ws, h1, h2 with | [], [_], _, _ => .of_eq rfl⟩
  have y_int := PySem.W.mg_none_of X G z_int
  have y_len := PySem.W.mg_none_of X G z_len
  have y_abs := PySem.W.mg_none_of X G z_abs
  have y_isinstance := PySem.W.mg_none_of X G z_isinstance
  have y_bool := PySem.W.mg_none_of X G z_bool
  have y_range := PySem.W.mg_none_of X G z_range
  have y_tuple := PySem.W.mg_none_of X G z_tuple
  have y_all := PySem.W.mg_none_of X G z_all
  have y_list := PySem.W.mg_none_of X G z_list
  have y_set := PySem.W.mg_none_of X G z_set
  have y_enumerate := PySem.W.mg_none_of X G z_enumerate
  have y_repr := PySem.W.mg_none_of X G z_repr
  refine ⟨PySem.W.fnOf "law" "law" (defArgs s_law) (defBody s_law) (defScope s_law) .none v2_law v3_law v4_law an_law v5_law v6_law, fun s v => .of_eq rfl, fun base _ _ => ?_⟩
  have O_law_urn : FnG l.prog w K mg base CX0 1 f_law_urn _ ["script"] (lsp K r_law_urn) := ok_law_urn T_law_urn y_int
  have O_law_draw : FnG l.prog w K mg base CX0 1 f_law_draw _ ["jar", "many"] (lsp K r_law_draw) := ok_law_draw T_law_draw y_int y_len y_abs
  have O_law_number : FnG l.prog w K mg base CX0 2 f_law_number _ ["urn"] (lsp K r_law_number) := ok_law_number T_law_number O_law_draw m_law_draw k_law_draw q_law_draw
  have O_law_odd : FnG l.prog w K mg base CX0 2 f_law_odd _ ["urn"] (lsp K r_law_odd) := ok_law_odd T_law_odd O_law_draw m_law_draw k_law_draw q_law_draw
  have O_law_is_number : FnG l.prog w K mg base CX0 1 f_law_is_number _ ["value"] (lsp K r_law_is_number) := ok_law_is_number T_law_is_number y_isinstance y_bool y_int
  have O_is_integer : FnG l.prog w K mg base CX0 1 f_is_integer _ ["value"] (lsp K r_is_integer) := ok_is_integer T_is_integer y_isinstance y_bool y_int
  have O_is_within : FnG l.prog w K mg base CX0 2 f_is_within _ ["value", "least", "most"] (lsp K r_is_within) := ok_is_within T_is_within O_is_integer m_is_integer k_is_integer q_is_integer
  have O_law_pair : FnG l.prog w K mg base CX0 3 f_law_pair _ ["urn"] (lsp K r_law_pair) := ok_law_pair T_law_pair O_law_draw m_law_draw k_law_draw q_law_draw O_law_number m_law_number k_law_number q_law_number O_law_odd m_law_odd k_law_odd q_law_odd y_range y_tuple
  have O_is_square : FnG l.prog w K mg base CX0 2 f_is_square _ ["value"] (lsp K r_is_square) := ok_is_square T_is_square O_is_integer m_is_integer k_is_integer q_is_integer y_all y_len y_isinstance y_list y_tuple
  have O_law_is_pair : FnG l.prog w K mg base CX0 2 f_law_is_pair _ ["value"] (lsp K r_law_is_pair) := ok_law_is_pair T_law_is_pair O_law_is_number m_law_is_number k_law_is_number q_law_is_number y_len y_isinstance y_list y_tuple
  have O_are_squares : FnG l.prog w K mg base CX0 3 f_are_squares _ ["value"] (lsp K r_are_squares) := ok_are_squares T_are_squares O_is_square m_is_square k_is_square q_is_square y_all y_isinstance y_list y_tuple y_len y_set
  have O_law_are_pairs : FnG l.prog w K mg base CX0 3 f_law_are_pairs _ ["value"] (lsp K r_law_are_pairs) := ok_law_are_pairs T_law_are_pairs O_law_is_pair m_law_is_pair k_law_is_pair q_law_is_pair y_isinstance y_list y_tuple y_enumerate
  have O_law : FnG l.prog w K mg base CX0 4 fa _ ["script"] (lsp K r_law) := ok_law T_law O_law_urn m_law_urn k_law_urn q_law_urn O_law_draw m_law_draw k_law_draw q_law_draw O_law_number m_law_number k_law_number q_law_number O_law_odd m_law_odd k_law_odd q_law_odd O_law_is_number m_law_is_number k_law_is_number q_law_is_number O_is_integer m_is_integer k_is_integer q_is_integer O_is_within m_is_within k_is_within q_is_within O_law_pair m_law_pair k_law_pair q_law_pair O_is_square m_is_square k_is_square q_is_square O_law_is_pair m_law_is_pair k_law_is_pair q_law_is_pair O_are_squares m_are_squares k_are_squares q_are_squares O_law_are_pairs m_law_are_pairs k_law_are_pairs q_law_are_pairs kw_is_integer_0_value kw_is_within_0_most_value_least kw_is_square_0_value kw_are_squares_0_value y_range y_repr y_len y_tuple y_isinstance y_list
  exact O_law
end NC
open PySem PySem.W PyProof.Rows
set_option maxRecDepth 100000 in
set_option maxHeartbeats 0 in
theorem PySem.Challenge.cw_nevercaught_k02_plain_values_holds : PySem.Challenge.rw_nevercaught_k02_plain_values.Holds := by
  w_on; o_law; k_head; (case hw => w_witness2)
  k_fill
  refine NC.end_of (l := PySem.Challenge.rw_nevercaught_k02_plain_values) (n := 63) (k := 4) (x := "script") rfl (by decide) rfl ⟨rfl, by decide, by decide⟩ (fun w h Y => PySem.W.kIn_of Y) NC.law_true ?F
  case F =>
    intro w mg fa h KX G hmg
    refine' NC.all_mk KX G hmg ?a_law_urn ?l_law_urn ?c_law_urn ?k_law_urn ?a_law_draw ?l_law_draw ?c_law_draw ?k_law_draw ?a_law_number ?l_law_number ?c_law_number ?k_law_number ?a_law_odd ?l_law_odd ?c_law_odd ?k_law_odd ?a_law_is_number ?l_law_is_number ?c_law_is_number ?k_law_is_number ?a_is_integer ?l_is_integer ?c_is_integer ?k_is_integer ?a_is_within ?l_is_within ?c_is_within ?k_is_within ?a_law_pair ?l_law_pair ?c_law_pair ?k_law_pair ?a_is_square ?l_is_square ?c_is_square ?k_is_square ?a_law_is_pair ?l_law_is_pair ?c_law_is_pair ?k_law_is_pair ?a_are_squares ?l_are_squares ?c_are_squares ?k_are_squares ?a_law_are_pairs ?l_law_are_pairs ?c_law_are_pairs ?k_law_are_pairs ?a_law ?l_law ?c_law ?k_law ?z_int ?z_len ?z_abs ?z_isinstance ?z_bool ?z_range ?z_tuple ?z_all ?z_list ?z_set ?z_enumerate ?z_repr
    (case a_law_urn => k_is)
    (case l_law_urn => k_is)
    (case c_law_urn => k_is)
    (case k_law_urn => k_is)
    (case a_law_draw => k_is)
    (case l_law_draw => k_is)
    (case c_law_draw => k_is)
    (case k_law_draw => k_is)
    (case a_law_number => k_is)
    (case l_law_number => k_is)
    (case c_law_number => k_is)
    (case k_law_number => k_is)
    (case a_law_odd => k_is)
    (case l_law_odd => k_is)
    (case c_law_odd => k_is)
    (case k_law_odd => k_is)
    (case a_law_is_number => k_is)
    (case l_law_is_number => k_is)
    (case c_law_is_number => k_is)
    (case k_law_is_number => k_is)
    (case a_is_integer => k_is)
    (case l_is_integer => k_is)
    (case c_is_integer => k_is)
    (case k_is_integer => k_is)
    (case a_is_within => k_is)
    (case l_is_within => k_is)
    (case c_is_within => k_is)
    (case k_is_within => k_is)
    (case a_law_pair => k_is)
    (case l_law_pair => k_is)
    (case c_law_pair => k_is)
    (case k_law_pair => k_is)
    (case a_is_square => k_is)
    (case l_is_square => k_is)
    (case c_is_square => k_is)
    (case k_is_square => k_is)
    (case a_law_is_pair => k_is)
    (case l_law_is_pair => k_is)
    (case c_law_is_pair => k_is)
    (case k_law_is_pair => k_is)
    (case a_are_squares => k_is)
    (case l_are_squares => k_is)
    (case c_are_squares => k_is)
    (case k_are_squares => k_is)
    (case a_law_are_pairs => k_is)
    (case l_law_are_pairs => k_is)
    (case c_law_are_pairs => k_is)
    (case k_law_are_pairs => k_is)
    (case a_law => k_is)
    (case l_law => k_is)
    (case c_law => k_is)
    (case k_law => k_is)
    (case z_int => k_is)
    (case z_len => k_is)
    (case z_abs => k_is)
    (case z_isinstance => k_is)
    (case z_bool => k_is)
    (case z_range => k_is)
    (case z_tuple => k_is)
    (case z_all => k_is)
    (case z_list => k_is)
    (case z_set => k_is)
    (case z_enumerate => k_is)
    (case z_repr => k_is)
#print axioms PySem.Challenge.cw_nevercaught_k02_plain_values_holds

