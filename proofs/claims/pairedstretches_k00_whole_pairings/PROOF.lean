import PyProof.Rows.All
import Wide.All
import OpenK.AllK
import Wide.FinOn
import HandS.ForMost
import HandS.ForExc
import HandS.Wide
import HandS.EndBits
import HandS.Lambda
import HandS.ExcValue
import HandS.IsInst
import HandS.SortInts
import HandS.Walk
import HandS.Style
import HandS.ExcIs
import HandS.CallLocal
import HandS.Defaults
import HandS.EndTab
import HandS.HeadHook4
import HandS.HeadEnd
import HandS.Head2
import PySem.Challenge.RW_pairedstretches_k00_whole_pairings
set_option Elab.async false
set_option linter.all false
set_option maxRecDepth 100000
set_option maxHeartbeats 4000000
/-! VS0: values as trees, how they lie in the heap, states. -/
namespace VS
open PySem PySem.Spec PyProof.Rows L2

/-- a value as a tree: dicts by their keys and values in order; exc: a caught error by its class's number and what it bears; draw: the dict of the draws; scr: the script -/
inductive D where
  | non | bl (b : Bool) | int (i : Int) | str (x : Str) | tup (ds : List D) | lst (ds : List D)
  | dct (ks : List Key) (ds : List D) | dctT (ks : List (List Key)) (ds : List D)
  | fn (n : Nat) | exc (c : Nat) (m : Option Int) | draw | scr (xs : List Int)

mutual
/-- no list, no dict in it -/
def D.flat : D → Bool
  | .tup ds => flats ds
  | .lst _ => false
  | .dct _ _ => false
  | .dctT _ _ => false
  | .scr _ => false
  | _ => true
def flats : List D → Bool
  | [] => true
  | d :: ds => d.flat && flats ds
end

/-- what is fixed in a run -/
structure G where
  K : PySem.W.Frag
  /-- the defs and classes by number -/
  fv : Nat → Addr
  /-- the dict of the draws, its list -/
  dr : Option (Addr × Addr)
  sc : Option (Addr × List Int)
  /-- the tables of code objects -/
  tb : List (Addr × Str)

def G.nd (g : G) (a : Addr) : Prop := ∀ p, g.dr = some p → a ≠ p.1
def G.isC (g : G) (a : Addr) : Prop := ∃ p, g.dr = some p ∧ a = p.2

/-- an exception object of a class, with its own dict perhaps -/
def ExX (cls : Value) (d : Option Addr) (a : Addr) : HO := .ext fun h => ∃ (oe : Obj) (vs : Array Value), h.get? a = some oe ∧ Zc cls d oe ∧ oe.data = .fields vs
/-- what an error bears -/
def ExD (m : Option Int) (d : Option Addr) (H : Hp) : Prop := match m with
  | none => d = none
  | some n => ∃ x, d = some x ∧ H x = some (.xd [("most", .int n)])

/-- the script's list: known to the object, or a module's own -/
def ScL (K : PySem.W.Frag) (H : Hp) (a : Addr) (xs : List V) : Prop := (∃ o, H a = some (.frz o (.lst xs))) ∨
  ∃ o its n, K.lookup a = some o ∧ o.cls = Value.type "list" ∧ o.dict = none ∧ o.data = Data.seq its n ∧ its.size ≤ sizeLine ∧ Vals xs its.toList
theorem ScL.sq {K : PySem.W.Frag} {H : Hp} {a : Addr} {xs : List V} (h : ScL K H a xs) : SqL K H a xs := by
  rcases h with ⟨o, h⟩ | h
  · exact .inl (.inr ⟨o, h⟩)
  · exact .inr h
mutual
inductive Rep (g : G) (F : Addr → Prop) (H : Hp) : D → V → Prop
  | non : Rep g F H .non .non
  | bl (b : Bool) : Rep g F H (.bl b) (.bl b)
  | int (i : Int) : Rep g F H (.int i) (.int i)
  | str (x : Str) : Rep g F H (.str x) (.str x)
  | tup {a : Addr} {vs : List V} {ds : List D} (h : SqT g.K H a vs) (r : Reps g F H ds vs) : Rep g F H (.tup ds) (.ref a)
  | lst {a : Addr} {vs : List V} {ds : List D} (f : F a) (h : H a = some (.lst vs)) (r : Reps g F H ds vs) : Rep g F H (.lst ds) (.ref a)
  | dct {a : Addr} {kvs : List (Key × V)} {ks : List Key} {ds : List D} (f : F a) (h : Rd H a (.dK kvs)) (k : kvs.map (·.1) = ks) (r : Reps g F H ds (kvs.map (·.2))) : Rep g F H (.dct ks ds) (.ref a)
  | dctT {a : Addr} {kvs : List (List Key × V)} {ks : List (List Key)} {ds : List D} (f : F a) (h : Rd H a (.dT kvs)) (k : kvs.map (·.1) = ks) (r : Reps g F H ds (kvs.map (·.2))) : Rep g F H (.dctT ks ds) (.ref a)
  | fn (n : Nat) : Rep g F H (.fn n) (.ref (g.fv n))
  | exc {c : Nat} {m : Option Int} {a : Addr} {d : Option Addr} (h : H a = some (ExX (.ref (g.fv c)) d a)) (e : ExD m d H) : Rep g F H (.exc c m) (.ref a)
  | draw {p : Addr × Addr} (h : g.dr = some p) : Rep g F H .draw (.ref p.1)
  | scr {a : Addr} {xs : List Int} (h : g.sc = some (a, xs)) (s : ScL g.K H a (xs.map V.int)) : Rep g F H (.scr xs) (.ref a)
  | scrL {a : Addr} {xs : List Int} (f : F a) (h : H a = some (.lst (xs.map V.int))) : Rep g F H (.scr xs) (.ref a)
inductive Reps (g : G) (F : Addr → Prop) (H : Hp) : List D → List V → Prop
  | nil : Reps g F H [] []
  | cons {d : D} {v : V} {ds : List D} {vs : List V} (r : Rep g F H d v) (t : Reps g F H ds vs) : Reps g F H (d :: ds) (v :: vs)
end

/-- what may be changed by a statement or a call -/
def isVar : HO → Bool
  | .lst _ => true
  | .dK _ => true
  | .dT _ => true
  | _ => false
def isTbl : HO → Bool
  | .tbl _ => true
  | _ => false

section
variable {g : G} {F F' : Addr → Prop} {H H' : Hp}
theorem rd_keep {a : Addr} {u : HO} (hu : isVar u = false ∨ F a) (ht : isTbl u = false) (hk : ∀ a o, H a = some o → isTbl o = false → (isVar o = true → F a) → H' a = some o) (h : Rd H a u) : Rd H' a u := by
  rcases h with h | ⟨o, h⟩
  · refine .inl (hk _ _ h ht fun e => ?_)
    rcases hu with z | z
    · rw [z] at e; cases e
    · exact z
  · exact .inr ⟨o, hk _ _ h rfl fun e => by cases e⟩
theorem sqT_keep {K : PySem.W.Frag} {a : Addr} {vs : List V} (hk : ∀ a o, H a = some o → isTbl o = false → (isVar o = true → F a) → H' a = some o) (h : SqT K H a vs) : SqT K H' a vs := by
  rcases h with h | h
  · exact .inl (rd_keep (F := F) (.inl rfl) rfl hk h)
  · exact .inr h
theorem exD_keep {m : Option Int} {d : Option Addr} (hk : ∀ a o, H a = some o → isTbl o = false → (isVar o = true → F a) → H' a = some o) (h : ExD m d H) : ExD m d H' := by
  cases m with
  | none => exact h
  | some n =>
    obtain ⟨x, e, q⟩ := h
    exact ⟨x, e, hk _ _ q rfl fun z => by cases z⟩
mutual
/-- the heap has changed elsewhere -/
theorem Rep.imp (hk : ∀ a o, H a = some o → isTbl o = false → (isVar o = true → F a) → H' a = some o) (hs : ∀ p, g.sc = some p → ScL g.K H p.1 (p.2.map V.int) → ScL g.K H' p.1 (p.2.map V.int)) (hF : ∀ a, F a → H a ≠ none → F' a) : ∀ {d : D} {v : V}, Rep g F H d v → Rep g F' H' d v
  | _, _, .non => .non
  | _, _, .bl b => .bl b
  | _, _, .int i => .int i
  | _, _, .str x => .str x
  | _, _, .tup h r => .tup (sqT_keep (F := F) hk h) (Reps.imp hk hs hF r)
  | _, _, .lst f h r => .lst (hF _ f (by rw [h]; exact fun z => by cases z)) (hk _ _ h rfl fun _ => f) (Reps.imp hk hs hF r)
  | _, _, .dct f h k r => .dct (hF _ f (by rcases h with h | ⟨o, h⟩ <;> (rw [h]; exact fun z => by cases z))) (rd_keep (F := F) (.inr f) rfl hk h) k (Reps.imp hk hs hF r)
  | _, _, .dctT f h k r => .dctT (hF _ f (by rcases h with h | ⟨o, h⟩ <;> (rw [h]; exact fun z => by cases z))) (rd_keep (F := F) (.inr f) rfl hk h) k (Reps.imp hk hs hF r)
  | _, _, .fn n => .fn n
  | _, _, .exc h e => .exc (hk _ _ h rfl fun z => by cases z) (exD_keep (F := F) hk e)
  | _, _, .draw h => .draw h
  | _, _, .scr h s => .scr h (hs _ h s)
  | _, _, .scrL f h => .scrL (hF _ f (by rw [h]; exact fun z => by cases z)) (hk _ _ h rfl fun _ => f)
theorem Reps.imp (hk : ∀ a o, H a = some o → isTbl o = false → (isVar o = true → F a) → H' a = some o) (hs : ∀ p, g.sc = some p → ScL g.K H p.1 (p.2.map V.int) → ScL g.K H' p.1 (p.2.map V.int)) (hF : ∀ a, F a → H a ≠ none → F' a) : ∀ {ds : List D} {vs : List V}, Reps g F H ds vs → Reps g F' H' ds vs
  | _, _, .nil => .nil
  | _, _, .cons r t => .cons (Rep.imp hk hs hF r) (Reps.imp hk hs hF t)
end
mutual
/-- a flat value leans on no list -/
theorem Rep.flatTo : ∀ {d : D} {v : V}, d.flat = true → Rep g F H d v → Rep g F' H d v
  | _, _, _, .non => .non
  | _, _, _, .bl b => .bl b
  | _, _, _, .int i => .int i
  | _, _, _, .str x => .str x
  | _, _, e, .tup h r => .tup h (Reps.flatTo (by simpa [D.flat] using e) r)
  | _, _, e, .lst f h r => by simp [D.flat] at e
  | _, _, e, .dct f h k r => by simp [D.flat] at e
  | _, _, e, .dctT f h k r => by simp [D.flat] at e
  | _, _, _, .fn n => .fn n
  | _, _, _, .exc h e => .exc h e
  | _, _, _, .draw h => .draw h
  | _, _, _, .scr h s => .scr h s
  | _, _, e, .scrL f h => by simp [D.flat] at e
theorem Reps.flatTo : ∀ {ds : List D} {vs : List V}, flats ds = true → Reps g F H ds vs → Reps g F' H ds vs
  | _, _, _, .nil => .nil
  | _, _, e, .cons r t => by
    simp only [flats, Bool.and_eq_true] at e
    exact .cons (Rep.flatTo e.1 r) (Reps.flatTo e.2 t)
end
theorem Rep.weak (hF : ∀ a, F a → H a ≠ none → F' a) {d : D} {v : V} (r : Rep g F H d v) : Rep g F' H d v := r.imp (fun _ _ h _ _ => h) (fun _ _ h => h) hF
theorem Reps.weak (hF : ∀ a, F a → H a ≠ none → F' a) {ds : List D} {vs : List V} (r : Reps g F H ds vs) : Reps g F' H ds vs := r.imp (fun _ _ h _ _ => h) (fun _ _ h => h) hF
theorem Reps.length : ∀ {ds : List D} {vs : List V}, Reps g F H ds vs → ds.length = vs.length
  | _, _, .nil => rfl
  | _, _, .cons _ t => by simp [Reps.length t]
theorem Reps.get : ∀ {ds : List D} {vs : List V} {i : Nat} {d : D}, Reps g F H ds vs → ds[i]? = some d → ∃ v, vs[i]? = some v ∧ Rep g F H d v
  | _, _, _, _, .nil, e => by simp at e
  | _, _, 0, _, .cons r _, e => by simp at e; subst e; exact ⟨_, rfl, r⟩
  | _, _, i + 1, d, .cons _ t, e => by
    obtain ⟨v, h1, h2⟩ := Reps.get (i := i) (d := d) t (by simpa using e)
    exact ⟨v, by simpa using h1, h2⟩
theorem Reps.getV : ∀ {ds : List D} {vs : List V} {i : Nat} {v : V}, Reps g F H ds vs → vs[i]? = some v → ∃ d, ds[i]? = some d ∧ Rep g F H d v
  | _, _, _, _, .nil, e => by simp at e
  | _, _, 0, _, .cons r _, e => by simp at e; subst e; exact ⟨_, rfl, r⟩
  | _, _, i + 1, v, .cons _ t, e => by
    obtain ⟨d, h1, h2⟩ := Reps.getV (i := i) (v := v) t (by simpa using e)
    exact ⟨d, by simpa using h1, h2⟩
theorem Reps.append : ∀ {ds es : List D} {vs us : List V}, Reps g F H ds vs → Reps g F H es us → Reps g F H (ds ++ es) (vs ++ us)
  | _, _, _, _, .nil, s => s
  | _, _, _, _, .cons r t, s => .cons r (Reps.append t s)
theorem Reps.take : ∀ {ds : List D} {vs : List V} (n : Nat), Reps g F H ds vs → Reps g F H (ds.take n) (vs.take n)
  | _, _, 0, _ => by simp; exact .nil
  | _, _, _ + 1, .nil => .nil
  | _, _, n + 1, .cons r t => .cons r (Reps.take n t)
theorem Reps.drop : ∀ {ds : List D} {vs : List V} (n : Nat), Reps g F H ds vs → Reps g F H (ds.drop n) (vs.drop n)
  | _, _, 0, r => r
  | _, _, _ + 1, .nil => .nil
  | _, _, n + 1, .cons _ t => Reps.drop n t
theorem Reps.set {d : D} {v : V} (r : Rep g F H d v) : ∀ {ds : List D} {vs : List V} (i : Nat), Reps g F H ds vs → Reps g F H (ds.set i d) (vs.set i v)
  | _, _, _, .nil => .nil
  | _, _, 0, .cons _ t => .cons r t
  | _, _, i + 1, .cons q t => .cons q (Reps.set r i t)
theorem Reps.snoc {ds : List D} {vs : List V} {d : D} {v : V} (h : Reps g F H ds vs) (r : Rep g F H d v) : Reps g F H (ds ++ [d]) (vs ++ [v]) := h.append (.cons r .nil)
theorem Reps.dropLast {ds : List D} {vs : List V} (h : Reps g F H ds vs) : Reps g F H ds.dropLast vs.dropLast := by
  rw [List.dropLast_eq_take, List.dropLast_eq_take, h.length]
  exact h.take _
end

/-! ### the draws, the tables -/
structure DS where
  w : Int
  cs : List Int
  c : Int
/-- the world behind the values -/
structure Wd (g : G) (s : DS) (H : Hp) : Prop where
  dr : ∀ p, g.dr = some p → H p.1 = some (.dK [(.inr "whole", .int s.w), (.inr "cells", .ref p.2), (.inr "count", .int s.c)]) ∧ H p.2 = some (.lst (s.cs.map V.int))
  tb : LamX.Tabs g.tb H
theorem Wd.ne {g : G} {s : DS} {H : Hp} (w : Wd g s H) {p : Addr × Addr} (h : g.dr = some p) : p.2 ≠ p.1 := by
  obtain ⟨a, b⟩ := w.dr p h
  exact ne_of b a (by intro z; cases z)

theorem tabs_upd {T : List (Addr × Str)} {H : Hp} {p : Addr} {o u : HO} (t : LamX.Tabs T H) (hp : H p = some u) (nv : isVar u = true) : LamX.Tabs T (upd H p o) := fun q hq => by
  obtain ⟨ps, e1, e2, e3⟩ := t q hq
  have n1 : q.1 ≠ p := fun z => by
    rw [z, hp] at e1
    cases e1
    cases nv
  refine ⟨ps, by rw [upd_ne n1]; exact e1, e2, fun pos cv hc => ?_⟩
  obtain ⟨c, e4, e5⟩ := e3 pos cv hc
  have n2 : c ≠ p := fun z => by
    rw [z, hp] at e5
    have e6 := Option.some.inj e5
    subst e6
    cases nv
  exact ⟨c, e4, by rw [upd_ne n2]; exact e5⟩
/-- all is kept but the draws' dict and the tables -/
structure Kp (g : G) (H H' : Hp) : Prop where
  keep : ∀ a o, H a = some o → isTbl o = false → (isVar o = true → g.nd a) → H' a = some o
  there : ∀ a, H a ≠ none → H' a ≠ none
  tbs : LamX.Tabs g.tb H → LamX.Tabs g.tb H'
theorem Kp.refl (g : G) (H : Hp) : Kp g H H := ⟨fun _ _ h _ _ => h, fun _ h => h, fun h => h⟩
theorem Kp.trans {g : G} {H H1 H2 : Hp} (a : Kp g H H1) (b : Kp g H1 H2) : Kp g H H2 :=
  ⟨fun c o h t v => b.keep c o (a.keep c o h t v) t v, fun c h => b.there c (a.there c h), fun h => b.tbs (a.tbs h)⟩
theorem Kp.free {g : G} {H H' : Hp} (k : Kp g H H') {a : Addr} (h : H' a = none) : H a = none := by
  cases e : H a with
  | none => rfl
  | some o => exact absurd h (k.there a (by rw [e]; exact fun z => by cases z))
theorem Kp.new {g : G} {H : Hp} {p : Addr} {o : HO} (h : H p = none) : Kp g H (upd H p o) :=
  ⟨fun a u e _ _ => by rw [upd_ne (ne_of_none e h)]; exact e, fun a e => by
    by_cases z : a = p
    · rw [z, upd_same]; exact fun z => by cases z
    · rw [upd_ne z]; exact e, fun t => t.ext fun b u e => by rw [upd_ne (ne_of_none e h)]; exact e⟩
/-- an object that was not there at first changes -/
theorem Kp.mut {g : G} {H H' : Hp} {p : Addr} {o u : HO} (k : Kp g H H') (h : H p = none) (hp : H' p = some u) (nv : isVar u = true) : Kp g H (upd H' p o) :=
  ⟨fun a v e t w => by
    have z : a ≠ p := ne_of_none e h
    rw [upd_ne z]
    exact k.keep a v e t w, fun a e => by
    by_cases z : a = p
    · rw [z, upd_same]; exact fun z => by cases z
    · rw [upd_ne z]; exact k.there a e, fun t => tabs_upd (k.tbs t) hp nv⟩
theorem Wd.kp {g : G} {s : DS} {H H' : Hp} (w : Wd g s H) (k : Kp g H H') (hd : ∀ p, g.dr = some p → H' p.1 = H p.1) : Wd g s H' := by
  refine ⟨fun p hp => ?_, k.tbs w.tb⟩
  obtain ⟨a, b⟩ := w.dr p hp
  exact ⟨by rw [hd p hp]; exact a, k.keep _ _ b rfl fun _ q hq => by rw [hp] at hq; cases hq; exact w.ne hp⟩
theorem Wd.new {g : G} {s : DS} {H : Hp} {p : Addr} {o : HO} (w : Wd g s H) (h : H p = none) : Wd g s (upd H p o) :=
  w.kp (Kp.new h) fun q hq => upd_ne (ne_of_none (w.dr q hq).1 h)
theorem Wd.upd {g : G} {s : DS} {H : Hp} {p : Addr} {o u : HO} (w : Wd g s H) (h : H p = some u) (nv : isVar u = true) (n1 : g.nd p) (n2 : ¬ g.isC p) : Wd g s (L2.upd H p o) := by
  refine ⟨fun q hq => ?_, tabs_upd w.tb h nv⟩
  obtain ⟨a, b⟩ := w.dr q hq
  exact ⟨by rw [upd_ne (fun z => n1 q hq z.symm)]; exact a, by rw [upd_ne (fun z => n2 ⟨q, hq, z.symm⟩)]; exact b⟩
/-- one that is new to H is neither the draws' dict nor its list -/
theorem Wd.newNe {g : G} {s : DS} {H : Hp} {p : Addr} (w : Wd g s H) (h : H p = none) : g.nd p ∧ ¬ g.isC p :=
  ⟨fun q hq z => (by rw [z, (w.dr q hq).1] at h; cases h), fun ⟨q, hq, z⟩ => (by rw [z, (w.dr q hq).2] at h; cases h)⟩
end VS

/-! VS1: states of a body, what an expression, a test, a statement means. -/
namespace VS
open PySem PySem.Spec PyProof.Rows L2

/-! ### meanings -/
abbrev Er := Nat × Option Int
abbrev M (α : Type) := DS → Option (Except Er α × DS)
namespace M
def ok {α : Type} (a : α) : M α := fun s => some (.ok a, s)
def er {α : Type} (e : Er) : M α := fun s => some (.error e, s)
def stuck {α : Type} : M α := fun _ => none
def bind {α β : Type} (m : M α) (f : α → M β) : M β := fun s => match m s with
  | none => none
  | some (.error e, s') => some (.error e, s')
  | some (.ok a, s') => f a s'
def ofO {α : Type} (o : Option α) : M α := match o with
  | some a => ok a
  | none => stuck
theorem bind_ok {α β : Type} (a : α) (f : α → M β) : bind (ok a) f = f a := rfl
theorem bind_er {α β : Type} (e : Er) (f : α → M β) : bind (er e) f = er e := rfl
theorem bind_stuck {α β : Type} (f : α → M β) : bind stuck f = stuck := rfl
theorem bind_assoc {α β γ : Type} (m : M α) (f : α → M β) (h : β → M γ) : bind (bind m f) h = bind m fun a => bind (f a) h := by
  funext s
  unfold bind
  cases m s with
  | none => rfl
  | some q =>
    obtain ⟨r, s'⟩ := q
    cases r <;> rfl
/-- the first part of a run -/
theorem bind_some {α β : Type} {m : M α} {f : α → M β} {s : DS} {r : Except Er β × DS} (h : bind m f s = some r) :
    (∃ e s', m s = some (.error e, s') ∧ r = (.error e, s')) ∨ ∃ a s', m s = some (.ok a, s') ∧ f a s' = some r := by
  unfold bind at h
  cases e : m s with
  | none => rw [e] at h; cases h
  | some q =>
    obtain ⟨x, s'⟩ := q
    rw [e] at h
    cases x with
    | error e' => cases h; exact .inl ⟨e', s', rfl, rfl⟩
    | ok a => exact .inr ⟨a, s', rfl, h⟩
theorem ofO_some {α : Type} {o : Option α} {s : DS} {r : Except Er α × DS} (h : ofO o s = some r) : ∃ a, o = some a ∧ r = (.ok a, s) := by
  cases o with
  | none => cases h
  | some a => cases h; exact ⟨a, rfl, rfl⟩
end M

abbrev Env := List (Option D)

/-! ### states -/
/-- where a body's values may have their lists: at the arguments', at new ones, at the draws' list; never at the draws' dict -/
def FB (g : G) (H0 : Hp) (F0 : Addr → Prop) (a : Addr) : Prop := (F0 a ∨ H0 a = none ∨ g.isC a) ∧ g.nd a
def live (ρ : Env) (i : Nat) : Prop := ∃ d, ρ[i]? = some (some d)
/-- nor at the roots of what the body itself changes (b) -/
def FT (g : G) (H0 : Hp) (F0 : Addr → Prop) (ω : List Nat) (b : Bool) (ρ : Env) (σ : L2.St) (a : Addr) : Prop :=
  FB g H0 F0 a ∧ (b = true → ∀ i, i ∈ ω → live ρ i → σ[i]? ≠ some (some (.ref a)))
/-- a list or dict whose root is at a -/
def RootAt (g : G) (F : Addr → Prop) (H : Hp) (d : D) (a : Addr) : Prop := match d with
  | .lst ds => ∃ vs, H a = some (.lst vs) ∧ Reps g F H ds vs
  | .dct ks ds => ∃ kvs : List (Key × V), H a = some (.dK kvs) ∧ kvs.map (·.1) = ks ∧ Reps g F H ds (kvs.map (·.2))
  | .dctT ks ds => ∃ kvs : List (List Key × V), H a = some (.dT kvs) ∧ kvs.map (·.1) = ks ∧ Reps g F H ds (kvs.map (·.2))
  | _ => False
/-- what is held beside the slots: a value; a list as it stands -/
inductive Held where
  | val (d : D) (v : V) | seq (a : Addr) (vs : List V) | root (d : D) (a : Addr) | tup (a : Addr) (vs : List V)
def HeldOk (g : G) (H0 : Hp) (F : Addr → Prop) (H : Hp) : Held → Prop
  | .val d v => Rep g F H d v
  | .seq a vs => F a ∧ H a = some (.lst vs)
  | .root d a => H0 a ≠ none ∧ g.nd a ∧ RootAt g F H d a
  | .tup a vs => SqT g.K H a vs
structure Sim (g : G) (H0 : Hp) (F0 : Addr → Prop) (ω : List Nat) (κ : List Held) (ρ : Env) (s : DS) (σ : L2.St) (H : Hp) : Prop where
  len : ρ.length = σ.length
  kp : Kp g H0 H
  wd : Wd g s H
  val : ∀ i d, i ∉ ω → ρ[i]? = some (some d) → ∃ v, σ[i]? = some (some v) ∧ Rep g (FT g H0 F0 ω true ρ σ) H d v
  own : ∀ i d, i ∈ ω → ρ[i]? = some (some d) → ∃ a, σ[i]? = some (some (.ref a)) ∧ H0 a = none ∧ g.nd a ∧ ¬ g.isC a ∧ RootAt g (FT g H0 F0 ω true ρ σ) H d a
  held : ∀ p, p ∈ κ → HeldOk g H0 (FT g H0 F0 ω true ρ σ) H p
  inj : ∀ i j a, i ∈ ω → j ∈ ω → live ρ i → live ρ j → σ[i]? = some (some (.ref a)) → σ[j]? = some (some (.ref a)) → i = j

section
variable {g : G} {H0 H H' : Hp} {F0 F F' : Addr → Prop} {ω : List Nat} {κ : List Held} {ρ : Env} {s : DS} {σ : L2.St}
theorem RootAt.imp (hk : ∀ a o, H a = some o → isTbl o = false → (isVar o = true → F a) → H' a = some o) (hs : ∀ p, g.sc = some p → ScL g.K H p.1 (p.2.map V.int) → ScL g.K H' p.1 (p.2.map V.int)) (hF : ∀ a, F a → H a ≠ none → F' a) {d : D} {a : Addr}
    (hr : H' a = H a) (r : RootAt g F H d a) : RootAt g F' H' d a := by
  cases d with
  | lst ds => obtain ⟨vs, h, q⟩ := r; exact ⟨vs, hr.trans h, q.imp hk hs hF⟩
  | dct ks ds => obtain ⟨kvs, h, e, q⟩ := r; exact ⟨kvs, hr.trans h, e, q.imp hk hs hF⟩
  | dctT ks ds => obtain ⟨kvs, h, e, q⟩ := r; exact ⟨kvs, hr.trans h, e, q.imp hk hs hF⟩
  | _ => exact r.elim
theorem RootAt.there {d : D} {a : Addr} (r : RootAt g F H d a) : ∃ u, H a = some u ∧ isVar u = true := by
  cases d with
  | lst ds => obtain ⟨vs, h, q⟩ := r; exact ⟨_, h, rfl⟩
  | dct ks ds => obtain ⟨kvs, h, e, q⟩ := r; exact ⟨_, h, rfl⟩
  | dctT ks ds => obtain ⟨kvs, h, e, q⟩ := r; exact ⟨_, h, rfl⟩
  | _ => exact r.elim
theorem RootAt.rep {d : D} {a : Addr} (hF : ∀ a, F a → H a ≠ none → F' a) (fa : F' a) (r : RootAt g F H d a) : Rep g F' H d (.ref a) := by
  cases d with
  | lst ds => obtain ⟨vs, h, q⟩ := r; exact .lst fa h (q.weak hF)
  | dct ks ds => obtain ⟨kvs, h, e, q⟩ := r; exact .dct fa (.inl h) e (q.weak hF)
  | dctT ks ds => obtain ⟨kvs, h, e, q⟩ := r; exact .dctT fa (.inl h) e (q.weak hF)
  | _ => exact r.elim
/-- the script's list stays -/
theorem sc_keep (k : Kp g H H') : ∀ p, g.sc = some p → ScL g.K H p.1 (p.2.map V.int) → ScL g.K H' p.1 (p.2.map V.int) := fun p hp h => by
  rcases h with ⟨o, h⟩ | h
  · exact .inl ⟨o, k.keep _ _ h rfl fun e => by cases e⟩
  · exact .inr h
end
def G.Ok (g : G) : Prop := True
section
variable {g : G} {H0 H H' : Hp} {F0 F F' : Addr → Prop} {ω : List Nat} {κ : List Held} {ρ : Env} {s : DS} {σ : L2.St} {b : Bool}
theorem Rep.kp (go : g.Ok) (k : Kp g H H') (hF : ∀ a, F a → H a ≠ none → F' a ∧ g.nd a) {d : D} {v : V} (r : Rep g F H d v) : Rep g F' H' d v := by
  have r1 : Rep g (fun a => F a ∧ H a ≠ none) H d v := r.weak fun a h n => ⟨h, n⟩
  exact r1.imp (fun a o h t f => k.keep a o h t fun e => (hF a (f e).1 (f e).2).2) (sc_keep k) fun a h n => (hF a h.1 n).1
theorem Reps.kp (go : g.Ok) (k : Kp g H H') (hF : ∀ a, F a → H a ≠ none → F' a ∧ g.nd a) {d : List D} {v : List V} (r : Reps g F H d v) : Reps g F' H' d v := by
  have r1 : Reps g (fun a => F a ∧ H a ≠ none) H d v := r.weak fun a h n => ⟨h, n⟩
  exact r1.imp (fun a o h t f => k.keep a o h t fun e => (hF a (f e).1 (f e).2).2) (sc_keep k) fun a h n => (hF a h.1 n).1
/-- a value that was known is known behind what keeps all -/
theorem Rep.kpT (go : g.Ok) (k : Kp g H H') {d : D} {v : V} (r : Rep g (FT g H0 F0 ω b ρ σ) H d v) : Rep g (FT g H0 F0 ω b ρ σ) H' d v := r.kp go k fun a h _ => ⟨h, h.1.2⟩
theorem Reps.kpT (go : g.Ok) (k : Kp g H H') {d : List D} {v : List V} (r : Reps g (FT g H0 F0 ω b ρ σ) H d v) : Reps g (FT g H0 F0 ω b ρ σ) H' d v := r.kp go k fun a h _ => ⟨h, h.1.2⟩
theorem RootAt.kp (go : g.Ok) (k : Kp g H H') (hF : ∀ a, F a → H a ≠ none → F' a ∧ g.nd a) {d : D} {a : Addr} (na : g.nd a) (r : RootAt g F H d a) : RootAt g F' H' d a := by
  obtain ⟨u, q, nv⟩ := r.there
  have r1 : RootAt g (fun a => F a ∧ H a ≠ none) H d a := r.imp (fun _ _ h _ _ => h) (fun _ _ h => h) (fun a h n => ⟨h, n⟩) rfl
  exact r1.imp (fun a o h t f => k.keep a o h t fun e => (hF a (f e).1 (f e).2).2) (sc_keep k) (fun a h _ => (hF a h.1 h.2).1) ((k.keep _ _ q (by cases u <;> first | rfl | cases nv) fun _ => na).trans q.symm)
theorem HeldOk.imp (go : g.Ok) {p : Held} (hk : ∀ a o, H a = some o → isTbl o = false → (isVar o = true → F a) → H' a = some o) (hs : ∀ p, g.sc = some p → ScL g.K H p.1 (p.2.map V.int) → ScL g.K H' p.1 (p.2.map V.int)) (hF : ∀ a, F a → H a ≠ none → F' a) (hr : ∀ a, H0 a ≠ none → H' a = H a) (h : HeldOk g H0 F H p) : HeldOk g H0 F' H' p := by
  cases p with
  | val d v => exact Rep.imp hk hs hF h
  | seq a vs => exact ⟨hF a h.1 (by rw [h.2]; exact fun z => by cases z), hk a _ h.2 rfl fun _ => h.1⟩
  | root d a => exact ⟨h.1, h.2.1, h.2.2.imp hk hs hF (hr a h.1)⟩
  | tup a vs => exact sqT_keep (F := F) hk h
theorem HeldOk.kp (go : g.Ok) (k : Kp g H H') (hF : ∀ a, F a → H a ≠ none → F' a ∧ g.nd a) {p : Held} (h : HeldOk g H0 F H p) : HeldOk g H0 F' H' p := by
  cases p with
  | val d v => exact Rep.kp go k hF h
  | seq a vs =>
    have n : H a ≠ none := by rw [h.2]; exact fun z => by cases z
    exact ⟨(hF a h.1 n).1, k.keep a _ h.2 rfl fun _ => (hF a h.1 n).2⟩
  | root d a => exact ⟨h.1, h.2.1, h.2.2.kp go k hF h.2.1⟩
  | tup a vs => exact sqT_keep (F := g.nd) (fun a o h t f => k.keep a o h t f) h
theorem HeldOk.weak {p : Held} (hF : ∀ a, F a → H a ≠ none → F' a) (h : HeldOk g H0 F H p) : HeldOk g H0 F' H p := by
  cases p with
  | val d v => exact Rep.weak hF h
  | seq a vs => exact ⟨hF a h.1 (by rw [h.2]; exact fun z => by cases z), h.2⟩
  | root d a => exact ⟨h.1, h.2.1, h.2.2.imp (fun _ _ h _ _ => h) (fun _ _ h => h) hF rfl⟩
  | tup a vs => exact h
theorem HeldOk.base {H0' : Hp} {p : Held} (hh : ∀ a, H0 a ≠ none → H0' a ≠ none) (h : HeldOk g H0 F H p) : HeldOk g H0' F H p := by
  cases p with
  | val d v => exact h
  | seq a vs => exact h
  | root d a => exact ⟨hh a h.1, h.2⟩
  | tup a vs => exact h
theorem HeldOk.kpT (go : g.Ok) (k : Kp g H H') {p : Held} (h : HeldOk g H0 (FT g H0 F0 ω b ρ σ) H p) : HeldOk g H0 (FT g H0 F0 ω b ρ σ) H' p := h.kp go k fun a h _ => ⟨h, h.1.2⟩
/-- a state behind what keeps all -/
theorem Sim.kpTo (go : g.Ok) {s' : DS} (S : Sim g H0 F0 ω κ ρ s σ H) (k : Kp g H H') (w : Wd g s' H') : Sim g H0 F0 ω κ ρ s' σ H' := by
  refine ⟨S.len, S.kp.trans k, w, fun i d hi e => ?_, fun i d hi e => ?_, fun p hp => (S.held p hp).kpT go k, S.inj⟩
  · obtain ⟨v, h1, h2⟩ := S.val i d hi e
    exact ⟨v, h1, h2.kpT go k⟩
  · obtain ⟨a, h1, h2, h3, h4, h5⟩ := S.own i d hi e
    refine ⟨a, h1, h2, h3, h4, ?_⟩
    obtain ⟨u, q, nv⟩ := h5.there
    have r1 : RootAt g (fun a => FT g H0 F0 ω true ρ σ a ∧ H a ≠ none) H d a := h5.imp (fun _ _ h _ _ => h) (fun _ _ h => h) (fun a h n => ⟨h, n⟩) rfl
    exact r1.imp (fun a o h t f => k.keep a o h t fun e => (f e).1.1.2) (sc_keep k) (fun a h _ => h.1) ((k.keep _ _ q (by cases u <;> first | rfl | cases nv) fun _ => h3).trans q.symm)
/-- any slot's value -/
theorem Sim.get (S : Sim g H0 F0 ω κ ρ s σ H) {i : Nat} {d : D} (h : i ∉ ω ∨ b = false) (e : ρ[i]? = some (some d)) : ∃ v, σ[i]? = some (some v) ∧ Rep g (FT g H0 F0 ω b ρ σ) H d v := by
  by_cases hi : i ∈ ω
  · have hb : b = false := h.resolve_left fun z => z hi
    subst hb
    obtain ⟨a, h1, h2, h3, h4, h5⟩ := S.own i d hi e
    refine ⟨_, h1, h5.rep (fun a h _ => ⟨h.1, fun z => by cases z⟩) ⟨⟨.inr (.inl h2), h3⟩, fun z => by cases z⟩⟩
  · obtain ⟨v, h1, h2⟩ := S.val i d hi e
    exact ⟨v, h1, h2.weak fun a h _ => ⟨h.1, fun _ => h.2 rfl⟩⟩
theorem FT.toB {a : Addr} (h : FT g H0 F0 ω b ρ σ a) : FT g H0 F0 ω false ρ σ a := ⟨h.1, fun z => by cases z⟩
theorem Rep.toB {d : D} {v : V} (r : Rep g (FT g H0 F0 ω b ρ σ) H d v) : Rep g (FT g H0 F0 ω false ρ σ) H d v := r.weak fun _ h _ => h.toB
theorem Rep.toFB {d : D} {v : V} (r : Rep g (FT g H0 F0 ω b ρ σ) H d v) : Rep g (FB g H0 F0) H d v := r.weak fun _ h _ => h.1
/-- a place that is new now is good for all -/
theorem Sim.newFT (S : Sim g H0 F0 ω κ ρ s σ H) {a : Addr} (h : H a = none) : FT g H0 F0 ω b ρ σ a ∧ g.nd a ∧ ¬ g.isC a ∧ H0 a = none := by
  have h0 := S.kp.free h
  obtain ⟨n1, n2⟩ := S.wd.newNe h
  refine ⟨⟨⟨.inr (.inl h0), n1⟩, fun _ i hi ⟨d, e⟩ z => ?_⟩, n1, n2, h0⟩
  obtain ⟨a', q1, _, _, _, q5⟩ := S.own i d hi e
  rw [q1] at z
  cases z
  obtain ⟨u, q, _⟩ := q5.there
  rw [h] at q
  cases q
theorem Sim.tok (S : Sim g H0 F0 ω κ ρ s σ H) {a : Addr} (h : FT g H0 F0 ω b ρ σ a) : g.nd a := h.1.2
end

/-! ### judgements -/
/-- an error leaves -/
def ErrK (g : G) (E : XK) (H0 : Hp) (s : DS) (e : Er) : Prop := ∀ dx H', Kp g H0 H' → Wd g s H' → ExD e.2 dx H' → E (.ref (g.fv e.1)) dx H'
/-- what is to follow an expression -/
def PostE (g : G) (E : XK) (H0 : Hp) (F0 : Addr → Prop) (ω : List Nat) (b : Bool) (κ : List Held) (ρ : Env) (σ : L2.St) (H : Hp) (Q : VK) : Except Er D × DS → Prop
  | (.ok d, s') => ∀ v H', Kp g H H' → Sim g H0 F0 ω κ ρ s' σ H' → Rep g (FT g H0 F0 ω b ρ σ) H' d v → Q v H'
  | (.error e, s') => ErrK g E H0 s' e
def DE (X : Cx) (g : G) (E : XK) (ω : List Nat) (b : Bool) (e : Expr) (m : Env → M D) : Prop :=
  ∃ t : TE, PE X e t ∧ ∀ H0 F0 κ ρ s σ H Q r, Sim g H0 F0 ω κ ρ s σ H → m ρ s = some r → PostE g E H0 F0 ω b κ ρ σ H Q r → t σ H Q
def PostA (g : G) (E : XK) (H0 : Hp) (F0 : Addr → Prop) (ω : List Nat) (b : Bool) (κ : List Held) (ρ : Env) (σ : L2.St) (H : Hp) (Q : List V → Hp → Prop) : Except Er (List D) × DS → Prop
  | (.ok ds, s') => ∀ vs H', Kp g H H' → Sim g H0 F0 ω κ ρ s' σ H' → Reps g (FT g H0 F0 ω b ρ σ) H' ds vs → Q vs H'
  | (.error e, s') => ErrK g E H0 s' e
def DA (X : Cx) (g : G) (E : XK) (ω : List Nat) (b : Bool) (es : List Expr) (m : Env → M (List D)) : Prop :=
  ∃ t : TA, PA X es t ∧ ∀ H0 F0 κ ρ s σ H Q r, Sim g H0 F0 ω κ ρ s σ H → m ρ s = some r → PostA g E H0 F0 ω b κ ρ σ H Q r → t σ H Q
def PostT (g : G) (E : XK) (H0 : Hp) (F0 : Addr → Prop) (ω : List Nat) (κ : List Held) (ρ : Env) (σ : L2.St) (H : Hp) (Q : Bool → Hp → Prop) : Except Er Bool × DS → Prop
  | (.ok k, s') => ∀ H', Kp g H H' → Sim g H0 F0 ω κ ρ s' σ H' → Q k H'
  | (.error e, s') => ErrK g E H0 s' e
def DT (X : Cx) (g : G) (E : XK) (ω : List Nat) (e : Expr) (m : Env → M Bool) : Prop :=
  ∃ t : TT, PT X e t ∧ ∀ H0 F0 κ ρ s σ H Q r, Sim g H0 F0 ω κ ρ s σ H → m ρ s = some r → PostT g E H0 F0 ω κ ρ σ H Q r → t σ H Q
/-- and, or in tests -/
def DW (X : Cx) (g : G) (E : XK) (ω : List Nat) (e : Expr) (m : Env → M Bool) : Prop :=
  ∃ t : TT, PW X e t ∧ ∀ H0 F0 κ ρ s σ H Q r, Sim g H0 F0 ω κ ρ s σ H → m ρ s = some r → PostT g E H0 F0 ω κ ρ σ H Q r → t σ H Q
/-- what makes a new list or dict, its root new -/
def PostR (g : G) (E : XK) (H0 : Hp) (F0 : Addr → Prop) (ω : List Nat) (κ : List Held) (ρ : Env) (σ : L2.St) (H : Hp) (Q : VK) : Except Er D × DS → Prop
  | (.ok d, s') => ∀ a H', Kp g H H' → Wd g s' H' → H a = none → RootAt g (fun b => FT g H0 F0 ω true ρ σ b ∧ b ≠ a) H' d a → Q (.ref a) H'
  | (.error e, s') => ErrK g E H0 s' e
def DR (X : Cx) (g : G) (E : XK) (ω : List Nat) (e : Expr) (m : Env → M D) : Prop :=
  ∃ t : TE, PE X e t ∧ ∀ H0 F0 κ ρ s σ H Q r, Sim g H0 F0 ω κ ρ s σ H → m ρ s = some r → PostR g E H0 F0 ω κ ρ σ H Q r → t σ H Q

inductive Out where
  | nx (ρ : Env) | rt (d : D) | bk (ρ : Env) | ct (ρ : Env)
def PostS (g : G) (E : XK) (H0 : Hp) (F0 : Addr → Prop) (ω : List Nat) (κ : List Held) (N : Ends) : Except Er Out × DS → Prop
  | (.ok (.nx ρ), s') => ∀ σ H', Sim g H0 F0 ω κ ρ s' σ H' → N.nx σ H'
  | (.ok (.rt d), s') => ∀ v H', Kp g H0 H' → Wd g s' H' → Rep g (FB g H0 F0) H' d v → N.rt v H'
  | (.ok (.bk ρ), s') => ∀ σ H', Sim g H0 F0 ω κ ρ s' σ H' → N.bk σ H'
  | (.ok (.ct ρ), s') => ∀ σ H', Sim g H0 F0 ω κ ρ s' σ H' → N.ct σ H'
  | (.error e, s') => ErrK g E H0 s' e
def DSt (X : Cx) (g : G) (E : XK) (ω : List Nat) (st : Stmt) (m : Env → M Out) : Prop :=
  ∃ t : TS, PS X st t ∧ ∀ H0 F0 κ ρ s σ H N r, Sim g H0 F0 ω κ ρ s σ H → m ρ s = some r → PostS g E H0 F0 ω κ N r → t N σ H
def DSs (X : Cx) (g : G) (E : XK) (ω : List Nat) (sts : List Stmt) (m : Env → M Out) : Prop :=
  ∃ t : TS, PSs X sts t ∧ ∀ H0 F0 κ ρ s σ H N r, Sim g H0 F0 ω κ ρ s σ H → m ρ s = some r → PostS g E H0 F0 ω κ N r → t N σ H

/-- what the lemmas ask of where they stand -/
structure Bx (X : Cx) (g : G) (k : Nat) (E : XK) : Prop where
  K : g.K = X.K
  ok : g.Ok
  calm : X.calm = true
  nd : X.N.Nodup
  room : Room k X.A
  ps : Passes (L2.CX X.prog X.w) X E
end VS

/-! VS2: expressions. -/
namespace VS
open PySem PySem.Spec PyProof.Rows L2

/-! ### meanings of expressions -/
def eVar (i : Nat) : Env → M D := fun ρ => M.ofO (ρ[i]?.getD none)
def eC (d : D) : Env → M D := fun _ => M.ok d
def eBin (f : D → D → Option D) (a b : Env → M D) : Env → M D := fun ρ => (a ρ).bind fun x => (b ρ).bind fun y => M.ofO (f x y)
def eUn (f : D → Option D) (a : Env → M D) : Env → M D := fun ρ => (a ρ).bind fun x => M.ofO (f x)
def eNil : Env → M (List D) := fun _ => M.ok []
def eCons (a : Env → M D) (b : Env → M (List D)) : Env → M (List D) := fun ρ => (a ρ).bind fun x => (b ρ).bind fun xs => M.ok (x :: xs)
def eArgs (f : List D → Option D) (a : Env → M (List D)) : Env → M D := fun ρ => (a ρ).bind fun xs => M.ofO (f xs)
def eCall (f : List D → M D) (a : Env → M (List D)) : Env → M D := fun ρ => (a ρ).bind f
def eIf (c : Env → M Bool) (a b : Env → M D) : Env → M D := fun ρ => (c ρ).bind fun k => if k = true then a ρ else b ρ
def eFlat (a : Env → M D) : Env → M D := fun ρ => (a ρ).bind fun d => if d.flat = true then M.ok d else M.stuck
def eTest (a : Env → M D) : Env → M Bool := fun ρ => (a ρ).bind fun d => match d with
  | .bl k => M.ok k
  | _ => M.stuck
def eOfT (a : Env → M Bool) : Env → M D := fun ρ => (a ρ).bind fun k => M.ok (.bl k)
def eAnd (a b : Env → M Bool) : Env → M Bool := fun ρ => (a ρ).bind fun k => if k = true then b ρ else M.ok false
def eOr (a b : Env → M Bool) : Env → M Bool := fun ρ => (a ρ).bind fun k => if k = true then M.ok true else b ρ
def eNot (a : Env → M Bool) : Env → M Bool := fun ρ => (a ρ).bind fun k => M.ok (!k)
def eChain (f h : D → D → Option D) (a b c : Env → M D) : Env → M D := fun ρ => (a ρ).bind fun x => (b ρ).bind fun y => (M.ofO (f x y)).bind fun z => match z with
  | .bl true => (c ρ).bind fun w => M.ofO (h y w)
  | .bl false => M.ok (.bl false)
  | _ => M.stuck

/-- a step by values, new places allowed -/
abbrev Fu (F : Addr → Prop) (H : Hp) : Addr → Prop := fun a => F a ∨ H a = none
def OpD (X : Cx) (g : G) (fn : Value → Value → Sem Value) (f : D → D → Option D) : Prop :=
  ∃ r : R2, OpR X fn r ∧ ∀ (F : Addr → Prop) s H x y vx vy d Q, (∀ a, F a → g.nd a) → Wd g s H → Rep g F H x vx → Rep g F H y vy → f x y = some d → (∀ v H', Kp g H H' → Wd g s H' → Rep g (Fu F H) H' d v → Q v H') → r vx vy H Q
def UnD (X : Cx) (g : G) (fn : Value → Sem Value) (f : D → Option D) : Prop :=
  ∃ r : V → Hp → VK → Prop, UnR X fn r ∧ ∀ (F : Addr → Prop) s H x vx d Q, (∀ a, F a → g.nd a) → Wd g s H → Rep g F H x vx → f x = some d → (∀ v H', Kp g H H' → Wd g s H' → Rep g (Fu F H) H' d v → Q v H') → r vx H Q
def CallD (X : Cx) (g : G) (fv : Value) (f : List D → Option D) : Prop :=
  ∃ r : List V → Hp → VK → Prop, CallR X fv r ∧ ∀ (F : Addr → Prop) s H xs vs d Q, (∀ a, F a → g.nd a) → Wd g s H → Reps g F H xs vs → f xs = some d → (∀ v H', Kp g H H' → Wd g s H' → Rep g (Fu F H) H' d v → Q v H') → r vs H Q
def IxD (X : Cx) (g : G) (f : D → D → Option D) : Prop :=
  ∃ r : R2, IxR X r ∧ ∀ (F : Addr → Prop) s H x y vx vy d Q, (∀ a, F a → g.nd a) → Wd g s H → Rep g F H x vx → Rep g F H y vy → f x y = some d → (∀ v H', Kp g H H' → Wd g s H' → Rep g (Fu F H) H' d v → Q v H') → r vx vy H Q

section
variable {X : Cx} {g : G} {E : XK} {H0 : Hp} {F0 : Addr → Prop} {ω : List Nat} {b b' : Bool} {k : Nat}
theorem PostE.err {κ : List Held} {ρ : Env} {σ : L2.St} {H : Hp} {Q : VK} {e : Er} {s' : DS} (h : PostE g E H0 F0 ω b κ ρ σ H Q (.error e, s')) : ErrK g E H0 s' e := h
/-- the new places are good -/
theorem Fu.to {κ : List Held} {ρ : Env} {s : DS} {σ : L2.St} {H : Hp} (S : Sim g H0 F0 ω κ ρ s σ H) : ∀ a, Fu (FT g H0 F0 ω b ρ σ) H a → FT g H0 F0 ω b ρ σ a := fun a h => by
  rcases h with h | h
  · exact h
  · exact (S.newFT h).1

/-! ### names, constants -/
theorem de_var {i : Nat} {x : Str} {pos : Pos} (hw : i ∉ ω ∨ b = false) (hN : X.N[i]? = some x) (hv : Vis X.env.scope x) (hd : (x == ("__debug__" : Str)) = false := by decide) (hcd : (x == ("__classdict__" : Str)) = false := by decide) :
    DE X g E ω b (.Name x pos) (eVar i) := by
  refine ⟨_, pe_var hN hv hd hcd, fun H0 F0 κ ρ s σ H Q r S hm hp => ?_⟩
  obtain ⟨d, e, rfl⟩ := M.ofO_some hm
  have e' : ρ[i]? = some (some d) := by
    cases q : ρ[i]? with
    | none => rw [q] at e; cases e
    | some o => rw [q] at e; exact congrArg some e
  obtain ⟨v, h1, h2⟩ := S.get hw e'
  exact ⟨v, h1, hp v H (Kp.refl g H) S h2⟩
theorem de_c {e : Expr} {d : D} {v : V} (h : PE X e (tC v)) (hr : ∀ (F : Addr → Prop) H, Rep g F H d v) : DE X g E ω b e (eC d) := by
  refine ⟨_, h, fun H0 F0 κ ρ s σ H Q r S hm hp => ?_⟩
  cases hm
  exact hp v H (Kp.refl g H) S (hr _ _)
theorem de_int {i : Int} {j pos} : DE X g E ω b (.Constant (.int i) j pos) (eC (.int i)) := de_c pe_int fun _ _ => .int i
theorem de_bl {i : Bool} {j pos} : DE X g E ω b (.Constant (.bool i) j pos) (eC (.bl i)) := de_c pe_bl fun _ _ => .bl i
theorem de_non {j pos} : DE X g E ω b (.Constant .none j pos) (eC .non) := de_c pe_non fun _ _ => .non
theorem de_str {x : Str} {j pos} : DE X g E ω b (.Constant (.str x) j pos) (eC (.str x)) := de_c pe_str fun _ _ => .str x
/-- a module's number -/
theorem de_gint {x : Str} {i : Int} {t : Tok} {pos : Pos} (hg : Gl X x) (hm : X.mg x = some (.int i t)) (hd : (x == ("__debug__" : Str)) = false := by decide) : DE X g E ω b (.Name x pos) (eC (.int i)) :=
  de_c (v := .int i) (pe_glob hg hm ⟨t, rfl⟩ hd) fun _ _ => .int i
/-- a def or a class of the module as a value -/
theorem de_fn {x : Str} {n : Nat} {pos : Pos} (hg : Gl X x) (hm : X.mg x = some (.ref (g.fv n))) (hd : (x == ("__debug__" : Str)) = false := by decide) : DE X g E ω b (.Name x pos) (eC (.fn n)) :=
  de_c (v := .ref (g.fv n)) (pe_glob hg hm rfl hd) fun _ _ => .fn n

/-- weaker: a value that may be what the body changes -/
theorem DE.flat {e : Expr} {m : Env → M D} (h : DE X g E ω false e m) : DE X g E ω b e (eFlat m) := by
  obtain ⟨t, ht, hq⟩ := h
  refine ⟨t, ht, fun H0 F0 κ ρ s σ H Q r S hm hp => ?_⟩
  rcases M.bind_some hm with ⟨e, s1, e1, rfl⟩ | ⟨d, s1, e1, e2⟩
  · exact hq H0 F0 κ ρ s σ H Q _ S e1 hp
  · refine hq H0 F0 κ ρ s σ H Q _ S e1 fun v H' kp S' r' => ?_
    by_cases hf : d.flat = true
    · rw [if_pos hf] at e2
      cases e2
      exact hp v H' kp S' (r'.flatTo hf)
    · rw [if_neg hf] at e2
      cases e2
theorem DE.toB {e : Expr} {m : Env → M D} (h : DE X g E ω b e m) : DE X g E ω false e m := by
  obtain ⟨t, ht, hq⟩ := h
  refine ⟨t, ht, fun H0 F0 κ ρ s σ H Q r S hm hp => hq H0 F0 κ ρ s σ H Q r S hm ?_⟩
  obtain ⟨x, s'⟩ := r
  cases x with
  | error e => exact hp
  | ok d => exact fun v H' kp S' r' => hp v H' kp S' r'.toB

/-! ### operators -/
/-- two expressions, then a step by values -/
theorem two (bx : Bx X g k E) {ea eb : Expr} {ma mb : Env → M D} {f : D → D → Option D} {r : R2} {ta tb : TE}
    (ha : ∀ H0 F0 κ ρ s σ H Q r, Sim g H0 F0 ω κ ρ s σ H → ma ρ s = some r → PostE g E H0 F0 ω b κ ρ σ H Q r → ta σ H Q)
    (hb : ∀ H0 F0 κ ρ s σ H Q r, Sim g H0 F0 ω κ ρ s σ H → mb ρ s = some r → PostE g E H0 F0 ω b κ ρ σ H Q r → tb σ H Q)
    (hr : ∀ (F : Addr → Prop) s H x y vx vy d Q, (∀ a, F a → g.nd a) → Wd g s H → Rep g F H x vx → Rep g F H y vy → f x y = some d → (∀ v H', Kp g H H' → Wd g s H' → Rep g (Fu F H) H' d v → Q v H') → r vx vy H Q)
    {κ : List Held} {ρ : Env} {s : DS} {σ : L2.St} {H : Hp} {Q : VK} {q : Except Er D × DS} (S : Sim g H0 F0 ω κ ρ s σ H) (hm : eBin f ma mb ρ s = some q) (hp : PostE g E H0 F0 ω b κ ρ σ H Q q) : tOp r ta tb σ H Q := by
  rcases M.bind_some hm with ⟨e, s1, e1, rfl⟩ | ⟨x, s1, e1, e2⟩
  · exact ha H0 F0 κ ρ s σ H _ _ S e1 hp
  · refine ha H0 F0 κ ρ s σ H _ _ S e1 fun vx H1 k1 S1 r1 => ?_
    rcases M.bind_some e2 with ⟨e, s2, e3, rfl⟩ | ⟨y, s2, e3, e4⟩
    · exact hb H0 F0 κ ρ s1 σ H1 _ _ S1 e3 hp
    · refine hb H0 F0 κ ρ s1 σ H1 _ _ S1 e3 fun vy H2 k2 S2 r2 => ?_
      obtain ⟨d, e5, rfl⟩ := M.ofO_some e4
      refine hr (FT g H0 F0 ω b ρ σ) s2 H2 x y vx vy d Q (fun a h => h.1.2) S2.wd (r1.kpT bx.ok k2) r2 e5 fun v H3 k3 w3 r3 => ?_
      exact hp v H3 ((k1.trans k2).trans k3) (S2.kpTo bx.ok k3 w3) (r3.weak fun a h _ => Fu.to S2 a h)
theorem de_bin (bx : Bx X g k E) {op : Operator} {f : D → D → Option D} {ea eb : Expr} {ma mb : Env → M D} {pos : Pos} (ho : OpD X g (binaryOp op) f) (ha : DE X g E ω b ea ma) (hb : DE X g E ω b eb mb) :
    DE X g E ω b (.BinOp ea op eb pos) (eBin f ma mb) := by
  obtain ⟨r, hr, hq⟩ := ho
  obtain ⟨ta, h1, h2⟩ := ha
  obtain ⟨tb, h3, h4⟩ := hb
  exact ⟨_, pe_op hr h1 h3, fun H0 F0 κ ρ s σ H Q q S hm hp => two (ea := ea) (eb := eb) bx h2 h4 hq S hm hp⟩
theorem de_cmp (bx : Bx X g k E) {op : CmpOp} {f : D → D → Option D} {ea eb : Expr} {ma mb : Env → M D} {pos : Pos} (ho : OpD X g (compareOp op) f) (ha : DE X g E ω b ea ma) (hb : DE X g E ω b eb mb) (hmk : behindInMarks op eb = false) :
    DE X g E ω b (.Compare ea [op] [eb] pos) (eBin f ma mb) := by
  obtain ⟨r, hr, hq⟩ := ho
  obtain ⟨ta, h1, h2⟩ := ha
  obtain ⟨tb, h3, h4⟩ := hb
  exact ⟨_, pe_cmpR hr h1 h3 hmk, fun H0 F0 κ ρ s σ H Q q S hm hp => two (ea := ea) (eb := eb) bx h2 h4 hq S hm hp⟩
theorem de_ix (bx : Bx X g k E) {f : D → D → Option D} {ea eb : Expr} {ma mb : Env → M D} {pos : Pos} (ho : IxD X g f) (ha : DE X g E ω b ea ma) (hb : DE X g E ω b eb mb) (hs : PlainIx eb) :
    DE X g E ω b (.Subscript ea eb pos) (eBin f ma mb) := by
  obtain ⟨r, hr, hq⟩ := ho
  obtain ⟨ta, h1, h2⟩ := ha
  obtain ⟨tb, h3, h4⟩ := hb
  exact ⟨_, pe_ix hr h1 h3 hs, fun H0 F0 κ ρ s σ H Q q S hm hp => two (ea := ea) (eb := eb) bx h2 h4 hq S hm hp⟩
theorem de_un (bx : Bx X g k E) {op : UnaryOp} {f : D → Option D} {ea : Expr} {ma : Env → M D} {pos : Pos} (ho : UnD X g (unaryOp op) f) (ha : DE X g E ω b ea ma) : DE X g E ω b (.UnaryOp op ea pos) (eUn f ma) := by
  obtain ⟨r, hr, hq⟩ := ho
  obtain ⟨ta, h1, h2⟩ := ha
  refine ⟨_, pe_un hr h1, fun H0 F0 κ ρ s σ H Q q S hm hp => ?_⟩
  rcases M.bind_some hm with ⟨e, s1, e1, rfl⟩ | ⟨x, s1, e1, e2⟩
  · exact h2 H0 F0 κ ρ s σ H _ _ S e1 hp
  · refine h2 H0 F0 κ ρ s σ H _ _ S e1 fun vx H1 k1 S1 r1 => ?_
    obtain ⟨d, e5, rfl⟩ := M.ofO_some e2
    refine hq (FT g H0 F0 ω b ρ σ) s1 H1 x vx d Q (fun a h => h.1.2) S1.wd r1 e5 fun v H3 k3 w3 r3 => ?_
    exact hp v H3 (k1.trans k3) (S1.kpTo bx.ok k3 w3) (r3.weak fun a h _ => Fu.to S1 a h)

/-! ### tests -/
theorem dt_of {e : Expr} {m : Env → M D} (h : DE X g E ω false e m) : ∃ t : TE, PE X e t ∧ ∀ H0 F0 κ ρ s σ H Q r, Sim g H0 F0 ω κ ρ s σ H → eTest m ρ s = some r → PostT g E H0 F0 ω κ ρ σ H Q r → t σ H (fun x H' => ∃ kk, x = .bl kk ∧ Q kk H') := by
  obtain ⟨t, ht, hq⟩ := h
  refine ⟨t, ht, fun H0 F0 κ ρ s σ H Q r S hm hp => ?_⟩
  rcases M.bind_some hm with ⟨e, s1, e1, rfl⟩ | ⟨d, s1, e1, e2⟩
  · exact hq H0 F0 κ ρ s σ H _ _ S e1 hp
  · refine hq H0 F0 κ ρ s σ H _ _ S e1 fun v H' kp S' r' => ?_
    cases d with
    | bl kk =>
      cases e2
      cases r'
      exact ⟨kk, rfl, hp H' kp S'⟩
    | _ => cases e2
theorem dt_cmp (bx : Bx X g k E) {op : CmpOp} {f : D → D → Option D} {ea eb : Expr} {ma mb : Env → M D} {pos : Pos} (ho : OpD X g (compareOp op) f) (ha : DE X g E ω false ea ma) (hb : DE X g E ω false eb mb) (hmk : behindInMarks op eb = false) :
    DT X g E ω (.Compare ea [op] [eb] pos) (eTest (eBin f ma mb)) := by
  obtain ⟨r, hr, hq⟩ := ho
  obtain ⟨ta, h1, h2⟩ := ha
  obtain ⟨tb, h3, h4⟩ := hb
  refine ⟨_, pt_cmpR hr h1 h3 hmk, fun H0 F0 κ ρ s σ H Q q S hm hp => ?_⟩
  show tOp r ta tb σ H (fun x H' => ∃ kk, x = .bl kk ∧ Q kk H')
  rcases M.bind_some hm with ⟨e, s1, e1, rfl⟩ | ⟨d, s1, e1, e2⟩
  · exact two (ea := ea) (eb := eb) bx h2 h4 hq S e1 hp
  · refine two (ea := ea) (eb := eb) bx h2 h4 hq S e1 fun v H' kp S' r' => ?_
    cases d with
    | bl kk =>
      cases e2
      cases r'
      exact ⟨kk, rfl, hp H' kp S'⟩
    | _ => cases e2
/-- an expression of True or False -/
theorem dt_val {e : Expr} {m : Env → M D} (h : DE X g E ω false e m) (he : ∀ whole, isTrue e X.env whole = (do let v ← whole; standAt e.pos; holding [v] (truthy v)) := by intro _; rfl) : DT X g E ω e (eTest m) := by
  obtain ⟨t, ht, hq⟩ := dt_of h
  exact ⟨_, pt_val ht he, fun H0 F0 κ ρ s σ H Q r S hm hp => hq H0 F0 κ ρ s σ H Q r S hm hp⟩
theorem dt_not {e : Expr} {m : Env → M Bool} {pos : Pos} (h : DT X g E ω e m) : DT X g E ω (.UnaryOp .Not e pos) (eNot m) := by
  obtain ⟨t, ht, hq⟩ := h
  refine ⟨_, pt_not ht, fun H0 F0 κ ρ s σ H Q r S hm hp => ?_⟩
  rcases M.bind_some hm with ⟨e, s1, e1, rfl⟩ | ⟨d, s1, e1, e2⟩
  · exact hq H0 F0 κ ρ s σ H _ _ S e1 hp
  · cases e2
    exact hq H0 F0 κ ρ s σ H _ _ S e1 fun H' kp S' => hp H' kp S'
theorem DW.dt {e : Expr} {m : Env → M Bool} (h : DW X g E ω e m) : DT X g E ω e m := by
  obtain ⟨t, ht, hq⟩ := h
  exact ⟨t, ht.pt, hq⟩
theorem dw_and1 {e : Expr} {m : Env → M Bool} {pos : Pos} (h : DT X g E ω e m) : DW X g E ω (.BoolOp .And [e] pos) m := by
  obtain ⟨t, ht, hq⟩ := h
  exact ⟨t, pw_and1 ht, hq⟩
theorem dw_or1 {e : Expr} {m : Env → M Bool} {pos : Pos} (h : DT X g E ω e m) : DW X g E ω (.BoolOp .Or [e] pos) m := by
  obtain ⟨t, ht, hq⟩ := h
  exact ⟨t, pw_or1 ht, hq⟩
/-- behind what keeps all, what follows is what followed -/
theorem PostT.of {κ : List Held} {ρ : Env} {σ : L2.St} {H H1 : Hp} {Q : Bool → Hp → Prop} {r : Except Er Bool × DS} (k : Kp g H H1) (h : PostT g E H0 F0 ω κ ρ σ H Q r) : PostT g E H0 F0 ω κ ρ σ H1 Q r := by
  obtain ⟨x, s'⟩ := r
  cases x with
  | error e => exact h
  | ok d => exact fun H' k' S' => h H' (k.trans k') S'
theorem PostE.of {κ : List Held} {ρ : Env} {σ : L2.St} {H H1 : Hp} {Q : VK} {r : Except Er D × DS} (k : Kp g H H1) (h : PostE g E H0 F0 ω b κ ρ σ H Q r) : PostE g E H0 F0 ω b κ ρ σ H1 Q r := by
  obtain ⟨x, s'⟩ := r
  cases x with
  | error e => exact h
  | ok d => exact fun v H' k' S' => h v H' (k.trans k') S'
theorem dw_and {e e2 : Expr} {es : List Expr} {m m2 : Env → M Bool} {pos : Pos} (h : DT X g E ω e m) (h2 : DW X g E ω (.BoolOp .And (e2 :: es) pos) m2) : DW X g E ω (.BoolOp .And (e :: e2 :: es) pos) (eAnd m m2) := by
  obtain ⟨t, ht, hq⟩ := h
  obtain ⟨t2, ht2, hq2⟩ := h2
  refine ⟨_, pw_and ht ht2, fun H0 F0 κ ρ s σ H Q r S hm hp => ?_⟩
  rcases M.bind_some hm with ⟨e, s1, e1, rfl⟩ | ⟨d, s1, e1, e2⟩
  · exact hq H0 F0 κ ρ s σ H _ _ S e1 hp
  · refine hq H0 F0 κ ρ s σ H _ _ S e1 fun H' kp S' => ?_
    cases d with
    | true => exact hq2 H0 F0 κ ρ s1 σ H' Q r S' e2 (hp.of kp)
    | false => cases e2; exact hp H' kp S'
theorem dw_or {e e2 : Expr} {es : List Expr} {m m2 : Env → M Bool} {pos : Pos} (h : DT X g E ω e m) (h2 : DW X g E ω (.BoolOp .Or (e2 :: es) pos) m2) : DW X g E ω (.BoolOp .Or (e :: e2 :: es) pos) (eOr m m2) := by
  obtain ⟨t, ht, hq⟩ := h
  obtain ⟨t2, ht2, hq2⟩ := h2
  refine ⟨_, pw_or ht ht2, fun H0 F0 κ ρ s σ H Q r S hm hp => ?_⟩
  rcases M.bind_some hm with ⟨e, s1, e1, rfl⟩ | ⟨d, s1, e1, e2⟩
  · exact hq H0 F0 κ ρ s σ H _ _ S e1 hp
  · refine hq H0 F0 κ ρ s σ H _ _ S e1 fun H' kp S' => ?_
    cases d with
    | false => exact hq2 H0 F0 κ ρ s1 σ H' Q r S' e2 (hp.of kp)
    | true => cases e2; exact hp H' kp S'
/-! and, or, not of truth values as values -/
def eBl (a : Env → M D) : Env → M Bool := eTest a
theorem de_and {e e2 : Expr} {es : List Expr} {m m2 : Env → M D} {pos : Pos} (h : DE X g E ω false e m) (h2 : DE X g E ω b (.BoolOp .And (e2 :: es) pos) m2) : DE X g E ω b (.BoolOp .And (e :: e2 :: es) pos) (fun ρ => (eTest m ρ).bind fun k => if k = true then m2 ρ else M.ok (.bl false)) := by
  obtain ⟨t, ht, hq⟩ := dt_of h
  obtain ⟨t0, ht0, hq0⟩ := h
  obtain ⟨t2, ht2, hq2⟩ := h2
  refine ⟨_, pe_and ht ht2, fun H0 F0 κ ρ s σ H Q r S hm hp => ?_⟩
  show t σ H (fun x H1 => ∃ c, x = .bl c ∧ if c = true then t2 σ H1 Q else Q (.bl false) H1)
  rcases M.bind_some hm with ⟨e, s1, e1, rfl⟩ | ⟨d, s1, e1, e2⟩
  · exact hq H0 F0 κ ρ s σ H (fun c H1 => if c = true then t2 σ H1 Q else Q (.bl false) H1) _ S e1 hp
  · refine hq H0 F0 κ ρ s σ H (fun c H1 => if c = true then t2 σ H1 Q else Q (.bl false) H1) _ S e1 fun H' kp S' => ?_
    cases d with
    | true => exact hq2 H0 F0 κ ρ s1 σ H' Q r S' e2 (hp.of kp)
    | false => cases e2; exact hp _ H' kp S' (.bl false)
theorem de_or {e e2 : Expr} {es : List Expr} {m m2 : Env → M D} {pos : Pos} (h : DE X g E ω false e m) (h2 : DE X g E ω b (.BoolOp .Or (e2 :: es) pos) m2) : DE X g E ω b (.BoolOp .Or (e :: e2 :: es) pos) (fun ρ => (eTest m ρ).bind fun k => if k = true then M.ok (.bl true) else m2 ρ) := by
  obtain ⟨t, ht, hq⟩ := dt_of h
  obtain ⟨t0, ht0, hq0⟩ := h
  obtain ⟨t2, ht2, hq2⟩ := h2
  refine ⟨_, pe_or ht ht2, fun H0 F0 κ ρ s σ H Q r S hm hp => ?_⟩
  show t σ H (fun x H1 => ∃ c, x = .bl c ∧ if c = true then Q (.bl true) H1 else t2 σ H1 Q)
  rcases M.bind_some hm with ⟨e, s1, e1, rfl⟩ | ⟨d, s1, e1, e2⟩
  · exact hq H0 F0 κ ρ s σ H (fun c H1 => if c = true then Q (.bl true) H1 else t2 σ H1 Q) _ S e1 hp
  · refine hq H0 F0 κ ρ s σ H (fun c H1 => if c = true then Q (.bl true) H1 else t2 σ H1 Q) _ S e1 fun H' kp S' => ?_
    cases d with
    | false => exact hq2 H0 F0 κ ρ s1 σ H' Q r S' e2 (hp.of kp)
    | true => cases e2; exact hp _ H' kp S' (.bl true)
theorem de_one {e : Expr} {m : Env → M D} {op : BoolOp} {pos : Pos} (h : DE X g E ω b e m) : DE X g E ω b (.BoolOp op [e] pos) m := by
  obtain ⟨t, ht, hq⟩ := h
  exact ⟨t, pe_one ht, hq⟩
theorem de_not {e : Expr} {m : Env → M D} {pos : Pos} (h : DE X g E ω false e m) : DE X g E ω b (.UnaryOp .Not e pos) (eOfT (eNot (eTest m))) := by
  obtain ⟨t, ht, hq⟩ := dt_of h
  refine ⟨_, pe_not ht, fun H0 F0 κ ρ s σ H Q r S hm hp => ?_⟩
  show t σ H (fun x H1 => ∃ c, x = .bl c ∧ Q (.bl (!c)) H1)
  rcases M.bind_some hm with ⟨e, s1, e1, rfl⟩ | ⟨d, s1, e1, e2⟩
  · rcases M.bind_some e1 with ⟨e, s1, e1, h⟩ | ⟨d, s1, e1, e3⟩
    · cases h; exact hq H0 F0 κ ρ s σ H (fun c H1 => Q (.bl (!c)) H1) _ S e1 hp
    · cases e3
  · cases e2
    rcases M.bind_some e1 with ⟨e, s1, e1, h⟩ | ⟨d, s1, e1, e3⟩
    · cases h
    · cases e3
      exact hq H0 F0 κ ρ s σ H (fun c H1 => Q (.bl (!c)) H1) _ S e1 fun H' kp S' => hp _ H' kp S' (.bl _)
theorem de_if {c e1 e2 : Expr} {mc : Env → M Bool} {m1 m2 : Env → M D} {pos : Pos} (h : DT X g E ω c mc) (h1 : DE X g E ω b e1 m1) (h2 : DE X g E ω b e2 m2) : DE X g E ω b (.IfExp c e1 e2 pos) (eIf mc m1 m2) := by
  obtain ⟨t, ht, hq⟩ := h
  obtain ⟨t1, ht1, hq1⟩ := h1
  obtain ⟨t2, ht2, hq2⟩ := h2
  refine ⟨_, pe_ifExp ht ht1 ht2, fun H0 F0 κ ρ s σ H Q r S hm hp => ?_⟩
  rcases M.bind_some hm with ⟨e, s1, e1, rfl⟩ | ⟨d, s1, e1, e2⟩
  · exact hq H0 F0 κ ρ s σ H _ _ S e1 hp
  · refine hq H0 F0 κ ρ s σ H _ _ S e1 fun H' kp S' => ?_
    cases d with
    | true => exact hq1 H0 F0 κ ρ s1 σ H' Q r S' e2 (hp.of kp)
    | false => exact hq2 H0 F0 κ ρ s1 σ H' Q r S' e2 (hp.of kp)
/-- a < b < c -/
theorem chain_rd (bx : Bx X g k E) {f f' : D → D → Option D} {ma mb mc : Env → M D} {r r' : R2} {ta tb tc : TE}
    (h2 : ∀ H0 F0 κ ρ s σ H Q r, Sim g H0 F0 ω κ ρ s σ H → ma ρ s = some r → PostE g E H0 F0 ω b κ ρ σ H Q r → ta σ H Q)
    (h4 : ∀ H0 F0 κ ρ s σ H Q r, Sim g H0 F0 ω κ ρ s σ H → mb ρ s = some r → PostE g E H0 F0 ω b κ ρ σ H Q r → tb σ H Q)
    (h6 : ∀ H0 F0 κ ρ s σ H Q r, Sim g H0 F0 ω κ ρ s σ H → mc ρ s = some r → PostE g E H0 F0 ω b κ ρ σ H Q r → tc σ H Q)
    (hq : ∀ (F : Addr → Prop) s H x y vx vy d Q, (∀ a, F a → g.nd a) → Wd g s H → Rep g F H x vx → Rep g F H y vy → f x y = some d → (∀ v H', Kp g H H' → Wd g s H' → Rep g (Fu F H) H' d v → Q v H') → r vx vy H Q)
    (hq' : ∀ (F : Addr → Prop) s H x y vx vy d Q, (∀ a, F a → g.nd a) → Wd g s H → Rep g F H x vx → Rep g F H y vy → f' x y = some d → (∀ v H', Kp g H H' → Wd g s H' → Rep g (Fu F H) H' d v → Q v H') → r' vx vy H Q)
    {κ : List Held} {ρ : Env} {s : DS} {σ : L2.St} {H : Hp} {Q : VK} {q : Except Er D × DS} (S : Sim g H0 F0 ω κ ρ s σ H) (hm : eChain f f' ma mb mc ρ s = some q) (hp : PostE g E H0 F0 ω b κ ρ σ H Q q) : tChain r r' ta tb tc σ H Q := by
  rcases M.bind_some hm with ⟨e, s1, e1, rfl⟩ | ⟨x, s1, e1, e2⟩
  · exact h2 H0 F0 κ ρ s σ H _ _ S e1 hp
  refine h2 H0 F0 κ ρ s σ H _ _ S e1 fun vx H1 k1 S1 r1 => ?_
  rcases M.bind_some e2 with ⟨e, s2, e3, rfl⟩ | ⟨y, s2, e3, e4⟩
  · exact h4 H0 F0 κ ρ s1 σ H1 _ _ S1 e3 hp
  refine h4 H0 F0 κ ρ s1 σ H1 _ _ S1 e3 fun vy H2 k2 S2 r2 => ?_
  rcases M.bind_some e4 with ⟨e, s3, e5, h⟩ | ⟨z, s3, e5, e6⟩
  · obtain ⟨_, _, h'⟩ := M.ofO_some e5
    cases h'
  obtain ⟨z', e7, h⟩ := M.ofO_some e5
  have hz : z = z' := by injection (congrArg Prod.fst h)
  have hs : s3 = s2 := congrArg Prod.snd h
  subst hz hs
  refine hq (FT g H0 F0 ω b ρ σ) s3 H2 x y vx vy z _ (fun a h => h.1.2) S2.wd (r1.kpT bx.ok k2) r2 e7 fun v H3 k3 w3 r3 => ?_
  have S3 := S2.kpTo bx.ok k3 w3
  have kp := (k1.trans k2).trans k3
  cases z with
  | bl kk =>
    cases r3
    refine ⟨kk, rfl, ?_⟩
    cases kk with
    | true =>
      rw [if_pos rfl]
      rcases M.bind_some e6 with ⟨e, s4, e8, rfl⟩ | ⟨w, s4, e8, e9⟩
      · exact h6 H0 F0 κ ρ s3 σ H3 _ _ S3 e8 hp
      refine h6 H0 F0 κ ρ s3 σ H3 _ _ S3 e8 fun vw H4 k4 S4 r4 => ?_
      obtain ⟨d, e10, rfl⟩ := M.ofO_some e9
      refine hq' (FT g H0 F0 ω b ρ σ) s4 H4 y w vy vw d Q (fun a h => h.1.2) S4.wd ((r2.kpT bx.ok k3).kpT bx.ok k4) r4 e10 fun v H5 k5 w5 r5 => ?_
      exact hp v H5 ((kp.trans k4).trans k5) (S4.kpTo bx.ok k5 w5) (r5.weak fun a h _ => Fu.to S4 a h)
    | false =>
      rw [if_neg Bool.false_ne_true]
      cases e6
      exact hp _ H3 kp S3 (.bl false)
  | _ => cases e6
theorem de_chain (bx : Bx X g k E) {op op' : CmpOp} {f f' : D → D → Option D} {ea eb ec : Expr} {ma mb mc : Env → M D} {pos : Pos} (ho : OpD X g (compareOp op) f) (ho' : OpD X g (compareOp op') f') (ha : DE X g E ω b ea ma) (hb : DE X g E ω b eb mb) (hc : DE X g E ω b ec mc) (hmk : lastMarks [op, op'] [eb, ec] = false := by with_unfolding_all rfl) :
    DE X g E ω b (.Compare ea [op, op'] [eb, ec] pos) (eChain f f' ma mb mc) := by
  obtain ⟨r, hr, hq⟩ := ho
  obtain ⟨r', hr', hq'⟩ := ho'
  obtain ⟨ta, h1, h2⟩ := ha
  obtain ⟨tb, h3, h4⟩ := hb
  obtain ⟨tc, h5, h6⟩ := hc
  exact ⟨_, pe_chain hr hr' h1 h3 h5 hmk, fun H0 F0 κ ρ s σ H Q q S hm hp => chain_rd bx h2 h4 h6 hq hq' S hm hp⟩
theorem dt_chain (bx : Bx X g k E) {op op' : CmpOp} {f f' : D → D → Option D} {ea eb ec : Expr} {ma mb mc : Env → M D} {pos : Pos} (ho : OpD X g (compareOp op) f) (ho' : OpD X g (compareOp op') f') (ha : DE X g E ω false ea ma) (hb : DE X g E ω false eb mb) (hc : DE X g E ω false ec mc) (hmk : lastMarks [op, op'] [eb, ec] = false := by with_unfolding_all rfl) :
    DT X g E ω (.Compare ea [op, op'] [eb, ec] pos) (eTest (eChain f f' ma mb mc)) := by
  obtain ⟨r, hr, hq⟩ := ho
  obtain ⟨r', hr', hq'⟩ := ho'
  obtain ⟨ta, h1, h2⟩ := ha
  obtain ⟨tb, h3, h4⟩ := hb
  obtain ⟨tc, h5, h6⟩ := hc
  refine ⟨_, pt_chain hr hr' h1 h3 h5 hmk, fun H0 F0 κ ρ s σ H Q q S hm hp => ?_⟩
  show tChain r r' ta tb tc σ H (fun x H' => ∃ kk, x = .bl kk ∧ Q kk H')
  rcases M.bind_some hm with ⟨e, s1, e1, rfl⟩ | ⟨d, s1, e1, e2⟩
  · exact chain_rd bx h2 h4 h6 hq hq' S e1 hp
  · refine chain_rd bx h2 h4 h6 hq hq' S e1 fun v H' kp S' r' => ?_
    cases d with
    | bl kk =>
      cases e2
      cases r'
      exact ⟨kk, rfl, hp H' kp S'⟩
    | _ => cases e2

/-! ### arguments, displays -/
theorem PostA.of {κ : List Held} {ρ : Env} {σ : L2.St} {H H1 : Hp} {Q : List V → Hp → Prop} {r : Except Er (List D) × DS} (k : Kp g H H1) (h : PostA g E H0 F0 ω b κ ρ σ H Q r) : PostA g E H0 F0 ω b κ ρ σ H1 Q r := by
  obtain ⟨x, s'⟩ := r
  cases x with
  | error e => exact h
  | ok d => exact fun v H' k' S' => h v H' (k.trans k') S'
theorem da_nil : DA X g E ω b [] eNil := by
  refine ⟨_, pa_nil, fun H0 F0 κ ρ s σ H Q r S hm hp => ?_⟩
  cases hm
  exact hp [] H (Kp.refl g H) S .nil
theorem da_cons (bx : Bx X g k E) {e : Expr} {es : List Expr} {m : Env → M D} {ms : Env → M (List D)} (h : DE X g E ω b e m) (hs : DA X g E ω b es ms) (hst : starEach (e :: es) X.env = (false, eval e X.env) :: starEach es X.env := by rfl) : DA X g E ω b (e :: es) (eCons m ms) := by
  obtain ⟨t, ht, hq⟩ := h
  obtain ⟨ts, hts, hqs⟩ := hs
  refine ⟨_, pa_cons ht hts hst, fun H0 F0 κ ρ s σ H Q r S hm hp => ?_⟩
  rcases M.bind_some hm with ⟨e, s1, e1, rfl⟩ | ⟨x, s1, e1, e2⟩
  · exact hq H0 F0 κ ρ s σ H _ _ S e1 hp
  refine hq H0 F0 κ ρ s σ H _ _ S e1 fun vx H1 k1 S1 r1 => ?_
  rcases M.bind_some e2 with ⟨e, s2, e3, rfl⟩ | ⟨xs, s2, e3, e4⟩
  · exact hqs H0 F0 κ ρ s1 σ H1 _ _ S1 e3 hp
  refine hqs H0 F0 κ ρ s1 σ H1 _ _ S1 e3 fun vs H2 k2 S2 r2 => ?_
  cases e4
  exact hp _ H2 (k1.trans k2) S2 (.cons (r1.kpT bx.ok k2) r2)
def opTup (xs : List D) : Option D := if xs.length ≤ sizeLine then some (.tup xs) else none
def opLst (xs : List D) : Option D := if xs.length ≤ sizeLine then some (.lst xs) else none
theorem de_tup (bx : Bx X g k E) {es : List Expr} {ms : Env → M (List D)} {x1} {pos : Pos} (hs : DA X g E ω b es ms) : DE X g E ω b (.Tuple es x1 pos) (eArgs opTup ms) := by
  obtain ⟨ts, hts, hqs⟩ := hs
  refine ⟨_, pe_tup hts, fun H0 F0 κ ρ s σ H Q r S hm hp => ?_⟩
  rcases M.bind_some hm with ⟨e, s1, e1, rfl⟩ | ⟨xs, s1, e1, e2⟩
  · exact hqs H0 F0 κ ρ s σ H _ _ S e1 hp
  refine hqs H0 F0 κ ρ s σ H _ _ S e1 fun vs H1 k1 S1 r1 => ?_
  obtain ⟨d, e3, rfl⟩ := M.ofO_some e2
  unfold opTup at e3
  split at e3
  · rename_i hl
    cases e3
    refine ⟨by rw [← r1.length]; exact hl, fun p hp' => ?_⟩
    have k2 := Kp.new (g := g) (o := .tup vs) hp'
    have S2 := S1.kpTo bx.ok k2 (S1.wd.new hp')
    exact hp _ _ (k1.trans k2) S2 (.tup (.inl (.inl upd_same)) (r1.kpT bx.ok k2))
  · cases e3
theorem de_lst (bx : Bx X g k E) {es : List Expr} {ms : Env → M (List D)} {pos : Pos} (hs : DA X g E ω b es ms) : DE X g E ω b (.List es pos) (eArgs opLst ms) := by
  obtain ⟨ts, hts, hqs⟩ := hs
  refine ⟨_, pe_lst hts, fun H0 F0 κ ρ s σ H Q r S hm hp => ?_⟩
  rcases M.bind_some hm with ⟨e, s1, e1, rfl⟩ | ⟨xs, s1, e1, e2⟩
  · exact hqs H0 F0 κ ρ s σ H _ _ S e1 hp
  refine hqs H0 F0 κ ρ s σ H _ _ S e1 fun vs H1 k1 S1 r1 => ?_
  obtain ⟨d, e3, rfl⟩ := M.ofO_some e2
  unfold opLst at e3
  split at e3
  · rename_i hl
    cases e3
    refine ⟨by rw [← r1.length]; exact hl, fun p hp' => ?_⟩
    have k2 := Kp.new (g := g) (o := .lst vs) hp'
    have S2 := S1.kpTo bx.ok k2 (S1.wd.new hp')
    exact hp _ _ (k1.trans k2) S2 (.lst (S1.newFT hp').1 upd_same (r1.kpT bx.ok k2))
  · cases e3

/-! ### calls -/
/-- a def's promise: it means m -/
def Fq (g : G) (H : Hp) (F : Addr → Prop) (a : Addr) : Prop := (F a ∨ H a = none ∨ g.isC a) ∧ g.nd a
def SpD (g : G) (m : List D → M D) : Sp := fun vs H Q E => ∃ (F : Addr → Prop) (ds : List D) (s : DS) (r : Except Er D × DS), (∀ a, F a → g.nd a) ∧ Reps g F H ds vs ∧ Wd g s H ∧ m ds s = some r ∧ match r with
  | (.ok d, s') => ∀ v H', Kp g H H' → Wd g s' H' → Rep g (Fq g H F) H' d v → Q v H'
  | (.error e, s') => ErrK g E H s' e
theorem ErrK.of {s : DS} {e : Er} {H : Hp} (kp : Kp g H0 H) (h : ErrK g E H0 s e) : ErrK g E H s e := fun dx H' k w x => h dx H' (kp.trans k) w x
/-- the call by its promise -/
theorem call_tail (bx : Bx X g k E) {f : List D → M D} {ms : Env → M (List D)} {ts : TA}
    (hqs : ∀ H0 F0 κ ρ s σ H Q r, Sim g H0 F0 ω κ ρ s σ H → ms ρ s = some r → PostA g E H0 F0 ω b κ ρ σ H Q r → ts σ H Q)
    {κ : List Held} {ρ : Env} {s : DS} {σ : L2.St} {H : Hp} {Q : VK} {r : Except Er D × DS} (S : Sim g H0 F0 ω κ ρ s σ H) (hm : eCall f ms ρ s = some r) (hp : PostE g E H0 F0 ω b κ ρ σ H Q r) : ts σ H fun vs H1 => SpD g f vs H1 Q E := by
  rcases M.bind_some hm with ⟨e, s1, e1, rfl⟩ | ⟨xs, s1, e1, e2⟩
  · exact hqs H0 F0 κ ρ s σ H _ _ S e1 hp
  refine hqs H0 F0 κ ρ s σ H _ _ S e1 fun vs H1 k1 S1 r1 => ?_
  refine ⟨FT g H0 F0 ω b ρ σ, xs, s1, r, fun a h => h.1.2, r1, S1.wd, e2, ?_⟩
  obtain ⟨x, s'⟩ := r
  cases x with
  | error e => exact ErrK.of S1.kp hp
  | ok d =>
    intro v H' k2 w2 r2
    refine hp v H' (k1.trans k2) (S1.kpTo bx.ok k2 w2) (r2.weak fun a h _ => ?_)
    rcases h.1 with h1 | h1 | h1
    · exact h1
    · exact (S1.newFT h1).1
    · refine ⟨⟨.inr (.inr h1), h.2⟩, fun _ i hi ⟨d', e⟩ z => ?_⟩
      obtain ⟨a', q1, _, _, q4, _⟩ := S1.own i d' hi e
      rw [q1] at z
      cases z
      exact q4 h1
theorem de_call (bx : Bx X g k E) {x : Str} {fa : Addr} {fd : FuncData} {ps : List Str} {f : List D → M D} {e : Expr} {es : List Expr} {ms : Env → M (List D)} {p pos : Pos}
    (F : FnOk X.prog X.w X.K X.mg X.base (L2.CX X.prog X.w) k fa fd ps (SpD g f)) (hg : Gl X x) (hm : X.mg x = some (.ref fa)) (hk : PySem.W.keepIn X.K (.ref fa) = true) (hb : Binds X.K fd ps []) (hs : DA X g E ω b (e :: es) ms)
    (hdb : (x == ("__debug__" : Str)) = false := by decide) (he : starEach (e :: es) X.env = (false, eval e X.env) :: starEach es X.env := by rfl) (hpl : (backTo pos (starEach es X.env)).any (·.1) = false := by rfl) :
    DE X g E ω b (.Call (.Name x p) (e :: es) [] pos) (eCall f ms) := by
  obtain ⟨ts, hts, hqs⟩ := hs
  refine ⟨_, pe_call F bx.room hg hm hk hb .nil bx.ps hts hdb he hpl, fun H0 F0 κ ρ s σ H Q r S hm hp => ?_⟩
  have q := call_tail bx hqs S hm hp
  show ts σ H fun vs H1 => SpD g f (vs ++ []) H1 Q E
  simpa only [List.append_nil] using q
end
end VS

/-! VS3: operators by values. -/
namespace VS
open PySem PySem.Spec PyProof.Rows L2

/-! ### whole numbers -/
def ii (f : Int → Int → D) (x y : D) : Option D := match x, y with
  | .int i, .int j => some (f i j)
  | _, _ => none
def iiC (C : Int → Int → Bool) (f : Int → Int → D) (x y : D) : Option D := match x, y with
  | .int i, .int j => if C i j then some (f i j) else none
  | _, _ => none
def opSub := ii fun i j => .int (i - j)
def opLt := ii fun i j => .bl (decide (i < j))
def opLe := ii fun i j => .bl (decide (i ≤ j))
def opGt := ii fun i j => .bl (decide (j < i))
def opGe := ii fun i j => .bl (decide (j ≤ i))
def opMod := iiC (fun _ j => decide (j ≠ 0)) fun i j => .int (i.fmod j)
/-- // by what is positive and below 2 ^ 9000 -/
def opDiv := iiC (fun _ j => decide (0 < j ∧ j.natAbs.log2 < 9000)) fun i j => .int (i / j)
def opPow := iiC (fun i j => decide (0 ≤ j ∧ j ≤ 1000000 ∧ i.natAbs < 2 ^ 64)) fun i j => .int (i ^ j.toNat)
/-- * of up to 2 ^ 27 bits together -/
def mulOk (i j : Int) : Bool := decide (Builtin.Int.intBits i ≤ 64) || decide (Builtin.Int.intBits j ≤ 64) || decide (Builtin.Int.intBits i + Builtin.Int.intBits j ≤ bitsLine)

section
variable {X : Cx} {g : G}
theorem opD_ii {fn : Value → Value → Sem Value} {C : Int → Int → Prop} {C' : Int → Int → Bool} {f : Int → Int → V} {f' : Int → Int → D} (h : OpR X fn (rI C f)) (hC : ∀ i j, C' i j = true → C i j) (hf : ∀ i j (F : Addr → Prop) H, Rep g F H (f' i j) (f i j)) : OpD X g fn (iiC C' f') := by
  refine ⟨_, h, fun F s H x y vx vy d Q hF w rx ry e q => ?_⟩
  cases x <;> first | (cases e; done) | skip
  rename_i i
  cases y <;> first | (cases e; done) | skip
  rename_i j
  cases rx
  cases ry
  simp only [iiC] at e
  split at e
  · rename_i hc
    cases e
    exact ⟨i, j, rfl, rfl, hC i j hc, q _ H (Kp.refl g H) w (hf i j _ _)⟩
  · cases e
theorem opD_i0 {fn : Value → Value → Sem Value} {f : Int → Int → V} {f' : Int → Int → D} (h : OpR X fn (rI0 f)) (hf : ∀ i j (F : Addr → Prop) H, Rep g F H (f' i j) (f i j)) : OpD X g fn (ii f') := by
  refine ⟨_, h, fun F s H x y vx vy d Q hF w rx ry e q => ?_⟩
  cases x <;> first | (cases e; done) | skip
  rename_i i
  cases y <;> first | (cases e; done) | skip
  rename_i j
  cases rx
  cases ry
  cases e
  exact ⟨i, j, rfl, rfl, q _ H (Kp.refl g H) w (hf i j _ _)⟩
theorem od_sub : OpD X g (binaryOp .Sub) opSub := opD_i0 op_sub fun _ _ _ _ => .int _
theorem od_lt : OpD X g (compareOp .Lt) opLt := opD_i0 op_lt fun _ _ _ _ => .bl _
theorem od_le : OpD X g (compareOp .LtE) opLe := opD_i0 op_le fun _ _ _ _ => .bl _
theorem od_gt : OpD X g (compareOp .Gt) opGt := opD_i0 op_gt fun _ _ _ _ => .bl _
theorem od_ge : OpD X g (compareOp .GtE) opGe := opD_i0 op_ge fun _ _ _ _ => .bl _
theorem od_mod : OpD X g (binaryOp .Mod) opMod := opD_ii op_modN (fun i j h => of_decide_eq_true h) fun _ _ _ _ => .int _
theorem od_div : OpD X g (binaryOp .FloorDiv) opDiv := opD_ii op_fdivW (fun i j h => by simpa [CDivW] using h) fun _ _ _ _ => .int _
theorem od_pow : OpD X g (binaryOp .Pow) opPow := opD_ii op_pow (fun i j h => by simpa [CPow] using h) fun _ _ _ _ => .int _
theorem mulOk_ok {i j : Int} (h : mulOk i j = true) : IntMulOk i j := by
  unfold mulOk at h
  simp only [Bool.or_eq_true, decide_eq_true_eq] at h
  rcases h with (h | h) | h
  · exact .of_left h
  · exact .of_right h
  · unfold IntMulOk
    intro z
    rw [Bool.and_eq_true] at z
    have z2 := z.2
    unfold Builtin.Int.intTooBig at z2
    have z3 := of_decide_eq_true z2
    omega
theorem op_mulX : OpR X (binaryOp .Mult) (rI (fun i j => mulOk i j = true) fun i j => .int (i * j)) := opI fun _ _ _ _ _ _ _ hc q => mul_int q (mulOk_ok hc)

theorem OpD.or {fn : Value → Value → Sem Value} {f f' : D → D → Option D} (h : OpD X g fn f) (h' : OpD X g fn f') : OpD X g fn (fun x y => match f x y with | some d => some d | none => f' x y) := by
  obtain ⟨r, h1, h2⟩ := h
  obtain ⟨r', h1', h2'⟩ := h'
  refine ⟨_, OpR.or h1 h1', fun F s H x y vx vy d Q hF w rx ry e q => ?_⟩
  cases q1 : f x y with
  | some d' =>
    simp only [q1] at e
    exact .inl (h2 F s H x y vx vy d Q hF w rx ry (by rw [q1]; exact e) q)
  | none =>
    simp only [q1] at e
    exact .inr (h2' F s H x y vx vy d Q hF w rx ry e q)

/-! ### lists and tuples: +, * -/
def opCat (x y : D) : Option D := match x, y with
  | .lst a, .lst c => if a.length + c.length ≤ sizeLine then some (.lst (a ++ c)) else none
  | _, _ => none
/-- a list of a known place -/
theorem Rep.lstInv {F : Addr → Prop} {H : Hp} {ds : List D} {v : V} (r : Rep g F H (.lst ds) v) : ∃ a vs, v = .ref a ∧ F a ∧ H a = some (.lst vs) ∧ Reps g F H ds vs := by
  cases r with
  | lst f h r => exact ⟨_, _, rfl, f, h, r⟩
theorem Rep.tupInv {F : Addr → Prop} {H : Hp} {ds : List D} {v : V} (r : Rep g F H (.tup ds) v) : ∃ a vs, v = .ref a ∧ SqT g.K H a vs ∧ Reps g F H ds vs := by
  cases r with
  | tup h r => exact ⟨_, _, rfl, h, r⟩
theorem Reps.fu {F : Addr → Prop} {H H' : Hp} {s : DS} (go : g.Ok) (hF : ∀ a, F a → g.nd a) (k : Kp g H H') {ds : List D} {vs : List V} (r : Reps g F H ds vs) : Reps g (Fu F H) H' ds vs := r.kp go k fun a h _ => ⟨.inl h, hF a h⟩
theorem Rep.fu {F : Addr → Prop} {H H' : Hp} {s : DS} (go : g.Ok) (hF : ∀ a, F a → g.nd a) (k : Kp g H H') {d : D} {v : V} (r : Rep g F H d v) : Rep g (Fu F H) H' d v := r.kp go k fun a h _ => ⟨.inl h, hF a h⟩
theorem od_cat (go : g.Ok) : OpD X g (binaryOp .Add) opCat := by
  refine ⟨_, op_cat, fun F s H x y vx vy d Q hF w rx ry e q => ?_⟩
  cases x <;> first | (cases e; done) | skip
  rename_i a
  cases y <;> first | (cases e; done) | skip
  rename_i c
  obtain ⟨p, vs, rfl, _, hp, r1⟩ := rx.lstInv
  obtain ⟨p2, us, rfl, _, hp2, r2⟩ := ry.lstInv
  simp only [opCat] at e
  split at e
  · rename_i hl
    cases e
    refine ⟨p, p2, vs, us, rfl, rfl, hp, hp2, by rw [← r1.length, ← r2.length]; exact hl, fun z hz => ?_⟩
    have k := Kp.new (g := g) (o := .lst (vs ++ us)) hz
    exact q _ _ k (w.new hz) (.lst (.inr hz) upd_same ((Reps.append r1 r2).fu (s := s) go hF k))
  · cases e
def opCatT (x y : D) : Option D := match x, y with
  | .tup (a :: r), .tup c => if (a :: r).length + c.length ≤ sizeLine then some (.tup (a :: r ++ c)) else none
  | _, _ => none
def opRep (x y : D) : Option D := match x, y with
  | .lst a, .int n => if 0 ≤ n ∧ n < 2 ^ 62 ∧ a.length * n.toNat ≤ sizeLine then some (.lst (List.replicate n.toNat a).flatten) else none
  | _, _ => none
theorem Reps.rep {F : Addr → Prop} {H : Hp} {ds : List D} {vs : List V} (h : Reps g F H ds vs) : ∀ n : Nat, Reps g F H (List.replicate n ds).flatten (List.replicate n vs).flatten
  | 0 => .nil
  | n + 1 => by
    rw [List.replicate_succ, List.replicate_succ, List.flatten_cons, List.flatten_cons]
    exact h.append (h.rep n)
theorem od_rep (go : g.Ok) : OpD X g (binaryOp .Mult) opRep := by
  refine ⟨_, op_rep, fun F s H x y vx vy d Q hF w rx ry e q => ?_⟩
  cases x <;> first | (cases e; done) | skip
  rename_i a
  cases y <;> first | (cases e; done) | skip
  rename_i n
  obtain ⟨p, vs, rfl, _, hp, r1⟩ := rx.lstInv
  cases ry
  simp only [opRep] at e
  split at e
  · rename_i hl
    cases e
    refine ⟨p, n, vs, rfl, rfl, hp, by omega, by omega, by rw [← r1.length]; exact hl.2.2, fun z hz => ?_⟩
    have k := Kp.new (g := g) (o := .lst (List.replicate n.toNat vs).flatten) hz
    exact q _ _ k (w.new hz) (.lst (.inr hz) upd_same ((Reps.rep r1 n.toNat).fu (s := s) go hF k))
  · cases e
def opMul0 := iiC mulOk fun i j => .int (i * j)
theorem od_mul0 : OpD X g (binaryOp .Mult) opMul0 := opD_ii op_mulX (fun _ _ h => h) fun _ _ _ _ => .int _
def opAdd0 := ii fun i j => .int (i + j)
theorem od_add0 : OpD X g (binaryOp .Add) opAdd0 := opD_i0 op_add fun _ _ _ _ => .int _
theorem od_catT (hK : g.K = X.K) (go : g.Ok) : OpD X g (binaryOp .Add) opCatT := by
  refine ⟨_, op_catT, fun F s H x y vx vy d Q hF w rx ry e q => ?_⟩
  cases x <;> first | (cases e; done) | skip
  rename_i a
  cases a with
  | nil => cases y <;> cases e
  | cons a0 a =>
  cases y <;> first | (cases e; done) | skip
  rename_i c
  obtain ⟨p, vs, rfl, hp, r1⟩ := rx.tupInv
  obtain ⟨p2, us, rfl, hp2, r2⟩ := ry.tupInv
  rw [hK] at hp hp2
  simp only [opCatT] at e
  split at e
  · rename_i hl
    cases e
    refine ⟨p, p2, vs, us, rfl, rfl, hp, hp2, fun z => ?_, by rw [← r1.length, ← r2.length]; exact hl, fun z => ?_, fun z p3 hp3 => ?_⟩
    · subst z; cases r1
    · subst z
      cases r2
      rw [List.append_nil] at q
      exact q _ _ (Kp.refl g H) w (.tup (by rw [hK]; exact hp) (r1.weak fun a h _ => .inl h))
    · have k := Kp.new (g := g) (o := .tup (vs ++ us)) hp3
      exact q _ _ k (w.new hp3) (.tup (.inl (.inl upd_same)) ((Reps.append r1 r2).fu (s := s) go hF k))
  · cases e
end
end VS

/-! VS4: equality, in, subscripts, built-in calls by values. -/
namespace VS
open PySem PySem.Spec PyProof.Rows L2

/-! ### == -/
mutual
def D.py : D → Option PyData
  | .non => some .none
  | .bl b => some (.bool b)
  | .int i => some (.int i)
  | .str x => some (.str x)
  | .tup ds => match pys ds with
    | some xs => some (.tuple xs)
    | none => none
  | .lst ds => match pys ds with
    | some xs => some (.list xs)
    | none => none
  | _ => none
def pys : List D → Option (List PyData)
  | [] => some []
  | d :: ds => match d.py, pys ds with
    | some x, some xs => some (x :: xs)
    | _, _ => none
end
def dEq (x y : D) : Option Bool := match x.py, y.py with
  | some p, some q => if SeqAt.shaped p && SeqAt.shaped q then some (PyData.eqv p q) else none
  | _, _ => none
def opEq (x y : D) : Option D := (dEq x y).map .bl
def opNe (x y : D) : Option D := (dEq x y).map fun k => .bl (!k)
section
variable {X : Cx} {g : G}
mutual
theorem Rep.dp {F : Addr → Prop} {H : Hp} : ∀ {d : D} {v : V} {p : PyData}, Rep g F H d v → d.py = some p → Dp g.K H v p
  | _, _, _, .non, e => by cases e; exact .non
  | _, _, _, .bl b, e => by cases e; exact .bl b
  | _, _, _, .int i, e => by cases e; exact .int i
  | _, _, _, .str x, e => by cases e; exact .str x
  | .tup ds, _, p, .tup h r, e => by
    unfold D.py at e
    cases q : pys ds with
    | none => rw [q] at e; cases e
    | some xs =>
      rw [q] at e
      cases e
      exact .tup h (Reps.dp r q)
  | .lst ds, _, p, .lst f h r, e => by
    unfold D.py at e
    cases q : pys ds with
    | none => rw [q] at e; cases e
    | some xs =>
      rw [q] at e
      cases e
      exact .lst (.inl (.inl h)) (Reps.dp r q)
  | _, _, _, .dct f h k r, e => by cases e
  | _, _, _, .dctT f h k r, e => by cases e
  | _, _, _, .fn n, e => by cases e
  | _, _, _, .exc h q, e => by cases e
  | _, _, _, .draw h, e => by cases e
  | _, _, _, .scr h s, e => by cases e
  | _, _, _, .scrL f h, e => by cases e
theorem Reps.dp {F : Addr → Prop} {H : Hp} : ∀ {ds : List D} {vs : List V} {xs : List PyData}, Reps g F H ds vs → pys ds = some xs → DpAll g.K H vs xs
  | _, _, _, .nil, e => by cases e; exact .nil
  | d :: ds, _, xs, .cons r t, e => by
    unfold pys at e
    cases q : d.py with
    | none => rw [q] at e; cases e
    | some x =>
      cases q2 : pys ds with
      | none => rw [q, q2] at e; cases e
      | some xs =>
        rw [q, q2] at e
        cases e
        exact .cons (Rep.dp r q) (Reps.dp t q2)
end
theorem dEq_some {x y : D} {k : Bool} (h : dEq x y = some k) : ∃ p q, x.py = some p ∧ y.py = some q ∧ SeqAt.shaped p = true ∧ SeqAt.shaped q = true ∧ k = PyData.eqv p q := by
  unfold dEq at h
  cases e1 : x.py with
  | none => rw [e1] at h; cases h
  | some p =>
    cases e2 : y.py with
    | none => rw [e1, e2] at h; cases h
    | some q =>
      rw [e1, e2] at h
      simp only at h
      split at h
      · rename_i hs
        cases h
        rw [Bool.and_eq_true] at hs
        exact ⟨p, q, rfl, rfl, hs.1, hs.2, rfl⟩
      · cases h
theorem od_eq (hK : g.K = X.K) (hu : X.A.units + 64 < cLine) : OpD X g (compareOp .Eq) opEq := by
  refine ⟨_, op_eqD hu, fun F s H x y vx vy d Q hF w rx ry e q => ?_⟩
  obtain ⟨k, e1, rfl⟩ := Option.map_eq_some_iff.mp e
  obtain ⟨p, p2, h1, h2, h3, h4, rfl⟩ := dEq_some e1
  rw [← hK]
  exact ⟨p, p2, rx.dp h1, ry.dp h2, h3, h4, q _ H (Kp.refl g H) w (.bl _)⟩
theorem od_ne (hK : g.K = X.K) (hu : X.A.units + 64 < cLine) : OpD X g (compareOp .NotEq) opNe := by
  refine ⟨_, op_neD hu, fun F s H x y vx vy d Q hF w rx ry e q => ?_⟩
  obtain ⟨k, e1, rfl⟩ := Option.map_eq_some_iff.mp e
  obtain ⟨p, p2, h1, h2, h3, h4, rfl⟩ := dEq_some e1
  rw [← hK]
  exact ⟨p, p2, rx.dp h1, ry.dp h2, h3, h4, q _ H (Kp.refl g H) w (.bl _)⟩

/-! ### is None -/
def isNon : D → Bool
  | .non => true
  | _ => false
def opIs (x y : D) : Option D := if isNon y then some (.bl (isNon x)) else none
def opIsNot (x y : D) : Option D := if isNon y then some (.bl (!isNon x)) else none
theorem rep_non {F : Addr → Prop} {H : Hp} {d : D} {v : V} (r : Rep g F H d v) : decide (v = .non) = isNon d := by
  cases r <;> rfl
theorem od_is : OpD X g (compareOp .Is) opIs := by
  refine ⟨_, op_isN, fun F s H x y vx vy d Q hF w rx ry e q => ?_⟩
  unfold opIs at e
  split at e
  · rename_i hy
    cases e
    cases y <;> first | (cases hy; done) | skip
    cases ry
    refine ⟨rfl, ?_⟩
    rw [rep_non rx]
    exact q _ H (Kp.refl g H) w (.bl _)
  · cases e
theorem od_isnot : OpD X g (compareOp .IsNot) opIsNot := by
  refine ⟨_, op_notN, fun F s H x y vx vy d Q hF w rx ry e q => ?_⟩
  unfold opIsNot at e
  split at e
  · rename_i hy
    cases e
    cases y <;> first | (cases hy; done) | skip
    cases ry
    refine ⟨rfl, ?_⟩
    rw [rep_non rx]
    exact q _ H (Kp.refl g H) w (.bl _)
  · cases e
/-! ### -x -/
def opNeg (x : D) : Option D := match x with
  | .int i => some (.int (-i))
  | _ => none
theorem ud_neg : UnD X g (unaryOp .USub) opNeg := by
  refine ⟨_, un_neg, fun F s H x vx d Q hF w rx e q => ?_⟩
  cases x <;> first | (cases e; done) | skip
  cases rx
  cases e
  exact ⟨_, rfl, q _ H (Kp.refl g H) w (.int _)⟩

/-! ### in, not in: flat items; keys of a dict -/
def D.fl : D → Bool
  | .non => true | .bl _ => true | .int _ => true | .str _ => true
  | _ => false
def eqF : D → D → Bool
  | .non, .non => true
  | .bl a, .bl b => a == b
  | .bl a, .int b => (if a then 1 else 0) == b
  | .int a, .bl b => a == (if b then 1 else 0)
  | .int a, .int b => a == b
  | .str a, .str b => a == b
  | _, _ => false
def inF (x : D) (ds : List D) : Bool := ds.any fun d => eqF d x
def D.items : D → Option (List D)
  | .lst ds => some ds
  | .tup ds => some ds
  | _ => none
def toKey : D → Option Key
  | .int i => some (.inl i)
  | .str x => some (.inr x)
  | _ => none
def lookD (ks : List Key) (ds : List D) (k : Key) : Option D := match ks, ds with
  | k' :: ks, d :: ds => if k' = k then some d else lookD ks ds k
  | _, _ => none
def opIn0 (neg : Bool) (x y : D) : Option D := match y.items with
  | some ds => if x.fl && ds.all D.fl then some (.bl (if neg then !inF x ds else inF x ds)) else none
  | none => none
theorem rep_fl {F : Addr → Prop} {H : Hp} {d : D} {v : V} (r : Rep g F H d v) : flatV v = d.fl := by
  cases r <;> rfl
theorem rep_eqF {F : Addr → Prop} {H : Hp} {d e : D} {v u : V} (r : Rep g F H d v) (r2 : Rep g F H e u) : eqV v u = eqF d e := by
  cases r <;> cases r2 <;> rfl
theorem reps_all {F : Addr → Prop} {H : Hp} : ∀ {ds : List D} {vs : List V}, Reps g F H ds vs → vs.all flatV = ds.all D.fl
  | _, _, .nil => rfl
  | _, _, .cons r t => by rw [List.all_cons, List.all_cons, rep_fl r, reps_all t]
theorem reps_in {F : Addr → Prop} {H : Hp} {x : D} {v : V} (r : Rep g F H x v) : ∀ {ds : List D} {vs : List V}, Reps g F H ds vs → inV v vs = inF x ds
  | _, _, .nil => rfl
  | _, _, .cons q t => by
    have h := reps_in r t
    unfold inV inF at h ⊢
    rw [List.any_cons, List.any_cons, rep_eqF q r, h]
theorem Rep.itemsInv {F : Addr → Prop} {H : Hp} {d : D} {ds : List D} {v : V} (r : Rep g F H d v) (e : d.items = some ds) : ∃ a vs, v = .ref a ∧ (SqL g.K H a vs ∨ SqT g.K H a vs) ∧ Reps g F H ds vs := by
  cases r with
  | lst f h r => cases e; exact ⟨_, _, rfl, .inl (.inl (.inl h)), r⟩
  | tup h r => cases e; exact ⟨_, _, rfl, .inr h, r⟩
  | _ => cases e
theorem od_in0 (hK : g.K = X.K) (neg : Bool) {op : CmpOp} (ho : OpR X (compareOp op) (rIn X.K neg)) : OpD X g (compareOp op) (opIn0 neg) := by
  refine ⟨_, ho, fun F s H x y vx vy d Q hF w rx ry e q => ?_⟩
  unfold opIn0 at e
  cases e1 : y.items with
  | none => rw [e1] at e; cases e
  | some ds =>
    rw [e1] at e
    simp only at e
    split at e
    · rename_i hf
      cases e
      rw [Bool.and_eq_true] at hf
      obtain ⟨a, vs, rfl, hs, rs⟩ := ry.itemsInv e1
      rw [hK] at hs
      refine ⟨a, vs, rfl, hs, by rw [rep_fl rx]; exact hf.1, by rw [reps_all rs]; exact hf.2, ?_⟩
      rw [reps_in rx rs]
      exact q _ H (Kp.refl g H) w (.bl _)
    · cases e
/-! dicts -/
theorem lookD_val {F : Addr → Prop} {H : Hp} {k : Key} : ∀ {kvs : List (Key × V)} {ds : List D}, Reps g F H ds (kvs.map (·.2)) → match lookD (kvs.map (·.1)) ds k with
    | some d => ∃ v, valV kvs k = some v ∧ Rep g F H d v
    | none => valV kvs k = none
  | [], _, _ => by
    simp only [List.map_nil, lookD]
    exact valV_nil
  | p :: kvs, d :: ds, .cons r t => by
    simp only [List.map_cons, lookD]
    by_cases e : p.1 = k
    · rw [if_pos e]
      exact ⟨p.2, valV_pos e, r⟩
    · rw [if_neg e, valV_neg e]
      exact lookD_val t
def opInD (neg : Bool) (x y : D) : Option D := match y, toKey x with
  | .dct ks ds, some k => some (.bl (if neg then !(lookD ks ds k).isSome else (lookD ks ds k).isSome))
  | _, _ => none
theorem rep_key {F : Addr → Prop} {H : Hp} {d : D} {v : V} {k : Key} (r : Rep g F H d v) (e : toKey d = some k) : v = kV k := by
  cases r <;> first | (cases e; done) | (cases e; rfl)
def rInD (neg : Bool) : R2 := fun y x H Q => ∃ a o, x = .ref a ∧ DGet H a y o ∧ Q (.bl (if neg then !o.isSome else o.isSome)) H
theorem op_inD (hu : X.A.units + 1 < cLine) : OpR X (compareOp .In) (rInD false) := by
  intro pins s σ H y x u v Q I ry rx h
  obtain ⟨a, o, rfl, gt, q⟩ := h
  cases rx
  exact d_in hu I gt ry fun s3 I3 => ⟨.bl o.isSome, H, I3, rfl, q⟩
theorem op_notInD (hu : X.A.units + 1 < cLine) : OpR X (compareOp .NotIn) (rInD true) := by
  intro pins s σ H y x u v Q I ry rx h
  obtain ⟨a, o, rfl, gt, q⟩ := h
  cases rx
  exact d_notIn hu I gt ry fun s3 I3 => ⟨.bl (!o.isSome), H, I3, rfl, q⟩
theorem Rep.get {F : Addr → Prop} {H : Hp} {ks : List Key} {ds : List D} {v : V} {k : Key} (r : Rep g F H (.dct ks ds) v) : ∃ a, v = .ref a ∧ match lookD ks ds k with
    | some d => ∃ u, DGet H a (kV k) (some u) ∧ Rep g F H d u
    | none => DGet H a (kV k) none := by
  cases r with
  | @dct a kvs _ _ f h e r =>
    refine ⟨_, rfl, ?_⟩
    subst e
    have z := lookD_val (k := k) r
    split at z
    · rename_i q
      obtain ⟨u, h1, h2⟩ := z
      exact ⟨u, .inl ⟨kvs, k, h, rfl, h1.symm⟩, h2⟩
    · rename_i q
      exact .inl ⟨kvs, k, h, rfl, z.symm⟩
theorem od_inD (neg : Bool) {op : CmpOp} (ho : OpR X (compareOp op) (rInD neg)) : OpD X g (compareOp op) (opInD neg) := by
  refine ⟨_, ho, fun F s H x y vx vy d Q hF w rx ry e q => ?_⟩
  unfold opInD at e
  split at e
  · rename_i ks ds k e1
    cases e
    obtain ⟨a, rfl, h⟩ := ry.get (k := k)
    have e2 := rep_key rx e1
    subst e2
    split at h
    · rename_i d0 e3
      obtain ⟨u, gt, _⟩ := h
      refine ⟨a, _, rfl, gt, ?_⟩
      rw [e3] at q
      exact q _ H (Kp.refl g H) w (.bl _)
    · rename_i e3
      refine ⟨a, _, rfl, h, ?_⟩
      rw [e3] at q
      exact q _ H (Kp.refl g H) w (.bl _)
  · cases e
def opIn (x y : D) : Option D := match opIn0 false x y with
  | some d => some d
  | none => opInD false x y
def opNotIn (x y : D) : Option D := match opIn0 true x y with
  | some d => some d
  | none => opInD true x y
theorem od_in (hK : g.K = X.K) (hu : X.A.units + 1 < cLine) : OpD X g (compareOp .In) opIn := (od_in0 hK false op_in_seq).or (od_inD false (op_inD hu))
theorem od_notin (hK : g.K = X.K) (hu : X.A.units + 1 < cLine) : OpD X g (compareOp .NotIn) opNotIn := (od_in0 hK true op_notIn_seq).or (od_inD true (op_notInD hu))

/-! ### all of + and * -/
def opAdd (x y : D) : Option D := match opAdd0 x y with
  | some d => some d
  | none => match opCat x y with
    | some d => some d
    | none => opCatT x y
theorem od_add (hK : g.K = X.K) (go : g.Ok) : OpD X g (binaryOp .Add) opAdd := od_add0.or ((od_cat go).or (od_catT hK go))
def opMul (x y : D) : Option D := match opMul0 x y with
  | some d => some d
  | none => opRep x y
theorem od_mul (go : g.Ok) : OpD X g (binaryOp .Mult) opMul := od_mul0.or (od_rep go)

/-! ### x[i] -/
def opIxS (x y : D) : Option D := match x.items, y with
  | some ds, .int i => atI ds i
  | _, _ => none
def opIxD (x y : D) : Option D := match x, toKey y with
  | .dct ks ds, some k => lookD ks ds k
  | _, _ => none
def opIx (x y : D) : Option D := match opIxS x y with
  | some d => some d
  | none => opIxD x y
theorem reps_at {F : Addr → Prop} {H : Hp} {ds : List D} {vs : List V} {i : Int} {d : D} (r : Reps g F H ds vs) (e : atI ds i = some d) : ∃ v, atI vs i = some v ∧ Rep g F H d v := by
  unfold atI at e ⊢
  rw [← r.length]
  cases q : ixN ds.length i with
  | none => rw [q] at e; cases e
  | some j =>
    rw [q] at e
    exact r.get e
def rIxD : R2 := fun x y H Q => ∃ a v, x = .ref a ∧ DGet H a y (some v) ∧ Q v H
theorem ix_dict (hu : X.A.units + 1 < cLine) : IxR X rIxD := by
  intro value slice pins s σ H x y v u Q I rx ry h hs
  obtain ⟨a, w', rfl, gt, q⟩ := h
  cases rx
  have hT : s.TypeIs (.ref a) "dict" := dict_typeIs I gt
  unfold subscriptTail
  refine wpAny_bind ?_
  rw [getitemInPython_of_ne hT.not_modules]
  refine wpAny_bind (wpAny_specialOf hT PySem.F.slot_dict_getitem.lookup ?_)
  have h₂ : wpAny (model X.prog X.w) X.A (getItem (.ref a) u) (EP X pins σ Q) X.xe s := d_getItem hu I gt ry fun w2 s3 I3 rw' => ⟨w', H, I3, rw', q⟩
  have fin : wpAny (model X.prog X.w) X.A (subscripted slice false (.ref a) u) (fun r s₃ => wpAny (model X.prog X.w) X.A (letTemporaryGo value (.ref a) r >>= fun _ => pure r) (EP X pins σ Q) X.xe s₃) X.xe s := by
    rw [hs]
    exact wpAny_operating (wpAny_mono h₂ (fun r s₃ h₃ => wpAny_bind (wpAny_letTemporaryGo (wpAny_pure h₃))) fun _ _ x => x)
  first
    | exact wpAny_pure (wpAny_bind fin)
    | exact wpAny_bind (wpAny_pure (wpAny_bind fin))
    | exact wpAny_bind fin
theorem IxD.or {f f' : D → D → Option D} (h : IxD X g f) (h' : IxD X g f') : IxD X g (fun x y => match f x y with | some d => some d | none => f' x y) := by
  obtain ⟨r, h1, h2⟩ := h
  obtain ⟨r', h1', h2'⟩ := h'
  refine ⟨_, IxR.or h1 h1', fun F s H x y vx vy d Q hF w rx ry e q => ?_⟩
  cases q1 : f x y with
  | some d' =>
    simp only [q1] at e
    exact .inl (h2 F s H x y vx vy d Q hF w rx ry (by rw [q1]; exact e) q)
  | none =>
    simp only [q1] at e
    exact .inr (h2' F s H x y vx vy d Q hF w rx ry e q)
theorem xd_seq (hK : g.K = X.K) : IxD X g opIxS := by
  refine ⟨_, IxR.or ix_list ix_tup, fun F s H x y vx vy d Q hF w rx ry e q => ?_⟩
  unfold opIxS at e
  split at e
  · rename_i ds i e1
    obtain ⟨a, vs, rfl, hs, rs⟩ := rx.itemsInv e1
    cases ry
    obtain ⟨v, h1, h2⟩ := reps_at rs e
    rw [hK] at hs
    have fin := q v H (Kp.refl g H) w (h2.weak fun a h _ => .inl h)
    rcases hs with hs | hs
    · exact .inl ⟨a, vs, i, v, rfl, rfl, hs, h1, fin⟩
    · exact .inr ⟨a, vs, i, v, rfl, rfl, hs, h1, fin⟩
  · cases e
theorem xd_dict (hu : X.A.units + 1 < cLine) : IxD X g opIxD := by
  refine ⟨_, ix_dict hu, fun F s H x y vx vy d Q hF w rx ry e q => ?_⟩
  unfold opIxD at e
  split at e
  · rename_i ks ds k e1
    obtain ⟨a, rfl, h⟩ := rx.get (k := k)
    have e2 := rep_key ry e1
    subst e2
    rw [e] at h
    obtain ⟨u, gt, r⟩ := h
    exact ⟨a, u, rfl, gt, q u H (Kp.refl g H) w (r.weak fun a h _ => .inl h)⟩
  · cases e
theorem xd_ix (hK : g.K = X.K) (hu : X.A.units + 1 < cLine) : IxD X g opIx := (xd_seq hK).or (xd_dict hu)

/-! ### built-in calls by values -/
theorem CallD.or {fv : Value} {f f' : List D → Option D} (h : CallD X g fv f) (h' : CallD X g fv f') : CallD X g fv (fun xs => match f xs with | some d => some d | none => f' xs) := by
  obtain ⟨r, h1, h2⟩ := h
  obtain ⟨r', h1', h2'⟩ := h'
  refine ⟨_, CallR.or h1 h1', fun F s H xs vs d Q hF w rs e q => ?_⟩
  cases q1 : f xs with
  | some d' =>
    simp only [q1] at e
    exact .inl (h2 F s H xs vs d Q hF w rs (by rw [q1]; exact e) q)
  | none =>
    simp only [q1] at e
    exact .inr (h2' F s H xs vs d Q hF w rs e q)
theorem reps1 {F : Addr → Prop} {H : Hp} {x : D} {vs : List V} (r : Reps g F H [x] vs) : ∃ v, vs = [v] ∧ Rep g F H x v := by
  cases r with
  | cons r t => cases t; exact ⟨_, rfl, r⟩
theorem reps2 {F : Addr → Prop} {H : Hp} {x y : D} {vs : List V} (r : Reps g F H [x, y] vs) : ∃ v u, vs = [v, u] ∧ Rep g F H x v ∧ Rep g F H y u := by
  cases r with
  | cons r t =>
    obtain ⟨u, rfl, r2⟩ := reps1 t
    exact ⟨_, _, rfl, r, r2⟩
def cLenS (xs : List D) : Option D := match xs with
  | [x] => match x.items with
    | some ds => some (.int ds.length)
    | none => none
  | _ => none
def cLenD (xs : List D) : Option D := match xs with
  | [.dct ks _] => some (.int ks.length)
  | _ => none
def cLen (xs : List D) : Option D := match cLenS xs with
  | some d => some d
  | none => cLenD xs
theorem cd_lenS (hK : g.K = X.K) : CallD X g (.builtin "len") cLenS := by
  refine ⟨_, call_len_seq, fun F s H xs vs d Q hF w rs e q => ?_⟩
  match xs, e with
  | [x], e =>
    obtain ⟨v, rfl, r⟩ := reps1 rs
    simp only [cLenS] at e
    cases e1 : x.items with
    | none => rw [e1] at e; cases e
    | some ds =>
      rw [e1] at e
      cases e
      obtain ⟨a, us, rfl, hs, r2⟩ := r.itemsInv e1
      rw [hK] at hs
      refine ⟨a, us, rfl, hs, ?_⟩
      rw [← r2.length]
      exact q _ H (Kp.refl g H) w (.int _)
theorem call_lenRd : CallR X (.builtin "len") (fun xs H Q => ∃ a kvs, xs = [V.ref a] ∧ Rd H a (.dK kvs) ∧ Q (.int kvs.length) H) := by
  intro pins s σ H xs us Q I r h
  obtain ⟨a, kvs, rfl, ha, q⟩ := h
  obtain ⟨u, rfl, ru⟩ := vals1 r
  cases ru
  exact d_len I ha fun t s' I' => ⟨.int kvs.length, H, I', ⟨t, rfl⟩, q⟩
theorem cd_lenD : CallD X g (.builtin "len") cLenD := by
  refine ⟨_, call_lenRd, fun F s H xs vs d Q hF w rs e q => ?_⟩
  unfold cLenD at e
  split at e
  · cases e
    obtain ⟨v, rfl, r⟩ := reps1 rs
    cases r with
    | @dct a kvs _ _ f h e r =>
      subst e
      refine ⟨a, kvs, rfl, h, ?_⟩
      rw [List.length_map] at q
      exact q _ H (Kp.refl g H) w (.int _)
  · cases e
theorem cd_len (hK : g.K = X.K) : CallD X g (.builtin "len") cLen := (cd_lenS hK).or cd_lenD
def cAbs (xs : List D) : Option D := match xs with
  | [.int i] => some (.int (if i < 0 then -i else i))
  | _ => none
theorem cd_abs : CallD X g (.builtin "abs") cAbs := by
  refine ⟨_, call_abs, fun F s H xs vs d Q hF w rs e q => ?_⟩
  unfold cAbs at e
  split at e
  · cases e
    obtain ⟨v, rfl, r⟩ := reps1 rs
    cases r
    exact ⟨_, rfl, q _ H (Kp.refl g H) w (.int _)⟩
  · cases e
def cMax2 (xs : List D) : Option D := match xs with
  | [.int i, .int j] => some (.int (if j > i then j else i))
  | _ => none
def cMin2 (xs : List D) : Option D := match xs with
  | [.int i, .int j] => some (.int (if j < i then j else i))
  | _ => none
theorem cd_max2 (hc : X.calm = true) : CallD X g (.builtin "max") cMax2 := by
  refine ⟨_, call_max2 hc, fun F s H xs vs d Q hF w rs e q => ?_⟩
  unfold cMax2 at e
  split at e
  · cases e
    obtain ⟨v, u, rfl, r, r2⟩ := reps2 rs
    cases r
    cases r2
    exact ⟨_, _, rfl, q _ H (Kp.refl g H) w (.int _)⟩
  · cases e
theorem cd_min2 (hc : X.calm = true) : CallD X g (.builtin "min") cMin2 := by
  refine ⟨_, call_min2 hc, fun F s H xs vs d Q hF w rs e q => ?_⟩
  unfold cMin2 at e
  split at e
  · cases e
    obtain ⟨v, u, rfl, r, r2⟩ := reps2 rs
    cases r
    cases r2
    exact ⟨_, _, rfl, q _ H (Kp.refl g H) w (.int _)⟩
  · cases e
/-! lists of whole numbers, of truths -/
def asInts : List D → Option (List Int)
  | [] => some []
  | .int i :: ds => (asInts ds).map (i :: ·)
  | _ => none
def asBls : List D → Option (List Bool)
  | [] => some []
  | .bl i :: ds => (asBls ds).map (i :: ·)
  | _ => none
theorem reps_ints {F : Addr → Prop} {H : Hp} : ∀ {ds : List D} {vs : List V} {ns : List Int}, Reps g F H ds vs → asInts ds = some ns → vs = ns.map V.int
  | _, _, _, .nil, e => by cases e; rfl
  | d :: ds, _, ns, .cons r t, e => by
    cases d <;> first | (cases e; done) | skip
    simp only [asInts] at e
    obtain ⟨ms, e1, rfl⟩ := Option.map_eq_some_iff.mp e
    cases r
    rw [reps_ints t e1]
    rfl
theorem reps_bls {F : Addr → Prop} {H : Hp} : ∀ {ds : List D} {vs : List V} {ns : List Bool}, Reps g F H ds vs → asBls ds = some ns → vs = ns.map V.bl
  | _, _, _, .nil, e => by cases e; rfl
  | d :: ds, _, ns, .cons r t, e => by
    cases d <;> first | (cases e; done) | skip
    simp only [asBls] at e
    obtain ⟨ms, e1, rfl⟩ := Option.map_eq_some_iff.mp e
    cases r
    rw [reps_bls t e1]
    rfl
theorem reps_ofInts {F : Addr → Prop} {H : Hp} : ∀ ns : List Int, Reps g F H (ns.map D.int) (ns.map V.int)
  | [] => .nil
  | n :: ns => .cons (.int n) (reps_ofInts ns)
def onInts (f : List Int → Option D) (xs : List D) : Option D := match xs with
  | [.lst ds] => match asInts ds with
    | some ns => f ns
    | none => none
  | _ => none
def onBls (f : List Bool → Option D) (xs : List D) : Option D := match xs with
  | [.lst ds] => match asBls ds with
    | some ns => f ns
    | none => none
  | _ => none
theorem onInts_some {f : List Int → Option D} {xs : List D} {d : D} (h : onInts f xs = some d) : ∃ ds ns, xs = [.lst ds] ∧ asInts ds = some ns ∧ f ns = some d := by
  unfold onInts at h
  split at h
  · rename_i ds
    cases e : asInts ds with
    | none => rw [e] at h; cases h
    | some ns => rw [e] at h; exact ⟨ds, ns, rfl, e, h⟩
  · cases h
theorem onBls_some {f : List Bool → Option D} {xs : List D} {d : D} (h : onBls f xs = some d) : ∃ ds ns, xs = [.lst ds] ∧ asBls ds = some ns ∧ f ns = some d := by
  unfold onBls at h
  split at h
  · rename_i ds
    cases e : asBls ds with
    | none => rw [e] at h; cases h
    | some ns => rw [e] at h; exact ⟨ds, ns, rfl, e, h⟩
  · cases h
def srtI (ns : List Int) : List Int := ns.mergeSort fun a b => decide (a ≤ b)
def maxI : List Int → Option Int
  | [] => none
  | n :: ns => some (ns.foldl max n)
def minI : List Int → Option Int
  | [] => none
  | n :: ns => some (ns.foldl min n)
def cSum := onInts fun ns => some (.int ns.sum)
def cMaxL := onInts fun ns => (maxI ns).map .int
def cMinL := onInts fun ns => (minI ns).map .int
def cAll := onBls fun bs => some (.bl (bs.all id))
def cAny := onBls fun bs => some (.bl (bs.any id))
def cSorted := onInts fun ns => some (.lst ((srtI ns).map .int))
theorem cd_sum (hK : g.K = X.K) (hc : X.calm = true) : CallD X g (.builtin "sum") cSum := by
  refine ⟨_, cr_sum hc, fun F s H xs vs d Q hF w rs e q => ?_⟩
  obtain ⟨ds, ns, rfl, e1, e2⟩ := onInts_some e
  cases e2
  obtain ⟨v, rfl, r⟩ := reps1 rs
  obtain ⟨a, us, rfl, _, hs, r2⟩ := r.lstInv
  rw [reps_ints r2 e1] at hs
  exact ⟨a, ns, rfl, .inl (.inl hs), q _ H (Kp.refl g H) w (.int _)⟩
theorem cd_all (hK : g.K = X.K) (hc : X.calm = true) : CallD X g (.builtin "all") cAll := by
  refine ⟨_, cr_all hc, fun F s H xs vs d Q hF w rs e q => ?_⟩
  obtain ⟨ds, ns, rfl, e1, e2⟩ := onBls_some e
  cases e2
  obtain ⟨v, rfl, r⟩ := reps1 rs
  obtain ⟨a, us, rfl, _, hs, r2⟩ := r.lstInv
  rw [reps_bls r2 e1] at hs
  exact ⟨a, ns, rfl, .inl (.inl hs), q _ H (Kp.refl g H) w (.bl _)⟩
theorem cd_any (hK : g.K = X.K) (hc : X.calm = true) : CallD X g (.builtin "any") cAny := by
  refine ⟨_, cr_any hc, fun F s H xs vs d Q hF w rs e q => ?_⟩
  obtain ⟨ds, ns, rfl, e1, e2⟩ := onBls_some e
  cases e2
  obtain ⟨v, rfl, r⟩ := reps1 rs
  obtain ⟨a, us, rfl, _, hs, r2⟩ := r.lstInv
  rw [reps_bls r2 e1] at hs
  exact ⟨a, ns, rfl, .inl (.inl hs), q _ H (Kp.refl g H) w (.bl _)⟩
theorem foldl_max_is (n : Int) (ns : List Int) : ns.foldl max n ∈ n :: ns ∧ ∀ y ∈ n :: ns, y ≤ ns.foldl max n := by
  induction ns generalizing n with
  | nil => simp
  | cons m ns ih =>
    simp only [List.foldl_cons]
    obtain ⟨h1, h2⟩ := ih (max n m)
    refine ⟨?_, fun y hy => ?_⟩
    · rcases List.mem_cons.mp h1 with h | h
      · rw [h]
        rcases Int.le_total n m with z | z
        · rw [Int.max_eq_right z]; simp
        · rw [Int.max_eq_left z]; simp
      · simp [h]
    · have h3 := h2 (max n m) (by simp)
      rcases List.mem_cons.mp hy with rfl | hy
      · omega
      · rcases List.mem_cons.mp hy with rfl | hy
        · omega
        · exact h2 y (by simp [hy])
theorem foldl_min_is (n : Int) (ns : List Int) : ns.foldl min n ∈ n :: ns ∧ ∀ y ∈ n :: ns, ns.foldl min n ≤ y := by
  induction ns generalizing n with
  | nil => simp
  | cons m ns ih =>
    simp only [List.foldl_cons]
    obtain ⟨h1, h2⟩ := ih (min n m)
    refine ⟨?_, fun y hy => ?_⟩
    · rcases List.mem_cons.mp h1 with h | h
      · rw [h]
        rcases Int.le_total n m with z | z
        · rw [Int.min_eq_left z]; simp
        · rw [Int.min_eq_right z]; simp
      · simp [h]
    · have h3 := h2 (min n m) (by simp)
      rcases List.mem_cons.mp hy with rfl | hy
      · omega
      · rcases List.mem_cons.mp hy with rfl | hy
        · omega
        · exact h2 y (by simp [hy])
theorem cd_maxL (hK : g.K = X.K) (hc : X.calm = true) : CallD X g (.builtin "max") cMaxL := by
  refine ⟨_, cr_max hc, fun F s H xs vs d Q hF w rs e q => ?_⟩
  obtain ⟨ds, ns, rfl, e1, e2⟩ := onInts_some e
  obtain ⟨v, rfl, r⟩ := reps1 rs
  obtain ⟨a, us, rfl, _, hs, r2⟩ := r.lstInv
  rw [reps_ints r2 e1] at hs
  cases ns with
  | nil => cases e2
  | cons n ns =>
    cases e2
    obtain ⟨h1, h2⟩ := foldl_max_is n ns
    refine ⟨a, n :: ns, rfl, .inl (.inl hs), Nat.succ_pos _, fun m hm hle => ?_⟩
    have : m = ns.foldl max n := Int.le_antisymm (h2 m hm) (hle _ h1)
    subst this
    exact q _ H (Kp.refl g H) w (.int _)
theorem cd_minL (hK : g.K = X.K) (hc : X.calm = true) : CallD X g (.builtin "min") cMinL := by
  refine ⟨_, cr_min hc, fun F s H xs vs d Q hF w rs e q => ?_⟩
  obtain ⟨ds, ns, rfl, e1, e2⟩ := onInts_some e
  obtain ⟨v, rfl, r⟩ := reps1 rs
  obtain ⟨a, us, rfl, _, hs, r2⟩ := r.lstInv
  rw [reps_ints r2 e1] at hs
  cases ns with
  | nil => cases e2
  | cons n ns =>
    cases e2
    obtain ⟨h1, h2⟩ := foldl_min_is n ns
    refine ⟨a, n :: ns, rfl, .inl (.inl hs), Nat.succ_pos _, fun m hm hle => ?_⟩
    have : m = ns.foldl min n := Int.le_antisymm (hle _ h1) (h2 m hm)
    subst this
    exact q _ H (Kp.refl g H) w (.int _)
def cMax (xs : List D) : Option D := match cMax2 xs with
  | some d => some d
  | none => cMaxL xs
def cMin (xs : List D) : Option D := match cMin2 xs with
  | some d => some d
  | none => cMinL xs
theorem cd_max (hK : g.K = X.K) (hc : X.calm = true) : CallD X g (.builtin "max") cMax := (cd_max2 hc).or (cd_maxL hK hc)
theorem cd_min (hK : g.K = X.K) (hc : X.calm = true) : CallD X g (.builtin "min") cMin := (cd_min2 hc).or (cd_minL hK hc)
theorem srtI_of {ns' ns : List Int} (p : ns'.Perm ns) (s : ns'.Pairwise (· ≤ ·)) : ns' = srtI ns := by
  have h1 : (srtI ns).Perm ns := List.mergeSort_perm _ _
  have h2 : (srtI ns).Pairwise (· ≤ ·) := by
    have := List.pairwise_mergeSort (le := fun a b : Int => decide (a ≤ b)) (fun a b c h1 h2 => by simp at *; omega) (fun a b => by simp; omega) ns
    exact this.imp fun h => by simpa using h
  exact (p.trans h1.symm).eq_of_pairwise (fun a b _ _ h1 h2 => Int.le_antisymm h1 h2) s h2
theorem cd_sorted (hK : g.K = X.K) : CallD X g (.builtin "sorted") cSorted := by
  refine ⟨_, cr_sortedI, fun F s H xs vs d Q hF w rs e q => ?_⟩
  obtain ⟨ds, ns, rfl, e1, e2⟩ := onInts_some e
  cases e2
  obtain ⟨v, rfl, r⟩ := reps1 rs
  obtain ⟨a, us, rfl, _, hs, r2⟩ := r.lstInv
  rw [reps_ints r2 e1] at hs
  refine ⟨a, ns, rfl, .inl (.inl hs), fun ns' p h1 h2 hp => ?_⟩
  have := srtI_of h1 h2
  subst this
  have k := Kp.new (g := g) (o := .lst ((srtI ns).map V.int)) hp
  exact q _ _ k (w.new hp) (.lst (.inr hp) upd_same (reps_ofInts _))
/-! int(n), list(x), tuple(x) -/
def cInt (xs : List D) : Option D := match xs with
  | [.int i] => some (.int i)
  | [.bl k] => some (.int (if k then 1 else 0))
  | _ => none
theorem cd_int : CallD X g (.type "int") cInt := by
  refine ⟨_, call_int1, fun F s H xs vs d Q hF w rs e q => ?_⟩
  unfold cInt at e
  split at e
  · cases e
    obtain ⟨v, rfl, r⟩ := reps1 rs
    cases r
    exact .inl ⟨_, rfl, q _ H (Kp.refl g H) w (.int _)⟩
  · cases e
    obtain ⟨v, rfl, r⟩ := reps1 rs
    cases r
    exact .inr ⟨_, rfl, q _ H (Kp.refl g H) w (.int _)⟩
  · cases e
def cList (xs : List D) : Option D := match xs with
  | [x] => match x.items with
    | some ds => some (.lst ds)
    | none => none
  | _ => none
theorem cd_list (hK : g.K = X.K) (go : g.Ok) : CallD X g (.type "list") cList := by
  refine ⟨_, call_list_of, fun F s H xs vs d Q hF w rs e q => ?_⟩
  match xs, e with
  | [x], e =>
    obtain ⟨v, rfl, r⟩ := reps1 rs
    simp only [cList] at e
    cases e1 : x.items with
    | none => rw [e1] at e; cases e
    | some ds =>
      rw [e1] at e
      cases e
      obtain ⟨a, us, rfl, hs, r2⟩ := r.itemsInv e1
      rw [hK] at hs
      refine ⟨a, us, rfl, hs, fun p hp => ?_⟩
      have k := Kp.new (g := g) (o := .lst us) hp
      exact q _ _ k (w.new hp) (.lst (.inr hp) upd_same (r2.fu (s := s) go hF k))
def cTuple (xs : List D) : Option D := match xs with
  | [x] => match x.items with
    | some ds => some (.tup ds)
    | none => none
  | _ => none
theorem cd_tuple (hK : g.K = X.K) (go : g.Ok) : CallD X g (.type "tuple") cTuple := by
  refine ⟨_, call_tuple_of, fun F s H xs vs d Q hF w rs e q => ?_⟩
  match xs, e with
  | [x], e =>
    obtain ⟨v, rfl, r⟩ := reps1 rs
    simp only [cTuple] at e
    cases e1 : x.items with
    | none => rw [e1] at e; cases e
    | some ds =>
      rw [e1] at e
      cases e
      obtain ⟨a, us, rfl, hs, r2⟩ := r.itemsInv e1
      rw [hK] at hs
      refine ⟨a, us, rfl, ?_⟩
      rcases hs with hs | hs
      · refine .inl ⟨hs, fun p hp => ?_⟩
        have k := Kp.new (g := g) (o := .tup us) hp
        exact q _ _ k (w.new hp) (.tup (.inl (.inl upd_same)) (r2.fu (s := s) go hF k))
      · exact .inr ⟨hs, q _ H (Kp.refl g H) w (.tup (by rw [hK]; exact hs) (r2.weak fun a h _ => .inl h))⟩
end
section
variable {X : Cx} {g : G} {E : XK} {H0 : Hp} {F0 : Addr → Prop} {ω : List Nat} {b : Bool} {k : Nat}
/-- the call of a built-in function -/
theorem args_tail (bx : Bx X g k E) {f : List D → Option D} {ms : Env → M (List D)} {ts : TA} {r : List V → Hp → VK → Prop}
    (hqs : ∀ H0 F0 κ ρ s σ H Q r, Sim g H0 F0 ω κ ρ s σ H → ms ρ s = some r → PostA g E H0 F0 ω b κ ρ σ H Q r → ts σ H Q)
    (hr : ∀ (F : Addr → Prop) s H xs vs d Q, (∀ a, F a → g.nd a) → Wd g s H → Reps g F H xs vs → f xs = some d → (∀ v H', Kp g H H' → Wd g s H' → Rep g (Fu F H) H' d v → Q v H') → r vs H Q)
    {κ : List Held} {ρ : Env} {s : DS} {σ : L2.St} {H : Hp} {Q : VK} {q : Except Er D × DS} (S : Sim g H0 F0 ω κ ρ s σ H) (hm : eArgs f ms ρ s = some q) (hp : PostE g E H0 F0 ω b κ ρ σ H Q q) : ts σ H fun vs H1 => r vs H1 Q := by
  rcases M.bind_some hm with ⟨e, s1, e1, rfl⟩ | ⟨xs, s1, e1, e2⟩
  · exact hqs H0 F0 κ ρ s σ H _ _ S e1 hp
  refine hqs H0 F0 κ ρ s σ H _ _ S e1 fun vs H1 k1 S1 r1 => ?_
  obtain ⟨d, e3, rfl⟩ := M.ofO_some e2
  refine hr (FT g H0 F0 ω b ρ σ) s1 H1 xs vs d Q (fun a h => h.1.2) S1.wd r1 e3 fun v H2 k2 w2 r2 => ?_
  exact hp v H2 (k1.trans k2) (S1.kpTo bx.ok k2 w2) (r2.weak fun a h _ => Fu.to S1 a h)
theorem de_callB (bx : Bx X g k E) {x id : String} {f : List D → Option D} {e : Expr} {es : List Expr} {ms : Env → M (List D)} {p pos : Pos} (hc : CallD X g (.builtin id) f) (hg : Gl X x) (hm : X.mg x = none) (hv : bootBuiltins x = some (.builtin id)) (hs : DA X g E ω b (e :: es) ms)
    (hn : (x : Str) ≠ "__name__" := by decide) (hdb : ((x : Str) == ("__debug__" : Str)) = false := by decide) (he : starEach (e :: es) X.env = (false, eval e X.env) :: starEach es X.env := by rfl) (hpl : (backTo pos (starEach es X.env)).any (·.1) = false := by rfl) :
    DE X g E ω b (.Call (.Name x p) (e :: es) [] pos) (eArgs f ms) := by
  obtain ⟨r, h1, h2⟩ := hc
  obtain ⟨ts, hts, hqs⟩ := hs
  exact ⟨_, pe_callB h1 hg hm hv hts hn hdb he hpl, fun H0 F0 κ ρ s σ H Q q S hm hp => args_tail bx hqs h2 S hm hp⟩
theorem de_callTy (bx : Bx X g k E) {x T : String} {f : List D → Option D} {e : Expr} {es : List Expr} {ms : Env → M (List D)} {p pos : Pos} (hc : CallD X g (.type T) f) (hg : Gl X x) (hm : X.mg x = none) (hv : bootBuiltins x = some (.type T)) (hs : DA X g E ω b (e :: es) ms)
    (hn : (x : Str) ≠ "__name__" := by decide) (hdb : ((x : Str) == ("__debug__" : Str)) = false := by decide) (he : starEach (e :: es) X.env = (false, eval e X.env) :: starEach es X.env := by rfl) (hpl : (backTo pos (starEach es X.env)).any (·.1) = false := by rfl) :
    DE X g E ω b (.Call (.Name x p) (e :: es) [] pos) (eArgs f ms) := by
  obtain ⟨r, h1, h2⟩ := hc
  obtain ⟨ts, hts, hqs⟩ := hs
  exact ⟨_, pe_callTy h1 hg hm hv hts hn hdb he hpl, fun H0 F0 κ ρ s σ H Q q S hm hp => args_tail bx hqs h2 S hm hp⟩
end
end VS

/-! VS5: isinstance, calls by keywords, slices; what a loop walks. -/
namespace VS
open PySem PySem.Spec PyProof.Rows L2

/-! ### isinstance(e, T), T a built-in type -/
def D.ty : D → Option String
  | .non => some "NoneType"
  | .bl _ => some "bool"
  | .int _ => some "int"
  | .str _ => some "str"
  | .tup _ => some "tuple"
  | .lst _ => some "list"
  | .dct _ _ => some "dict"
  | _ => none
def dIs (T : String) (d : D) : Option D := match d.ty with
  | some a => (kitB a T).map .bl
  | none => none
section
variable {X : Cx} {g : G} {E : XK} {H0 : Hp} {F0 : Addr → Prop} {ω : List Nat} {b b' : Bool} {k : Nat}
theorem Rep.tyX {F : Addr → Prop} {H : Hp} {d : D} {v : V} {a : String} (r : Rep g F H d v) (e : d.ty = some a) : TyX g.K H v (.type a) := by
  cases r with
  | non => cases e; exact .base .non
  | bl b => cases e; exact .base (.bl b)
  | int i => cases e; exact .base (.int i)
  | str x => cases e; exact .base (.str x)
  | tup h r =>
    cases e
    rcases h with (h | ⟨o, h⟩) | ⟨o, its, n, h1, h2, _⟩
    · exact .base (.tup h)
    · exact .fTuple h
    · exact .kTuple h1 h2
  | lst f h r => cases e; exact .base (.lst h)
  | dct f h q r =>
    cases e
    rcases h with h | ⟨o, h⟩
    · exact .base (.dK h)
    · exact .fDict h
  | _ => cases e
theorem de_isi (bx : Bx X g k E) {T : String} {e : Expr} {m : Env → M D} {p p2 pos : Pos} (hg : Gl X "isinstance") (hm : X.mg "isinstance" = none) (hgT : Gl X T) (hmT : X.mg T = none) (hT : bootBuiltins T = some (.type T)) (h : DE X g E ω false e m)
    (hnT : (T : Str) ≠ "__name__" := by decide) (hdT : ((T : Str) == ("__debug__" : Str)) = false := by decide)
    (he : starEach [e, .Name T p2] X.env = (false, eval e X.env) :: starEach [.Name T p2] X.env := by rfl) (he2 : starEach [.Name T p2] X.env = (false, eval (.Name T p2) X.env) :: starEach [] X.env := by rfl) (hpl : (backTo pos (starEach [.Name T p2] X.env)).any (·.1) = false := by rfl) :
    DE X g E ω b (.Call (.Name "isinstance" p) [e, .Name T p2] [] pos) (eUn (dIs T) m) := by
  obtain ⟨t, ht, hq⟩ := h
  refine ⟨_, pe_callB call_isi hg hm boot_isinstance (pa_cons ht (pa_cons (pe_bltn (v := .ty T) hgT hmT hT rfl hnT hdT) pa_nil he2) he) (by decide) (by decide) he hpl, fun H0 F0 κ ρ s σ H Q r S hm hp => ?_⟩
  rcases M.bind_some hm with ⟨e, s1, e1, rfl⟩ | ⟨x, s1, e1, e2⟩
  · exact hq H0 F0 κ ρ s σ H _ _ S e1 hp
  refine hq H0 F0 κ ρ s σ H _ _ S e1 fun v H1 k1 S1 r1 => ?_
  obtain ⟨d, e3, rfl⟩ := M.ofO_some e2
  unfold dIs at e3
  cases e4 : x.ty with
  | none => rw [e4] at e3; cases e3
  | some a =>
    rw [e4] at e3
    obtain ⟨c, e5, rfl⟩ := Option.map_eq_some_iff.mp e3
    have ty := r1.tyX e4
    rw [bx.K] at ty
    exact ⟨v, .ty T, .type a, .type T, c, rfl, .ty T, ty, kit_ty e5, hp _ H1 k1 S1 (.bl c)⟩

/-! ### keywords -/
def DK (X : Cx) (g : G) (E : XK) (ω : List Nat) (b : Bool) (kws : List Keyword) (m : Env → M (List D)) : Prop :=
  ∃ t : TA, PK X kws t ∧ ∀ H0 F0 κ ρ s σ H Q r, Sim g H0 F0 ω κ ρ s σ H → m ρ s = some r → PostA g E H0 F0 ω b κ ρ σ H Q r → t σ H Q
theorem dk_nil : DK X g E ω b [] eNil := by
  refine ⟨_, pk_nil, fun H0 F0 κ ρ s σ H Q r S hm hp => ?_⟩
  cases hm
  exact hp [] H (Kp.refl g H) S .nil
theorem dk_cons (bx : Bx X g k E) {nm : Option Str} {kpos : Pos} {e : Expr} {kws : List Keyword} {m : Env → M D} {ms : Env → M (List D)} (h : DE X g E ω b e m) (hs : DK X g E ω b kws ms) : DK X g E ω b (⟨nm, e, kpos⟩ :: kws) (eCons m ms) := by
  obtain ⟨t, ht, hq⟩ := h
  obtain ⟨ts, hts, hqs⟩ := hs
  refine ⟨_, pk_cons ht hts, fun H0 F0 κ ρ s σ H Q r S hm hp => ?_⟩
  rcases M.bind_some hm with ⟨e, s1, e1, rfl⟩ | ⟨x, s1, e1, e2⟩
  · exact hq H0 F0 κ ρ s σ H _ _ S e1 hp
  refine hq H0 F0 κ ρ s σ H _ _ S e1 fun vx H1 k1 S1 r1 => ?_
  rcases M.bind_some e2 with ⟨e, s2, e3, rfl⟩ | ⟨xs, s2, e3, e4⟩
  · exact hqs H0 F0 κ ρ s1 σ H1 _ _ S1 e3 hp
  refine hqs H0 F0 κ ρ s1 σ H1 _ _ S1 e3 fun vs H2 k2 S2 r2 => ?_
  cases e4
  exact hp _ H2 (k1.trans k2) S2 (.cons (r1.kpT bx.ok k2) r2)
/-- some places of a list, in a row -/
def pick {α : Type} (ix : List Nat) (xs : List α) : List α := ix.filterMap fun i => xs[i]?
theorem Reps.pick {F : Addr → Prop} {H : Hp} {ds : List D} {vs : List V} (r : Reps g F H ds vs) : ∀ ix : List Nat, Reps g F H (VS.pick ix ds) (VS.pick ix vs)
  | [] => .nil
  | i :: ix => by
    have t := Reps.pick r ix
    unfold VS.pick at t ⊢
    rw [List.filterMap_cons, List.filterMap_cons]
    cases e : ds[i]? with
    | some d =>
      obtain ⟨v, h1, h2⟩ := r.get e
      rw [h1]
      exact .cons h2 t
    | none =>
      have e2 : vs[i]? = none := by
        rw [List.getElem?_eq_none_iff] at e ⊢
        rw [← r.length]
        exact e
      rw [e2]
      exact t
theorem pick_vals {vs : List V} {us : List Value} (r : Vals vs us) : ∀ ix : List Nat, Vals (VS.pick ix vs) (VS.pick ix us)
  | [] => .nil
  | i :: ix => by
    have t := pick_vals r ix
    unfold VS.pick at t ⊢
    rw [List.filterMap_cons, List.filterMap_cons]
    cases e : vs[i]? with
    | some d =>
      obtain ⟨v, h1, h2⟩ := r.get e
      rw [h1]
      exact .cons h2 t
    | none =>
      rw [r.none_of e]
      exact t
/-- f(k = v, ..): the keywords' values put in the parameters' order -/
def eCallK (f : List D → M D) (ix : List Nat) (a : Env → M (List D)) : Env → M D := fun ρ => (a ρ).bind fun xs => f (pick ix xs)
/-- how keywords alone bind -/
def KB (fd : FuncData) (ps ks : List Str) (ix : List Nat) : Prop := ∀ (s : Shared) (ws : List Value), ws.length = ks.length → BindsTo s fd ⟨[], ks.zip ws⟩ (ps.zip (pick ix ws))
theorem pe_callK0 {CX : CXT} {f : Addr} {fd : FuncData} {ps ks : List Str} {ix : List Nat} {sp : Sp} {x : Str} {p pos : Pos} {kws : List Keyword} {tk : TA}
    (F : FnOk X.prog X.w X.K X.mg X.base CX k f fd ps sp) (hr : Room k X.A) (hg : Gl X x) (hm : X.mg x = some (.ref f)) (hk : PySem.W.keepIn X.K (.ref f) = true) (hb : KB fd ps ks ix) (hx : Passes CX X E)
    (hkw : PK X kws tk) (hall : (backToKw pos (keywordEach kws X.env)).all (·.1.isSome) = true := by rfl) (hks : (backToKw pos (keywordEach kws X.env)).filterMap (·.1) = ks := by rfl)
    (hdb : (x == ("__debug__" : Str)) = false := by decide) (hpl : ((backTo pos (starEach [] X.env)).any (·.1) || (backToKw pos (keywordEach kws X.env)).any (·.1.isNone)) = false := by rfl) :
    PE X (.Call (.Name x p) [] kws pos) (fun σ H Q => tk σ H fun zs H2 => zs.length = ks.length ∧ sp (pick ix zs) H2 Q E) := by
  refine ⟨fun pins s σ H Q I h => ?_⟩
  refine wpAny_Call_Name_kw (ld_glob I hg hm ?_ hdb)
  refine PySem.W.callWith_KW0 (h₀ := X.base) I.ok.mod.kin hk hall ?_ hpl
  refine thn (hkw.run pos pins s σ H _ I h) fun ws s2 ⟨zs, H2, I2, rz, hl, q2⟩ => ⟨I2.kIn, ?_⟩
  rw [hks]
  have r2 := pick_vals rz ix
  have hl2 : (pick ix ws).length = ps.length := by rw [← r2.length]; exact F.len _ _ _ _ q2
  refine wpAny_call (codeAny_mono (F.run X.A X.stack s2 H2 ⟨[], ks.zip ws⟩ (pick ix ws) (pick ix zs) Q E hr I2.env0 (hb s2 ws (by rw [← rz.length]; exact hl)) r2 q2) fun r s' hq => ?_)
  cases r with
  | error e => exact hx pins σ H2 s2 e s' I2 hq
  | ok fl =>
    cases fl with
    | ret u => exact I2.after hq
    | next => exact False.elim hq
    | brk => exact False.elim hq
    | cont => exact False.elim hq
def lenIs (n : Nat) (a : Env → M (List D)) : Env → M (List D) := fun ρ => (a ρ).bind fun xs => if xs.length = n then M.ok xs else M.stuck
theorem de_callK (bx : Bx X g k E) {x : Str} {fa : Addr} {fd : FuncData} {ps ks : List Str} {ix : List Nat} {f : List D → M D} {kws : List Keyword} {ms : Env → M (List D)} {p pos : Pos}
    (F : FnOk X.prog X.w X.K X.mg X.base (L2.CX X.prog X.w) k fa fd ps (SpD g f)) (hg : Gl X x) (hm : X.mg x = some (.ref fa)) (hk : PySem.W.keepIn X.K (.ref fa) = true) (hb : KB fd ps ks ix) (hs : DK X g E ω b kws ms)
    (hall : (backToKw pos (keywordEach kws X.env)).all (·.1.isSome) = true := by rfl) (hks : (backToKw pos (keywordEach kws X.env)).filterMap (·.1) = ks := by rfl)
    (hdb : (x == ("__debug__" : Str)) = false := by decide) (hpl : ((backTo pos (starEach [] X.env)).any (·.1) || (backToKw pos (keywordEach kws X.env)).any (·.1.isNone)) = false := by rfl) :
    DE X g E ω b (.Call (.Name x p) [] kws pos) (eCallK f ix (lenIs ks.length ms)) := by
  obtain ⟨ts, hts, hqs⟩ := hs
  refine ⟨_, pe_callK0 F bx.room hg hm hk hb bx.ps hts hall hks hdb hpl, fun H0 F0 κ ρ s σ H Q r S hm hp => ?_⟩
  rcases M.bind_some hm with ⟨e, s1, e1, rfl⟩ | ⟨xs, s1, e1, e2⟩
  · rcases M.bind_some e1 with ⟨e', s2, e3, h⟩ | ⟨ys, s2, e3, e4⟩
    · cases h
      exact hqs H0 F0 κ ρ s σ H _ _ S e3 hp
    · split at e4 <;> cases e4
  · rcases M.bind_some e1 with ⟨e', s2, e3, h⟩ | ⟨ys, s2, e3, e4⟩
    · cases h
    · split at e4
      · rename_i hl
        cases e4
        refine hqs H0 F0 κ ρ s σ H _ _ S e3 fun vs H1 k1 S1 r1 => ⟨by rw [← r1.length]; exact hl, ?_⟩
        refine ⟨FT g H0 F0 ω b ρ σ, pick ix xs, s1, r, fun a h => h.1.2, r1.pick ix, S1.wd, e2, ?_⟩
        obtain ⟨x, s'⟩ := r
        cases x with
        | error e => exact ErrK.of S1.kp hp
        | ok d =>
          intro v H' k2 w2 r2
          refine hp v H' (k1.trans k2) (S1.kpTo bx.ok k2 w2) (r2.weak fun a h _ => ?_)
          rcases h.1 with h1 | h1 | h1
          · exact h1
          · exact (S1.newFT h1).1
          · refine ⟨⟨.inr (.inr h1), h.2⟩, fun _ i hi ⟨d', e⟩ z => ?_⟩
            obtain ⟨a', q1, _, _, q4, _⟩ := S1.own i d' hi e
            rw [q1] at z
            cases z
            exact q4 h1
      · cases e4

end
end VS

/-! VS6: new roots; targets; what is walked. -/
namespace VS
open PySem PySem.Spec PyProof.Rows L2
section
variable {X : Cx} {g : G} {E : XK} {H0 : Hp} {F0 : Addr → Prop} {ω : List Nat} {b b' : Bool} {k : Nat}

/-! ### new roots -/
theorem DR.de (bx : Bx X g k E) {e : Expr} {m : Env → M D} (h : DR X g E ω e m) : DE X g E ω b e m := by
  obtain ⟨t, ht, hq⟩ := h
  refine ⟨t, ht, fun H0 F0 κ ρ s σ H Q r S hm hp => hq H0 F0 κ ρ s σ H Q r S hm ?_⟩
  obtain ⟨x, s'⟩ := r
  cases x with
  | error e => exact hp
  | ok d => exact fun a H' kp w hn r => hp (.ref a) H' kp (S.kpTo bx.ok kp w) (r.rep (F' := FT g H0 F0 ω b ρ σ) (fun c h _ => ⟨h.1.1, fun _ => h.1.2 rfl⟩) (S.newFT hn).1)
/-- the items of a new list -/
theorem root_lst {κ : List Held} {ρ : Env} {s : DS} {σ : L2.St} {H : Hp} (go : g.Ok) (S : Sim g H0 F0 ω κ ρ s σ H) {p : Addr} (hp : H p = none) {ds : List D} {vs : List V} (r : Reps g (FT g H0 F0 ω true ρ σ) H ds vs) :
    RootAt g (fun c => FT g H0 F0 ω true ρ σ c ∧ c ≠ p) (upd H p (.lst vs)) (.lst ds) p :=
  ⟨vs, upd_same, r.kp go (Kp.new hp) fun a h n => ⟨⟨h, fun z => n (by rw [z]; exact hp)⟩, h.1.2⟩⟩
theorem dr_lst (bx : Bx X g k E) {es : List Expr} {ms : Env → M (List D)} {pos : Pos} (hs : DA X g E ω true es ms) : DR X g E ω (.List es pos) (eArgs opLst ms) := by
  obtain ⟨ts, hts, hqs⟩ := hs
  refine ⟨_, pe_lst hts, fun H0 F0 κ ρ s σ H Q r S hm hp => ?_⟩
  rcases M.bind_some hm with ⟨e, s1, e1, rfl⟩ | ⟨xs, s1, e1, e2⟩
  · exact hqs H0 F0 κ ρ s σ H _ _ S e1 hp
  refine hqs H0 F0 κ ρ s σ H _ _ S e1 fun vs H1 k1 S1 r1 => ?_
  obtain ⟨d, e3, rfl⟩ := M.ofO_some e2
  unfold opLst at e3
  split at e3
  · rename_i hl
    cases e3
    refine ⟨by rw [← r1.length]; exact hl, fun p hp' => ?_⟩
    exact hp p _ (k1.trans (Kp.new hp')) (S1.wd.new hp') (k1.free hp') (root_lst bx.ok S1 hp' r1)
  · cases e3

/-! ### what has items -/
def SeqD (g : G) (H : Hp) (d : D) (a : Addr) (vs : List V) : Prop := match d with
  | .lst _ => g.nd a ∧ H a = some (.lst vs)
  | .tup _ => SqT g.K H a vs
  | _ => False
theorem SeqD.sq {H : Hp} {d : D} {a : Addr} {vs : List V} (h : SeqD g H d a vs) : SqL g.K H a vs ∨ SqT g.K H a vs := by
  cases d <;> first | exact h.elim | exact .inr h | exact .inl (.inl (.inl h.2))
theorem SeqD.kp {H H' : Hp} {d : D} {a : Addr} {vs : List V} (k : Kp g H H') (h : SeqD g H d a vs) : SeqD g H' d a vs := by
  cases d <;> first | exact h.elim | skip
  · exact sqT_keep (F := g.nd) (fun a o h t f => k.keep a o h t f) h
  · exact ⟨h.1, k.keep _ _ h.2 rfl fun _ => h.1⟩
def PostI (g : G) (E : XK) (H0 : Hp) (F0 : Addr → Prop) (ω : List Nat) (κ : List Held) (ρ : Env) (σ : L2.St) (H : Hp) (Q : VK) : Except Er D × DS → Prop
  | (.ok d, s') => ∀ a vs ds H', d.items = some ds → Kp g H H' → Sim g H0 F0 ω κ ρ s' σ H' → SeqD g H' d a vs → Reps g (FT g H0 F0 ω true ρ σ) H' ds vs → Q (.ref a) H'
  | (.error e, s') => ErrK g E H0 s' e
/-- items even of what the body changes -/
def DI (X : Cx) (g : G) (E : XK) (ω : List Nat) (e : Expr) (m : Env → M D) : Prop :=
  ∃ t : TE, PE X e t ∧ ∀ H0 F0 κ ρ s σ H Q r, Sim g H0 F0 ω κ ρ s σ H → m ρ s = some r → PostI g E H0 F0 ω κ ρ σ H Q r → t σ H Q
def eSeq (m : Env → M D) : Env → M D := fun ρ => (m ρ).bind fun d => if d.items.isSome = true then M.ok d else M.stuck
theorem di_of {e : Expr} {m : Env → M D} (h : DE X g E ω true e m) : DI X g E ω e (eSeq m) := by
  obtain ⟨t, ht, hq⟩ := h
  refine ⟨t, ht, fun H0 F0 κ ρ s σ H Q r S hm hp => ?_⟩
  rcases M.bind_some hm with ⟨e, s1, e1, rfl⟩ | ⟨d, s1, e1, e2⟩
  · exact hq H0 F0 κ ρ s σ H Q _ S e1 hp
  refine hq H0 F0 κ ρ s σ H Q _ S e1 fun v H' kp S' r' => ?_
  split at e2
  · rename_i hi
    cases e2
    cases r' with
    | tup h r => exact hp _ _ _ _ rfl kp S' h r
    | lst f h r => exact hp _ _ _ _ rfl kp S' ⟨f.1.2, h⟩ r
    | _ => cases hi
  · cases e2
theorem di_own {i : Nat} {x : Str} {pos : Pos} (hw : i ∈ ω) (hN : X.N[i]? = some x) (hv : Vis X.env.scope x) (hd : (x == ("__debug__" : Str)) = false := by decide) (hcd : (x == ("__classdict__" : Str)) = false := by decide) :
    DI X g E ω (.Name x pos) (eSeq (eVar i)) := by
  refine ⟨_, pe_var hN hv hd hcd, fun H0 F0 κ ρ s σ H Q r S hm hp => ?_⟩
  rcases M.bind_some hm with ⟨e, s1, e1, rfl⟩ | ⟨d, s1, e1, e2⟩
  · obtain ⟨_, _, h⟩ := M.ofO_some e1; cases h
  obtain ⟨d', e, h⟩ := M.ofO_some e1
  have e' : ρ[i]? = some (some d) := by
    have : d = d' := by injection (congrArg Prod.fst h)
    subst this
    cases q : ρ[i]? with
    | none => rw [q] at e; cases e
    | some o => rw [q] at e; exact congrArg some e
  have hs : s1 = s := congrArg Prod.snd h
  subst hs
  obtain ⟨a, h1, h2, h3, h4, h5⟩ := S.own i d hw e'
  split at e2
  · rename_i hi
    cases e2
    refine ⟨_, h1, ?_⟩
    cases d with
    | lst ds =>
      obtain ⟨vs, h6, h7⟩ := h5
      exact hp a vs ds H rfl (Kp.refl g H) S ⟨h3, h6⟩ h7
    | tup ds => exact h5.elim
    | _ => cases hi
  · cases e2
/-- x[i] of it -/
theorem de_ixI (bx : Bx X g k E) {ea eb : Expr} {ma mb : Env → M D} {pos : Pos} (ha : DI X g E ω ea ma) (hb : DE X g E ω false eb mb) (hs : PlainIx eb) :
    DE X g E ω b (.Subscript ea eb pos) (eBin opIxS ma mb) := by
  obtain ⟨ta, h1, h2⟩ := ha
  obtain ⟨tb, h3, h4⟩ := hb
  refine ⟨_, pe_ix (IxR.or ix_list ix_tup) h1 h3 hs, fun H0 F0 κ ρ s σ H Q q S hm hp => ?_⟩
  rcases M.bind_some hm with ⟨e, s1, e1, rfl⟩ | ⟨x, s1, e1, e2⟩
  · exact h2 H0 F0 κ ρ s σ H _ _ S e1 hp
  refine h2 H0 F0 κ ρ s σ H _ _ S e1 fun a vs ds H1 hi k1 S1 sq r1 => ?_
  rcases M.bind_some e2 with ⟨e, s2, e3, rfl⟩ | ⟨y, s2, e3, e4⟩
  · exact h4 H0 F0 κ ρ s1 σ H1 _ _ S1 e3 hp
  refine h4 H0 F0 κ ρ s1 σ H1 _ _ S1 e3 fun vy H2 k2 S2 r2 => ?_
  obtain ⟨d, e5, rfl⟩ := M.ofO_some e4
  unfold opIxS at e5
  rw [hi] at e5
  split at e5
  · rename_i ds' i e6
    cases e6
    cases r2
    obtain ⟨v, h5, h6⟩ := reps_at (r1.kpT bx.ok k2) e5
    have sq2 := (sq.kp k2).sq
    rw [bx.K] at sq2
    have fin := hp v H2 (k1.trans k2) S2 (h6.weak fun a h _ => ⟨h.1, fun _ => h.2 rfl⟩)
    rcases sq2 with hs | hs
    · exact .inl ⟨a, vs, i, v, rfl, rfl, hs, h5, fin⟩
    · exact .inr ⟨a, vs, i, v, rfl, rfl, hs, h5, fin⟩
  · cases e5
/-- a + b, lists -/
theorem dr_cat (bx : Bx X g k E) {ea eb : Expr} {ma mb : Env → M D} {pos : Pos} (ha : DI X g E ω ea ma) (hb : DI X g E ω eb mb) : DR X g E ω (.BinOp ea .Add eb pos) (eBin opCat ma mb) := by
  obtain ⟨ta, h1, h2⟩ := ha
  obtain ⟨tb, h3, h4⟩ := hb
  refine ⟨_, pe_op op_cat h1 h3, fun H0 F0 κ ρ s σ H Q q S hm hp => ?_⟩
  rcases M.bind_some hm with ⟨e, s1, e1, rfl⟩ | ⟨x, s1, e1, e2⟩
  · exact h2 H0 F0 κ ρ s σ H _ _ S e1 hp
  refine h2 H0 F0 κ ρ s σ H _ _ S e1 fun a vs ds H1 hi k1 S1 sq r1 => ?_
  rcases M.bind_some e2 with ⟨e, s2, e3, rfl⟩ | ⟨y, s2, e3, e4⟩
  · exact h4 H0 F0 κ ρ s1 σ H1 _ _ S1 e3 hp
  refine h4 H0 F0 κ ρ s1 σ H1 _ _ S1 e3 fun a2 us es H2 hi2 k2 S2 sq2 r2 => ?_
  obtain ⟨d, e5, rfl⟩ := M.ofO_some e4
  cases x <;> first | (cases e5; done) | skip
  rename_i dx
  cases y <;> first | (cases e5; done) | skip
  rename_i dy
  cases hi
  cases hi2
  simp only [opCat] at e5
  split at e5
  · rename_i hl
    cases e5
    refine ⟨a, a2, vs, us, rfl, rfl, (sq.kp k2).2, sq2.2, by rw [← r1.length, ← r2.length]; exact hl, fun p hp' => ?_⟩
    exact hp p _ ((k1.trans k2).trans (Kp.new hp')) (S2.wd.new hp') (k1.free (k2.free hp')) (root_lst bx.ok S2 hp' ((r1.kpT bx.ok k2).append r2))
  · cases e5
def toLst (d : D) : Option D := d.items.map D.lst
def toTup (d : D) : Option D := d.items.map D.tup
/-- list(x) -/
theorem dr_list (bx : Bx X g k E) {e : Expr} {m : Env → M D} {p pos : Pos} (h : DI X g E ω e m) (hg : Gl X "list") (hm : X.mg "list" = none) (he : starEach [e] X.env = (false, eval e X.env) :: starEach [] X.env := by rfl) (hpl : (backTo pos (starEach [] X.env)).any (·.1) = false := by rfl) :
    DR X g E ω (.Call (.Name "list" p) [e] [] pos) (eUn toLst m) := by
  obtain ⟨t, ht, hq⟩ := h
  refine ⟨_, pe_callTy call_list_of hg hm boot_list (pa_cons ht pa_nil he) (by decide) (by decide) he hpl, fun H0 F0 κ ρ s σ H Q r S hm hp => ?_⟩
  rcases M.bind_some hm with ⟨e, s1, e1, rfl⟩ | ⟨x, s1, e1, e2⟩
  · exact hq H0 F0 κ ρ s σ H _ _ S e1 hp
  refine hq H0 F0 κ ρ s σ H _ _ S e1 fun a vs ds H1 hi k1 S1 sq r1 => ?_
  obtain ⟨d, e3, rfl⟩ := M.ofO_some e2
  unfold toLst at e3
  rw [hi] at e3
  cases e3
  have sq2 := sq.sq
  rw [bx.K] at sq2
  refine ⟨a, vs, rfl, sq2, fun p hp' => ?_⟩
  exact hp p _ (k1.trans (Kp.new hp')) (S1.wd.new hp') (k1.free hp') (root_lst bx.ok S1 hp' r1)
/-- tuple(x) -/
theorem de_tuple (bx : Bx X g k E) {e : Expr} {m : Env → M D} {p pos : Pos} (h : DI X g E ω e m) (hg : Gl X "tuple") (hm : X.mg "tuple" = none) (he : starEach [e] X.env = (false, eval e X.env) :: starEach [] X.env := by rfl) (hpl : (backTo pos (starEach [] X.env)).any (·.1) = false := by rfl) :
    DE X g E ω b (.Call (.Name "tuple" p) [e] [] pos) (eUn toTup m) := by
  obtain ⟨t, ht, hq⟩ := h
  refine ⟨_, pe_callTy call_tuple_of hg hm boot_tuple (pa_cons ht pa_nil he) (by decide) (by decide) he hpl, fun H0 F0 κ ρ s σ H Q r S hm hp => ?_⟩
  rcases M.bind_some hm with ⟨e, s1, e1, rfl⟩ | ⟨x, s1, e1, e2⟩
  · exact hq H0 F0 κ ρ s σ H _ _ S e1 hp
  refine hq H0 F0 κ ρ s σ H _ _ S e1 fun a vs ds H1 hi k1 S1 sq r1 => ?_
  obtain ⟨d, e3, rfl⟩ := M.ofO_some e2
  unfold toTup at e3
  rw [hi] at e3
  cases e3
  have sq2 := sq.sq
  rw [bx.K] at sq2
  refine ⟨a, vs, rfl, ?_⟩
  have r2 : Reps g (FT g H0 F0 ω b ρ σ) H1 ds vs := r1.weak fun a h _ => ⟨h.1, fun _ => h.2 rfl⟩
  rcases sq2 with hs | hs
  · refine .inl ⟨hs, fun p hp' => ?_⟩
    have k2 := Kp.new (g := g) (o := .tup vs) hp'
    exact hp _ _ (k1.trans k2) (S1.kpTo bx.ok k2 (S1.wd.new hp')) (.tup (.inl (.inl upd_same)) (r2.kpT bx.ok k2))
  · exact .inr ⟨hs, hp _ H1 k1 S1 (.tup (by rw [bx.K]; exact hs) r2)⟩
/-- sorted(x), whole numbers -/
theorem dr_sorted (bx : Bx X g k E) {e : Expr} {m : Env → M D} {p pos : Pos} (h : DI X g E ω e m) (hg : Gl X "sorted") (hm : X.mg "sorted" = none) (he : starEach [e] X.env = (false, eval e X.env) :: starEach [] X.env := by rfl) (hpl : (backTo pos (starEach [] X.env)).any (·.1) = false := by rfl) :
    DR X g E ω (.Call (.Name "sorted" p) [e] [] pos) (eUn (fun d => cSorted [d]) m) := by
  obtain ⟨t, ht, hq⟩ := h
  refine ⟨_, pe_callB cr_sortedI hg hm boot_sorted (pa_cons ht pa_nil he) (by decide) (by decide) he hpl, fun H0 F0 κ ρ s σ H Q r S hm hp => ?_⟩
  rcases M.bind_some hm with ⟨e, s1, e1, rfl⟩ | ⟨x, s1, e1, e2⟩
  · exact hq H0 F0 κ ρ s σ H _ _ S e1 hp
  refine hq H0 F0 κ ρ s σ H _ _ S e1 fun a vs ds H1 hi k1 S1 sq r1 => ?_
  obtain ⟨d, e3, rfl⟩ := M.ofO_some e2
  obtain ⟨ds', ns, h1, h2, h3⟩ := onInts_some e3
  cases h1
  cases h3
  cases hi
  have hv := reps_ints r1 h2
  have sq2 : SqL X.K H1 a (ns.map V.int) := by
    rw [← hv]
    exact .inl (.inl sq.2)
  refine ⟨a, ns, rfl, sq2, fun ns' p' q1 q2 hp' => ?_⟩
  have := srtI_of q1 q2
  subst this
  exact hp p' _ (k1.trans (Kp.new hp')) (S1.wd.new hp') (k1.free hp') (root_lst bx.ok S1 hp' (reps_ofInts _))
end
end VS

/-! VS7: stores into slots; targets; what is walked. -/
namespace VS
open PySem PySem.Spec PyProof.Rows L2
section
variable {g : G} {H0 H H' : Hp} {F0 : Addr → Prop} {ω : List Nat} {κ : List Held} {ρ : Env} {s s' : DS} {σ : L2.St} {b : Bool}
theorem live_set_ne {i j : Nat} {x : Option D} (h : i ≠ j) : live (ρ.set i x) j ↔ live ρ j := by
  unfold live
  rw [List.getElem?_set_ne h]
/-- another slot's store doesn't change what is good -/
theorem FT.set {i : Nat} {x : Option D} {y : Option V} (hi : i ∉ ω) {a : Addr} (h : FT g H0 F0 ω b ρ σ a) : FT g H0 F0 ω b (ρ.set i x) (σ.set i y) a :=
  ⟨h.1, fun hb j hj l => by
    have n : i ≠ j := fun z => hi (by rw [z]; exact hj)
    rw [List.getElem?_set_ne n]
    exact h.2 hb j hj ((live_set_ne n).mp l)⟩
/-- a value is stored -/
theorem Sim.setVal (go : g.Ok) (S : Sim g H0 F0 ω κ ρ s σ H) {i : Nat} {d : D} {v : V} (hi : i ∉ ω) (hl : i < ρ.length) (r : Rep g (FT g H0 F0 ω true ρ σ) H d v) : Sim g H0 F0 ω κ (ρ.set i (some d)) s (σ.set i (some v)) H := by
  have W : ∀ a, FT g H0 F0 ω true ρ σ a → H a ≠ none → FT g H0 F0 ω true (ρ.set i (some d)) (σ.set i (some v)) a := fun a h _ => h.set hi
  have hl2 : i < σ.length := by rw [← S.len]; exact hl
  refine ⟨by simp [S.len], S.kp, S.wd, fun j e hj he => ?_, fun j e hj he => ?_, fun p hp => ?_, fun j1 j2 a h1 h2 l1 l2 e1 e2 => ?_⟩
  · by_cases n : i = j
    · subst n
      rw [List.getElem?_set_self hl] at he
      cases he
      exact ⟨v, List.getElem?_set_self hl2, r.weak W⟩
    · rw [List.getElem?_set_ne n] at he
      obtain ⟨u, q1, q2⟩ := S.val j e hj he
      exact ⟨u, by rw [List.getElem?_set_ne n]; exact q1, q2.weak W⟩
  · have n : i ≠ j := fun z => hi (by rw [z]; exact hj)
    rw [List.getElem?_set_ne n] at he
    obtain ⟨a, q1, q2, q3, q4, q5⟩ := S.own j e hj he
    exact ⟨a, by rw [List.getElem?_set_ne n]; exact q1, q2, q3, q4, q5.imp (fun _ _ h _ _ => h) (fun _ _ h => h) W rfl⟩
  · exact (S.held p hp).weak W
  · have n1 : i ≠ j1 := fun z => hi (by rw [z]; exact h1)
    have n2 : i ≠ j2 := fun z => hi (by rw [z]; exact h2)
    rw [List.getElem?_set_ne n1] at e1
    rw [List.getElem?_set_ne n2] at e2
    exact S.inj j1 j2 a h1 h2 ((live_set_ne n1).mp l1) ((live_set_ne n2).mp l2) e1 e2
/-- a slot is forgotten -/
theorem Sim.clear (S : Sim g H0 F0 ω κ ρ s σ H) (i : Nat) : Sim g H0 F0 ω κ (ρ.set i none) s σ H := by
  have lv : ∀ j, live (ρ.set i none) j → live ρ j := fun j ⟨d, e⟩ => by
    by_cases n : i = j
    · subst n
      by_cases hl : i < ρ.length
      · rw [List.getElem?_set_self hl] at e; cases e
      · rw [List.getElem?_eq_none (by simpa using hl)] at e; cases e
    · rw [List.getElem?_set_ne n] at e
      exact ⟨d, e⟩
  have W : ∀ a, FT g H0 F0 ω true ρ σ a → H a ≠ none → FT g H0 F0 ω true (ρ.set i none) σ a := fun a h _ => ⟨h.1, fun hb j hj l => h.2 hb j hj (lv j l)⟩
  have at_ : ∀ {j : Nat} {e : D}, (ρ.set i none)[j]? = some (some e) → ρ[j]? = some (some e) := fun {j e} he => by
    by_cases n : i = j
    · subst n
      by_cases hl : i < ρ.length
      · rw [List.getElem?_set_self hl] at he; cases he
      · rw [List.getElem?_eq_none (by simpa using hl)] at he; cases he
    · rw [List.getElem?_set_ne n] at he
      exact he
  refine ⟨by simp [S.len], S.kp, S.wd, fun j e hj he => ?_, fun j e hj he => ?_, fun p hp => ?_, fun j1 j2 a h1 h2 l1 l2 e1 e2 => S.inj j1 j2 a h1 h2 (lv _ l1) (lv _ l2) e1 e2⟩
  · obtain ⟨u, q1, q2⟩ := S.val j e hj (at_ he)
    exact ⟨u, q1, q2.weak W⟩
  · obtain ⟨a, q1, q2, q3, q4, q5⟩ := S.own j e hj (at_ he)
    exact ⟨a, q1, q2, q3, q4, q5.imp (fun _ _ h _ _ => h) (fun _ _ h => h) W rfl⟩
  · exact (S.held p hp).weak W
/-- a new root is stored -/
theorem Sim.setOwn (go : g.Ok) (S : Sim g H0 F0 ω κ ρ s σ H) {i : Nat} {d : D} {a : Addr} (hi : i ∈ ω) (hl : i < ρ.length) (k : Kp g H H') (w : Wd g s' H') (hn : H a = none) (r : RootAt g (fun c => FT g H0 F0 ω true ρ σ c ∧ c ≠ a) H' d a) :
    Sim g H0 F0 ω κ (ρ.set i (some d)) s' (σ.set i (some (.ref a))) H' := by
  have hl2 : i < σ.length := by rw [← S.len]; exact hl
  obtain ⟨f1, f2, f3, f4⟩ := S.newFT (b := true) hn
  have W : ∀ c, (FT g H0 F0 ω true ρ σ c ∧ c ≠ a) → FT g H0 F0 ω true (ρ.set i (some d)) (σ.set i (some (.ref a))) c := fun c h => ⟨h.1.1, fun hb j hj l => by
    by_cases n : i = j
    · subst n
      rw [List.getElem?_set_self hl2]
      intro z
      cases z
      exact h.2 rfl
    · rw [List.getElem?_set_ne n]
      exact h.1.2 hb j hj ((live_set_ne n).mp l)⟩
  have W2 : ∀ c, FT g H0 F0 ω true ρ σ c → H c ≠ none → FT g H0 F0 ω true (ρ.set i (some d)) (σ.set i (some (.ref a))) c ∧ g.nd c := fun c h n => ⟨W c ⟨h, fun z => n (by rw [z]; exact hn)⟩, h.1.2⟩
  refine ⟨by simp [S.len], S.kp.trans k, w, fun j e hj he => ?_, fun j e hj he => ?_, fun p hp => (S.held p hp).kp go k W2, fun j1 j2 c h1 h2 l1 l2 e1 e2 => ?_⟩
  · have n : i ≠ j := fun z => hj (by rw [← z]; exact hi)
    rw [List.getElem?_set_ne n] at he
    obtain ⟨u, q1, q2⟩ := S.val j e hj he
    exact ⟨u, by rw [List.getElem?_set_ne n]; exact q1, q2.kp go k W2⟩
  · by_cases n : i = j
    · subst n
      rw [List.getElem?_set_self hl] at he
      cases he
      exact ⟨a, List.getElem?_set_self hl2, f4, f2, f3, r.imp (fun _ _ h _ _ => h) (fun _ _ h => h) (fun c h _ => W c h) rfl⟩
    · rw [List.getElem?_set_ne n] at he
      obtain ⟨c, q1, q2, q3, q4, q5⟩ := S.own j e hj he
      refine ⟨c, by rw [List.getElem?_set_ne n]; exact q1, q2, q3, q4, ?_⟩
      obtain ⟨u, q, nv⟩ := q5.there
      have r1 : RootAt g (fun a => FT g H0 F0 ω true ρ σ a ∧ H a ≠ none) H e c := q5.imp (fun _ _ h _ _ => h) (fun _ _ h => h) (fun a h n => ⟨h, n⟩) rfl
      exact r1.imp (fun a o h t f => k.keep a o h t fun e => (f e).1.1.2) (sc_keep k) (fun c h _ => (W2 c h.1 h.2).1) ((k.keep _ _ q (by cases u <;> first | rfl | cases nv) fun _ => q3).trans q.symm)
  · have old : ∀ j, i ≠ j → j ∈ ω → live (ρ.set i (some d)) j → (σ.set i (some (.ref a)))[j]? ≠ some (some (.ref a)) := fun j n hj l z => by
      rw [List.getElem?_set_ne n] at z
      obtain ⟨d', e⟩ := (live_set_ne n).mp l
      obtain ⟨a', q1, _, _, _, q5⟩ := S.own j d' hj e
      rw [q1] at z
      cases z
      obtain ⟨u, q, _⟩ := q5.there
      rw [hn] at q
      cases q
    by_cases n1 : i = j1
    · by_cases n2 : i = j2
      · rw [← n1, ← n2]
      · subst n1
        rw [List.getElem?_set_self hl2] at e1
        cases e1
        exact absurd e2 (old j2 n2 h2 l2)
    · by_cases n2 : i = j2
      · subst n2
        rw [List.getElem?_set_self hl2] at e2
        cases e2
        exact absurd e1 (old j1 n1 h1 l1)
      · rw [List.getElem?_set_ne n1] at e1
        rw [List.getElem?_set_ne n2] at e2
        exact S.inj j1 j2 c h1 h2 ((live_set_ne n1).mp l1) ((live_set_ne n2).mp l2) e1 e2
/-- what a body owns is changed in its place -/
theorem Sim.mutOwn (go : g.Ok) (S : Sim g H0 F0 ω κ ρ s σ H) {i : Nat} {d d' : D} {a : Addr} {o : HO} (hi : i ∈ ω) (he : ρ[i]? = some (some d)) (ha : σ[i]? = some (some (.ref a))) (r : RootAt g (FT g H0 F0 ω true ρ σ) (upd H a o) d' a) :
    Sim g H0 F0 ω κ (ρ.set i (some d')) s σ (upd H a o) := by
  have hl : i < ρ.length := (List.getElem?_eq_some_iff.mp he).1
  obtain ⟨a', q1, q2, q3, q4, q5⟩ := S.own i d hi he
  rw [ha] at q1
  cases q1
  obtain ⟨u, qa, nv⟩ := q5.there
  have lv : ∀ j, live (ρ.set i (some d')) j ↔ live ρ j := fun j => by
    by_cases n : i = j
    · subst n
      unfold live
      rw [List.getElem?_set_self hl]
      exact ⟨fun _ => ⟨d, he⟩, fun _ => ⟨d', rfl⟩⟩
    · exact live_set_ne n
  have W : ∀ c, FT g H0 F0 ω true ρ σ c → FT g H0 F0 ω true (ρ.set i (some d')) σ c := fun c h => ⟨h.1, fun hb j hj l => h.2 hb j hj ((lv j).mp l)⟩
  have ne : ∀ c, FT g H0 F0 ω true ρ σ c → c ≠ a := fun c h z => h.2 rfl i hi ⟨d, he⟩ (by rw [z]; exact ha)
  have hk : ∀ c v, H c = some v → isTbl v = false → (isVar v = true → FT g H0 F0 ω true ρ σ c) → upd H a o c = some v := fun c v e _ f => by
    by_cases z : c = a
    · rw [z, qa] at e
      cases e
      exact absurd z (ne c (f nv))
    · rw [upd_ne z]; exact e
  have hsc : ∀ p, g.sc = some p → ScL g.K H p.1 (p.2.map V.int) → ScL g.K (upd H a o) p.1 (p.2.map V.int) := fun p hp h => by
    rcases h with ⟨o', h⟩ | h
    · exact .inl ⟨o', hk _ _ h rfl fun e => by cases e⟩
    · exact .inr h
  refine ⟨by simp [S.len], S.kp.mut q2 qa nv, S.wd.upd qa nv q3 q4, fun j e hj hj2 => ?_, fun j e hj hj2 => ?_, fun p hp => (S.held p hp).imp go hk hsc (fun c h _ => W c h) (fun c h => upd_ne fun z => h (by rw [z]; exact q2)), fun j1 j2 c h1 h2 l1 l2 e1 e2 => S.inj j1 j2 c h1 h2 ((lv _).mp l1) ((lv _).mp l2) e1 e2⟩
  · have n : i ≠ j := fun z => hj (by rw [← z]; exact hi)
    rw [List.getElem?_set_ne n] at hj2
    obtain ⟨v, h1, h2⟩ := S.val j e hj hj2
    exact ⟨v, h1, h2.imp hk hsc fun c h _ => W c h⟩
  · by_cases n : i = j
    · subst n
      rw [List.getElem?_set_self hl] at hj2
      cases hj2
      exact ⟨a, ha, q2, q3, q4, r.imp (fun _ _ h _ _ => h) (fun _ _ h => h) (fun c h _ => W c h) rfl⟩
    · rw [List.getElem?_set_ne n] at hj2
      obtain ⟨c, h1, h2, h3, h4, h5⟩ := S.own j e hj hj2
      have z : c ≠ a := fun z => n (S.inj i j a hi hj ⟨d, he⟩ ⟨e, hj2⟩ ha (by rw [← z]; exact h1))
      exact ⟨c, h1, h2, h3, h4, h5.imp hk hsc (fun c h _ => W c h) (upd_ne z)⟩
end

/-! ### targets -/
def DG (X : Cx) (g : G) (ω : List Nat) (tg : Expr) (vs : List Nat) (f : D → Env → Option Env) : Prop :=
  ∃ t : TG, PG X tg t ∧ ∀ H0 F0 κ ρ s σ H d v ρ' (Q : L2.St → Hp → Prop), Sim g H0 F0 ω κ ρ s σ H → Rep g (FT g H0 F0 ω true ρ σ) H d v → f d ρ = some ρ' → (∀ σ', Sim g H0 F0 ω κ ρ' s σ' H → σ'.length = σ.length → (∀ i, i ∉ vs → σ'[i]? = σ[i]?) → (∀ i, i ∉ vs → ρ'[i]? = ρ[i]?) → Q σ' H) → t v σ H Q
def DGs (X : Cx) (g : G) (ω : List Nat) (tgs : List Expr) (vs : List Nat) (f : List D → Env → Option Env) : Prop :=
  ∃ t : TGs, PGs X tgs t ∧ ∀ H0 F0 κ ρ s σ H ds us ρ' (Q : L2.St → Hp → Prop), Sim g H0 F0 ω κ ρ s σ H → Reps g (FT g H0 F0 ω true ρ σ) H ds us → f ds ρ = some ρ' → (∀ σ', Sim g H0 F0 ω κ ρ' s σ' H → σ'.length = σ.length → (∀ i, i ∉ vs → σ'[i]? = σ[i]?) → (∀ i, i ∉ vs → ρ'[i]? = ρ[i]?) → Q σ' H) → t us σ H Q
def tName (i : Nat) (d : D) (ρ : Env) : Option Env := if i < ρ.length then some (ρ.set i (some d)) else none
def tsNil (ds : List D) (ρ : Env) : Option Env := match ds with
  | [] => some ρ
  | _ => none
def tsCons (f : D → Env → Option Env) (h : List D → Env → Option Env) (ds : List D) (ρ : Env) : Option Env := match ds with
  | d :: ds => (f d ρ).bind fun ρ' => h ds ρ'
  | [] => none
def tSeq' (n : Nat) (h : List D → Env → Option Env) (d : D) (ρ : Env) : Option Env := match d.items with
  | some ds => if ds.length = n then h ds ρ else none
  | none => none
section
variable {X : Cx} {g : G} {ω : List Nat} {k : Nat} {E : XK}
theorem dg_name (bx : Bx X g k E) {i : Nat} {x : Str} {pos : Pos} (hw : i ∉ ω) (hi : X.N[i]? = some x) (hx : Loc X.env.scope x) (hf : X.fn x = true ∨ X.env.scope.names.lookup x = some .local := by first | exact .inl rfl | exact .inr rfl | assumption) : DG X g ω (.Name x pos) [i] (tName i) := by
  refine ⟨_, pg_name bx.nd hi hx hf, fun H0 F0 κ ρ s σ H d v ρ' Q S r e q => ?_⟩
  unfold tName at e
  split at e
  · rename_i hl
    cases e
    exact q _ (S.setVal bx.ok hw hl r) (by simp) (fun j hj => List.getElem?_set_ne (fun z => hj (by simp [z]))) (fun j hj => List.getElem?_set_ne (fun z => hj (by simp [z])))
  · cases e
theorem dgs_nil : DGs X g ω [] [] tsNil := by
  refine ⟨_, pgs_nil, fun H0 F0 κ ρ s σ H ds us ρ' Q S r e q => ?_⟩
  cases r with
  | nil =>
    cases e
    exact ⟨rfl, q σ S rfl (fun _ _ => rfl) fun _ _ => rfl⟩
  | cons r t => cases e
theorem dgs_cons (go : g.Ok) {e : Expr} {es : List Expr} {v vs : List Nat} {f : D → Env → Option Env} {h : List D → Env → Option Env} (h1 : DG X g ω e v f) (h2 : DGs X g ω es vs h) (hw : ∀ i ∈ v, i ∉ ω) (hs : (assignEach (e :: es) X.env).map (·.2) = assign e X.env :: (assignEach es X.env).map (·.2) := by rfl) :
    DGs X g ω (e :: es) (v ++ vs) (tsCons f h) := by
  obtain ⟨t, ht, hq⟩ := h1
  obtain ⟨ts, hts, hqs⟩ := h2
  refine ⟨_, pgs_cons ht hts hs, fun H0 F0 κ ρ s σ H ds us ρ' Q S r e q => ?_⟩
  cases r with
  | nil => cases e
  | @cons d u ds us r t =>
    simp only [tsCons] at e
    obtain ⟨ρ1, e1, e2⟩ := Option.bind_eq_some_iff.mp e
    refine ⟨u, us, rfl, hq H0 F0 κ ρ s σ H d u ρ1 _ S r e1 fun σ1 S1 l1 a1 b1 => ?_⟩
    have W : ∀ a, FT g H0 F0 ω true ρ σ a → H a ≠ none → FT g H0 F0 ω true ρ1 σ1 a := fun a h _ => ⟨h.1, fun hb j hj l => by
      have n : j ∉ v := fun z => hw j z hj
      rw [a1 j n]
      refine h.2 hb j hj ?_
      obtain ⟨x, e⟩ := l
      rw [b1 j n] at e
      exact ⟨x, e⟩⟩
    refine hqs H0 F0 κ ρ1 s σ1 H ds us ρ' Q S1 (t.weak W) e2 fun σ2 S2 l2 a2 b2 => ?_
    refine q σ2 S2 (l2.trans l1) (fun i hi => ?_) fun i hi => ?_
    · rw [a2 i (fun z => hi (List.mem_append_right _ z)), a1 i (fun z => hi (List.mem_append_left _ z))]
    · rw [b2 i (fun z => hi (List.mem_append_right _ z)), b1 i (fun z => hi (List.mem_append_left _ z))]
/-- (a, b, ..) = a tuple or a list of that length -/
def gSeq (K : PySem.W.Frag) (n : Nat) (t : TGs) : TG := fun v σ H Q => ∃ a xs, v = .ref a ∧ (SqL K H a xs ∨ SqT K H a xs) ∧ xs.length = n ∧ t xs σ H Q
theorem pg_seq {es : List Expr} {kk : Nat} {pos : Pos} {t : TGs} {n : Nat} (hc : X.calm = true) (h : PGs X es t)
    (hn : (assignEach es X.env).length = n := by rfl) (hst : (assignEach es X.env).findIdx? (·.1) = none := by rfl) : PG X (.Tuple es kk pos) (gSeq X.K n t) := by
  refine ⟨fun pins s σ H v u Q I r hw => ?_⟩
  obtain ⟨a, xs, e1, hq, hl, hw⟩ := hw
  rcases hq with hq | hq
  · exact (pg_lst (k := kk) (pos := pos) hc h hn hst).run pins s σ H v u Q I r ⟨a, xs, e1, hq, hl, hw⟩
  · exact (pg_tup (k := kk) (pos := pos) hc h hn hst).run pins s σ H v u Q I r ⟨a, xs, e1, hq, hl, hw⟩
theorem dg_tup (bx : Bx X g k E) {es : List Expr} {vs : List Nat} {kk n : Nat} {pos : Pos} {h : List D → Env → Option Env} (h1 : DGs X g ω es vs h) (hn : (assignEach es X.env).length = n := by rfl) (hst : (assignEach es X.env).findIdx? (·.1) = none := by rfl) :
    DG X g ω (.Tuple es kk pos) vs (tSeq' n h) := by
  obtain ⟨t, ht, hq⟩ := h1
  refine ⟨_, pg_seq bx.calm ht hn hst, fun H0 F0 κ ρ s σ H d v ρ' Q S r e q => ?_⟩
  unfold tSeq' at e
  cases e1 : d.items with
  | none => rw [e1] at e; cases e
  | some ds =>
    rw [e1] at e
    simp only at e
    split at e
    · rename_i hl
      obtain ⟨a, us, rfl, hs, rs⟩ := r.itemsInv e1
      rw [bx.K] at hs
      exact ⟨a, us, rfl, hs, by rw [← rs.length]; exact hl, hq H0 F0 κ ρ s σ H ds us ρ' Q S rs e q⟩
    · cases e
end
end VS

/-! VS8: what is walked; comprehensions. -/
namespace VS
open PySem PySem.Spec PyProof.Rows L2

/-- the items of a walk, while HP holds of the heap -/
def WalkOk (g : G) (J : It) (ds : List D) (HP : (Addr → Prop) → Hp → Prop) : Prop :=
  ∃ Gd Y, Walk J ds.length Gd Y ∧ ∀ F : Addr → Prop, (∀ a, F a → g.nd a) → (∀ H, HP F H → Gd H) ∧ ∀ H i x H', i < ds.length → HP F H → Y i H x H' → ∃ d, ds[i]? = some d ∧ Kp g H H' ∧ (∀ s, Wd g s H → Wd g s H') ∧ Rep g F H' d x
theorem walkOk_list {g : G} {a : Addr} {vs : List V} {ds : List D} {HP : (Addr → Prop) → Hp → Prop} (hl : ds.length = vs.length) (h : ∀ F H, HP F H → SqL g.K H a vs ∧ Reps g F H ds vs) : WalkOk g (Itl g.K a) ds HP := by
  refine ⟨_, _, by rw [hl]; exact walk_list (xs := vs), fun F hF => ⟨fun H q => (h F H q).1, fun H i x H' hi q y => ?_⟩⟩
  obtain ⟨e1, e2⟩ := y
  subst e1
  obtain ⟨d, h1, h2⟩ := (h F _ q).2.getV e2
  exact ⟨d, h1, Kp.refl g _, fun _ w => w, h2⟩
theorem walkOk_tup {g : G} {a : Addr} {vs : List V} {ds : List D} {HP : (Addr → Prop) → Hp → Prop} (hl : ds.length = vs.length) (h : ∀ F H, HP F H → SqT g.K H a vs ∧ Reps g F H ds vs) : WalkOk g (Itt g.K a) ds HP := by
  refine ⟨_, _, by rw [hl]; exact walk_tup (xs := vs), fun F hF => ⟨fun H q => (h F H q).1, fun H i x H' hi q y => ?_⟩⟩
  obtain ⟨e1, e2⟩ := y
  subst e1
  obtain ⟨d, h1, h2⟩ := (h F _ q).2.getV e2
  exact ⟨d, h1, Kp.refl g _, fun _ w => w, h2⟩
theorem rep_pair {g : G} {F : Addr → Prop} {H : Hp} {T : Addr} {x y : V} {d e : D} (go : g.Ok) (hF : ∀ a, F a → g.nd a) (hT : H T = none) (r1 : Rep g F H d x) (r2 : Rep g F H e y) : Rep g F (upd H T (.tup [x, y])) (.tup [d, e]) (.ref T) := by
  have k := Kp.new (g := g) (o := .tup [x, y]) hT
  exact .tup (.inl (.inl upd_same)) (.cons (r1.kp go k fun a h _ => ⟨h, hF a h⟩) (.cons (r2.kp go k fun a h _ => ⟨h, hF a h⟩) .nil))
def enumD (ds : List D) : List D := (List.range ds.length).zipWith (fun i d => D.tup [.int (i : Nat), d]) ds
theorem enumD_get {ds : List D} {i : Nat} {d : D} (h : ds[i]? = some d) : (enumD ds)[i]? = some (.tup [.int (i : Nat), d]) := by
  have hi : i < ds.length := (List.getElem?_eq_some_iff.mp h).1
  unfold enumD
  rw [List.getElem?_zipWith, h, List.getElem?_range hi]
theorem enumD_len (ds : List D) : (enumD ds).length = ds.length := by simp [enumD]
theorem walkOk_enum {g : G} {a : Addr} {vs : List V} {ds : List D} {HP : (Addr → Prop) → Hp → Prop} (go : g.Ok) (hl : ds.length = vs.length) (h : ∀ F H, HP F H → SqL g.K H a vs ∧ Reps g F H ds vs) : WalkOk g (Ite g.K a) (enumD ds) HP := by
  refine ⟨_, _, by rw [enumD_len, hl]; exact walk_enum (xs := vs), fun F hF => ⟨fun H q => (h F H q).1, fun H i x H' hi q y => ?_⟩⟩
  obtain ⟨T, x1, y1, rfl, hT, rfl, e1, e2⟩ := y
  cases e1
  obtain ⟨d, h1, h2⟩ := (h F _ q).2.getV e2
  exact ⟨_, enumD_get h1, Kp.new hT, fun _ w => w.new hT, rep_pair go hF hT (.int _) h2⟩
def zipD (ds es : List D) : List D := ds.zipWith (fun d e => D.tup [d, e]) es
theorem walkOk_zip {g : G} {a c : Addr} {vs us : List V} {ds es : List D} {HP : (Addr → Prop) → Hp → Prop} (go : g.Ok) (hl : ds.length = vs.length) (hl2 : es.length = us.length) (h : ∀ F H, HP F H → (SqL g.K H a vs ∧ SqL g.K H c us) ∧ Reps g F H ds vs ∧ Reps g F H es us) : WalkOk g (Itz g.K a c) (zipD ds es) HP := by
  have el : (zipD ds es).length = min vs.length us.length := by simp [zipD, hl, hl2]
  refine ⟨_, _, by rw [el]; exact walk_zip (xs := vs) (ys := us) rfl, fun F hF => ⟨fun H q => (h F H q).1, fun H i x H' hi q y => ?_⟩⟩
  obtain ⟨T, x1, y1, rfl, hT, rfl, e1, e2⟩ := y
  obtain ⟨d, h1, h2⟩ := (h F _ q).2.1.getV e1
  obtain ⟨e, h3, h4⟩ := (h F _ q).2.2.getV e2
  exact ⟨.tup [d, e], by unfold zipD; rw [List.getElem?_zipWith, h1, h3], Kp.new hT, fun _ w => w.new hT, rep_pair go hF hT h2 h4⟩
def rangeD (lo : Int) (n : Nat) : List D := (List.range n).map fun i => D.int (lo + (i : Nat))
theorem walkOk_range {g : G} {lo : Int} {n : Nat} {HP : (Addr → Prop) → Hp → Prop} : WalkOk g (Itr lo n) (rangeD lo n) HP := by
  refine ⟨_, _, by unfold rangeD; rw [List.length_map, List.length_range]; exact walk_range, fun F hF => ⟨fun _ _ => trivial, fun H i x H' hi q y => ?_⟩⟩
  obtain ⟨rfl, rfl⟩ := y
  unfold rangeD at hi ⊢
  rw [List.length_map, List.length_range] at hi
  exact ⟨_, by rw [List.getElem?_map, List.getElem?_range hi]; rfl, Kp.refl g _, fun _ w => w, .int _⟩

/-! ### a list or a tuple walked -/
def iSeq (K : PySem.W.Frag) (tl : TE) : TI := fun σ H R => tl σ H fun x H1 => ∃ a, x = .ref a ∧ (((∃ xs, SqL K H1 a xs) ∧ R (Itl K a) H1) ∨ ((∃ xs, SqT K H1 a xs) ∧ R (Itt K a) H1))
theorem pi_seq {X : Cx} {tg l : Expr} {tl : TE} (hl : PE X l tl) : PI X tg l (iSeq X.K tl) := by
  refine ⟨fun pins s σ H R I h => ?_⟩
  refine thn (hl.run pins s σ H _ I h) fun v s1 ⟨x, H1, I1, r1, q1⟩ => ?_
  obtain ⟨a, e, q1⟩ := q1
  subst e
  cases r1
  rcases q1 with ⟨⟨xs, hq⟩, q⟩ | ⟨⟨xs, hq⟩, q⟩
  · obtain ⟨its, rv, p, hz⟩ := I1.list hq
    refine wpAny_pyIter_list p.isList ?_
    refine ⟨s1.heap.objs.size, [s1.heap.objs.size], _, _, H1, rfl, I1.kept (t' := s1.toks) fun b o e => Heap.get?_push_of_some _ e, turn_list a _, ⟨_, Heap.get?_push_size _ rfl, rfl, rfl⟩, fun b hb => ?_, q⟩
    have e : b = s1.heap.objs.size := by simpa using hb
    subst e
    exact I1.fpOk (Nat.le_refl _) (I1.hok.fresh (Nat.le_refl _))
  · obtain ⟨its, rv, p, hz⟩ := I1.tuple hq
    refine wpAny_pyIter_tuple (show s1.heap.IsTuple a its.toArray from p) ?_
    refine ⟨s1.heap.objs.size, [s1.heap.objs.size], _, _, H1, rfl, I1.kept (t' := s1.toks) fun b o e => Heap.get?_push_of_some _ e, turn_tuple a _, ⟨_, Heap.get?_push_size _ rfl, rfl, rfl⟩, fun b hb => ?_, q⟩
    have e : b = s1.heap.objs.size := by simpa using hb
    subst e
    exact I1.fpOk (Nat.le_refl _) (I1.hok.fresh (Nat.le_refl _))

/-! ### sources of a comprehension: nothing changes but by calls -/
def PostC (g : G) (E : XK) (H0 : Hp) (F0 : Addr → Prop) (ω : List Nat) (κ : List Held) (ρ : Env) (σ : L2.St) (H : Hp) (R : It → Hp → Prop) : Except Er (List D) × DS → Prop
  | (.ok ds, s') => ∀ J H' (HP : (Addr → Prop) → Hp → Prop), Kp g H H' → Sim g H0 F0 ω κ ρ s' σ H' → HP (FT g H0 F0 ω true ρ σ) H' → (∀ F F' H1 H2, HP F H1 → Kp g H1 H2 → (∀ a, F a → H1 a ≠ none → F' a ∧ g.nd a) → HP F' H2) → WalkOk g J ds HP → R J H'
  | (.error e, s') => ErrK g E H0 s' e
def DC (X : Cx) (g : G) (E : XK) (ω : List Nat) (tg iter : Expr) (m : Env → M (List D)) : Prop :=
  ∃ wi : TI, PI X tg iter wi ∧ ∀ H0 F0 κ ρ s σ H R r, Sim g H0 F0 ω κ ρ s σ H → m ρ s = some r → PostC g E H0 F0 ω κ ρ σ H R r → wi σ H R
def eItems (m : Env → M D) : Env → M (List D) := fun ρ => (m ρ).bind fun d => M.ofO d.items
section
variable {X : Cx} {g : G} {E : XK} {ω : List Nat} {b b' : Bool} {k : Nat}
theorem dc_seq (bx : Bx X g k E) {tg e : Expr} {m : Env → M D} (h : DI X g E ω e m) : DC X g E ω tg e (eItems m) := by
  obtain ⟨t, ht, hq⟩ := h
  refine ⟨_, pi_seq ht, fun H0 F0 κ ρ s σ H R r S hm hp => ?_⟩
  rcases M.bind_some hm with ⟨e, s1, e1, rfl⟩ | ⟨d, s1, e1, e2⟩
  · exact hq H0 F0 κ ρ s σ H _ _ S e1 hp
  refine hq H0 F0 κ ρ s σ H _ _ S e1 fun a vs ds H1 hi k1 S1 sq r1 => ?_
  obtain ⟨ds', e3, rfl⟩ := M.ofO_some e2
  rw [hi] at e3
  cases e3
  have up : ∀ (F F' : Addr → Prop) H1 H2, (SeqD g H1 d a vs ∧ Reps g F H1 ds vs) → Kp g H1 H2 → (∀ a, F a → H1 a ≠ none → F' a ∧ g.nd a) → SeqD g H2 d a vs ∧ Reps g F' H2 ds vs := fun F F' H1 H2 h k w => ⟨h.1.kp k, h.2.kp bx.ok k w⟩
  refine ⟨a, rfl, ?_⟩
  rw [← bx.K]
  cases d <;> first | exact sq.elim | skip
  · exact .inr ⟨⟨vs, sq⟩, hp _ H1 (fun F H => SeqD g H _ a vs ∧ Reps g F H ds vs) k1 S1 ⟨sq, r1⟩ up (walkOk_tup r1.length fun F H q => ⟨q.1, q.2⟩)⟩
  · exact .inl ⟨⟨vs, .inl (.inl sq.2)⟩, hp _ H1 (fun F H => SeqD g H _ a vs ∧ Reps g F H ds vs) k1 S1 ⟨sq, r1⟩ up (walkOk_list r1.length fun F H q => ⟨.inl (.inl q.1.2), q.2⟩)⟩
def eEnum (m : Env → M D) : Env → M (List D) := fun ρ => (m ρ).bind fun d => match d with
  | .lst ds => M.ok (enumD ds)
  | _ => M.stuck
theorem dc_enum (bx : Bx X g k E) {e : Expr} {elts : List Expr} {kk : Nat} {p pos tpos : Pos} {m : Env → M D} (hg : Gl X "enumerate") (hm : X.mg "enumerate" = none) (h : DI X g E ω e m) (hs : starEach [e] X.env = [(false, eval e X.env)] := by rfl) (hs2 : starEach [e] X.env = (false, eval e X.env) :: starEach [] X.env := by rfl) :
    DC X g E ω (.Tuple elts kk tpos) (.Call (.Name "enumerate" p) [e] [] pos) (eEnum m) := by
  obtain ⟨t, ht, hq⟩ := h
  refine ⟨_, pi_enum hg hm (pa_cons ht pa_nil hs2) hs, fun H0 F0 κ ρ s σ H R r S hm hp => ?_⟩
  rcases M.bind_some hm with ⟨e, s1, e1, rfl⟩ | ⟨d, s1, e1, e2⟩
  · exact hq H0 F0 κ ρ s σ H _ _ S e1 hp
  refine hq H0 F0 κ ρ s σ H _ _ S e1 fun a vs ds H1 hi k1 S1 sq r1 => ?_
  cases d <;> first | (cases e2; done) | skip
  cases e2
  cases hi
  have up : ∀ (F F' : Addr → Prop) H1 H2, (SeqD g H1 (.lst ds) a vs ∧ Reps g F H1 ds vs) → Kp g H1 H2 → (∀ a, F a → H1 a ≠ none → F' a ∧ g.nd a) → SeqD g H2 (.lst ds) a vs ∧ Reps g F' H2 ds vs := fun F F' H1 H2 h k w => ⟨h.1.kp k, h.2.kp bx.ok k w⟩
  refine ⟨a, vs, rfl, .inl (.inl sq.2), ?_⟩
  rw [← bx.K]
  exact hp _ H1 (fun F H => SeqD g H (.lst ds) a vs ∧ Reps g F H ds vs) k1 S1 ⟨sq, r1⟩ up (walkOk_enum bx.ok r1.length fun F H q => ⟨.inl (.inl q.1.2), q.2⟩)
def eRange1 (m : Env → M (List D)) : Env → M (List D) := fun ρ => (m ρ).bind fun xs => match xs with
  | [.int j] => if -(2 ^ 62) ≤ j ∧ j < 2 ^ 62 then M.ok (rangeD 0 j.toNat) else M.stuck
  | _ => M.stuck
def eRange2 (m : Env → M (List D)) : Env → M (List D) := fun ρ => (m ρ).bind fun xs => match xs with
  | [.int i, .int j] => if -(2 ^ 62) ≤ i ∧ i < 2 ^ 62 ∧ -(2 ^ 62) ≤ j ∧ j < 2 ^ 62 then M.ok (rangeD i (j - i).toNat) else M.stuck
  | _ => M.stuck
theorem dc_range1 {tg a : Expr} {p pos : Pos} {m : Env → M (List D)} (hg : Gl X "range") (hm : X.mg "range" = none) (h : DA X g E ω false [a] m) (hs : starEach [a] X.env = [(false, eval a X.env)] := by rfl) : DC X g E ω tg (.Call (.Name "range" p) [a] [] pos) (eRange1 m) := by
  obtain ⟨t, ht, hq⟩ := h
  refine ⟨_, pi_range1 hg hm ht hs, fun H0 F0 κ ρ s σ H R r S hm hp => ?_⟩
  rcases M.bind_some hm with ⟨e, s1, e1, rfl⟩ | ⟨d, s1, e1, e2⟩
  · exact hq H0 F0 κ ρ s σ H _ _ S e1 hp
  refine hq H0 F0 κ ρ s σ H _ _ S e1 fun vs H1 k1 S1 r1 => ?_
  split at e2
  · rename_i j
    split at e2
    · rename_i hj
      cases e2
      obtain ⟨v, rfl, r2⟩ := reps1 r1
      cases r2
      exact ⟨j, rfl, hj.1, hj.2, hp _ H1 (fun _ _ => True) k1 S1 trivial (fun _ _ _ _ h _ _ => h) walkOk_range⟩
    · cases e2
  · cases e2
theorem dc_range2 {tg a c : Expr} {p pos : Pos} {m : Env → M (List D)} (hg : Gl X "range") (hm : X.mg "range" = none) (h : DA X g E ω false [a, c] m) (hs : starEach [a, c] X.env = [(false, eval a X.env), (false, eval c X.env)] := by rfl) (hs2 : starEach [c] X.env = [(false, eval c X.env)] := by rfl) : DC X g E ω tg (.Call (.Name "range" p) [a, c] [] pos) (eRange2 m) := by
  obtain ⟨t, ht, hq⟩ := h
  refine ⟨_, pi_range2 hg hm ht hs hs2, fun H0 F0 κ ρ s σ H R r S hm hp => ?_⟩
  rcases M.bind_some hm with ⟨e, s1, e1, rfl⟩ | ⟨d, s1, e1, e2⟩
  · exact hq H0 F0 κ ρ s σ H _ _ S e1 hp
  refine hq H0 F0 κ ρ s σ H _ _ S e1 fun vs H1 k1 S1 r1 => ?_
  split at e2
  · rename_i i j
    split at e2
    · rename_i hj
      cases e2
      obtain ⟨v, u, rfl, r2, r3⟩ := reps2 r1
      cases r2
      cases r3
      exact ⟨i, j, rfl, hj, hp _ H1 (fun _ _ => True) k1 S1 trivial (fun _ _ _ _ h _ _ => h) walkOk_range⟩
    · cases e2
  · cases e2
/-! ### the comprehension -/
def noEr {α : Type} (m : M α) : M α := fun s => match m s with
  | some (.ok a, s') => some (.ok a, s')
  | _ => none
theorem noEr_some {α : Type} {m : M α} {s : DS} {r : Except Er α × DS} (h : noEr m s = some r) : ∃ a s', r = (.ok a, s') ∧ m s = some (.ok a, s') := by
  unfold noEr at h
  split at h
  · rename_i a s' e
    cases h
    exact ⟨a, s', rfl, e⟩
  · cases h
def wipeD (ρ : Env) : List Nat → Env
  | [] => ρ
  | v :: vs => (wipeD ρ vs).set v none
def cYes : Env → M Bool := fun _ => M.ok true
/-- the items made, from the left -/
def mComp (ρ : Env) (f : D → Env → Option Env) (c : Env → M Bool) (e : Env → M D) : List D → M (List D)
  | [] => M.ok []
  | d :: ds => match f d ρ with
    | none => M.stuck
    | some ρ' => (noEr (c ρ')).bind fun kk => if kk = true then (noEr (e ρ')).bind fun y => (mComp ρ f c e ds).bind fun ys => M.ok (y :: ys) else mComp ρ f c e ds
def eComp (own : List Nat) (it : Env → M (List D)) (f : D → Env → Option Env) (c : Env → M Bool) (e : Env → M D) : Env → M D := fun ρ => (it ρ).bind fun ds => if ds.length < sizeLine then (mComp (wipeD ρ own) f c e ds).bind fun ys => M.ok (.lst ys) else M.stuck
end
section
variable {g : G} {H0 H H' : Hp} {F0 : Addr → Prop} {ω : List Nat} {κ : List Held} {ρ : Env} {s s' : DS} {σ : L2.St} {b : Bool}
theorem Sim.clear2 (S : Sim g H0 F0 ω κ ρ s σ H) {i : Nat} (hi : i ∉ ω) : Sim g H0 F0 ω κ (ρ.set i none) s (σ.set i none) H := by
  have S1 := S.clear i
  have W : ∀ a, FT g H0 F0 ω true (ρ.set i none) σ a → H a ≠ none → FT g H0 F0 ω true (ρ.set i none) (σ.set i none) a := fun a h _ => ⟨h.1, fun hb j hj l => by
    have n : i ≠ j := fun z => hi (by rw [z]; exact hj)
    rw [List.getElem?_set_ne n]
    exact h.2 hb j hj l⟩
  have nl : ∀ {j : Nat} {e : D}, (ρ.set i none)[j]? = some (some e) → i ≠ j := fun {j e} he n => by
    subst n
    by_cases hl : i < ρ.length
    · rw [List.getElem?_set_self hl] at he; cases he
    · rw [List.getElem?_eq_none (by simpa using hl)] at he; cases he
  refine ⟨by simp [S.len], S.kp, S.wd, fun j e hj he => ?_, fun j e hj he => ?_, fun p hp => ?_, fun j1 j2 a h1 h2 l1 l2 e1 e2 => ?_⟩
  · obtain ⟨u, q1, q2⟩ := S1.val j e hj he
    exact ⟨u, by rw [List.getElem?_set_ne (nl he)]; exact q1, q2.weak W⟩
  · obtain ⟨a, q1, q2, q3, q4, q5⟩ := S1.own j e hj he
    exact ⟨a, by rw [List.getElem?_set_ne (nl he)]; exact q1, q2, q3, q4, q5.imp (fun _ _ h _ _ => h) (fun _ _ h => h) W rfl⟩
  · exact (S1.held p hp).weak W
  · have n1 : i ≠ j1 := fun z => hi (by rw [z]; exact h1)
    have n2 : i ≠ j2 := fun z => hi (by rw [z]; exact h2)
    rw [List.getElem?_set_ne n1] at e1
    rw [List.getElem?_set_ne n2] at e2
    exact S1.inj j1 j2 a h1 h2 l1 l2 e1 e2
theorem Sim.wipe (S : Sim g H0 F0 ω κ ρ s σ H) : ∀ vs : List Nat, (∀ i ∈ vs, i ∉ ω) → Sim g H0 F0 ω κ (wipeD ρ vs) s (L2.wipe σ vs) H
  | [], _ => S
  | v :: vs, h => (S.wipe vs fun i hi => h i (List.mem_cons_of_mem _ hi)).clear2 (h v List.mem_cons_self)
theorem wipeD_out {i : Nat} : ∀ {vs : List Nat}, i ∉ vs → (wipeD ρ vs)[i]? = ρ[i]?
  | [], _ => rfl
  | v :: vs, h => by
    unfold wipeD
    rw [List.getElem?_set_ne (fun z => h (by simp [z])), wipeD_out fun z => h (List.mem_cons_of_mem _ z)]
theorem FT.wipe {vs : List Nat} (h : ∀ i ∈ vs, i ∉ ω) {a : Addr} : FT g H0 F0 ω b (wipeD ρ vs) (L2.wipe σ vs) a ↔ FT g H0 F0 ω b ρ σ a := by
  have n : ∀ {j}, j ∈ ω → j ∉ vs := fun hj z => h _ z hj
  unfold FT
  refine and_congr Iff.rfl ⟨fun q hb j hj l => ?_, fun q hb j hj l => ?_⟩
  · have := q hb j hj (by unfold live; rw [wipeD_out (n hj)]; exact l)
    rw [wipe_out (n hj)] at this
    exact this
  · rw [wipe_out (n hj)]
    refine q hb j hj ?_
    unfold live at l
    rw [wipeD_out (n hj)] at l
    exact l
/-- slots that agree but at vs -/
theorem wipe_eq {σ' : L2.St} (hl : σ'.length = σ.length) {vs : List Nat} (h : ∀ i, i ∉ vs → σ'[i]? = σ[i]?) : L2.wipe σ' vs = L2.wipe σ vs := by
  refine List.ext_getElem? fun i => ?_
  by_cases hi : i ∈ vs
  · have z : ∀ {τ : L2.St} {vs : List Nat}, i ∈ vs → (L2.wipe τ vs)[i]? = if i < τ.length then some none else none := by
      intro τ vs hi
      induction vs with
      | nil => cases hi
      | cons v vs ih =>
        unfold L2.wipe
        by_cases e : v = i
        · subst e
          by_cases hv : v < τ.length
          · rw [if_pos hv, List.getElem?_set_self (by rw [wipe_length]; exact hv)]
          · rw [if_neg hv, List.getElem?_eq_none (by rw [List.length_set, wipe_length]; omega)]
        · rw [List.getElem?_set_ne e]
          exact ih ((List.mem_cons.mp hi).resolve_left fun z => e z.symm)
    rw [z hi, z hi, hl]
  · rw [wipe_out hi, wipe_out hi, h i hi]
theorem wipe_wipe {vs : List Nat} : L2.wipe (L2.wipe σ vs) vs = L2.wipe σ vs := wipe_eq (wipe_length σ vs) fun i hi => wipe_out hi
end
end VS

/-! VS9: comprehensions. -/
namespace VS
open PySem PySem.Spec PyProof.Rows L2

/-! ### the readings, the same wherever the code stands -/
def tE (g : G) (E : XK) (ω : List Nat) (b : Bool) (m : Env → M D) : TE := fun σ H Q => ∃ H0 F0 κ ρ s r, Sim g H0 F0 ω κ ρ s σ H ∧ m ρ s = some r ∧ PostE g E H0 F0 ω b κ ρ σ H Q r
def tT (g : G) (E : XK) (ω : List Nat) (m : Env → M Bool) : TT := fun σ H Q => ∃ H0 F0 κ ρ s r, Sim g H0 F0 ω κ ρ s σ H ∧ m ρ s = some r ∧ PostT g E H0 F0 ω κ ρ σ H Q r
def tGt (g : G) (ω vs : List Nat) (f : D → Env → Option Env) : TG := fun v σ H Q => ∃ H0 F0 κ ρ s d ρ', Sim g H0 F0 ω κ ρ s σ H ∧ Rep g (FT g H0 F0 ω true ρ σ) H d v ∧ f d ρ = some ρ' ∧ (∀ σ', Sim g H0 F0 ω κ ρ' s σ' H → σ'.length = σ.length → (∀ i, i ∉ vs → σ'[i]? = σ[i]?) → (∀ i, i ∉ vs → ρ'[i]? = ρ[i]?) → Q σ' H)
section
variable {X : Cx} {g : G} {E : XK} {ω vs : List Nat} {b : Bool} {k : Nat}
theorem DE.pe {e : Expr} {m : Env → M D} (h : DE X g E ω b e m) : PE X e (tE g E ω b m) := by
  obtain ⟨t, ht, hq⟩ := h
  refine ⟨fun pins s σ H Q I q => ht.run pins s σ H Q I ?_⟩
  obtain ⟨H0, F0, κ, ρ, s', r, S, hm, hp⟩ := q
  exact hq H0 F0 κ ρ s' σ H Q r S hm hp
theorem DT.pt {e : Expr} {m : Env → M Bool} (h : DT X g E ω e m) : PT X e (tT g E ω m) := by
  obtain ⟨t, ht, hq⟩ := h
  refine ⟨fun pins s σ H Q I q => ht.run pins s σ H Q I ?_⟩
  obtain ⟨H0, F0, κ, ρ, s', r, S, hm, hp⟩ := q
  exact hq H0 F0 κ ρ s' σ H Q r S hm hp
theorem DG.pg {e : Expr} {f : D → Env → Option Env} (h : DG X g ω e vs f) : PG X e (tGt g ω vs f) := by
  obtain ⟨t, ht, hq⟩ := h
  refine ⟨fun pins s σ H v u Q I r q => ht.run pins s σ H v u Q I r ?_⟩
  obtain ⟨H0, F0, κ, ρ, s', d, ρ', S, r', hm, hp⟩ := q
  exact hq H0 F0 κ ρ s' σ H d v ρ' Q S r' hm hp
/-- the ifs of a comprehension -/
def DTs (X : Cx) (g : G) (E : XK) (ω : List Nat) (ifs : List Expr) (m : Env → M Bool) : Prop := PTs X ifs (tT g E ω m)
theorem dts_nil : DTs X g E ω [] cYes := by
  refine ⟨fun pins s σ H Q I q => pts_nil.run pins s σ H Q I ?_⟩
  obtain ⟨H0, F0, κ, ρ, s', r, S, hm, hp⟩ := q
  cases hm
  exact hp H (Kp.refl g H) S
theorem dts_one {e : Expr} {m : Env → M Bool} (h : DT X g E ω e m) : DTs X g E ω [e] m := pts_one h.pt

/-- a place is hidden: the state as a block sees it -/
theorem Sim.hide {H0 H1 : Hp} {F0 : Addr → Prop} {κ : List Held} {ρ : Env} {s s' : DS} {σ : L2.St} {p : Addr} (go : g.Ok) (S : Sim g H0 F0 ω κ ρ s σ H1) (hp : H1 p = none) {H : Hp} (k : Kp g H1 H) (hH : H p ≠ none) (w : Wd g s' H) :
    Sim g (upd H0 p (.tbl #[])) (fun a => F0 a ∧ a ≠ p) ω κ ρ s' σ H := by
  have h0 := S.kp.free hp
  have W : ∀ a, FT g H0 F0 ω true ρ σ a → H1 a ≠ none → FT g (upd H0 p (.tbl #[])) (fun a => F0 a ∧ a ≠ p) ω true ρ σ a ∧ g.nd a := fun a h n => by
    have z : a ≠ p := fun z => n (by rw [z]; exact hp)
    refine ⟨⟨⟨?_, h.1.2⟩, h.2⟩, h.1.2⟩
    rcases h.1.1 with q | q | q
    · exact .inl ⟨q, z⟩
    · exact .inr (.inl (by rw [upd_ne z]; exact q))
    · exact .inr (.inr q)
  have hb : ∀ a, H0 a ≠ none → upd H0 p (.tbl #[]) a ≠ none := fun a n => by
    rw [upd_ne (fun z => n (by rw [z]; exact h0))]
    exact n
  refine ⟨S.len, ⟨fun a u e t f => ?_, fun a e => ?_, fun _ => w.tb⟩, w, fun i d hi e => ?_, fun i d hi e => ?_, fun q hq => ((S.held q hq).kp go k W).base hb, S.inj⟩
  · by_cases z : a = p
    · rw [z, upd_same] at e
      cases e
      cases t
    · rw [upd_ne z] at e
      exact k.keep a u (S.kp.keep a u e t f) t f
  · by_cases z : a = p
    · rw [z]; exact hH
    · rw [upd_ne z] at e
      exact k.there a (S.kp.there a e)
  · obtain ⟨v, h1, h2⟩ := S.val i d hi e
    exact ⟨v, h1, h2.kp go k W⟩
  · obtain ⟨a, h1, h2, h3, h4, h5⟩ := S.own i d hi e
    obtain ⟨u, q, nv⟩ := h5.there
    have z : a ≠ p := fun z => by rw [z, hp] at q; cases q
    refine ⟨a, h1, by rw [upd_ne z]; exact h2, h3, h4, ?_⟩
    have r1 : RootAt g (fun a => FT g H0 F0 ω true ρ σ a ∧ H1 a ≠ none) H1 d a := h5.imp (fun _ _ h _ _ => h) (fun _ _ h => h) (fun a h n => ⟨h, n⟩) rfl
    exact r1.imp (fun a o h t f => k.keep a o h t fun e => (f e).1.1.2) (sc_keep k) (fun a h _ => (W a h.1 h.2).1) ((k.keep _ _ q (by cases u <;> first | rfl | cases nv) fun _ => h3).trans q.symm)
theorem FT.unhide {H0 : Hp} {F0 : Addr → Prop} {ρ : Env} {σ : L2.St} {p a : Addr} (nc : ¬ g.isC p) (h : FT g (upd H0 p (.tbl #[])) (fun a => F0 a ∧ a ≠ p) ω b ρ σ a) : FT g H0 F0 ω b ρ σ a ∧ a ≠ p := by
  have z : a ≠ p := fun z => by
    rcases h.1.1 with q | q | q
    · exact q.2 z
    · rw [z, upd_same] at q; cases q
    · exact nc (by rw [← z]; exact q)
  refine ⟨⟨⟨?_, h.1.2⟩, h.2⟩, z⟩
  rcases h.1.1 with q | q | q
  · exact .inl q.1
  · rw [upd_ne z] at q; exact .inr (.inl q)
  · exact .inr (.inr q)

theorem mComp_noE {ρ : Env} {f : D → Env → Option Env} {c : Env → M Bool} {me : Env → M D} : ∀ (l : List D) (s : DS) (e : Er) (s' : DS), ¬ mComp ρ f c me l s = some (.error e, s') := by
  intro l
  induction l with
  | nil => intro s e s' h; cases h
  | cons d l ih =>
    intro s e s' h
    unfold mComp at h
    cases ef : f d ρ with
    | none => rw [ef] at h; cases h
    | some ρ' =>
      rw [ef] at h
      simp only at h
      rcases M.bind_some h with ⟨e', s1, h1, _⟩ | ⟨kk, s1, h1, h2⟩
      · obtain ⟨_, _, h', _⟩ := noEr_some h1; cases h'
      · cases kk with
        | true =>
          rw [if_pos rfl] at h2
          rcases M.bind_some h2 with ⟨e', s2, h3, _⟩ | ⟨y, s2, h3, h4⟩
          · obtain ⟨_, _, h', _⟩ := noEr_some h3; cases h'
          · rcases M.bind_some h4 with ⟨e', s3, h5, _⟩ | ⟨ys, s3, h5, h6⟩
            · exact ih _ _ _ h5
            · cases h6
        | false =>
          rw [if_neg Bool.false_ne_true] at h2
          exact ih _ _ _ h2
theorem comp_rd (bx : Bx X g k E) {own vs : List Nat} {wi : TI} {mi : Env → M (List D)} {f : D → Env → Option Env} {c : Env → M Bool} {me : Env → M D}
    (hi : ∀ H0 F0 κ ρ s σ H R r, Sim g H0 F0 ω κ ρ s σ H → mi ρ s = some r → PostC g E H0 F0 ω κ ρ σ H R r → wi σ H R) (hw : ∀ i ∈ own, i ∉ ω) (hvs : ∀ i ∈ vs, i ∈ own)
    {H0 : Hp} {F0 : Addr → Prop} {κ : List Held} {ρ : Env} {s : DS} {σ : L2.St} {H : Hp} {Q : VK} {r : Except Er D × DS} (S : Sim g H0 F0 ω κ ρ s σ H) (hm : eComp own mi f c me ρ s = some r) (hp : PostR g E H0 F0 ω κ ρ σ H Q r) :
    tLc wi (tGt g ω vs f) (tT g E0 ω c) (tE g E0 ω true me) own σ H Q := by
  rcases M.bind_some hm with ⟨e, s1, e1, rfl⟩ | ⟨ds, s1, e1, e2⟩
  · exact hi H0 F0 κ ρ s σ H _ _ S e1 hp
  by_cases hlen : ds.length < sizeLine
  case neg => rw [if_neg hlen] at e2; cases e2
  rw [if_pos hlen] at e2
  refine hi H0 F0 κ ρ s σ H _ _ S e1 fun J H1 HP k1 S1 hHP hup hwalk => ?_
  intro Dp hDp
  have hFn : ∀ a, (FT g H0 F0 ω true ρ σ a ∧ a ≠ Dp) → g.nd a := fun a h => h.1.1.2
  obtain ⟨Gd, Y, wk, hwk⟩ := hwalk
  obtain ⟨hGd, hY⟩ := hwk (fun a => FT g H0 F0 ω true ρ σ a ∧ a ≠ Dp) hFn
  obtain ⟨nD, nC⟩ := S1.wd.newNe hDp
  have Sw := S1.wipe own hw
  have atH : ∀ Hb, Kp g H1 Hb → HP (fun a => FT g H0 F0 ω true ρ σ a ∧ a ≠ Dp) Hb := fun Hb k => hup _ _ H1 Hb hHP k fun a h n => ⟨⟨h, fun z => n (by rw [z]; exact hDp)⟩, h.1.2⟩
  -- what was hidden is good
  have unh : ∀ (ρ2 : Env) (σ2 : L2.St), (∀ j, j ∉ own → σ2[j]? = (wipe σ own)[j]?) → (∀ j, j ∉ own → ρ2[j]? = (wipeD ρ own)[j]?) → ∀ a, FT g (upd H0 Dp (.tbl #[])) (fun a => F0 a ∧ a ≠ Dp) ω true ρ2 σ2 a → FT g H0 F0 ω true ρ σ a ∧ a ≠ Dp := fun ρ2 σ2 h1 h2 a h => by
    obtain ⟨q1, q2⟩ := h.unhide nC
    refine ⟨(FT.wipe hw).mp ⟨q1.1, fun hb j hj l => ?_⟩, q2⟩
    have n : j ∉ own := fun z => hw j z hj
    rw [← h1 j n]
    refine q1.2 hb j hj ?_
    unfold live at l ⊢
    rw [h2 j n]
    exact l
  refine lc_it wk (fun i Hi => ∃ accV accD s', Hi Dp = some (.lst accV) ∧ Reps g (fun a => FT g H0 F0 ω true ρ σ a ∧ a ≠ Dp) Hi accD accV ∧ accD.length ≤ i ∧ Kp g H1 Hi ∧ Wd g s' Hi ∧
      ∃ rest s2, mComp (wipeD ρ own) f c me (ds.drop i) s' = some (.ok rest, s2) ∧ r = (.ok (.lst (accD ++ rest)), s2)) ?_ (fun i Hi _ ⟨_, _, _, _, _, _, kp, _⟩ => hGd Hi (atH Hi kp)) ?_ ?_
  · -- the start
    rcases M.bind_some e2 with ⟨e, s2, e3, _⟩ | ⟨ys, s2, e3, e4⟩
    · exact absurd e3 (mComp_noE _ _ _ _)
    · cases e4
      exact ⟨[], [], s1, upd_same, .nil, Nat.zero_le _, Kp.new hDp, S1.wd.new hDp, ys, s2, by rw [List.drop_zero]; exact e3, rfl⟩
  · -- a turn
    rintro i x Hi Hi' hlt ⟨accV, accD, s', hD, rA, hl, kp, w, rest, s2, hrun, hr⟩ y
    obtain ⟨d, hd, kY, wY, rd⟩ := hY Hi i x Hi' hlt (atH Hi kp) y
    have hdrop : ds.drop i = d :: ds.drop (i + 1) := by
      obtain ⟨h1, h2⟩ := List.getElem?_eq_some_iff.mp hd
      rw [← h2]
      exact List.drop_eq_getElem_cons h1
    rw [hdrop] at hrun
    unfold mComp at hrun
    cases ef : f d (wipeD ρ own) with
    | none => rw [ef] at hrun; cases hrun
    | some ρ' =>
      rw [ef] at hrun
      simp only at hrun
      have kI := kp.trans kY
      have hDi' : Hi' Dp = some (.lst accV) := kY.keep _ _ hD rfl fun _ => nD
      have Sh := Sw.hide bx.ok hDp kI (by rw [hDi']; exact fun z => by cases z) (wY _ w)
      have rdF : Rep g (FT g (upd H0 Dp (.tbl #[])) (fun a => F0 a ∧ a ≠ Dp) ω true (wipeD ρ own) (wipe σ own)) Hi' d x := rd.weak fun a h _ => by
        have h1 := (FT.wipe (σ := σ) (ρ := ρ) hw).mpr h.1
        refine ⟨⟨?_, h1.1.2⟩, h1.2⟩
        rcases h1.1.1 with q | q | q
        · exact .inl ⟨q, h.2⟩
        · exact .inr (.inl (by rw [upd_ne h.2]; exact q))
        · exact .inr (.inr q)
      refine ⟨_, _, κ, wipeD ρ own, s', d, ρ', Sh, rdF, ef, fun σ2 S2 l2 a2 b2 => ⟨?_, ?_⟩⟩
      · exact (wipe_eq (by rw [l2]) (fun j hj => a2 j fun z => hj (hvs j z))).trans wipe_wipe
      · have a2' : ∀ j, j ∉ own → σ2[j]? = (wipe σ own)[j]? := fun j hj => a2 j fun z => hj (hvs j z)
        have b2' : ∀ j, j ∉ own → ρ'[j]? = (wipeD ρ own)[j]? := fun j hj => b2 j fun z => hj (hvs j z)
        rcases M.bind_some hrun with ⟨e, s3, h1, h'⟩ | ⟨kk, s3, h1, h2⟩
        · cases h'
        obtain ⟨kk', s3', h', h1'⟩ := noEr_some h1
        cases h'
        refine ⟨_, _, κ, ρ', s', _, S2, h1', fun H3 k3 S3 => ?_⟩
        cases kk with
        | false =>
          rw [if_neg Bool.false_ne_true] at h2 ⊢
          have kA := kY.trans k3
          exact ⟨accV, accD, s3, k3.keep _ _ hDi' rfl fun _ => nD, rA.kp bx.ok kA fun a h _ => ⟨h, hFn a h⟩, by omega, kI.trans k3, S3.wd, rest, s2, h2, hr⟩
        | true =>
          rw [if_pos rfl] at h2 ⊢
          rcases M.bind_some h2 with ⟨e, s4, h3, h'⟩ | ⟨yd, s4, h3, h4⟩
          · cases h'
          obtain ⟨yd', s4', h', h3'⟩ := noEr_some h3
          cases h'
          refine ⟨_, _, κ, ρ', s3, _, S3, h3', fun yv H4 k4 S4 ry => ?_⟩
          have kA := (kY.trans k3).trans k4
          have hD4 : H4 Dp = some (.lst accV) := k4.keep _ _ (k3.keep _ _ hDi' rfl fun _ => nD) rfl fun _ => nD
          have rA4 := rA.kp bx.ok kA (F' := fun a => FT g H0 F0 ω true ρ σ a ∧ a ≠ Dp) fun a h _ => ⟨h, hFn a h⟩
          have ry4 : Rep g (fun a => FT g H0 F0 ω true ρ σ a ∧ a ≠ Dp) H4 yd yv := ry.weak fun a h _ => unh ρ' σ2 a2' b2' a h
          rcases M.bind_some h4 with ⟨e, s5, h5, h'⟩ | ⟨ys, s5, h5, h6⟩
          · cases h'
          cases h6
          have k4' : Kp g H1 H4 := kp.trans kA
          have kM := k4'.mut hDp hD4 rfl (o := .lst (accV ++ [yv]))
          have wM := S4.wd.upd (o := .lst (accV ++ [yv])) hD4 rfl nD nC
          have hkM : ∀ a o, H4 a = some o → isTbl o = false → (isVar o = true → (FT g H0 F0 ω true ρ σ a ∧ a ≠ Dp)) → upd H4 Dp (.lst (accV ++ [yv])) a = some o := fun a o e _ f => by
            by_cases z : a = Dp
            · rw [z, hD4] at e
              cases e
              exact absurd z (f rfl).2
            · rw [upd_ne z]; exact e
          have hsM : ∀ p, g.sc = some p → ScL g.K H4 p.1 (p.2.map V.int) → ScL g.K (upd H4 Dp (.lst (accV ++ [yv]))) p.1 (p.2.map V.int) := fun p hp h => by
            rcases h with ⟨o, h⟩ | h
            · exact .inl ⟨o, hkM _ _ h rfl fun e => by cases e⟩
            · exact .inr h
          refine ⟨accV, hD4, ?_, accV ++ [yv], accD ++ [yd], s4, upd_same, ?_, by simp; omega, kM, wM, ys, _, h5, by rw [hr]; simp⟩
          · have e1 := rA.length
            have e2 : i < ds.length := hlt
            omega
          · exact (rA4.imp hkM hsM fun a h _ => h).append (.cons (ry4.imp hkM hsM fun a h _ => h) .nil)
  · -- the end
    rintro Hn ⟨accV, accD, s', hD, rA, hl, kp, w, rest, s2, hrun, hr⟩
    rw [List.drop_length] at hrun
    cases hrun
    rw [List.append_nil] at hr
    subst hr
    exact hp Dp Hn (k1.trans kp) w (k1.free hDp) ⟨accV, hD, rA⟩
/-- [elt for tg in iter if ..] -/
structure CompOk (X : Cx) (g : G) (E : XK) (ω : List Nat) (elt tg iter : Expr) (ifs : List Expr) (scope : Scope) (own : List (Str × Nat)) (mi : Env → M (List D)) (f : D → Env → Option Env) (c : Env → M Bool) (me : Env → M D) (vs : List Nat) : Prop where
  it : DC X g E ω tg iter mi
  ok : BlkOk X.N X.env.scope scope own
  hw : ∀ i ∈ own.map (·.2), i ∉ ω
  hvs : ∀ i ∈ vs, i ∈ own.map (·.2)
  tg : ∀ (s : Shared) (H : Hp) (C : Addr) (cl : List (Str × Addr)) (fp : List Addr), DG (X.blk s H scope (compEnvC scope cl C X.env) fp) g ω tg vs f
  ifs : ∀ (s : Shared) (H : Hp) (C : Addr) (cl : List (Str × Addr)) (fp : List Addr), DTs (X.blk s H scope (compEnvC scope cl C X.env) fp) g E0 ω ifs c
  el : ∀ (s : Shared) (H : Hp) (C : Addr) (cl : List (Str × Addr)) (fp : List Addr), DE (X.blk s H scope (compEnvC scope cl C X.env) fp) g E0 ω true elt me
theorem dr_comp (bx : Bx X g k E) {elt tg iter : Expr} {ifs : List Expr} {scope : Scope} {own : List (Str × Nat)} {pos : Pos} {mi : Env → M (List D)} {f : D → Env → Option Env} {c : Env → M Bool} {me : Env → M D}
    (C : CompOk X g E ω elt tg iter ifs scope own mi f c me vs) (hs : ∀ x, foldedSetIterable iter X.env x = pure x := by intro _; rfl) :
    DR X g E ω (.ListComp elt [⟨tg, iter, ifs, 0⟩] scope pos) (eComp (own.map (·.2)) mi f c me) := by
  obtain ⟨wi, hwi, hi⟩ := C.it
  exact ⟨_, pe_lc bx.calm bx.nd hwi C.ok (fun s H c cl fp => (C.tg s H c cl fp).pg) (fun s H c cl fp => C.ifs s H c cl fp) (fun s H c cl fp => (C.el s H c cl fp).pe) hs,
    fun H0 F0 κ ρ s σ H Q r S hm hp => comp_rd bx hi C.hw C.hvs S hm hp⟩
/-- the block's own conditions -/
theorem Bx.blk (bx : Bx X g k E) {scope : Scope} (s : Shared) (H : Hp) (C : Addr) (cl : List (Str × Addr)) (fp : List Addr) : Bx (X.blk s H scope (compEnvC scope cl C X.env) fp) g k E0 :=
  ⟨bx.K, bx.ok, bx.calm, bx.nd, bx.room, passL⟩
end
end VS

/-! VS10: statements. -/
namespace VS
open PySem PySem.Spec PyProof.Rows L2

/-! ### meanings -/
def sAsg (f : D → Env → Option Env) (e : Env → M D) : Env → M Out := fun ρ => (e ρ).bind fun d => match f d ρ with
  | some ρ' => M.ok (.nx ρ')
  | none => M.stuck
def sDrop (e : Env → M D) : Env → M Out := fun ρ => (e ρ).bind fun _ => M.ok (.nx ρ)
def sRet (e : Env → M D) : Env → M Out := fun ρ => (e ρ).bind fun d => M.ok (.rt d)
def sIf (c : Env → M Bool) (a b : Env → M Out) : Env → M Out := fun ρ => (c ρ).bind fun k => if k = true then a ρ else b ρ
def sNil : Env → M Out := fun ρ => M.ok (.nx ρ)
def sBrk : Env → M Out := fun ρ => M.ok (.bk ρ)
def sCnt : Env → M Out := fun ρ => M.ok (.ct ρ)
def sCons (a b : Env → M Out) : Env → M Out := fun ρ => (a ρ).bind fun o => match o with
  | .nx ρ' => b ρ'
  | o => M.ok o
def sRaise (c : Nat) : Env → M Out := fun _ => M.er (c, none)
/-- a for over the items -/
def mFor (f : D → Env → Option Env) (body : Env → M Out) : List D → Env → M Out
  | [], ρ => M.ok (.nx ρ)
  | d :: ds, ρ => match f d ρ with
    | none => M.stuck
    | some ρ' => (body ρ').bind fun o => match o with
      | .nx ρ2 => mFor f body ds ρ2
      | .ct ρ2 => mFor f body ds ρ2
      | .bk ρ2 => M.ok (.nx ρ2)
      | .rt d => M.ok (.rt d)
def sFor (f : D → Env → Option Env) (it : Env → M (List D)) (body : Env → M Out) : Env → M Out := fun ρ => (it ρ).bind fun ds => mFor f body ds ρ
/-- a while, n turns at most -/
def mWhile (c : Env → M Bool) (body : Env → M Out) : Nat → Env → M Out
  | 0, _ => M.stuck
  | n + 1, ρ => (c ρ).bind fun k => if k = true then (body ρ).bind fun o => match o with
      | .nx ρ2 => mWhile c body n ρ2
      | .ct ρ2 => mWhile c body n ρ2
      | .bk ρ2 => M.ok (.nx ρ2)
      | .rt d => M.ok (.rt d)
    else M.ok (.nx ρ)
/-- a while: the answer of as many turns as it takes -/
noncomputable def sWhile (c : Env → M Bool) (body : Env → M Out) : Env → M Out := fun ρ s => by
  classical
  exact if h : ∃ n r, mWhile c body n ρ s = some r then mWhile c body (Classical.choose h) ρ s else none

section
variable {X : Cx} {g : G} {E : XK} {ω : List Nat} {b : Bool} {k : Nat}

/-! ### blocks -/
theorem dss_nil : DSs X g E ω [] sNil := by
  refine ⟨_, pss_nil, fun H0 F0 κ ρ s σ H N r S hm hp => ?_⟩
  cases hm
  exact hp σ H S
theorem dss_cons {st : Stmt} {sts : List Stmt} {m ms : Env → M Out} (h : DSt X g E ω st m) (hs : DSs X g E ω sts ms) : DSs X g E ω (st :: sts) (sCons m ms) := by
  obtain ⟨t, ht, hq⟩ := h
  obtain ⟨ts, hts, hqs⟩ := hs
  refine ⟨_, pss_cons ht hts, fun H0 F0 κ ρ s σ H N r S hm hp => ?_⟩
  rcases M.bind_some hm with ⟨e, s1, e1, rfl⟩ | ⟨o, s1, e1, e2⟩
  · exact hq H0 F0 κ ρ s σ H { N with nx := ts N } _ S e1 hp
  · refine hq H0 F0 κ ρ s σ H { N with nx := ts N } _ S e1 ?_
    cases o with
    | nx ρ' => exact fun σ' H' S' => hqs H0 F0 κ ρ' s1 σ' H' N r S' e2 hp
    | rt d => cases e2; exact hp
    | bk ρ' => cases e2; exact hp
    | ct ρ' => cases e2; exact hp
theorem dss_one {st : Stmt} {m : Env → M Out} (h : DSt X g E ω st m) : DSs X g E ω [st] m := by
  obtain ⟨t, ht, hq⟩ := h
  exact ⟨t, pss_one ht, hq⟩
theorem ds_pass {pos : Pos} : DSt X g E ω (.Pass pos) sNil := by
  refine ⟨_, ps_pass, fun H0 F0 κ ρ s σ H N r S hm hp => ?_⟩
  cases hm
  exact hp σ H S
theorem ds_break {pos : Pos} : DSt X g E ω (.Break pos) sBrk := by
  refine ⟨_, ps_break, fun H0 F0 κ ρ s σ H N r S hm hp => ?_⟩
  cases hm
  exact hp σ H S
theorem ds_expr {e : Expr} {m : Env → M D} {pos : Pos} (h : DE X g E ω false e m) (hs : swapsWith e none pos.line X.env = pure false := by rfl) : DSt X g E ω (.Expr e pos) (sDrop m) := by
  obtain ⟨t, ht, hq⟩ := h
  refine ⟨_, ps_expr ht hs, fun H0 F0 κ ρ s σ H N r S hm hp => ?_⟩
  rcases M.bind_some hm with ⟨e, s1, e1, rfl⟩ | ⟨d, s1, e1, e2⟩
  · exact hq H0 F0 κ ρ s σ H _ _ S e1 hp
  · cases e2
    exact hq H0 F0 κ ρ s σ H _ _ S e1 fun v H' _ S' _ => hp σ H' S'
theorem ds_ret {e : Expr} {m : Env → M D} {pos : Pos} (h : DE X g E ω false e m) : DSt X g E ω (.Return (some e) pos) (sRet m) := by
  obtain ⟨t, ht, hq⟩ := h
  refine ⟨_, ps_ret ht, fun H0 F0 κ ρ s σ H N r S hm hp => ?_⟩
  rcases M.bind_some hm with ⟨e, s1, e1, rfl⟩ | ⟨d, s1, e1, e2⟩
  · exact hq H0 F0 κ ρ s σ H _ _ S e1 hp
  · cases e2
    exact hq H0 F0 κ ρ s σ H _ _ S e1 fun v H' _ S' r' => hp v H' S'.kp S'.wd r'.toFB
theorem ds_if {c : Expr} {a d : List Stmt} {mc : Env → M Bool} {ma md : Env → M Out} {pos : Pos} (hc : DT X g E ω c mc) (ha : DSs X g E ω a ma) (hd : DSs X g E ω d md) : DSt X g E ω (.If c a d pos) (sIf mc ma md) := by
  obtain ⟨t, ht, hq⟩ := hc
  obtain ⟨ta, hta, hqa⟩ := ha
  obtain ⟨td, htd, hqd⟩ := hd
  refine ⟨_, ps_if ht hta htd, fun H0 F0 κ ρ s σ H N r S hm hp => ?_⟩
  rcases M.bind_some hm with ⟨e, s1, e1, rfl⟩ | ⟨kk, s1, e1, e2⟩
  · exact hq H0 F0 κ ρ s σ H _ _ S e1 hp
  · refine hq H0 F0 κ ρ s σ H _ _ S e1 fun H' _ S' => ?_
    cases kk with
    | true => exact hqa H0 F0 κ ρ s1 σ H' N r S' e2 hp
    | false => exact hqd H0 F0 κ ρ s1 σ H' N r S' e2 hp

/-! ### assignments -/
theorem ds_asg {tg e : Expr} {vs : List Nat} {f : D → Env → Option Env} {m : Env → M D} {pos : Pos} (h : DE X g E ω true e m) (hg : DG X g ω tg vs f) (hs : swapsWithSole [tg] e pos.line X.env = pure false := by rfl) (hw : swappedStores [tg] e X.env = pure none := by rfl)
    (h1 : (assignEach [tg] X.env).map (·.2) = [assign tg X.env] := by rfl) : DSt X g E ω (.Assign [tg] e pos) (sAsg f m) := by
  obtain ⟨t, ht, hq⟩ := h
  obtain ⟨tt, htt, hqt⟩ := hg
  refine ⟨_, ps_asg ht htt hs hw h1, fun H0 F0 κ ρ s σ H N r S hm hp => ?_⟩
  rcases M.bind_some hm with ⟨e, s1, e1, rfl⟩ | ⟨d, s1, e1, e2⟩
  · exact hq H0 F0 κ ρ s σ H _ _ S e1 hp
  · refine hq H0 F0 κ ρ s σ H _ _ S e1 fun v H' _ S' r' => ?_
    cases ef : f d ρ with
    | none => rw [ef] at e2; cases e2
    | some ρ' =>
      rw [ef] at e2
      cases e2
      exact hqt H0 F0 κ ρ s1 σ H' d v ρ' N.nx S' r' ef fun σ' S2 _ _ _ => hp σ' H' S2
/-- a new list or dict into a slot that the body changes -/
theorem own_tail (bx : Bx X g k E) {i : Nat} {m : Env → M D} {t : TE} (hi : i ∈ ω)
    (hq : ∀ H0 F0 κ ρ s σ H Q r, Sim g H0 F0 ω κ ρ s σ H → m ρ s = some r → PostR g E H0 F0 ω κ ρ σ H Q r → t σ H Q)
    {H0 : Hp} {F0 : Addr → Prop} {κ : List Held} {ρ : Env} {s : DS} {σ : L2.St} {H : Hp} {N : Ends} {r : Except Er Out × DS} (S : Sim g H0 F0 ω κ ρ s σ H) (hm : sAsg (tName i) m ρ s = some r) (hp : PostS g E H0 F0 ω κ N r) : tAsg t (gName i) N σ H := by
  rcases M.bind_some hm with ⟨e, s1, e1, rfl⟩ | ⟨d, s1, e1, e2⟩
  · exact hq H0 F0 κ ρ s σ H _ _ S e1 hp
  · refine hq H0 F0 κ ρ s σ H _ _ S e1 fun a H' kp w hn r' => ?_
    unfold tName at e2
    by_cases hl : i < ρ.length
    · rw [if_pos hl] at e2
      cases e2
      exact hp _ H' (S.setOwn bx.ok hi hl kp w hn r')
    · rw [if_neg hl] at e2
      cases e2
theorem ds_own (bx : Bx X g k E) {i : Nat} {x : Str} {e : Expr} {m : Env → M D} {pos pos' : Pos} (hi : i ∈ ω) (hN : X.N[i]? = some x) (hx : Loc X.env.scope x) (h : DR X g E ω e m) (hs : swapsWith e (some (.Name x pos')) pos.line X.env = pure false := by rfl) (hf : X.fn x = true ∨ X.env.scope.names.lookup x = some .local := by first | exact .inl rfl | exact .inr rfl | assumption) :
    DSt X g E ω (.Assign [.Name x pos'] e pos) (sAsg (tName i) m) := by
  obtain ⟨t, ht, hq⟩ := h
  exact ⟨_, ps_set bx.nd hN hx ht hs hf, fun H0 F0 κ ρ s σ H N r S hm hp => own_tail bx hi hq S hm hp⟩
/-- the same of a comprehension on one line -/
theorem ds_comp (bx : Bx X g k E) {i : Nat} {y : Str} {py : Pos} {elt tg iter : Expr} {ifs : List Expr} {scope : Scope} {own : List (Str × Nat)} {pos spos : Pos} {mi : Env → M (List D)} {f : D → Env → Option Env} {c : Env → M Bool} {me : Env → M D} {vs : List Nat}
    (hN : X.N[i]? = some y) (hyl : X.env.scope.names.lookup y = some .local) (hsw : swapsWith (.ListComp elt [⟨tg, iter, ifs, 0⟩] scope pos) (some (.Name y py)) spos.line X.env = pure true)
    (C : CompOk X g E ω elt tg iter ifs scope own mi f c me vs) (hs : ∀ x, foldedSetIterable iter X.env x = pure x := by intro _; rfl) :
    DSt X g E ω (.Assign [.Name y py] (.ListComp elt [⟨tg, iter, ifs, 0⟩] scope pos) spos) (sAsg (tName i) (eComp (own.map (·.2)) mi f c me)) := by
  obtain ⟨wi, hwi, hi⟩ := C.it
  refine ⟨_, ps_setLc bx.calm bx.nd hN hyl hsw hwi C.ok (fun s H c cl fp => (C.tg s H c cl fp).pg) (fun s H c cl fp => C.ifs s H c cl fp) (fun s H c cl fp => (C.el s H c cl fp).pe) hs, fun H0 F0 κ ρ s σ H N r S hm hp => ?_⟩
  by_cases hiω : i ∈ ω
  · exact own_tail bx hiω (fun H0 F0 κ ρ s σ H Q r S hm hp => comp_rd bx hi C.hw C.hvs S hm hp) S hm hp
  · rcases M.bind_some hm with ⟨e, s1, e1, rfl⟩ | ⟨d, s1, e1, e2⟩
    · exact comp_rd bx hi C.hw C.hvs S e1 hp
    · refine comp_rd bx hi C.hw C.hvs S e1 fun a H' kp w hn r' => ?_
      unfold tName at e2
      by_cases hl : i < ρ.length
      · rw [if_pos hl] at e2
        cases e2
        have S' := S.kpTo bx.ok kp w
        exact hp _ H' (S'.setVal bx.ok hiω hl (r'.rep (fun c h _ => h.1) (S.newFT hn).1))
      · rw [if_neg hl] at e2
        cases e2
/-- line = later: a list handed on, the name's own forgotten -/
def sMove (i j : Nat) : Env → M Out := fun ρ => match ρ[j]?.getD none with
  | some d => if i < ρ.length ∧ i ≠ j then M.ok (.nx ((ρ.set j none).set i (some d))) else M.stuck
  | none => M.stuck
theorem ds_move (bx : Bx X g k E) {i j : Nat} {x y : Str} {p1 p2 pos : Pos} (hi : i ∉ ω) (hj : j ∈ ω) (hN : X.N[i]? = some x) (hx : Loc X.env.scope x) (hNj : X.N[j]? = some y) (hv : Vis X.env.scope y)
    (hs : swapsWith (.Name y p2) (some (.Name x p1)) pos.line X.env = pure false := by rfl) (hf : X.fn x = true ∨ X.env.scope.names.lookup x = some .local := by first | exact .inl rfl | exact .inr rfl | assumption) (hd : (y == ("__debug__" : Str)) = false := by decide) (hcd : (y == ("__classdict__" : Str)) = false := by decide) :
    DSt X g E ω (.Assign [.Name x p1] (.Name y p2) pos) (sMove i j) := by
  refine ⟨_, ps_set bx.nd hN hx (pe_var hNj hv hd hcd) hs hf, fun H0 F0 κ ρ s σ H N r S hm hp => ?_⟩
  unfold sMove at hm
  cases e : ρ[j]?.getD none with
  | none => rw [e] at hm; cases hm
  | some d =>
    rw [e] at hm
    simp only at hm
    have e' : ρ[j]? = some (some d) := by
      cases q : ρ[j]? with
      | none => rw [q] at e; cases e
      | some o => rw [q] at e; exact congrArg some e
    by_cases hl : i < ρ.length ∧ i ≠ j
    · rw [if_pos hl] at hm
      cases hm
      obtain ⟨a, h1, h2, h3, h4, h5⟩ := S.own j d hj e'
      refine ⟨_, h1, ?_⟩
      have S1 := S.clear j
      refine hp _ H (S1.setVal bx.ok hi (by simpa using hl.1) (h5.rep (fun c h _ => ⟨h.1, fun hb i' hi' l => ?_⟩) ⟨⟨.inr (.inl h2), h3⟩, fun _ i' hi' l z => ?_⟩))
      · refine h.2 hb i' hi' ?_
        obtain ⟨x, q⟩ := l
        by_cases n : j = i'
        · subst n
          exact ⟨d, e'⟩
        · rw [List.getElem?_set_ne n] at q
          exact ⟨x, q⟩
      · obtain ⟨x, q⟩ := l
        by_cases n : j = i'
        · subst n
          by_cases hj2 : j < ρ.length
          · rw [List.getElem?_set_self hj2] at q; cases q
          · rw [List.getElem?_eq_none (by simpa using hj2)] at q; cases q
        · rw [List.getElem?_set_ne n] at q
          exact n (S.inj j i' a hj hi' ⟨d, e'⟩ ⟨x, q⟩ h1 z)
    · rw [if_neg hl] at hm
      cases hm
end
end VS

/-! VS11: loops; several stores at once; methods; raise. -/
namespace VS
open PySem PySem.Spec PyProof.Rows L2

/-- the conditions of a def's own body -/
structure Fx (X : Cx) (g : G) (k : Nat) (E : XK) : Prop where
  bx : Bx X g k E
  po : PassesOwn (model X.prog X.w) X.A X.env X.xe
  tk : Takes X fun cls d _ H => E cls d H

/-! ### sources of a for -/
def PostF (g : G) (E : XK) (H0 : Hp) (F0 : Addr → Prop) (ω : List Nat) (κ : List Held) (ρ : Env) (σ : L2.St) (H : Hp) (R : It → Hp → Prop) : Except Er (List D) × DS → Prop
  | (.ok ds, s') => ∀ J H' (κ' : List Held), Kp g H H' → Sim g H0 F0 ω κ ρ s' σ H' → (∀ p, p ∈ κ' → HeldOk g H0 (FT g H0 F0 ω true ρ σ) H' p) → WalkOk g J ds (fun F H => ∃ Hx, ∀ p, p ∈ κ' → HeldOk g Hx F H p) → R J H'
  | (.error e, s') => ErrK g E H0 s' e
def DF (X : Cx) (g : G) (E : XK) (ω : List Nat) (tg iter : Expr) (m : Env → M (List D)) : Prop :=
  ∃ wi : TI, PI X tg iter wi ∧ ∀ H0 F0 κ ρ s σ H R r, Sim g H0 F0 ω κ ρ s σ H → m ρ s = some r → PostF g E H0 F0 ω κ ρ σ H R r → wi σ H R
def heldVals (ds : List D) (vs : List V) : List Held := ds.zipWith Held.val vs
theorem heldVals_of {g : G} {Hx : Hp} {F : Addr → Prop} {H : Hp} : ∀ {ds : List D} {vs : List V}, Reps g F H ds vs → ∀ p, p ∈ heldVals ds vs → HeldOk g Hx F H p
  | _, _, .nil, p, h => by cases h
  | _, _, .cons r t, p, h => by
    rcases List.mem_cons.mp h with rfl | h
    · exact r
    · exact heldVals_of t p h
theorem reps_of_held {g : G} {Hx : Hp} {F : Addr → Prop} {H : Hp} : ∀ {ds : List D} {vs : List V}, ds.length = vs.length → (∀ p, p ∈ heldVals ds vs → HeldOk g Hx F H p) → Reps g F H ds vs
  | [], [], _, _ => .nil
  | [], _ :: _, e, _ => by simp at e
  | _ :: _, [], e, _ => by simp at e
  | d :: ds, v :: vs, e, h => .cons (h (.val d v) List.mem_cons_self) (reps_of_held (by simpa using e) fun p hp => h p (List.mem_cons_of_mem _ hp))
section
variable {X : Cx} {g : G} {E : XK} {ω : List Nat} {b : Bool} {k : Nat}
theorem Rep.held {F : Addr → Prop} {H : Hp} {d : D} {ds : List D} {v : V} (Hx : Hp) (r : Rep g F H d v) (e : d.items = some ds) : ∃ a vs h0, v = .ref a ∧ ds.length = vs.length ∧ Reps g F H ds vs ∧ HeldOk g Hx F H h0 ∧ ((d = .lst ds ∧ h0 = .seq a vs) ∨ (d = .tup ds ∧ h0 = .tup a vs)) := by
  cases r with
  | lst f h r => cases e; exact ⟨_, _, .seq _ _, rfl, r.length, r, ⟨f, h⟩, .inl ⟨rfl, rfl⟩⟩
  | tup h r => cases e; exact ⟨_, _, .tup _ _, rfl, r.length, r, h, .inr ⟨rfl, rfl⟩⟩
  | _ => cases e
theorem df_seq (bx : Bx X g k E) {tg e : Expr} {m : Env → M D} (h : DE X g E ω true e m) : DF X g E ω tg e (eItems m) := by
  obtain ⟨t, ht, hq⟩ := h
  refine ⟨_, pi_seq ht, fun H0 F0 κ ρ s σ H R r S hm hp => ?_⟩
  rcases M.bind_some hm with ⟨e, s1, e1, rfl⟩ | ⟨d, s1, e1, e2⟩
  · exact hq H0 F0 κ ρ s σ H _ _ S e1 hp
  refine hq H0 F0 κ ρ s σ H _ _ S e1 fun v H1 k1 S1 r1 => ?_
  obtain ⟨ds, e3, rfl⟩ := M.ofO_some e2
  obtain ⟨a, vs, h0, rfl, hl, rs, hh, hcase⟩ := r1.held H0 e3
  refine ⟨a, rfl, ?_⟩
  rw [← bx.K]
  have hκ : ∀ p, p ∈ h0 :: heldVals ds vs → HeldOk g H0 (FT g H0 F0 ω true ρ σ) H1 p := fun p hp => by
    rcases List.mem_cons.mp hp with rfl | hp
    · exact hh
    · exact heldVals_of rs p hp
  have rr : ∀ F Hx H, (∀ p, p ∈ h0 :: heldVals ds vs → HeldOk g Hx F H p) → Reps g F H ds vs := fun F Hx H h => reps_of_held hl fun p hp => h p (List.mem_cons_of_mem _ hp)
  rcases hcase with ⟨rfl, rfl⟩ | ⟨rfl, rfl⟩
  · exact .inl ⟨⟨vs, .inl (.inl hh.2)⟩, hp _ H1 _ k1 S1 hκ (walkOk_list hl fun F H ⟨Hx, q⟩ => ⟨.inl (.inl (q (.seq a vs) List.mem_cons_self).2), rr F Hx H q⟩)⟩
  · exact .inr ⟨⟨vs, hh⟩, hp _ H1 _ k1 S1 hκ (walkOk_tup hl fun F H ⟨Hx, q⟩ => ⟨q (.tup a vs) List.mem_cons_self, rr F Hx H q⟩)⟩
theorem df_enum (bx : Bx X g k E) {e : Expr} {elts : List Expr} {kk : Nat} {p pos tpos : Pos} {m : Env → M D} (hg : Gl X "enumerate") (hm : X.mg "enumerate" = none) (h : DE X g E ω true e m) (hs : starEach [e] X.env = [(false, eval e X.env)] := by rfl) (hs2 : starEach [e] X.env = (false, eval e X.env) :: starEach [] X.env := by rfl) :
    DF X g E ω (.Tuple elts kk tpos) (.Call (.Name "enumerate" p) [e] [] pos) (eEnum m) := by
  obtain ⟨t, ht, hq⟩ := h
  refine ⟨_, pi_enum hg hm (pa_cons ht pa_nil hs2) hs, fun H0 F0 κ ρ s σ H R r S hm hp => ?_⟩
  rcases M.bind_some hm with ⟨e, s1, e1, rfl⟩ | ⟨d, s1, e1, e2⟩
  · exact hq H0 F0 κ ρ s σ H _ _ S e1 hp
  refine hq H0 F0 κ ρ s σ H _ _ S e1 fun v H1 k1 S1 r1 => ?_
  cases d <;> first | (cases e2; done) | skip
  rename_i ds
  cases e2
  obtain ⟨a, vs, rfl, f, ha, rs⟩ := r1.lstInv
  have hl := rs.length
  refine ⟨a, vs, rfl, .inl (.inl ha), ?_⟩
  rw [← bx.K]
  refine hp _ H1 (.seq a vs :: heldVals ds vs) k1 S1 (fun p hp => ?_) (walkOk_enum bx.ok hl fun F H ⟨Hx, q⟩ => ⟨.inl (.inl (q (.seq a vs) List.mem_cons_self).2), reps_of_held (Hx := Hx) hl fun p hp => q p (List.mem_cons_of_mem _ hp)⟩)
  rcases List.mem_cons.mp hp with rfl | hp
  · exact ⟨f, ha⟩
  · exact heldVals_of rs p hp
theorem df_range1 {tg a : Expr} {p pos : Pos} {m : Env → M (List D)} (hg : Gl X "range") (hm : X.mg "range" = none) (h : DA X g E ω false [a] m) (hs : starEach [a] X.env = [(false, eval a X.env)] := by rfl) : DF X g E ω tg (.Call (.Name "range" p) [a] [] pos) (eRange1 m) := by
  obtain ⟨t, ht, hq⟩ := h
  refine ⟨_, pi_range1 hg hm ht hs, fun H0 F0 κ ρ s σ H R r S hm hp => ?_⟩
  rcases M.bind_some hm with ⟨e, s1, e1, rfl⟩ | ⟨d, s1, e1, e2⟩
  · exact hq H0 F0 κ ρ s σ H _ _ S e1 hp
  refine hq H0 F0 κ ρ s σ H _ _ S e1 fun vs H1 k1 S1 r1 => ?_
  split at e2
  · rename_i j
    split at e2
    · rename_i hj
      cases e2
      obtain ⟨v, rfl, r2⟩ := reps1 r1
      cases r2
      exact ⟨j, rfl, hj.1, hj.2, hp _ H1 [] k1 S1 (fun p h => by cases h) walkOk_range⟩
    · cases e2
  · cases e2
theorem df_range2 {tg a c : Expr} {p pos : Pos} {m : Env → M (List D)} (hg : Gl X "range") (hm : X.mg "range" = none) (h : DA X g E ω false [a, c] m) (hs : starEach [a, c] X.env = [(false, eval a X.env), (false, eval c X.env)] := by rfl) (hs2 : starEach [c] X.env = [(false, eval c X.env)] := by rfl) : DF X g E ω tg (.Call (.Name "range" p) [a, c] [] pos) (eRange2 m) := by
  obtain ⟨t, ht, hq⟩ := h
  refine ⟨_, pi_range2 hg hm ht hs hs2, fun H0 F0 κ ρ s σ H R r S hm hp => ?_⟩
  rcases M.bind_some hm with ⟨e, s1, e1, rfl⟩ | ⟨d, s1, e1, e2⟩
  · exact hq H0 F0 κ ρ s σ H _ _ S e1 hp
  refine hq H0 F0 κ ρ s σ H _ _ S e1 fun vs H1 k1 S1 r1 => ?_
  split at e2
  · rename_i i j
    split at e2
    · rename_i hj
      cases e2
      obtain ⟨v, u, rfl, r2, r3⟩ := reps2 r1
      cases r2
      cases r3
      exact ⟨i, j, rfl, hj, hp _ H1 [] k1 S1 (fun p h => by cases h) walkOk_range⟩
    · cases e2
  · cases e2
theorem Sim.hold {H0 : Hp} {F0 : Addr → Prop} {κ κ' : List Held} {ρ : Env} {s : DS} {σ : L2.St} {H : Hp} (S : Sim g H0 F0 ω κ ρ s σ H) (h : ∀ p, p ∈ κ' → HeldOk g H0 (FT g H0 F0 ω true ρ σ) H p) : Sim g H0 F0 ω (κ' ++ κ) ρ s σ H :=
  ⟨S.len, S.kp, S.wd, S.val, S.own, fun p hp => (List.mem_append.mp hp).elim (h p) (S.held p), S.inj⟩
theorem Sim.unhold {H0 : Hp} {F0 : Addr → Prop} {κ κ' : List Held} {ρ : Env} {s : DS} {σ : L2.St} {H : Hp} (S : Sim g H0 F0 ω (κ' ++ κ) ρ s σ H) : Sim g H0 F0 ω κ ρ s σ H :=
  ⟨S.len, S.kp, S.wd, S.val, S.own, fun p hp => S.held p (List.mem_append_right _ hp), S.inj⟩
theorem ds_for (fx : Fx X g k E) {tg iter : Expr} {body : List Stmt} {vs : List Nat} {f : D → Env → Option Env} {mi : Env → M (List D)} {mb : Env → M Out} {pos : Pos} (hi : DF X g E ω tg iter mi) (hg : DG X g ω tg vs f) (hb : DSs X g E ω body mb) (hs : ∀ x, foldedSetIterable iter X.env x = pure x := by intro _; rfl) :
    DSt X g E ω (.For tg iter body [] pos) (sFor f mi mb) := by
  obtain ⟨wi, hwi, hqi⟩ := hi
  obtain ⟨t, ht, hqt⟩ := hg
  obtain ⟨tb, htb, hqb⟩ := hb
  refine ⟨_, ps_for fx.po fx.bx.calm hwi ht htb hs, fun H0 F0 κ ρ s σ H N r S hm hp => ?_⟩
  rcases M.bind_some hm with ⟨e, s1, e1, rfl⟩ | ⟨ds, s1, e1, e2⟩
  · exact hqi H0 F0 κ ρ s σ H _ _ S e1 hp
  refine hqi H0 F0 κ ρ s σ H _ _ S e1 fun J H1 κ' k1 S1 hκ hwalk => ?_
  obtain ⟨Gd, Y, wk, hwk⟩ := hwalk
  refine for_it wk (fun i σi Hi => ∃ ρi si, Sim g H0 F0 ω (κ' ++ κ) ρi si σi Hi ∧ mFor f mb (ds.drop i) ρi si = some r) ⟨ρ, s1, S1.hold hκ, by rw [List.drop_zero]; exact e2⟩ (fun i σi Hi _ ⟨ρi, si, Si, _⟩ => ?_) ?_ ?_
  · exact (hwk (FT g H0 F0 ω true ρi σi) fun a h => h.1.2).1 Hi ⟨H0, fun p hp => Si.held p (List.mem_append_left _ hp)⟩
  · rintro i x σi Hi Hi' hlt ⟨ρi, si, Si, hrun⟩ y
    obtain ⟨d, hd, kY, wY, rd⟩ := (hwk (FT g H0 F0 ω true ρi σi) fun a h => h.1.2).2 Hi i x Hi' hlt ⟨H0, fun p hp => Si.held p (List.mem_append_left _ hp)⟩ y
    have hdrop : ds.drop i = d :: ds.drop (i + 1) := by
      obtain ⟨h1, h2⟩ := List.getElem?_eq_some_iff.mp hd
      rw [← h2]
      exact List.drop_eq_getElem_cons h1
    rw [hdrop] at hrun
    unfold mFor at hrun
    cases ef : f d ρi with
    | none => rw [ef] at hrun; cases hrun
    | some ρ1 =>
      rw [ef] at hrun
      simp only at hrun
      refine hqt H0 F0 (κ' ++ κ) ρi si σi Hi' d x ρ1 _ (Si.kpTo fx.bx.ok kY (wY _ Si.wd)) rd ef fun σ2 S2 _ _ _ => ?_
      rcases M.bind_some hrun with ⟨e, s2, h1, rfl⟩ | ⟨o, s2, h1, h2⟩
      · exact hqb H0 F0 (κ' ++ κ) ρ1 si σ2 Hi' _ _ S2 h1 hp
      · refine hqb H0 F0 (κ' ++ κ) ρ1 si σ2 Hi' _ _ S2 h1 ?_
        cases o with
        | nx ρ2 => exact fun σ3 H3 S3 => ⟨ρ2, s2, S3, h2⟩
        | ct ρ2 => exact fun σ3 H3 S3 => ⟨ρ2, s2, S3, h2⟩
        | bk ρ2 => cases h2; exact fun σ3 H3 S3 => hp σ3 H3 S3.unhold
        | rt d => cases h2; exact hp
  · rintro σn Hn ⟨ρn, sn, Sn, hrun⟩
    rw [List.drop_length] at hrun
    cases hrun
    exact hp σn Hn Sn.unhold
theorem ds_while (fx : Fx X g k E) {c : Expr} {body : List Stmt} {mc : Env → M Bool} {mb : Env → M Out} {pos : Pos} (hc : DT X g E ω c mc) (hb : DSs X g E ω body mb) : DSt X g E ω (.While c body [] pos) (sWhile mc mb) := by
  obtain ⟨t, ht, hqt⟩ := hc
  obtain ⟨tb, htb, hqb⟩ := hb
  refine ⟨_, ps_while fx.po ht htb, fun H0 F0 κ ρ s σ H N r S hm hp => ?_⟩
  obtain ⟨n0, h0⟩ : ∃ n, mWhile mc mb n ρ s = some r := by
    unfold sWhile at hm
    split at hm
    · exact ⟨_, hm⟩
    · cases hm
  refine ⟨fun n σi Hi => ∃ ρi si, Sim g H0 F0 ω κ ρi si σi Hi ∧ mWhile mc mb n ρi si = some r, ⟨n0, ρ, s, S, h0⟩, ?_⟩
  rintro n σi Hi ⟨ρi, si, Si, hrun⟩
  cases n with
  | zero => cases hrun
  | succ n =>
    unfold mWhile at hrun
    rcases M.bind_some hrun with ⟨e, s1, e1, rfl⟩ | ⟨kk, s1, e1, e2⟩
    · exact hqt H0 F0 κ ρi si σi Hi _ _ Si e1 hp
    refine hqt H0 F0 κ ρi si σi Hi _ _ Si e1 fun H1 k1 S1 => ?_
    cases kk with
    | false =>
      rw [if_neg Bool.false_ne_true] at e2 ⊢
      cases e2
      exact hp σi H1 S1
    | true =>
      rw [if_pos rfl] at e2 ⊢
      refine ⟨fun σ' H' => ∃ ρ' s', Sim g H0 F0 ω κ ρ' s' σ' H' ∧ mWhile mc mb n ρ' s' = some r, fun σ' H' ⟨ρ', s', S', h'⟩ => ⟨n, Nat.lt_succ_self n, ρ', s', S', h'⟩, ?_⟩
      rcases M.bind_some e2 with ⟨e, s2, h1, rfl⟩ | ⟨o, s2, h1, h2⟩
      · exact hqb H0 F0 κ ρi s1 σi H1 _ _ S1 h1 hp
      · refine hqb H0 F0 κ ρi s1 σi H1 _ _ S1 h1 ?_
        cases o with
        | nx ρ2 => exact fun σ3 H3 S3 => ⟨ρ2, s2, S3, h2⟩
        | ct ρ2 => exact fun σ3 H3 S3 => ⟨ρ2, s2, S3, h2⟩
        | bk ρ2 => cases h2; exact fun σ3 H3 S3 => hp σ3 H3 S3
        | rt d => cases h2; exact hp
end

/-! ### a while's answer -/
theorem mWhile_mono {c : Env → M Bool} {body : Env → M Out} : ∀ {n m : Nat} {ρ : Env} {s : DS} {r : Except Er Out × DS}, n ≤ m → mWhile c body n ρ s = some r → mWhile c body m ρ s = some r
  | 0, _, _, _, _, _, h => by cases h
  | n + 1, 0, _, _, _, hl, _ => by omega
  | n + 1, m + 1, ρ, s, r, hl, h => by
    unfold mWhile at h ⊢
    rcases M.bind_some h with ⟨e, s1, e1, rfl⟩ | ⟨kk, s1, e1, e2⟩
    · unfold M.bind; rw [e1]
    · unfold M.bind
      rw [e1]
      cases kk with
      | false => exact e2
      | true =>
        rw [if_pos rfl] at e2
        show (if true = true then _ else _ : M Out) s1 = some r
        rw [if_pos rfl]
        rcases M.bind_some e2 with ⟨e, s2, h1, rfl⟩ | ⟨o, s2, h1, h2⟩
        · rw [h1]
        · rw [h1]
          cases o with
          | nx ρ2 => exact mWhile_mono (by omega) h2
          | ct ρ2 => exact mWhile_mono (by omega) h2
          | bk ρ2 => exact h2
          | rt d => exact h2
theorem sWhile_of {c : Env → M Bool} {body : Env → M Out} {n : Nat} {ρ : Env} {s : DS} {r : Except Er Out × DS} (h : mWhile c body n ρ s = some r) : sWhile c body ρ s = some r := by
  unfold sWhile
  have hx : ∃ n r, mWhile c body n ρ s = some r := ⟨n, r, h⟩
  rw [dif_pos hx]
  obtain ⟨r', h'⟩ := Classical.choose_spec hx
  rw [h']
  have h1 := mWhile_mono (Nat.le_max_left n (Classical.choose hx)) h
  have h2 := mWhile_mono (Nat.le_max_right n (Classical.choose hx)) h'
  rw [h1] at h2
  exact h2.symm
/-- one turn -/
theorem sWhile_end {c : Env → M Bool} {body : Env → M Out} {ρ : Env} {s s1 : DS} (h : c ρ s = some (.ok false, s1)) : sWhile c body ρ s = some (.ok (.nx ρ), s1) := by
  refine sWhile_of (n := 1) ?_
  unfold mWhile M.bind
  rw [h]
  rfl
theorem sWhile_turn {c : Env → M Bool} {body : Env → M Out} {ρ ρ2 : Env} {s s1 s2 : DS} {r : Except Er Out × DS} (h : c ρ s = some (.ok true, s1)) (hb : body ρ s1 = some (.ok (.nx ρ2), s2)) (hn : ∃ n, mWhile c body n ρ2 s2 = some r) : ∃ n, mWhile c body n ρ s = some r := by
  obtain ⟨n, hn⟩ := hn
  refine ⟨n + 1, ?_⟩
  unfold mWhile M.bind
  rw [h]
  show (if true = true then _ else _ : M Out) s1 = some r
  rw [if_pos rfl]
  rw [hb]
  exact hn
theorem mWhile_end {c : Env → M Bool} {body : Env → M Out} {ρ : Env} {s s1 : DS} (h : c ρ s = some (.ok false, s1)) : ∃ n, mWhile c body n ρ s = some (.ok (.nx ρ), s1) := by
  refine ⟨1, ?_⟩
  unfold mWhile M.bind
  rw [h]
  rfl
end VS

/-! VS12: several stores at once; methods of what a body owns; raise; a def. -/
namespace VS
open PySem PySem.Spec PyProof.Rows L2

/-! ### several stores at once -/
/-- stores from the right -/
def storeD : List Nat → List D → Env → Option Env
  | [], [], ρ => some ρ
  | i :: is, d :: ds, ρ => (storeD is ds ρ).bind fun ρ' => if i < ρ'.length then some (ρ'.set i (some d)) else none
  | _, _, _ => none
def storeV : List Nat → List V → L2.St → L2.St
  | i :: is, v :: vs, σ => (storeV is vs σ).set i (some v)
  | _, _, σ => σ
def PostX (g : G) (E : XK) (H0 : Hp) (F0 : Addr → Prop) (ω : List Nat) (κ : List Held) (is : List Nat) (ρ : Env) (σ : L2.St) (H : Hp) (Q : List V → Hp → Prop) : Except Er (List D) × DS → Prop
  | (.ok ds, s') => ∀ ρ', storeD is ds ρ = some ρ' → ∀ vs H', Kp g H H' → vs.length = is.length → Sim g H0 F0 ω κ ρ' s' (storeV is vs σ) H' → Q vs H'
  | (.error e, s') => ErrK g E H0 s' e
def DX (X : Cx) (g : G) (E : XK) (ω : List Nat) (is : List Nat) (es : List Expr) (m : Env → M (List D)) : Prop :=
  ∃ t : TA, PA X es t ∧ ∀ H0 F0 κ ρ s σ H Q r, Sim g H0 F0 ω κ ρ s σ H → m ρ s = some r → (∀ ds s', r = (.ok ds, s') → (storeD is ds ρ).isSome = true) → PostX g E H0 F0 ω κ is ρ σ H Q r → t σ H Q
section
variable {X : Cx} {g : G} {E : XK} {ω : List Nat} {b : Bool} {k : Nat}
/-- the hidden root comes to its slot -/
theorem Sim.claim {H0 H : Hp} {F0 : Addr → Prop} {κ : List Held} {ρ : Env} {s : DS} {σ : L2.St} {a : Addr} {d : D} {i : Nat} (go : g.Ok) (S : Sim g (upd H0 a (.tbl #[])) (fun c => F0 c ∧ c ≠ a) ω (.root d a :: κ) ρ s σ H) (h0 : H0 a = none) (n2 : ¬ g.isC a) (hi : i ∈ ω) (hl : i < ρ.length)
    (hx : ∀ p, p ∈ κ → ∀ e c, p = .root e c → H0 c ≠ none) : Sim g H0 F0 ω κ (ρ.set i (some d)) s (σ.set i (some (.ref a))) H := by
  have hl2 : i < σ.length := by rw [← S.len]; exact hl
  obtain ⟨_, na, ra⟩ := S.held (.root d a) List.mem_cons_self
  have W : ∀ c, FT g (upd H0 a (.tbl #[])) (fun c => F0 c ∧ c ≠ a) ω true ρ σ c → H c ≠ none → FT g H0 F0 ω true (ρ.set i (some d)) (σ.set i (some (.ref a))) c := fun c h _ => by
    obtain ⟨q1, q2⟩ := h.unhide n2
    refine ⟨q1.1, fun hb j hj l => ?_⟩
    by_cases n : i = j
    · subst n
      rw [List.getElem?_set_self hl2]
      intro z
      cases z
      exact q2 rfl
    · rw [List.getElem?_set_ne n]
      exact q1.2 hb j hj ((live_set_ne n).mp l)
  have old : ∀ {j : Nat} {e : D}, j ∈ ω → ρ[j]? = some (some e) → ∃ c, σ[j]? = some (some (.ref c)) ∧ H0 c = none ∧ g.nd c ∧ ¬ g.isC c ∧ RootAt g (FT g (upd H0 a (.tbl #[])) (fun c => F0 c ∧ c ≠ a) ω true ρ σ) H e c ∧ c ≠ a := fun {j e} hj he => by
    obtain ⟨c, q1, q2, q3, q4, q5⟩ := S.own j e hj he
    have z : c ≠ a := fun z => by rw [z, upd_same] at q2; cases q2
    rw [upd_ne z] at q2
    exact ⟨c, q1, q2, q3, q4, q5, z⟩
  refine ⟨by simp [S.len], ⟨fun c u e t f => ?_, fun c e => ?_, fun _ => S.wd.tb⟩, S.wd, fun j e hj he => ?_, fun j e hj he => ?_, fun p hp => ?_, fun j1 j2 c h1 h2 l1 l2 e1 e2 => ?_⟩
  · have z : c ≠ a := fun z => by rw [z, h0] at e; cases e
    exact S.kp.keep c u (by rw [upd_ne z]; exact e) t f
  · have z : c ≠ a := fun z => e (by rw [z]; exact h0)
    exact S.kp.there c (by rw [upd_ne z]; exact e)
  · have n : i ≠ j := fun z => hj (by rw [← z]; exact hi)
    rw [List.getElem?_set_ne n] at he
    obtain ⟨v, q1, q2⟩ := S.val j e hj he
    exact ⟨v, by rw [List.getElem?_set_ne n]; exact q1, q2.weak W⟩
  · by_cases n : i = j
    · subst n
      rw [List.getElem?_set_self hl] at he
      cases he
      exact ⟨a, List.getElem?_set_self hl2, h0, na, n2, ra.imp (fun _ _ h _ _ => h) (fun _ _ h => h) W rfl⟩
    · rw [List.getElem?_set_ne n] at he
      obtain ⟨c, q1, q2, q3, q4, q5, _⟩ := old hj he
      exact ⟨c, by rw [List.getElem?_set_ne n]; exact q1, q2, q3, q4, q5.imp (fun _ _ h _ _ => h) (fun _ _ h => h) W rfl⟩
  · have q := (S.held p (List.mem_cons_of_mem _ hp)).weak W
    cases p with
    | val d v => exact q
    | seq a vs => exact q
    | root e c => exact ⟨hx _ hp e c rfl, q.2⟩
    | tup a vs => exact q
  · by_cases n1 : i = j1
    · by_cases n2 : i = j2
      · rw [← n1, ← n2]
      · subst n1
        rw [List.getElem?_set_self hl2] at e1
        cases e1
        rw [List.getElem?_set_ne n2] at e2
        obtain ⟨e, he⟩ := (live_set_ne n2).mp l2
        obtain ⟨c, q1, _, _, _, _, q6⟩ := old h2 he
        rw [q1] at e2
        cases e2
        exact absurd rfl q6
    · by_cases n2 : i = j2
      · subst n2
        rw [List.getElem?_set_self hl2] at e2
        cases e2
        rw [List.getElem?_set_ne n1] at e1
        obtain ⟨e, he⟩ := (live_set_ne n1).mp l1
        obtain ⟨c, q1, _, _, _, _, q6⟩ := old h1 he
        rw [q1] at e1
        cases e1
        exact absurd rfl q6
      · rw [List.getElem?_set_ne n1] at e1
        rw [List.getElem?_set_ne n2] at e2
        exact S.inj j1 j2 c h1 h2 ((live_set_ne n1).mp l1) ((live_set_ne n2).mp l2) e1 e2
theorem dx_nil : DX X g E ω [] [] eNil := by
  refine ⟨_, pa_nil, fun H0 F0 κ ρ s σ H Q r S hm ho hp => ?_⟩
  cases hm
  exact hp ρ rfl [] H (Kp.refl g H) rfl S
theorem storeD_cons {i : Nat} {is : List Nat} {d : D} {ds : List D} {ρ : Env} (h : (storeD (i :: is) (d :: ds) ρ).isSome = true) : ∃ ρ', storeD is ds ρ = some ρ' ∧ i < ρ'.length ∧ storeD (i :: is) (d :: ds) ρ = some (ρ'.set i (some d)) := by
  have eq : storeD (i :: is) (d :: ds) ρ = (storeD is ds ρ).bind fun ρ' => if i < ρ'.length then some (ρ'.set i (some d)) else none := rfl
  rw [eq] at h ⊢
  cases e : storeD is ds ρ with
  | none => rw [e] at h; cases h
  | some ρ' =>
    rw [e] at h
    simp only [Option.bind_some] at h ⊢
    by_cases hl : i < ρ'.length
    · rw [if_pos hl]; exact ⟨ρ', rfl, hl, rfl⟩
    · rw [if_neg hl] at h; cases h
theorem dx_val (bx : Bx X g k E) {i : Nat} {is : List Nat} {e : Expr} {es : List Expr} {m : Env → M D} {ms : Env → M (List D)} (hi : i ∉ ω) (h : DE X g E ω true e m) (hs : DX X g E ω is es ms) (hst : starEach (e :: es) X.env = (false, eval e X.env) :: starEach es X.env := by rfl) : DX X g E ω (i :: is) (e :: es) (eCons m ms) := by
  obtain ⟨t, ht, hq⟩ := h
  obtain ⟨ts, hts, hqs⟩ := hs
  refine ⟨_, pa_cons ht hts hst, fun H0 F0 κ ρ s σ H Q r S hm ho hp => ?_⟩
  rcases M.bind_some hm with ⟨e, s1, e1, rfl⟩ | ⟨d, s1, e1, e2⟩
  · exact hq H0 F0 κ ρ s σ H _ _ S e1 hp
  refine hq H0 F0 κ ρ s σ H _ _ S e1 fun v H1 k1 S1 r1 => ?_
  have S1' : Sim g H0 F0 ω (.val d v :: κ) ρ s1 σ H1 := S1.hold (κ' := [.val d v]) fun p hp => by
    rcases List.mem_cons.mp hp with rfl | hp
    · exact r1
    · cases hp
  rcases M.bind_some e2 with ⟨e, s2, e3, rfl⟩ | ⟨ds, s2, e3, e4⟩
  · exact hqs H0 F0 _ ρ s1 σ H1 _ _ S1' e3 (fun _ _ h => by cases h) hp
  cases e4
  obtain ⟨ρ1, h1, h2, h3⟩ := storeD_cons (ho _ _ rfl)
  refine hqs H0 F0 _ ρ s1 σ H1 _ _ S1' e3 (fun _ _ h => by cases h; rw [h1]; rfl) fun ρ' h1' vs H2 k2 hl S2 => ?_
  rw [h1] at h1'
  cases h1'
  have rv : Rep g (FT g H0 F0 ω true ρ1 (storeV is vs σ)) H2 d v := S2.held (.val d v) List.mem_cons_self
  exact hp _ h3 (v :: vs) H2 (k1.trans k2) (by simp [hl]) ((S2.unhold (κ' := [.val d v])).setVal bx.ok hi h2 rv)
theorem ErrK.hid {H0 : Hp} {a : Addr} {s : DS} {e : Er} (h0 : H0 a = none) (h : ErrK g E H0 s e) : ErrK g E (upd H0 a (.tbl #[])) s e := fun dx H' k w x => h dx H' ⟨fun c u e t f => by
    have z : c ≠ a := fun z => by rw [z, h0] at e; cases e
    exact k.keep c u (by rw [upd_ne z]; exact e) t f, fun c e => by
    have z : c ≠ a := fun z => e (by rw [z]; exact h0)
    exact k.there c (by rw [upd_ne z]; exact e), fun _ => w.tb⟩ w x
theorem dx_root (bx : Bx X g k E) {i : Nat} {is : List Nat} {e : Expr} {es : List Expr} {m : Env → M D} {ms : Env → M (List D)} (hi : i ∈ ω) (h : DR X g E ω e m) (hs : DX X g E ω is es ms) (hst : starEach (e :: es) X.env = (false, eval e X.env) :: starEach es X.env := by rfl) : DX X g E ω (i :: is) (e :: es) (eCons m ms) := by
  obtain ⟨t, ht, hq⟩ := h
  obtain ⟨ts, hts, hqs⟩ := hs
  refine ⟨_, pa_cons ht hts hst, fun H0 F0 κ ρ s σ H Q r S hm ho hp => ?_⟩
  rcases M.bind_some hm with ⟨e, s1, e1, rfl⟩ | ⟨d, s1, e1, e2⟩
  · exact hq H0 F0 κ ρ s σ H _ _ S e1 hp
  refine hq H0 F0 κ ρ s σ H _ _ S e1 fun a H1 k1 w1 hn r1 => ?_
  obtain ⟨f1, f2, f3, f4⟩ := S.newFT (b := true) hn
  obtain ⟨u, hu, _⟩ := r1.there
  have Sh := S.hide bx.ok hn k1 (by rw [hu]; exact fun z => by cases z) w1
  have S1 : Sim g (upd H0 a (.tbl #[])) (fun c => F0 c ∧ c ≠ a) ω (.root d a :: κ) ρ s1 σ H1 := Sh.hold (κ' := [.root d a]) fun p hp => by
    rcases List.mem_cons.mp hp with rfl | hp
    · refine ⟨by (rw [upd_same]; exact fun z => by cases z), f2, r1.imp (fun _ _ h _ _ => h) (fun _ _ h => h) (fun c h _ => ?_) rfl⟩
      refine ⟨⟨?_, h.1.1.2⟩, h.1.2⟩
      rcases h.1.1.1 with q | q | q
      · exact .inl ⟨q, h.2⟩
      · exact .inr (.inl (by rw [upd_ne h.2]; exact q))
      · exact .inr (.inr q)
    · cases hp
  rcases M.bind_some e2 with ⟨e, s2, e3, rfl⟩ | ⟨ds, s2, e3, e4⟩
  · exact hqs _ _ _ ρ s1 σ H1 _ _ S1 e3 (fun _ _ h => by cases h) (ErrK.hid f4 hp)
  cases e4
  obtain ⟨ρ1, h1, h2, h3⟩ := storeD_cons (ho _ _ rfl)
  refine hqs _ _ _ ρ s1 σ H1 _ _ S1 e3 (fun _ _ h => by cases h; rw [h1]; rfl) fun ρ' h1' vs H2 k2 hl S2 => ?_
  rw [h1] at h1'
  cases h1'
  refine hp _ h3 (.ref a :: vs) H2 (k1.trans k2) (by simp [hl]) (S2.claim bx.ok f4 f3 hi h2 fun p hp e c z => ?_)
  have q := S.held p hp
  rw [z] at q
  exact q.1
def sPar (is : List Nat) (m : Env → M (List D)) : Env → M Out := fun ρ => (m ρ).bind fun ds => match storeD is ds ρ with
  | some ρ' => M.ok (.nx ρ')
  | none => M.stuck
theorem par_tail {is : List Nat} {es : List Expr} {ms : Env → M (List D)} {ts : TA} {Q : (L2.St → Hp → Prop) → List V → Hp → Prop}
    (hqs : ∀ H0 F0 κ ρ s σ H Q r, Sim g H0 F0 ω κ ρ s σ H → ms ρ s = some r → (∀ ds s', r = (.ok ds, s') → (storeD is ds ρ).isSome = true) → PostX g E H0 F0 ω κ is ρ σ H Q r → ts σ H Q)
    {H0 : Hp} {F0 : Addr → Prop} {κ : List Held} {ρ : Env} {s : DS} {σ : L2.St} {H : Hp} {N : Ends} {r : Except Er Out × DS} (S : Sim g H0 F0 ω κ ρ s σ H) (hm : sPar is ms ρ s = some r) (hp : PostS g E H0 F0 ω κ N r)
    {R : List V → Hp → Prop} (hR : ∀ vs H', vs.length = is.length → N.nx (storeV is vs σ) H' → R vs H') : ts σ H R := by
  rcases M.bind_some hm with ⟨e, s1, e1, rfl⟩ | ⟨ds, s1, e1, e2⟩
  · exact hqs H0 F0 κ ρ s σ H _ _ S e1 (fun _ _ h => by cases h) hp
  cases e : storeD is ds ρ with
  | none => rw [e] at e2; cases e2
  | some ρ' =>
    rw [e] at e2
    cases e2
    refine hqs H0 F0 κ ρ s σ H _ _ S e1 (fun _ _ h => by cases h; rw [e]; rfl) fun ρ2 h2 vs H' k hl S' => ?_
    rw [e] at h2
    cases h2
    exact hR vs H' hl (hp _ H' S')
theorem ds_par2 (bx : Bx X g k E) {i j : Nat} {x y : Str} {a c : Expr} {ms : Env → M (List D)} {px py pt pos : Pos} {kt k2 pt2} (hi : X.N[i]? = some x) (hj : X.N[j]? = some y) (hij : i ≠ j)
    (hx : X.env.scope.names.lookup x = some .local) (hy : X.env.scope.names.lookup y = some .local) (h : DX X g E ω [i, j] [a, c] ms)
    (hw : swappedStores [.Tuple [.Name x px, .Name y py] kt pt] (.Tuple [a, c] k2 pt2) X.env = pure (some [x, y]))
    (hs : swapsWithSole [.Tuple [.Name x px, .Name y py] kt pt] (.Tuple [a, c] k2 pt2) pos.line X.env = pure false := by rfl) :
    DSt X g E ω (.Assign [.Tuple [.Name x px, .Name y py] kt pt] (.Tuple [a, c] k2 pt2) pos) (sPar [i, j] ms) := by
  obtain ⟨ts, hts, hqs⟩ := h
  refine ⟨_, ps_par bx.calm bx.nd hi hj hij hx hy hts hw hs, fun H0 F0 κ ρ s σ H N r S hm hp => ?_⟩
  refine par_tail (es := [a, c]) (Q := fun _ _ _ => True) hqs S hm hp fun vs H' hl hN => ?_
  match vs, hl with
  | [v, w], _ =>
    refine ⟨v, w, rfl, ?_⟩
    rw [List.set_comm _ _ hij]
    exact hN
theorem ds_par3 (bx : Bx X g k E) {i j l : Nat} {x y z : Str} {a c e : Expr} {ms : Env → M (List D)} {px py pz pt pos : Pos} {kt k2 pt2} (hi : X.N[i]? = some x) (hj : X.N[j]? = some y) (hl : X.N[l]? = some z) (hij : i ≠ j) (hil : i ≠ l) (hjl : j ≠ l)
    (hx : X.env.scope.names.lookup x = some .local) (hy : X.env.scope.names.lookup y = some .local) (hz : X.env.scope.names.lookup z = some .local) (h : DX X g E ω [i, j, l] [a, c, e] ms)
    (hw : swappedStores [.Tuple [.Name x px, .Name y py, .Name z pz] kt pt] (.Tuple [a, c, e] k2 pt2) X.env = pure (some [x, y, z]))
    (hs : swapsWithSole [.Tuple [.Name x px, .Name y py, .Name z pz] kt pt] (.Tuple [a, c, e] k2 pt2) pos.line X.env = pure false := by rfl) :
    DSt X g E ω (.Assign [.Tuple [.Name x px, .Name y py, .Name z pz] kt pt] (.Tuple [a, c, e] k2 pt2) pos) (sPar [i, j, l] ms) := by
  obtain ⟨ts, hts, hqs⟩ := h
  refine ⟨_, ps_par3 bx.calm bx.nd hi hj hl hij hil hjl hx hy hz hts hw hs, fun H0 F0 κ ρ s σ H N r S hm hp => ?_⟩
  refine par_tail (es := [a, c, e]) (Q := fun _ _ _ => True) hqs S hm hp fun vs H' hlen hN => ?_
  match vs, hlen with
  | [u, v, w], _ =>
    refine ⟨u, v, w, rfl, ?_⟩
    have e1 : ((σ.set i (some u)).set j (some v)).set l (some w) = ((σ.set l (some w)).set j (some v)).set i (some u) := by
      rw [List.set_comm (some u) (some v) hij, List.set_comm (some u) (some w) hil, List.set_comm (some v) (some w) hjl]
    rw [e1]
    exact hN

/-! ### methods of what a body owns -/
def sApp (i : Nat) (e : Env → M D) : Env → M Out := fun ρ => match ρ[i]?.getD none with
  | some (.lst ds) => (e ρ).bind fun d => if ds.length < sizeLine then M.ok (.nx (ρ.set i (some (.lst (ds ++ [d]))))) else M.stuck
  | _ => M.stuck
theorem getD_some {ρ : Env} {j : Nat} {d : D} (e : ρ[j]?.getD none = some d) : ρ[j]? = some (some d) := by
  cases q : ρ[j]? with
  | none => rw [q] at e; cases e
  | some o => rw [q] at e; exact congrArg some e
theorem mut_list {H0 H : Hp} {F0 : Addr → Prop} {κ : List Held} {ρ : Env} {s : DS} {σ : L2.St} {i : Nat} {a : Addr} {d : D} {u : HO} {ds : List D} {vs : List V} (S : Sim g H0 F0 ω κ ρ s σ H) (hi : i ∈ ω) (he : ρ[i]? = some (some d)) (ha : σ[i]? = some (some (.ref a))) (h : H a = some u) (r : Reps g (FT g H0 F0 ω true ρ σ) H ds vs) :
    RootAt g (FT g H0 F0 ω true ρ σ) (upd H a (.lst vs)) (.lst ds) a := by
  have hne : ∀ c, FT g H0 F0 ω true ρ σ c → c ≠ a := fun c hc z => hc.2 rfl i hi ⟨_, he⟩ (by rw [z]; exact ha)
  obtain ⟨a', q1, _, _, _, q5⟩ := S.own i d hi he
  rw [ha] at q1
  cases q1
  obtain ⟨u', hu, nv⟩ := q5.there
  have hk : ∀ c o, H c = some o → isTbl o = false → (isVar o = true → FT g H0 F0 ω true ρ σ c) → upd H a (.lst vs) c = some o := fun c o e _ f => by
    by_cases z : c = a
    · rw [z, hu] at e
      cases e
      exact absurd z (hne c (f nv))
    · rw [upd_ne z]; exact e
  have hsc : ∀ p, g.sc = some p → ScL g.K H p.1 (p.2.map V.int) → ScL g.K (upd H a (.lst vs)) p.1 (p.2.map V.int) := fun p hp h => by
    rcases h with ⟨o, h⟩ | h
    · exact .inl ⟨o, hk _ _ h rfl fun e => by cases e⟩
    · exact .inr h
  exact ⟨vs, upd_same, r.imp hk hsc fun c h _ => h⟩
theorem ds_app (bx : Bx X g k E) {i : Nat} {x : Str} {e : Expr} {m : Env → M D} {px apos cpos pos : Pos} (hi : i ∈ ω) (hN : X.N[i]? = some x) (hv : Vis X.env.scope x) (h : DE X g E ω true e m)
    (hd : (x == ("__debug__" : Str)) = false := by decide) (hcd : (x == ("__classdict__" : Str)) = false := by decide)
    (hbase : attributeBase (.Name x px) "append" X.env (eval (.Name x px) X.env) = eval (.Name x px) X.env := by rfl)
    (hfew : ((backTo cpos (starEach [e] X.env)).all (fun x => !x.1) && (backToKw cpos (keywordEach [] X.env)).all (fun x => x.1.isSome)
      && decide ([e].length + ([] : List Keyword).length + (if ([] : List Keyword).isEmpty then 0 else 1) < 30)) = true := by rfl)
    (hline : (apos.endLine == cpos.line) = true := by rfl) (hs : starEach [e] X.env = (false, eval e X.env) :: starEach [] X.env := by rfl) (hplain : (backTo cpos (starEach [] X.env)).any (·.1) = false := by rfl)
    (hsw : swapsWith (.Call (.Attribute (.Name x px) "append" apos) [e] [] cpos) none pos.line X.env = pure false := by rfl) :
    DSt X g E ω (.Expr (.Call (.Attribute (.Name x px) "append" apos) [e] [] cpos) pos) (sApp i m) := by
  obtain ⟨t, ht, hq⟩ := h
  refine ⟨_, ps_expr (pe_bm PySem.F.plainAttrs_list PySem.F.slot_list_append PySem.F.type_list_append mt_append (pe_var hN hv hd hcd) (pa_cons ht pa_nil hs) hbase hfew hline hs hplain) hsw, fun H0 F0 κ ρ s σ H N r S hm hp => ?_⟩
  unfold sApp at hm
  cases e3 : ρ[i]?.getD none with
  | none => rw [e3] at hm; cases hm
  | some dl =>
    rw [e3] at hm
    cases dl <;> first | (cases hm; done) | skip
    rename_i ds
    have he := getD_some e3
    obtain ⟨a, h1, h2, h3, h4, vs, h5, h6⟩ := S.own i _ hi he
    refine ⟨.ref a, h1, .inl ⟨rfl, vs, .inl (.inl h5)⟩, ?_⟩
    rcases M.bind_some hm with ⟨er, s1, e1, rfl⟩ | ⟨d, s1, e1, e2⟩
    · exact hq H0 F0 κ ρ s σ H _ _ S e1 hp
    by_cases hl : ds.length < sizeLine
    · rw [if_pos hl] at e2
      cases e2
      refine hq H0 F0 κ ρ s σ H _ _ S e1 fun v H1 k1 S1 r1 => ?_
      have h5' := k1.keep a _ h5 rfl fun _ => h3
      refine ⟨a, vs, v, rfl, rfl, h5', by rw [← h6.length]; exact hl, ?_⟩
      refine hp _ _ (S1.mutOwn bx.ok hi he h1 ?_)
      exact mut_list S1 hi he h1 h5' ((h6.kpT bx.ok k1).append (.cons r1 .nil))
    · rw [if_neg hl] at e2
      cases e2
/-- x.extend(y) -/
def sExt (i : Nat) (e : Env → M D) : Env → M Out := fun ρ => match ρ[i]?.getD none with
  | some (.lst ds) => (e ρ).bind fun d => match d with
    | .lst es => if ds.length + es.length ≤ sizeLine then M.ok (.nx (ρ.set i (some (.lst (ds ++ es))))) else M.stuck
    | _ => M.stuck
  | _ => M.stuck
theorem ds_ext (bx : Bx X g k E) {i : Nat} {x : Str} {e : Expr} {m : Env → M D} {px apos cpos pos : Pos} (hi : i ∈ ω) (hN : X.N[i]? = some x) (hv : Vis X.env.scope x) (h : DI X g E ω e m)
    (hd : (x == ("__debug__" : Str)) = false := by decide) (hcd : (x == ("__classdict__" : Str)) = false := by decide)
    (hbase : attributeBase (.Name x px) "extend" X.env (eval (.Name x px) X.env) = eval (.Name x px) X.env := by rfl)
    (hfew : ((backTo cpos (starEach [e] X.env)).all (fun x => !x.1) && (backToKw cpos (keywordEach [] X.env)).all (fun x => x.1.isSome)
      && decide ([e].length + ([] : List Keyword).length + (if ([] : List Keyword).isEmpty then 0 else 1) < 30)) = true := by rfl)
    (hline : (apos.endLine == cpos.line) = true := by rfl) (hs : starEach [e] X.env = (false, eval e X.env) :: starEach [] X.env := by rfl) (hplain : (backTo cpos (starEach [] X.env)).any (·.1) = false := by rfl)
    (hsw : swapsWith (.Call (.Attribute (.Name x px) "extend" apos) [e] [] cpos) none pos.line X.env = pure false := by rfl) :
    DSt X g E ω (.Expr (.Call (.Attribute (.Name x px) "extend" apos) [e] [] cpos) pos) (sExt i m) := by
  obtain ⟨t, ht, hq⟩ := h
  refine ⟨_, ps_expr (pe_bm PySem.F.plainAttrs_list PySem.F.slot_list_extend PySem.F.type_list_extend mt_extend (pe_var hN hv hd hcd) (pa_cons ht pa_nil hs) hbase hfew hline hs hplain) hsw, fun H0 F0 κ ρ s σ H N r S hm hp => ?_⟩
  unfold sExt at hm
  cases e3 : ρ[i]?.getD none with
  | none => rw [e3] at hm; cases hm
  | some dl =>
    rw [e3] at hm
    cases dl <;> first | (cases hm; done) | skip
    rename_i ds
    have he := getD_some e3
    obtain ⟨a, h1, h2, h3, h4, vs, h5, h6⟩ := S.own i _ hi he
    refine ⟨.ref a, h1, .inl ⟨rfl, vs, .inl (.inl h5)⟩, ?_⟩
    rcases M.bind_some hm with ⟨er, s1, e1, rfl⟩ | ⟨d, s1, e1, e2⟩
    · exact hq H0 F0 κ ρ s σ H _ _ S e1 hp
    refine hq H0 F0 κ ρ s σ H _ _ S e1 fun a2 us es H1 hi2 k1 S1 sq r1 => ?_
    cases d <;> first | (cases e2; done) | skip
    rename_i es'
    cases hi2
    simp only at e2
    by_cases hl : ds.length + es.length ≤ sizeLine
    · rw [if_pos hl] at e2
      cases e2
      have h5' := k1.keep a _ h5 rfl fun _ => h3
      refine ⟨a, a2, vs, us, rfl, rfl, h5', sq.2, by rw [← h6.length, ← r1.length]; exact hl, ?_⟩
      refine hp _ _ (S1.mutOwn bx.ok hi he h1 ?_)
      exact mut_list S1 hi he h1 h5' ((h6.kpT bx.ok k1).append r1)
    · rw [if_neg hl] at e2
      cases e2
/-- y = x.pop() -/
def sPop (i j : Nat) : Env → M Out := fun ρ => match ρ[i]?.getD none with
  | some (.lst ds) => match ds.getLast? with
    | some d => if j < ρ.length ∧ i ≠ j then M.ok (.nx ((ρ.set i (some (.lst ds.dropLast))).set j (some d))) else M.stuck
    | none => M.stuck
  | _ => M.stuck
theorem ds_pop (bx : Bx X g k E) {i j : Nat} {x y : Str} {px py apos cpos pos : Pos} (hi : i ∈ ω) (hj : j ∉ ω) (hN : X.N[i]? = some x) (hv : Vis X.env.scope x) (hNj : X.N[j]? = some y) (hy : Loc X.env.scope y)
    (hd : (x == ("__debug__" : Str)) = false := by decide) (hcd : (x == ("__classdict__" : Str)) = false := by decide)
    (hbase : attributeBase (.Name x px) "pop" X.env (eval (.Name x px) X.env) = eval (.Name x px) X.env := by rfl) (hline : (apos.endLine == cpos.line) = true := by rfl)
    (hsw : swapsWith (.Call (.Attribute (.Name x px) "pop" apos) [] [] cpos) (some (.Name y py)) pos.line X.env = pure false := by rfl) (hf : X.fn y = true ∨ X.env.scope.names.lookup y = some .local := by first | exact .inl rfl | exact .inr rfl | assumption) :
    DSt X g E ω (.Assign [.Name y py] (.Call (.Attribute (.Name x px) "pop" apos) [] [] cpos) pos) (sPop i j) := by
  refine ⟨_, ps_set bx.nd hNj hy (pe_bm0 PySem.F.plainAttrs_list PySem.F.slot_list_pop PySem.F.type_list_pop mt_pop (pe_var hN hv hd hcd) hbase hline) hsw hf, fun H0 F0 κ ρ s σ H N r S hm hp => ?_⟩
  unfold sPop at hm
  cases e3 : ρ[i]?.getD none with
  | none => rw [e3] at hm; cases hm
  | some dl =>
    rw [e3] at hm
    cases dl <;> first | (cases hm; done) | skip
    rename_i ds
    simp only at hm
    have he := getD_some e3
    obtain ⟨a, h1, h2, h3, h4, vs, h5, h6⟩ := S.own i _ hi he
    cases e4 : ds.getLast? with
    | none => rw [e4] at hm; cases hm
    | some d =>
      rw [e4] at hm
      simp only at hm
      by_cases hl : j < ρ.length ∧ i ≠ j
      · rw [if_pos hl] at hm
        cases hm
        have e5 : ds[ds.length - 1]? = some d := by rw [← e4, List.getLast?_eq_getElem?]
        obtain ⟨v, q1, q2⟩ := h6.get e5
        refine ⟨.ref a, h1, .inl ⟨rfl, vs, .inl (.inl h5)⟩, a, vs, v, rfl, rfl, h5, by rw [← h6.length]; exact q1, ?_⟩
        have S1 := S.mutOwn bx.ok hi he h1 (mut_list S hi he h1 h5 h6.dropLast)
        refine hp _ _ (S1.setVal bx.ok hj (by simpa using hl.1) ?_)
        -- the item itself
        have hne : ∀ c, FT g H0 F0 ω true ρ σ c → c ≠ a := fun c hc z => hc.2 rfl i hi ⟨_, he⟩ (by rw [z]; exact h1)
        refine q2.imp (fun c o e _ f => ?_) (fun p hp h => ?_) (fun c h _ => ⟨h.1, fun hb j' hj' l => ?_⟩)
        · by_cases z : c = a
          · rw [z, h5] at e
            cases e
            exact absurd z (hne c (f rfl))
          · rw [upd_ne z]; exact e
        · rcases h with ⟨o, h⟩ | h
          · refine .inl ⟨o, ?_⟩
            rw [upd_ne (fun z => by rw [z, h5] at h; cases h)]
            exact h
          · exact .inr h
        · refine h.2 hb j' hj' ?_
          obtain ⟨x, q⟩ := l
          by_cases n : i = j'
          · subst n; exact ⟨_, he⟩
          · rw [List.getElem?_set_ne n] at q; exact ⟨x, q⟩
      · rw [if_neg hl] at hm
        cases hm
/-- x[e] = v, a list -/
def sSetL (i : Nat) (ev ei : Env → M D) : Env → M Out := fun ρ => match ρ[i]?.getD none with
  | some (.lst ds) => (ev ρ).bind fun d => (ei ρ).bind fun y => match y with
    | .int n => match ixN ds.length n with
      | some j => M.ok (.nx (ρ.set i (some (.lst (ds.set j d)))))
      | none => M.stuck
    | _ => M.stuck
  | _ => M.stuck
theorem ds_setL (bx : Bx X g k E) {i : Nat} {x : Str} {ev ei : Expr} {mv mi : Env → M D} {px tpos pos : Pos} (hi : i ∈ ω) (hN : X.N[i]? = some x) (hv : Vis X.env.scope x) (h : DE X g E ω true ev mv) (h' : DE X g E ω false ei mi)
    (hd : (x == ("__debug__" : Str)) = false := by decide) (hcd : (x == ("__classdict__" : Str)) = false := by decide)
    (ha : ∀ v, assign (.Subscript (.Name x px) ei tpos) X.env v = (do
      let ov ← holding [v] (eval (.Name x px) X.env)
      let iv ← holding [v, ov] (eval ei X.env)
      standAt tpos
      holding [v, ov, iv] (setItem ov iv v)
      release [v, ov, iv] []) := by intro _; rfl)
    (hs : swapsWithSole [.Subscript (.Name x px) ei tpos] ev pos.line X.env = pure false := by rfl) (hw : swappedStores [.Subscript (.Name x px) ei tpos] ev X.env = pure none := by rfl)
    (h1 : (assignEach [.Subscript (.Name x px) ei tpos] X.env).map (·.2) = [assign (.Subscript (.Name x px) ei tpos) X.env] := by rfl) :
    DSt X g E ω (.Assign [.Subscript (.Name x px) ei tpos] ev pos) (sSetL i mv mi) := by
  obtain ⟨t, ht, hq⟩ := h
  obtain ⟨t', ht', hq'⟩ := h'
  refine ⟨_, ps_asg ht (pg_sub (pe_var hN hv hd hcd) ht' set_list ha) hs hw h1, fun H0 F0 κ ρ s σ H N r S hm hp => ?_⟩
  unfold sSetL at hm
  cases e3 : ρ[i]?.getD none with
  | none => rw [e3] at hm; cases hm
  | some dl =>
    rw [e3] at hm
    cases dl <;> first | (cases hm; done) | skip
    rename_i ds
    have he := getD_some e3
    rcases M.bind_some hm with ⟨er, s1, e1, rfl⟩ | ⟨d, s1, e1, e2⟩
    · exact hq H0 F0 κ ρ s σ H _ _ S e1 hp
    refine hq H0 F0 κ ρ s σ H _ _ S e1 fun v H1 k1 S1 r1 => ?_
    obtain ⟨a, h1, h2, h3, h4, vs, h5, h6⟩ := S1.own i _ hi he
    refine ⟨.ref a, h1, ?_⟩
    rcases M.bind_some e2 with ⟨er, s2, e4, rfl⟩ | ⟨y, s2, e4, e5⟩
    · exact hq' H0 F0 κ ρ s1 σ H1 _ _ S1 e4 hp
    refine hq' H0 F0 κ ρ s1 σ H1 _ _ S1 e4 fun vy H2 k2 S2 r2 => ?_
    cases y <;> first | (cases e5; done) | skip
    rename_i n
    cases r2
    simp only at e5
    cases e6 : ixN ds.length n with
    | none => rw [e6] at e5; cases e5
    | some j =>
      rw [e6] at e5
      cases e5
      have h5' := k2.keep a _ h5 rfl fun _ => h3
      refine ⟨a, vs, n, j, rfl, rfl, h5', by rw [← h6.length]; exact e6, ?_⟩
      exact hp _ _ (S2.mutOwn bx.ok hi he h1 (mut_list S2 hi he h1 h5' ((h6.kpT bx.ok k2).set (r1.kpT bx.ok k2) j)))

/-! ### raise X('..') -/
structure ExcF (X : Cx) (x : Str) (C : Addr) : Prop where
  q : PySem.W.excIn X.K C [.type "ValueError", .type "Exception", .type "BaseException", .type "object"] "ValueError.__new__" = true
  gC : X.mg x = some (.ref C)
  kC : PySem.W.keepIn X.K (.ref C) = true
  b : PySem.W.subIn X.K (.ref C) (.type "BaseException") = some true
  t : PySem.W.typeIn X.K (.ref C) = some (.type "type")
theorem ds_raise (fx : Fx X g k E) {x m : Str} {n : Nat} {j : Nat} {p p2 p3 pos : Pos} (F : ExcF X x (g.fv n)) (hg : Gl X x) (hdb : (x == ("__debug__" : Str)) = false := by decide) :
    DSt X g E ω (.Raise (some (.Call (.Name x p) [.Constant (.str m) j p2] [] p3)) none pos) (sRaise n) := by
  refine ⟨_, ps_raise fx.bx.calm fx.tk (pmk_own PySem.F.excBase_ValueError F.q F.gC F.kC (raises_own F.b F.t) hg hdb), fun H0 F0 κ ρ s σ H N r S hm hp => ?_⟩
  cases hm
  exact hp none H S.kp S.wd rfl
end

/-! ### a def -/
def fnM (n ar : Nat) (body : Env → M Out) : List D → M D := fun ds => if ds.length = ar then (body (ds.map some ++ List.replicate (n - ar) none)).bind fun o => match o with
    | .rt d => M.ok d
    | .nx _ => M.ok .non
    | _ => M.stuck
  else M.stuck
/-- the def's code object -/
def HasCode (K : PySem.W.Frag) (f : Addr) (cdv : Value) : Prop := ∃ (oc : Value) (od : Option Addr) (osl : Array (Option Value)) (fd : FuncData), K.lookup f = some ⟨oc, od, .func fd, osl⟩ ∧ fd.code = cdv
theorem def_ok {P : Program} {w : World} {K : PySem.W.Frag} {mg : Str → Option Value} {base : Heap} {g : G} {x qual : Str} {st : Stmt} {f : Addr} {fd : FuncData} {N ps : List Str} {k : Nat} {ω : List Nat} {body : Env → M Out} (F : Fun K x qual st f fd) (S : FnScope N ps (defScope st)) (hK : g.K = K) (go : g.Ok) (hω : ∀ i ∈ ω, ps.length ≤ i)
    (h : ∀ (cdv : Value) (A : Around) (outer : List PySem.Env) (s : Shared) (H : Hp) (E : XK), HasCode K f cdv → Fx (cxOf (L2.CX P w) P w K mg base N qual (defScope st) f cdv A outer s H E) g k E → DSs (cxOf (L2.CX P w) P w K mg base N qual (defScope st) f cdv A outer s H E) g E ω (defBody st) body) :
    FnOk P w K mg base (L2.CX P w) (k + 1) f fd ps (SpD g (fnM N.length ps.length body)) := by
  have hpl : ps.length ≤ N.length := by have := congrArg List.length S.pre; rw [List.length_take] at this; omega
  obtain ⟨oc, od, kV, doc, pm, an, cdv, ct, osl, rfl, lk, hcd⟩ := F.ex
  refine fn_of lk hcd S (fun vs H Q E h => ?_) (fun A outer s H vs Q E hr hsp => ?_)
  · obtain ⟨F0, ds, s0, r, _, rs, _, hm, _⟩ := h
    unfold fnM at hm
    split at hm
    · rename_i hl; rw [← rs.length]; exact hl
    · cases hm
  · have fx : Fx (cxOf (L2.CX P w) P w K mg base N qual (defScope st) f cdv A outer s H E) g k E := by
      have tk : Takes (cxOf (L2.CX P w) P w K mg base N qual (defScope st) f cdv A outer s H E) fun cls d _ H => E cls d H := takes_of rfl rfl rfl rfl
      exact ⟨⟨hK, go, rfl, S.nd, hr, passes_call tk fun _ _ _ _ h => h⟩, passes_of rfl, tk⟩
    obtain ⟨t, ht, hq⟩ := h cdv A outer s H E ⟨oc, od, osl, _, lk, rfl⟩ fx
    obtain ⟨F0, ds, s0, r, hF, rs, w0, hm, hp⟩ := hsp
    unfold fnM at hm
    split at hm
    case isFalse => cases hm
    rename_i hl
    refine ⟨t, ht, ?_⟩
    have hvl := rs.length
    have hlen : (ds.map some ++ List.replicate (N.length - ps.length) (none : Option D)).length = (L2.start N vs).length := by
      unfold L2.start
      simp only [List.length_append, List.length_map, List.length_replicate]
      omega
    have S0 : Sim g H F0 ω [] (ds.map some ++ List.replicate (N.length - ps.length) none) s0 (L2.start N vs) H := by
      have nolive : ∀ i, i ∈ ω → ¬ live (ds.map some ++ List.replicate (N.length - ps.length) (none : Option D)) i := fun i hi ⟨d, e⟩ => by
        have := hω i hi
        rw [List.getElem?_append_right (by simp; omega), List.getElem?_replicate] at e
        split at e <;> cases e
      refine ⟨hlen, Kp.refl g H, w0, fun i d hi e => ?_, fun i d hi e => absurd ⟨d, e⟩ (nolive i hi), fun p hp => (by cases hp), fun i j a hi _ l _ _ _ => absurd l (nolive i hi)⟩
      have hi2 : i < ds.length := by
        by_cases z : i < ds.length
        · exact z
        · rw [List.getElem?_append_right (by simp; omega), List.getElem?_replicate] at e
          split at e <;> cases e
      rw [List.getElem?_append_left (by simpa using hi2), List.getElem?_map] at e
      have e' : ds[i]? = some d := by
        cases q : ds[i]? with
        | none => rw [q] at e; cases e
        | some d' => rw [q] at e; cases e; rfl
      obtain ⟨v, h1, h2⟩ := rs.get e'
      refine ⟨v, ?_, h2.weak fun a h _ => ⟨⟨.inl h, hF a h⟩, fun _ j hj l => absurd l (nolive j hj)⟩⟩
      unfold L2.start
      rw [List.getElem?_append_left (by simp; omega), List.getElem?_map, h1]
      rfl
    rcases M.bind_some hm with ⟨e, s1, e1, rfl⟩ | ⟨o, s1, e1, e2⟩
    · exact hq H F0 [] _ s0 _ H _ _ S0 e1 hp
    · refine hq H F0 [] _ s0 _ H _ _ S0 e1 ?_
      cases o with
      | rt d =>
        cases e2
        exact fun v H' kp w' r' => hp v H' kp w' (r'.weak fun a h _ => h)
      | nx ρ' =>
        cases e2
        exact fun σ' H' S' => hp .non H' S'.kp S'.wd .non
      | bk ρ' => cases e2
      | ct ρ' => cases e2
end VS

/-! VS13: an error is caught and kept. -/
namespace VS
open PySem PySem.Spec PyProof.Rows L2

section
variable {X : Cx} {pins : List (Addr × Obj)} {σ : L2.St} {H : Hp} {s sI : Shared} {a : Addr}
/-- an object that was not there at J is tracked from now on -/
theorem Inv.track {φ : Heap → Prop} (J : L2.Inv X pins σ H sI) (I : L2.Inv X pins σ' H s) (hx : X.ex = []) (na : H a = none) (nI : sI.heap.get? a = none) (new : ObjOk X.prog X.w (upd H a (.ext φ)) s.heap a (.ext φ)) :
    L2.Inv X pins σ' (upd H a (.ext φ)) s := by
  have old : ∀ b (o : Obj), sI.heap.get? b = some o → b ≠ a := fun b o e z => by rw [z, nI] at e; cases e
  have n0 : ∀ b (o : Obj), X.s_0.heap.get? b = some o → b ≠ a := fun b o e => by
    obtain ⟨o', e'⟩ := J.base.there b o e (by rw [hx]; exact fun z => nomatch z)
    exact old b o' e'
  have nH : ∀ {b : Addr} {u : HO}, H b = some u → b ≠ a := fun e => ne_of_none e na
  refine ⟨I.ok, I.os, I.bare, ⟨I.base.keep, I.base.slot, fun b o e n k => ?_, I.base.there, fun b xs e => ?_, fun b o u e => ?_, fun b ps e => ?_⟩, I.loc, I.cell, ?_, fun x c e => ?_, fun p hp => ?_, fun b u e => ?_, I.len⟩
  · rw [upd_ne (n0 b o e)]; exact I.base.free b o e n k
  · have q := I.base.tups b xs e
    rw [upd_ne (nH q)]; exact q
  · have q := I.base.frzs b o u e
    rw [upd_ne (nH q)]; exact q
  · obtain ⟨m, q⟩ := I.base.tbls b ps e
    exact ⟨m, by rw [upd_ne (nH q)]; exact q⟩
  · obtain ⟨m, ⟨o, _, _, ho, _⟩, _⟩ := J.loc
    rw [upd_ne (old _ o ho)]; exact I.free
  · obtain ⟨v, o, ho, _⟩ := J.cell x c e
    rw [upd_ne (old _ o ho)]; exact I.freeC x c e
  · obtain ⟨e1, e2, e3, e4, e5⟩ := I.pin p hp
    exact ⟨e1, by rw [upd_ne (old _ _ (J.pin p hp).1)]; exact e2, e3, e4, e5⟩
  · by_cases z : b = a
    · subst z
      rw [upd_same] at e
      cases e
      exact new
    · rw [upd_ne z] at e
      refine (I.hok b u e).stay (fun c v _ q => q) (fun c q => ?_) fun c xs q => ?_
      · rw [upd_ne (nH q)]; exact q
      · rw [upd_ne (nH q)]; exact q
end

/-- what the clause wishes: the error is of its class; it is kept in slot j -/
def wKeep (K : PySem.W.Frag) (c : Value) (i j n : Nat) (N : Ends) : WX := fun cls d σ H =>
  PySem.W.exmOne K cls c = some true ∧ ∀ a, H a = none → σ.length = n → N.nx (((σ.set i (some (.ref a))).set j (some (.ref a))).set i none) (upd H a (ExX cls d a))
section
variable {X : Cx} {x n y : Str} {c : Value} {i j : Nat} {body : List Stmt} {np p1 p2 p3 pos pos' : Pos} {tb : WX → TS}
/-- try: body, except x as n: y = n -/
theorem ps_try_keep (hs : X.stack = X.env :: X.outer) (hf : X.env.frame = some X.env.locals) (hex : X.ex = []) (hN : X.N.Nodup) (hi : X.N[i]? = some n) (hln : X.env.scope.names.lookup n = some .local) (hj : X.N[j]? = some y) (hly : X.env.scope.names.lookup y = some .local) (hc : Names X x c)
    (hb : ∀ (W : WX) (pn : List (Addr × Obj)) (xe : Value → Shared → Prop), Takes (X.tr pn xe) W → PassesOwn (model X.prog X.w) X.A X.env xe → PSs (X.tr pn xe) body (tb W))
    (hsw : swapsWith (.Name n p1) (some (.Name y p2)) p3.line X.env = pure false) (hd : (n == ("__debug__" : Str)) = false) (hcd : (n == ("__classdict__" : Str)) = false) :
    PS X (.Try body [.ExceptHandler (some (.Name x np)) (some n) [.Assign [.Name y p2] (.Name n p1) p3] pos'] [] [] pos) (fun N σ H => tb (wKeep X.K c i j X.N.length N) N σ H) := by
  have hkn : X.env.kindOf n = some .local := hln
  refine ⟨fun pins s σ H N I h => wpAny_Try_except ?_⟩
  have fr : X.A.frames = some (X.env :: X.outer) := I.ok.frames.trans (by rw [hs])
  refine wpAny_mono ((hb (wKeep X.K c i j X.N.length N) (X.pn ++ pins) (fun e t => wpAny (model X.prog X.w) X.A (noteFrame e X.env) (fun _ t1 => wpAny (model X.prog X.w) X.A (setFlight e none) (fun _ t2 =>
    wpAny (model X.prog X.w) X.A (handleBy e X.env [.ExceptHandler (some (.Name x np)) (some n) [.Assign [.Name y p2] (.Name n p1) p3] pos']) (SP X pins N) X.xe t2) X.xe t1) X.xe t) (fun u t air => ?_) PassesOwn.looking).run [] s σ H N (I.toTry _) h) (fun f t sp => ?_) fun e t q => q
  · obtain ⟨a, B, sI, pinsT, σT, HT, cls, d, rfl, JT, inB, up, sky, na, os, ag, isC, go⟩ := air
    have J := JT.ofTry I.ok
    have sky1 : Sky B (X.env :: X.outer) a (Zc cls d) X.env.locals t.heap := by rw [← hs]; exact sky
    show wpAny _ _ (noteFrame (.ref a) X.env) _ _ _
    refine Sky.land Zc.steady fr hf sky1 fun hA flA upA => ?_
    have JA : L2.Inv X pins σT HT { t with heap := hA } := J.landed inB flA.1 (up.trans upA) os ag
    obtain ⟨oA, vA, getA, zA, dA⟩ := flA.there
    -- it is no frame
    have noFrame : a ∉ frs (X.env :: X.outer) := fun hm => by
      obtain ⟨_, o', e', q⟩ := flA.2.2.1.mem hm
      rw [getA] at e'
      cases e'
      exact q _ dA
    have nL : a ≠ X.env.locals := fun z => noFrame (List.mem_filterMap.mpr ⟨X.env, List.mem_cons_self, by rw [hf, z]⟩)
    have nF : a ∉ X.fs := fun hm => by
      obtain ⟨e, he, q⟩ := List.mem_filterMap.mp hm
      exact noFrame (List.mem_filterMap.mpr ⟨e, List.mem_cons_of_mem _ he, q⟩)
    have nI : sI.heap.get? a = none := by
      cases q : sI.heap.get? a with
      | none => rfl
      | some o =>
        have z := inB a o q (by rw [hs]; exact noFrame)
        rw [flA.2.1] at z
        cases z
    have SA := JA.suite getA dA na nL nF
    refine wpAny_handleBy_cons (codeAny_handlers_test ?_) (by intro q; cases q)
    have tyA : PySem.W.Looks (model X.prog X.w) hA (typeOf (.ref a)) cls := fun A Q E s k q => wpAny_typeOf_ref (k _ _ getA) (by rw [zA.1]; exact q)
    have isA := PySem.W.exm_one (M := model X.prog X.w) JA.kIn tyA isC
    have name : ∀ {Q E : Value → Shared → Prop}, Q c { t with heap := hA } → wpAny (model X.prog X.w) (X.A.mark (some (.ref a))) (eval (.Name x np) X.env) Q E { t with heap := hA } := fun {Q E} q => by
      obtain ⟨hg, hdbg, hm | ⟨hm, hv, hnn⟩⟩ := hc
      · exact ld_glob (X := X.suite a ((a, oA) :: (X.pn ++ pins))) SA hg hm q hdbg
      · exact ld_blt (X := X.suite a ((a, oA) :: (X.pn ++ pins))) SA hg hm hv q hnn hdbg
    refine name (isA.here (codeAny_handlers_suite_as ?_))
    refine HandSPX.lands_againZ flA fun hB flB upB => ?_
    have JB : L2.Inv X pins σT HT { t with heap := hB } := J.landed inB flB.1 ((up.trans upA).trans upB) os ag
    obtain ⟨oB, vB, getB, zB, dB⟩ := flB.there
    have SB := JB.suite getB dB na nL nF
    refine store_ok (X := X.suite a ((a, oB) :: (X.pn ++ pins))) (v := .ref a) SB hN hi (.inl hkn) rfl (fun s5 S5 => ?_) (.inr hkn)
    have hlen : i < (σT.set i (some (V.ref a))).length := by
      rw [List.length_set, J.len]
      exact (List.getElem?_eq_some_iff.mp hi).1
    have suite : PSs (X.suite a ((a, oB) :: (X.pn ++ pins))) [.Assign [.Name y p2] (.Name n p1) p3] _ := pss_one (ps_set (X := X.suite a ((a, oB) :: (X.pn ++ pins))) hN hj (.inl hly) (pe_var hi (.inl hkn) hd hcd) hsw (.inr hly))
    refine wpAny_mono (suite.run [] s5 _ HT { nx := fun σ' H' => σ' = (σT.set i (some (.ref a))).set j (some (.ref a)) ∧ H' = HT, rt := fun _ _ => False } S5 ⟨.ref a, ?_, rfl, rfl⟩) (fun f s6 sp => ?_) fun _ _ z => z.elim
    · rw [List.getElem?_set_self (by rw [List.length_set] at hlen; exact hlen)]
    · cases f with
      | next =>
        obtain ⟨σ6, H6, S6, rfl, rfl⟩ := sp
        have J6 : L2.Inv X pins _ H6 s6 := S6.unsuite I.ok
        have get6 : s6.heap.get? a = some oB := (S6.pin (a, oB) (List.mem_append_left _ List.mem_cons_self)).1
        have T6 : L2.Inv X pins _ (upd H6 a (ExX cls d a)) s6 := Inv.track J J6 hex na nI ⟨⟨oB, vB, get6, zB, dB⟩, ⟨oB, get6⟩, fun _ _ ⟨o, v, q, r⟩ k => ⟨o, v, k _ q, r⟩⟩
        show wpAny _ _ (do bindName X.env n .none; unbindBehindTheSuite X.env n pos') _ _ _
        exact gone_ok T6 hN hi hkn fun s7 J7 => ⟨_, _, J7, go a na J.len⟩
      | ret u =>
        obtain ⟨_, _, _, _, _, q⟩ := sp
        exact q.elim
      | brk =>
        obtain ⟨_, _, _, q⟩ := sp
        exact False.elim q
      | cont =>
        obtain ⟨_, _, _, q⟩ := sp
        exact False.elim q
  · cases f with
    | next =>
      obtain ⟨σ1, H1, J1, q⟩ := sp
      exact wpAny_execs_nil ⟨σ1, H1, J1.ofTry I.ok, q⟩
    | brk =>
      obtain ⟨σ1, H1, J1, q⟩ := sp
      exact ⟨σ1, H1, J1.ofTry I.ok, q⟩
    | cont =>
      obtain ⟨σ1, H1, J1, q⟩ := sp
      exact ⟨σ1, H1, J1.ofTry I.ok, q⟩
    | ret u =>
      obtain ⟨v, σ1, H1, J1, r, q⟩ := sp
      exact ⟨v, σ1, H1, J1.ofTry I.ok, r, q⟩
end
end VS

/-! VS14: a lambda handed to a def that keeps what it raises. -/
namespace VS
open PySem PySem.Spec PyProof.Rows L2 LamX

/-! ### the lambda is made -/
section
variable {X : Cx} {pins : List (Addr × Obj)} {σ : L2.St} {H : Hp} {s : Shared}
/-- what is told of the heap behind the making -/
structure Made (T : List (Addr × Str)) (H H1 : Hp) : Prop where
  ext : ExtN H H1
  there : ∀ b, H b ≠ none → H1 b ≠ none
  tabs : Tabs T H1
theorem make_lam {T : List (Addr × Str)} {c P : Addr} {params : Arguments} {body : Expr} {scope : Scope} {pos : Pos} {E Q : Value → Shared → Prop} (I : L2.Inv X pins σ H s) (TB : TabB X.base X.mg c P) (hcode : X.env.code = .ref c)
    (hm : (P, X.env.qual ++ "<lambda>") ∈ T) (hu : ∀ p ∈ T, p.1 = P → p.2 = X.env.qual ++ "<lambda>") (hT : Tabs T H) (hdef : defaultsOf params X.env = ([], [])) (hfree : ∀ y ∈ scope.names, y.2 = .free → ∃ c, X.env.cells.lookup y.1 = some c)
    (h : ∀ (f cn : Addr) (md ctv : Value) (H1 : Hp) (s1 : Shared), L2.Inv X pins σ H1 s1 → Made T H H1 → s1.heap.get? f = some (PySem.W.kla_obj "<lambda>" (X.env.qual ++ "<lambda>") params body scope (cloFrom X.env.cells scope.names []) md cn ctv) →
      H1 f = none → f ∉ frs X.stack → H1 cn = some (CodeO cn (X.env.qual ++ "<lambda>")) → Q (.ref f) s1) :
    wpAny (model X.prog X.w) X.A (eval (.Lambda params body scope pos) X.env) Q E s := by
  obtain ⟨ps, hP, ht, known⟩ := hT _ hm
  have bi : s.heap.BuiltinsAt X.mg P := TB.bm.keeps I.bk
  have tabAt : s.heap.get? P = some { cls := .none, data := .fields ps } := I.hok P _ hP
  have noFr : ∀ f, s.heap.objs.size ≤ f → f ∉ frs X.stack := fun f hf z => (List.mem_cons.mp (I.stkSub _ z)).elim (fun e => by
    have := I.lt
    rw [← e] at this
    exact absurd (Nat.lt_of_lt_of_le this hf) (Nat.lt_irrefl _)) fun e => I.nofs hf e
  refine PySem.W.kla_eval hdef ?_
  cases hc : codeAmong pos ps.toList with
  | some cv =>
    obtain ⟨cn, rfl, told⟩ := known pos cv hc
    exact PySem.W.kla_makeFunctionHit (mg := X.mg) (c := c) (P := P) (ps := ps) (closure_ok hfree) I.ok.glob (I.mod.glob.keeps I.bk) hcode (TB.code.keeps I.bk) tabAt ht hc bi fun ctv h1 tk hx hsz =>
      h h1.objs.size cn ((X.mg "__name__").getD .none) ctv H { s with heap := h1.push (PySem.W.kla_obj "<lambda>" (X.env.qual ++ "<lambda>") params body scope (cloFrom X.env.cells scope.names []) ((X.mg "__name__").getD .none) cn ctv), toks := tk }
        (I.kept fun b o e => Heap.get?_push_of_some _ (hx b o e)) ⟨ExtN.refl H, fun _ z => z, hT⟩ (Heap.get?_push_size _ rfl) (I.hok.fresh hsz) (noFr _ hsz) told
  | none =>
    refine PySem.W.kla_makeFunction (mg := X.mg) (c := c) (P := P) (ps := ps) (closure_ok hfree) I.ok.glob (I.mod.glob.keeps I.bk) hcode (TB.code.keeps I.bk) tabAt ht hc TB.gP bi fun cn ctv h1 tk hx hge hlt hrec htb => ?_
    obtain ⟨c2, oc, vs, t, e2, hoc, hd, hv⟩ := hrec
    cases e2
    have old : s.heap.objs.size ≤ h1.objs.size := Nat.le_trans hge (Nat.le_of_lt hlt)
    have newC : H cn = none := I.hok.fresh hge
    have I1 := inv_table (t' := tk) (more := #[rawInt pos.line, rawInt pos.col, .ref cn]) (h' := h1.push (PySem.W.kla_obj "<lambda>" (X.env.qual ++ "<lambda>") params body scope (cloFrom X.env.cells scope.names []) ((X.mg "__name__").getD .none) cn ctv)) I hP
      (fun b o hb e => Heap.get?_push_of_some _ (hx b o hb e)) (Heap.get?_push_of_some _ htb) hge ⟨oc, vs, t, Heap.get?_push_of_some _ hoc, hd, hv⟩
    have ne1 : ∀ {b : Addr} {u : HO}, H b = some u → b ≠ cn := fun e => ne_of_none e newC
    have ext : ExtN H (upd (upd H P (.tbl (ps ++ #[rawInt pos.line, rawInt pos.col, .ref cn]))) cn (CodeO cn (X.env.qual ++ "<lambda>"))) := fun b o e n => by
      rw [upd_ne (ne1 e), upd_ne (fun z => n ps (by rw [z, hP] at e; exact (Option.some.inj e).symm))]
      exact e
    have listed : (ps ++ #[rawInt pos.line, rawInt pos.col, .ref cn]).toList = ps.toList ++ [rawInt pos.line, rawInt pos.col, .ref cn] := by simp
    refine h h1.objs.size cn ((X.mg "__name__").getD .none) ctv _ _ I1 ⟨ext, fun b z => ?_, fun p hp => ?_⟩ (Heap.get?_push_size _ rfl) ?_ (noFr _ old) upd_same
    · by_cases z1 : b = cn
      · rw [z1, upd_same]; exact fun q => by cases q
      · rw [upd_ne z1]
        by_cases z2 : b = P
        · rw [z2, upd_same]; exact fun q => by cases q
        · rw [upd_ne z2]; exact z
    · by_cases hb : p.1 = P
      · rw [hu p hp hb, hb]
        refine ⟨_, by rw [upd_ne (ne1 hP), upd_same], by rw [listed]; exact PySem.TriplesOk_snoc _ _ _ _ ht, fun p2 cv hcv => ?_⟩
        rw [listed] at hcv
        rcases among_app _ ht hcv with z | z
        · obtain ⟨c0, e1, e2⟩ := known p2 cv z
          exact ⟨c0, e1, ext _ _ e2 codeO_ne⟩
        · exact ⟨cn, z, upd_same⟩
      · obtain ⟨qs, a1, a2, a3⟩ := hT p hp
        refine ⟨qs, by rw [upd_ne (ne1 a1), upd_ne hb]; exact a1, a2, fun p2 cv hcv => ?_⟩
        obtain ⟨c0, e1, e2⟩ := a3 p2 cv hcv
        exact ⟨c0, e1, ext _ _ e2 codeO_ne⟩
    · rw [upd_ne (Nat.ne_of_gt hlt), upd_ne (Nat.ne_of_gt (Nat.lt_of_lt_of_le (Heap.lt_size tabAt) old))]
      exact I.hok.fresh old
end

/-! ### x(lambda: body) -/
def tMade (T : List (Addr × Str)) (TT : (XK → Hp → VK → Prop) → Hp → VK → Prop) (t : XK → TE) : TE := fun σ H Q => Tabs T H ∧ ∀ H1, Made T H H1 → TT (fun E H' Q' => t E σ H' Q') H1 Q
section
variable {X : Cx}
theorem call_with_lam {T : List (Addr × Str)} {TT : (XK → Hp → VK → Prop) → Hp → VK → Prop} {x a : Str} {gf c P : Addr} {k : Nat} {pg : Arguments} {bg : List Stmt} {sg : Scope} {dV kV doc pm cdv ct oc : Value} {an od : Option Addr} {osl : Array (Option Value)} {Ng : List Str}
    {params : Arguments} {body : Expr} {scope : Scope} {t : XK → TE} {p lpos pos : Pos} (hg : Gl X x) (hm : X.mg x = some (.ref gf)) (hk : PySem.W.keepIn X.K (.ref gf) = true)
    (lk : X.K.lookup gf = some ⟨oc, od, .func (PySem.W.fnOf x x pg bg sg dV kV doc pm an cdv ct), osl⟩) (hcg : PySem.W.codeIn X.K cdv x = true) (hb : L2.Binds X.K (PySem.W.fnOf x x pg bg sg dV kV doc pm an cdv ct) [a] []) (Sg : FnScope Ng [a] sg) (hNg : Ng[0]? = some a) (hva : Vis sg a)
    (hG : GivesTo X Ng x sg gf cdv bg a (X.env.qual ++ "<lambda>") TT)
    (TB : TabB X.base X.mg c P) (hcode : X.env.code = .ref c) (hmT : (P, X.env.qual ++ "<lambda>") ∈ T) (hu : ∀ p ∈ T, p.1 = P → p.2 = X.env.qual ++ "<lambda>") (hr : Room (k + 2) X.A) (L : LamS X.env.scope scope) (hdef : defaultsOf params X.env = ([], []))
    (hbind : ∀ (q : Str) (cl : List (Str × Addr)) (pm cv ctv : Value), bindArgs (PySem.W.kla_fn "<lambda>" q params body scope cl pm cv ctv) ⟨[], []⟩ = pure [])
    (hbody : ∀ (A : Around) (outer : List PySem.Env) (s : Shared) (H : Hp) (E : XK) (f cn : Addr), Room k (A.deeper (lamEnv X scope s.heap.objs.size f cn)) → PE (lamCx X A outer s H E scope f cn) body (t E))
    (hdb : (x == ("__debug__" : Str)) = false := by decide) (hd : (a == ("__debug__" : Str)) = false := by decide) (hcd : (a == ("__classdict__" : Str)) = false := by decide) :
    PE X (.Call (.Name x p) [.Lambda params body scope lpos] [] pos) (tMade T TT t) := by
  refine ⟨fun pins s σ H Q I ⟨tabs, go⟩ => wpAny_Call_Name_kw (ld_glob I hg hm (PySem.W.callWith_K (h₀ := X.base) I.ok.mod.kin hk ?_ (by rfl) (by rfl)) hdb)⟩
  show wpAny _ _ (spliced ((false, eval (.Lambda params body scope lpos) X.env) :: backTo pos (starEach [] X.env))) _ _ s
  refine Calls.spliced_cons (make_lam I TB hcode hmT hu tabs hdef (L.has I.ok) fun f cn md ctv H1 s1 I1 made hf hfn hfr hco => Calls.spliced_nil ⟨I1.kIn, ?_⟩)
  have run : codeAny (model X.prog X.w) X.A (.call (.ref gf) ⟨[.ref f], []⟩) (CR C8.CX0 X.stack X.prog X.w H1 s1 Q C8.E0) s1 :=
    run_ofS (N := Ng) (ps := [a]) (us := [.ref f]) (vs := [.ref f]) lk hcg Sg hr I1.env0 (hb s1 [.ref f] I1.kIn rfl) (.cons rfl .nil) rfl fun hr' => by
      obtain ⟨t', ht', hq'⟩ := hG f cn s1 H1 Q (fun E H' Q' => t E σ H' Q') (fun W pn xe E p1 p2 tk hW => pe_act (i := 0) I1 L hf hfn hfr (hbind _ _ _ _ _) tk hW hr' (fun A outer s H hr2 => hbody A outer s H E f cn hr2) hNg hva hd hcd) hco (go H1 made)
      exact ⟨t', ht'.nox, hq'⟩
  refine wpAny_call (codeAny_mono run fun r s2 hq => ?_)
  match r, hq with
  | .error e, hq => exact (show False from hq).elim
  | .ok (.ret u), hq => exact I1.after hq
  | .ok .next, hq => exact False.elim hq
  | .ok .brk, hq => exact False.elim hq
  | .ok .cont, hq => exact False.elim hq

/-! ### y = None; try: a(); except e as n: y = n; return y -/
def TCaught (K : PySem.W.Frag) (CS : Addr) : (XK → Hp → VK → Prop) → Hp → VK → Prop := fun tl H Q =>
  tl (fun cls d H' => PySem.W.exmOne K cls (.ref CS) = some true ∧ ∀ a, H' a = none → Q (.ref a) (upd H' a (ExX cls d a))) H (fun _ H' => Q .non H')
theorem caught_gives {x a y n e q : Str} {sg : Scope} {gf CS : Addr} {cdg : Value} {kd : Nat} {p1 p2 p3 p4 p5 p6 p7 p8 p9 q1 q2 q3 q4 q5 : Pos} (hge : sg.names.lookup e = some .globalImplicit) (hme : X.mg e = some (.ref CS)) (hde : (e == ("__debug__" : Str)) = false)
    (hnd : [a, y, n].Nodup) (hy : sg.names.lookup y = some .local) (hn : sg.names.lookup n = some .local) (dn : (n == ("__debug__" : Str)) = false) (cn : (n == ("__classdict__" : Str)) = false) (dy : (y == ("__debug__" : Str)) = false) (cy : (y == ("__classdict__" : Str)) = false)
    (w1 : ∀ {Y : Cx}, Y.env.scope = sg → swapsWith (.Constant .none kd p1) (some (.Name y p2)) p3.line Y.env = pure false) (w2 : ∀ {Y : Cx}, Y.env.scope = sg → swapsWith (.Call (.Name a p4) [] [] p5) none p6.line Y.env = pure false) (w3 : ∀ {Y : Cx}, Y.env.scope = sg → swapsWith (.Name n p7) (some (.Name y p8)) p9.line Y.env = pure false) :
    GivesTo X [a, y, n] x sg gf cdg [.Assign [.Name y p2] (.Constant .none kd p1) p3, .Try [.Expr (.Call (.Name a p4) [] [] p5) p6] [.ExceptHandler (some (.Name e q1)) (some n) [.Assign [.Name y p8] (.Name n p7) p9] q2] [] [] q3, .Return (some (.Name y q4)) q5] a q (TCaught X.K CS) := by
  intro f cv s H Q tl act hc h
  let Z : Cx := (cxOf C8.CX0 X.prog X.w X.K X.mg X.base [a, y, n] x sg gf cdg X.A X.stack s H C8.E0).nox
  have hgl : Gl Z e := hge
  refine ⟨_, pss_cons (ps_set (X := Z) (i := 1) hnd rfl (.inl hy) pe_non (w1 rfl) (.inr hy)) (pss_cons (ps_try_keep (X := Z) (i := 2) (j := 1) (c := .ref CS)
    (tb := fun W N σ H => ∃ Ech : XK, (∀ cls d σ' H', Ech cls d H' → W cls d σ' H') ∧ σ[0]? = some (some (.ref f)) ∧ H cv = some (CodeO cv q) ∧ tl Ech H fun _ H' => N.nx σ H')
    rfl rfl rfl hnd rfl hn rfl hy ⟨hgl, hde, .inl hme⟩ (fun W pn xe tk _ => ?_) (w3 rfl) dn cn) (pss_one (ps_ret (pe_var (X := Z) (i := 1) rfl (.inl hy) dy cy)))), ?_⟩
  · refine ⟨fun pins s1 σ H1 N I ⟨Ech, hW, h1, h2, h3⟩ => ?_⟩
    exact (pss_one (ps_expr (pos := p6) (act W pn xe Ech p4 p5 tk hW) (w2 rfl))).run pins s1 σ H1 N I ⟨h1, h2, h3⟩
  · refine ⟨fun cls d H' => PySem.W.exmOne X.K cls (.ref CS) = some true ∧ ∀ a, H' a = none → Q (.ref a) (upd H' a (ExX cls d a)), fun cls d σ' H' ⟨e1, e2⟩ => ⟨e1, fun b hb hl => ?_⟩, rfl, hc, ?_⟩
    · have hl : σ'.length = 3 := hl
      refine ⟨.ref b, ?_, e2 b hb⟩
      rw [List.getElem?_set_ne (by decide), List.getElem?_set_self (by rw [List.length_set]; omega)]
    · have eq : (fun (_ : V) H' => Q .non H') = fun (_ : V) H' => tRet (tVar 1) { nx := fun _ H' => Q .non H', rt := Q } (List.set (L2.start [a, y, n] [V.ref f]) 1 (some V.non)) H' := by
        funext _ H'
        exact propext ⟨fun h => ⟨.non, rfl, h⟩, fun ⟨v, e, h⟩ => by cases e; exact h⟩
      have h : tl _ H (fun _ H' => Q .non H') := h
      rw [eq] at h
      exact h
end
end VS

/-! VS15: errors caught and asked; the draws' dict; what is not followed. -/
namespace VS
open PySem PySem.Spec PyProof.Rows L2 LamX

/-! ### caught(lambda: body) -/
def eCaught (cls : Nat → Bool) (m : Env → M D) : Env → M D := fun ρ s => match m ρ s with
  | none => none
  | some (.ok _, s') => some (.ok .non, s')
  | some (.error e, s') => if cls e.1 = true then some (.ok (.exc e.1 e.2), s') else none
section
variable {X : Cx} {g : G} {E : XK} {ω : List Nat} {b : Bool} {k : Nat}
/-- the state as from here on, all slots plain values -/
theorem Sim.rebase {H0 H H1 : Hp} {F0 : Addr → Prop} {κ : List Held} {ρ : Env} {s s' : DS} {σ : L2.St} (go : g.Ok) (S : Sim g H0 F0 ω κ ρ s σ H) (kp : Kp g H H1) (w : Wd g s' H1) : Sim g H1 (FB g H0 F0) [] [] ρ s' σ H1 := by
  refine ⟨S.len, Kp.refl g H1, w, fun i d _ e => ?_, fun i d hi => (by cases hi), fun p hp => (by cases hp), fun i j a hi => (by cases hi)⟩
  obtain ⟨v, h1, h2⟩ := S.get (b := false) (.inr rfl) e
  exact ⟨v, h1, (h2.kpT go kp).weak fun a h _ => ⟨⟨.inl h.1, h.1.2⟩, fun _ i hi => (by cases hi)⟩⟩
theorem Made.kp {H H1 : Hp} (m : Made g.tb H H1) : Kp g H H1 :=
  ⟨fun a o h t _ => m.ext a o h (fun ps e => by rw [e] at t; cases t), m.there, fun _ => m.tabs⟩
theorem Made.wd {H H1 : Hp} {s : DS} (m : Made g.tb H H1) (w : Wd g s H) : Wd g s H1 :=
  w.kp m.kp fun p hp => by
    obtain ⟨e, _⟩ := w.dr p hp
    rw [e]
    exact m.ext _ _ e fun ps z => by cases z
theorem de_caught {x a y n e : Str} {gf CS c P : Addr} {pg : Arguments} {sg : Scope} {dV kV doc pm cdv ct oc : Value} {an od : Option Addr} {osl : Array (Option Value)} {cls : Nat → Bool} {m : Env → M D} {kd : Nat} {p1 p2 p3 p4 p5 p6 p7 p8 p9 q1 q2 q3 q4 q5 : Pos}
    {params : Arguments} {body : Expr} {scope : Scope} {p lpos pos : Pos} (bx : Bx X g (k + 2) E) (hg : Gl X x) (hm : X.mg x = some (.ref gf)) (hk : PySem.W.keepIn X.K (.ref gf) = true)
    (lk : X.K.lookup gf = some ⟨oc, od, .func (PySem.W.fnOf x x pg [.Assign [.Name y p2] (.Constant .none kd p1) p3, .Try [.Expr (.Call (.Name a p4) [] [] p5) p6] [.ExceptHandler (some (.Name e q1)) (some n) [.Assign [.Name y p8] (.Name n p7) p9] q2] [] [] q3, .Return (some (.Name y q4)) q5] sg dV kV doc pm an cdv ct), osl⟩)
    (hcg : PySem.W.codeIn X.K cdv x = true) (hb : L2.Binds X.K (PySem.W.fnOf x x pg [.Assign [.Name y p2] (.Constant .none kd p1) p3, .Try [.Expr (.Call (.Name a p4) [] [] p5) p6] [.ExceptHandler (some (.Name e q1)) (some n) [.Assign [.Name y p8] (.Name n p7) p9] q2] [] [] q3, .Return (some (.Name y q4)) q5] sg dV kV doc pm an cdv ct) [a] [])
    (Sg : FnScope [a, y, n] [a] sg) (hva : Vis sg a) (hge : sg.names.lookup e = some .globalImplicit) (hme : X.mg e = some (.ref CS)) (hcls : ∀ j, cls j = true → PySem.W.exmOne X.K (.ref (g.fv j)) (.ref CS) = some true)
    (TB : TabB X.base X.mg c P) (hcode : X.env.code = .ref c) (hmT : (P, X.env.qual ++ "<lambda>") ∈ g.tb) (hu : ∀ p ∈ g.tb, p.1 = P → p.2 = X.env.qual ++ "<lambda>") (L : LamS X.env.scope scope) (hdef : defaultsOf params X.env = ([], []))
    (hbind : ∀ (q : Str) (cl : List (Str × Addr)) (pm cv ctv : Value), bindArgs (PySem.W.kla_fn "<lambda>" q params body scope cl pm cv ctv) ⟨[], []⟩ = pure [])
    (hbody : ∀ (A : Around) (outer : List PySem.Env) (s : Shared) (H : Hp) (E : XK) (f cn : Addr), Bx (lamCx X A outer s H E scope f cn) g k E → DE (lamCx X A outer s H E scope f cn) g E [] false body m)
    (hnd : [a, y, n].Nodup) (hy : sg.names.lookup y = some .local) (hn : sg.names.lookup n = some .local)
    (w1 : ∀ {Y : Cx}, Y.env.scope = sg → swapsWith (.Constant .none kd p1) (some (.Name y p2)) p3.line Y.env = pure false) (w2 : ∀ {Y : Cx}, Y.env.scope = sg → swapsWith (.Call (.Name a p4) [] [] p5) none p6.line Y.env = pure false) (w3 : ∀ {Y : Cx}, Y.env.scope = sg → swapsWith (.Name n p7) (some (.Name y p8)) p9.line Y.env = pure false)
    (de : (e == ("__debug__" : Str)) = false := by decide) (dn : (n == ("__debug__" : Str)) = false := by decide) (cn : (n == ("__classdict__" : Str)) = false := by decide) (dy : (y == ("__debug__" : Str)) = false := by decide) (cy : (y == ("__classdict__" : Str)) = false := by decide)
    (hdb : (x == ("__debug__" : Str)) = false := by decide) (hd : (a == ("__debug__" : Str)) = false := by decide) (hcd : (a == ("__classdict__" : Str)) = false := by decide) :
    DE X g E ω b (.Call (.Name x p) [.Lambda params body scope lpos] [] pos) (eCaught cls m) := by
  refine ⟨_, call_with_lam (T := g.tb) (t := fun E => tE g E [] false m) hg hm hk lk hcg hb Sg rfl hva (caught_gives hge hme de hnd hy hn dn cn dy cy w1 w2 w3) TB hcode hmT hu bx.room L hdef hbind (fun A outer s H E f cn hr => (hbody A outer s H E f cn ?_).pe) hdb hd hcd, fun H0 F0 κ ρ s σ H Q r S hm hp => ?_⟩
  · exact ⟨bx.K, bx.ok, rfl, bx.nd, hr, passes_call (takes_of rfl rfl rfl rfl) fun _ _ _ _ h => h⟩
  refine ⟨S.wd.tb, fun H1 made => ?_⟩
  have S1 := S.kpTo bx.ok made.kp (made.wd S.wd)
  have R1 := S.rebase bx.ok made.kp (made.wd S.wd)
  unfold eCaught at hm
  cases e1 : m ρ s with
  | none => rw [e1] at hm; cases hm
  | some z =>
    obtain ⟨x1, s1⟩ := z
    rw [e1] at hm
    refine ⟨H1, FB g H0 F0, [], ρ, s, (x1, s1), R1, e1, ?_⟩
    cases x1 with
    | ok d =>
      cases hm
      exact fun v H2 k2 S2 _ => hp .non H2 (made.kp.trans k2) (S1.kpTo bx.ok k2 S2.wd) .non
    | error er =>
      simp only at hm
      by_cases hc : cls er.1 = true
      · rw [if_pos hc] at hm
        cases hm
        intro dx H2 k2 w2 ex
        refine ⟨hcls _ hc, fun z hz => ?_⟩
        have k3 := Kp.new (g := g) (o := ExX (.ref (g.fv er.1)) dx z) hz
        refine hp (.ref z) _ ((made.kp.trans k2).trans k3) ((S1.kpTo bx.ok k2 w2).kpTo bx.ok k3 (w2.new hz)) (.exc upd_same ?_)
        obtain ⟨ec, em⟩ := er
        cases em with
        | none => exact ex
        | some i =>
          obtain ⟨y, e2, e3⟩ := ex
          exact ⟨y, e2, by rw [upd_ne (ne_of_none e3 hz)]; exact e3⟩
      · rw [if_neg hc] at hm
        cases hm

/-! ### isinstance(e, X), X an own class of errors -/
/-- what the class table tells: D's objects, asked for C -/
structure IsT (K : PySem.W.Frag) (fv : Nat → Addr) (tab : Nat → Option Bool) (n : Nat) : Prop where
  exc : ∀ c b, tab c = some b → ExcC K (fv c) ∧ PySem.W.kitOne K (.ref (fv c)) (.ref (fv n)) = some b
  non : ∀ a, PySem.W.kitOne K (.type a) (.ref (fv n)) = some false ∨ a ≠ "NoneType"
def dIsE (tab : Nat → Option Bool) (d : D) : Option D := match d with
  | .exc c none => (tab c).map .bl
  | .non => some (.bl false)
  | _ => none
/-- an error that is kept -/
def rIsX (K : PySem.W.Frag) : List V → Hp → VK → Prop := fun xs H Q => ∃ (a D C : Addr) (r : Bool), xs = [.ref a, .ref C] ∧ H a = some (ExX (.ref D) none a) ∧ ExcC K D ∧ PySem.W.kitOne K (.ref D) (.ref C) = some r ∧ Q (.bl r) H
theorem call_isX : CallR X (.builtin "isinstance") (rIsX X.K) := by
  intro pins s σ H xs us Q I r h
  obtain ⟨a, D, C, q, rfl, ha, hC, e, hq⟩ := h
  cases r with
  | cons rx rr =>
    cases rr with
    | cons rt rr =>
      cases rr
      cases rx
      cases rt
      obtain ⟨⟨oe, vs, hget, hz, hv⟩, _, _⟩ := I.hok a _ ha
      have J : PySem.W.InstAt s.heap a oe D none := by
        obtain ⟨oc, od, oda, osl⟩ := oe
        obtain ⟨h1, h2⟩ := hz
        dsimp only at h1 h2 hv
        subst h1 h2 hv
        exact ⟨hget, rfl, rfl, trivial⟩
      exact PySem.W.kia_one (PySem.W.handS_kitx_exc hC.hg hC.hk hC.hs hC.hd hC.ha hC.hn hC.ht hC.hm) I.kIn J e (fun z => nomatch z) fun tk => ⟨.bl q, H, I.kept (t' := tk) fun _ _ z => z, rfl, hq⟩
theorem de_isE (bx : Bx X g k E) {x : Str} {n : Nat} {tab : Nat → Option Bool} {e : Expr} {m : Env → M D} {p p2 pos : Pos} (hg : Gl X "isinstance") (hm : X.mg "isinstance" = none) (hgT : Gl X x) (hmT : X.mg x = some (.ref (g.fv n))) (T : IsT g.K g.fv tab n) (h : DE X g E ω false e m)
    (hdT : (x == ("__debug__" : Str)) = false := by decide)
    (he : starEach [e, .Name x p2] X.env = (false, eval e X.env) :: starEach [.Name x p2] X.env := by rfl) (he2 : starEach [.Name x p2] X.env = (false, eval (.Name x p2) X.env) :: starEach [] X.env := by rfl) (hpl : (backTo pos (starEach [.Name x p2] X.env)).any (·.1) = false := by rfl) :
    DE X g E ω b (.Call (.Name "isinstance" p) [e, .Name x p2] [] pos) (eUn (dIsE tab) m) := by
  obtain ⟨t, ht, hq⟩ := h
  refine ⟨_, pe_callB (CallR.or call_isi call_isX) hg hm boot_isinstance (pa_cons ht (pa_cons (pe_glob (v := .ref (g.fv n)) hgT hmT rfl hdT) pa_nil he2) he) (by decide) (by decide) he hpl, fun H0 F0 κ ρ s σ H Q r S hm hp => ?_⟩
  rcases M.bind_some hm with ⟨e, s1, e1, rfl⟩ | ⟨d, s1, e1, e2⟩
  · exact hq H0 F0 κ ρ s σ H _ _ S e1 hp
  refine hq H0 F0 κ ρ s σ H _ _ S e1 fun v H1 k1 S1 r1 => ?_
  obtain ⟨d', e3, rfl⟩ := M.ofO_some e2
  unfold dIsE at e3
  split at e3
  · rename_i c
    obtain ⟨q, e4, rfl⟩ := Option.map_eq_some_iff.mp e3
    obtain ⟨h1, h2⟩ := T.exc c q e4
    rw [bx.K] at h1 h2
    cases r1 with
    | exc ha hx =>
      cases hx
      exact .inr ⟨_, _, _, q, rfl, ha, h1, h2, hp _ H1 k1 S1 (.bl q)⟩
  · cases e3
    cases r1
    refine .inl ⟨.non, .ref (g.fv n), .type "NoneType", .ref (g.fv n), false, rfl, .own _, .base .non, ?_, hp _ H1 k1 S1 (.bl false)⟩
    rw [← bx.K]
    exact (T.non "NoneType").resolve_right fun z => z rfl
  · cases e3

/-! ### the draws' dict -/
def drawGet (key : Str) (s : DS) : Option D := if key = "whole" then some (.int s.w) else if key = "cells" then some (.lst (s.cs.map .int)) else if key = "count" then some (.int s.c) else none
def drawSet (key : Str) (i : Int) (s : DS) : Option DS := if key = "whole" then some { s with w := i } else if key = "count" then some { s with c := i } else none
def eDraw (key : Str) (m : Env → M D) : Env → M D := fun ρ => (m ρ).bind fun d => match d with
  | .draw => fun s => (drawGet key s).map fun x => (.ok x, s)
  | _ => M.stuck
def sDraw (key : Str) (mo mv : Env → M D) : Env → M Out := fun ρ => (mv ρ).bind fun d => (mo ρ).bind fun o => match o, d with
  | .draw, .int i => fun s => (drawSet key i s).map fun s' => (.ok (.nx ρ), s')
  | _, _ => M.stuck
theorem de_drawIx (bx : Bx X g k E) (hu : X.A.units + 1 < cLine) {key : Str} {e : Expr} {m : Env → M D} {j : Nat} {p2 pos : Pos} (h : DE X g E ω false e m) (hs : PlainIx (.Constant (.str key) j p2)) : DE X g E ω b (.Subscript e (.Constant (.str key) j p2) pos) (eDraw key m) := by
  obtain ⟨t, ht, hq⟩ := h
  refine ⟨_, pe_ix (ix_dict hu) ht pe_str hs, fun H0 F0 κ ρ s σ H Q r S hm hp => ?_⟩
  rcases M.bind_some hm with ⟨e, s1, e1, rfl⟩ | ⟨d, s1, e1, e2⟩
  · exact hq H0 F0 κ ρ s σ H _ _ S e1 hp
  refine hq H0 F0 κ ρ s σ H _ _ S e1 fun v H1 k1 S1 r1 => ?_
  cases d <;> first | (cases e2; done) | skip
  obtain ⟨x, e3, rfl⟩ := Option.map_eq_some_iff.mp e2
  cases r1 with
  | draw hdr =>
    rename_i p
    obtain ⟨q1, q2⟩ := S1.wd.dr p hdr
    have G0 := DGet.k (H := H1) (a := p.1) (k := .inr key) q1
    unfold drawGet at e3
    by_cases z1 : key = "whole"
    · rw [if_pos z1] at e3
      cases e3
      subst z1
      exact ⟨p.1, .int s1.w, rfl, G0, hp _ H1 k1 S1 (.int _)⟩
    rw [if_neg z1] at e3
    by_cases z2 : key = "cells"
    · rw [if_pos z2] at e3
      cases e3
      subst z2
      refine ⟨p.1, .ref p.2, rfl, G0, hp _ H1 k1 S1 (.lst ⟨⟨.inr (.inr ⟨p, hdr, rfl⟩), fun q hq => ?_⟩, fun _ i hi ⟨d, e⟩ z => ?_⟩ q2 (reps_ofInts _))⟩
      · rw [hdr] at hq; cases hq; exact S1.wd.ne hdr
      · obtain ⟨a', w1, _, _, w4, _⟩ := S1.own i d hi e
        rw [w1] at z
        cases z
        exact w4 ⟨p, hdr, rfl⟩
    rw [if_neg z2] at e3
    by_cases z3 : key = "count"
    · rw [if_pos z3] at e3
      cases e3
      subst z3
      exact ⟨p.1, .int s1.c, rfl, G0, hp _ H1 k1 S1 (.int _)⟩
    rw [if_neg z3] at e3
    cases e3
theorem kp_draw {H : Hp} {s s' : DS} {p : Addr × Addr} (w : Wd g s H) (h : g.dr = some p) (hc : s'.cs = s.cs) :
    Kp g H (upd H p.1 (.dK [(.inr "whole", .int s'.w), (.inr "cells", .ref p.2), (.inr "count", .int s'.c)])) ∧ Wd g s' (upd H p.1 (.dK [(.inr "whole", .int s'.w), (.inr "cells", .ref p.2), (.inr "count", .int s'.c)])) := by
  obtain ⟨q1, q2⟩ := w.dr p h
  refine ⟨⟨fun a o e t v => ?_, fun a n => ?_, fun t => tabs_upd t q1 rfl⟩, ⟨fun q hq => ?_, tabs_upd w.tb q1 rfl⟩⟩
  · by_cases z : a = p.1
    · rw [z, q1] at e
      cases e
      exact absurd z (v rfl p h)
    · rw [upd_ne z]; exact e
  · by_cases z : a = p.1
    · rw [z, upd_same]; exact fun y => by cases y
    · rw [upd_ne z]; exact n
  · rw [h] at hq
    cases hq
    exact ⟨upd_same, by rw [upd_ne (w.ne h), q2, hc]⟩
theorem ds_drawSet (bx : Bx X g k E) (hu : X.A.units + 1 < cLine) {key : Str} {o e : Expr} {mo mv : Env → M D} {j : Nat} {p2 pos' pos : Pos} (ho : DE X g E ω false o mo) (h : DE X g E ω false e mv) (hs : swapsWith e (some (.Subscript o (.Constant (.str key) j p2) pos')) pos.line X.env = pure false := by rfl) :
    DSt X g E ω (.Assign [.Subscript o (.Constant (.str key) j p2) pos'] e pos) (sDraw key mo mv) := by
  obtain ⟨t, ht, hq⟩ := h
  obtain ⟨to, hto, hqo⟩ := ho
  refine ⟨_, ps_dput hu hto pe_str ht hs, fun H0 F0 κ ρ s σ H N r S hm hp => ?_⟩
  rcases M.bind_some hm with ⟨er, s1, e1, rfl⟩ | ⟨d, s1, e1, e2⟩
  · exact hq H0 F0 κ ρ s σ H _ _ S e1 hp
  refine hq H0 F0 κ ρ s σ H _ _ S e1 fun v H1 k1 S1 r1 => ?_
  rcases M.bind_some e2 with ⟨er, s2, e3, rfl⟩ | ⟨x, s2, e3, e4⟩
  · exact hqo H0 F0 κ ρ s1 σ H1 _ _ S1 e3 hp
  refine hqo H0 F0 κ ρ s1 σ H1 _ _ S1 e3 fun vx H2 k2 S2 r2 => ?_
  cases x <;> first | (cases e4; done) | skip
  cases d <;> first | (cases e4; done) | skip
  rename_i i
  cases r1
  obtain ⟨s', e5, rfl⟩ := Option.map_eq_some_iff.mp e4
  cases r2 with
  | draw hdr =>
    rename_i p
    obtain ⟨q1, q2⟩ := S2.wd.dr p hdr
    have P0 := DPut.k (H := H2) (a := p.1) (k := .inr key) (v := .int i) q1 (by show 3 < sizeLine; decide)
    unfold drawSet at e5
    by_cases z1 : key = "whole"
    · rw [if_pos z1] at e5
      cases e5
      subst z1
      obtain ⟨kp, w⟩ := kp_draw (s' := { s2 with w := i }) S2.wd hdr rfl
      exact ⟨p.1, _, rfl, P0, hp σ _ (S2.kpTo bx.ok kp w)⟩
    rw [if_neg z1] at e5
    by_cases z3 : key = "count"
    · rw [if_pos z3] at e5
      cases e5
      subst z3
      obtain ⟨kp, w⟩ := kp_draw (s' := { s2 with c := i }) S2.wd hdr rfl
      exact ⟨p.1, _, rfl, P0, hp σ _ (S2.kpTo bx.ok kp w)⟩
    rw [if_neg z3] at e5
    cases e5

/-! ### what is not followed -/
theorem ds_stuck {st : Stmt} : DSt X g E ω st fun _ => M.stuck := ⟨fun _ _ _ => False, ⟨fun _ _ _ _ _ _ h => h.elim⟩, fun _ _ _ _ _ _ _ _ _ _ h => by cases h⟩
theorem dss_stuck {st : List Stmt} : DSs X g E ω st fun _ => M.stuck := ⟨fun _ _ _ => False, ⟨fun _ _ _ _ _ _ h => h.elim⟩, fun _ _ _ _ _ _ _ _ _ _ h => by cases h⟩
theorem de_stuck {e : Expr} : DE X g E ω b e fun _ => M.stuck := ⟨fun _ _ _ => False, ⟨fun _ _ _ _ _ _ h => h.elim⟩, fun _ _ _ _ _ _ _ _ _ _ h => by cases h⟩
theorem dr_stuck {e : Expr} : DR X g E ω e fun _ => M.stuck := ⟨fun _ _ _ => False, ⟨fun _ _ _ _ _ _ h => h.elim⟩, fun _ _ _ _ _ _ _ _ _ _ h => by cases h⟩
theorem dt_stuck {e : Expr} : DT X g E ω e fun _ => M.stuck := ⟨fun _ _ _ => False, ⟨fun _ _ _ _ _ _ h => h.elim⟩, fun _ _ _ _ _ _ _ _ _ _ h => by cases h⟩
end
end VS

/-! VS16: what the generator uses. -/
namespace VS
open PySem PySem.Spec PyProof.Rows L2 LamX

section
variable {X : Cx} {g : G} {E : XK} {ω : List Nat} {b : Bool} {k j : Nat}
theorem Bx.mono (bx : Bx X g k E) (h : j ≤ k := by decide) : Bx X g j E := ⟨bx.K, bx.ok, bx.calm, bx.nd, bx.room.mono h, bx.ps⟩
theorem Bx.u1 (bx : Bx X g k E) : X.A.units + 1 < cLine := by have := bx.room.un; omega
theorem Bx.u64 (bx : Bx X g k E) : X.A.units + 64 < cLine := by have := bx.room.un; omega

/-! ### a def that is known -/
structure Cl (P : Program) (w : World) (K : PySem.W.Frag) (mg : Str → Option Value) (base : Heap) (g : G) (st : Stmt) (x : Str) (n k : Nat) (fd : FuncData) (ps : List Str) (m : List D → M D) : Prop where
  F : FnOk P w K mg base (L2.CX P w) k (g.fv n) fd ps (SpD g m)
  m : mg x = some (.ref (g.fv n))
  f : Fun K x x st (g.fv n) fd
  b : L2.Binds K fd ps []
theorem c_call {st : Stmt} {x : Str} {n : Nat} {fd : FuncData} {ps : List Str} {f : List D → M D} {e : Expr} {es : List Expr} {ms : Env → M (List D)} {p pos : Pos} (C : Cl X.prog X.w X.K X.mg X.base g st x n j fd ps f) (bx : Bx X g k E) (hj : j ≤ k) (hg : Gl X x) (hs : DA X g E ω b (e :: es) ms)
    (hdb : (x == ("__debug__" : Str)) = false := by decide) (he : starEach (e :: es) X.env = (false, eval e X.env) :: starEach es X.env := by rfl) (hpl : (backTo pos (starEach es X.env)).any (·.1) = false := by rfl) :
    DE X g E ω b (.Call (.Name x p) (e :: es) [] pos) (eCall f ms) := de_call (bx.mono hj) C.F hg C.m C.f.kp C.b hs hdb he hpl
theorem c_callK {st : Stmt} {x : Str} {n : Nat} {fd : FuncData} {ps ks : List Str} {ix : List Nat} {f : List D → M D} {kws : List Keyword} {ms : Env → M (List D)} {p pos : Pos} (C : Cl X.prog X.w X.K X.mg X.base g st x n j fd ps f) (bx : Bx X g k E) (hj : j ≤ k) (hg : Gl X x) (hb : KB fd ps ks ix) (hs : DK X g E ω b kws ms)
    (hall : (backToKw pos (keywordEach kws X.env)).all (·.1.isSome) = true := by rfl) (hks : (backToKw pos (keywordEach kws X.env)).filterMap (·.1) = ks := by rfl)
    (hdb : (x == ("__debug__" : Str)) = false := by decide) (hpl : ((backTo pos (starEach [] X.env)).any (·.1) || (backToKw pos (keywordEach kws X.env)).any (·.1.isNone)) = false := by rfl) :
    DE X g E ω b (.Call (.Name x p) [] kws pos) (eCallK f ix (lenIs ks.length ms)) := de_callK (bx.mono hj) C.F hg C.m C.f.kp hb hs hall hks hdb hpl
/-- how keywords alone bind, of a def of the text -/
theorem kb_of {K : PySem.W.Frag} {x qual : Str} {st : Stmt} {f : Addr} {fd : FuncData} {ps ks : List Str} {ix : List Nat} (F : Fun K x qual st f fd)
    (h : ∀ (kV doc pm : Value) (an : Option Addr) (cdv ct : Value) (ws : List Value), ws.length = ks.length → bindArgs (PySem.W.fnOf x qual (defArgs st) (defBody st) (defScope st) .none kV doc pm an cdv ct) ⟨[], ks.zip ws⟩ = pure (ps.zip (pick ix ws))) : KB fd ps ks ix := by
  obtain ⟨oc, od, kV, doc, pm, an, cdv, ct, osl, rfl, lk, hcd⟩ := F.ex
  exact fun s ws hl => .of_eq (h kV doc pm an cdv ct ws hl)
/-- x(..), x a name of the body that holds a def -/
def eCallV (tab : Nat → Option (List D → M D)) (i : Nat) (ms : Env → M (List D)) : Env → M D := fun ρ => match ρ[i]?.getD none with
  | some (.fn n) => match tab n with
    | some f => (ms ρ).bind f
    | none => M.stuck
  | _ => M.stuck
theorem pe_ex {ι : Type} {e : Expr} {t : ι → TE} (h : ∀ i, PE X e (t i)) : PE X e (fun σ H Q => ∃ i, t i σ H Q) := ⟨fun pins s σ H Q I ⟨i, q⟩ => (h i).run pins s σ H Q I q⟩
theorem de_callV (bx : Bx X g k E) {tab : Nat → Option (List D → M D)} {i : Nat} {x : Str} {e : Expr} {es : List Expr} {ms : Env → M (List D)} {p pos : Pos}
    (ht : ∀ n f, tab n = some f → ∃ (st : Stmt) (y : Str) (j : Nat) (fd : FuncData) (ps : List Str), j ≤ k ∧ Cl X.prog X.w X.K X.mg X.base g st y n j fd ps f) (hN : X.N[i]? = some x) (hv : Vis X.env.scope x) (hi : i ∉ ω) (hs : DA X g E ω b (e :: es) ms)
    (hdb : (x == ("__debug__" : Str)) = false := by decide) (hcd : (x == ("__classdict__" : Str)) = false := by decide) (he : starEach (e :: es) X.env = (false, eval e X.env) :: starEach es X.env := by rfl) (hpl : (backTo pos (starEach es X.env)).any (·.1) = false := by rfl) :
    DE X g E ω b (.Call (.Name x p) (e :: es) [] pos) (eCallV tab i ms) := by
  obtain ⟨ts, hts, hqs⟩ := hs
  refine ⟨_, pe_ex (ι := { q : Nat × (List D → M D) // tab q.1 = some q.2 }) (t := fun q => tCallL i (g.fv q.1.1) (SpD g q.1.2) [] E ts) fun q => ?_, fun H0 F0 κ ρ s σ H Q r S hm hp => ?_⟩
  · obtain ⟨st, y, j, fd, ps, hj, C⟩ := ht _ _ q.2
    exact pe_callL C.F (bx.room.mono hj) hN hv C.f.kp C.b .nil bx.ps hts hdb hcd he hpl
  · unfold eCallV at hm
    cases e1 : ρ[i]?.getD none with
    | none => rw [e1] at hm; cases hm
    | some d =>
      rw [e1] at hm
      cases d <;> first | (cases hm; done) | skip
      rename_i n
      simp only at hm
      cases e2 : tab n with
      | none => rw [e2] at hm; cases hm
      | some f =>
        rw [e2] at hm
        obtain ⟨v, h1, h2⟩ := S.val i _ hi (getD_some e1)
        cases h2
        refine ⟨⟨(n, f), e2⟩, h1, ?_⟩
        have q := call_tail (f := f) bx hqs S hm hp
        simpa only [List.append_nil] using q

/-! ### repr -/
def cRepr (xs : List D) : Option D := match xs with
  | [.non] => some (.str "None")
  | [.bl c] => some (.str (if c then "True" else "False"))
  | [.int i] => if i.natAbs.log2 < 1920 then some (.str (toString i)) else none
  | _ => none
theorem call_repr : CallR X (.builtin "repr") (fun xs H Q => (xs = [.non] ∧ Q (.str "None") H) ∨ (∃ c : Bool, xs = [.bl c] ∧ Q (.str (if c then "True" else "False")) H) ∨ ∃ i : Int, xs = [.int i] ∧ i.natAbs.log2 < 1920 ∧ Q (.str (toString i)) H) := by
  intro pins s σ H xs us Q I r h
  rcases h with ⟨rfl, q⟩ | ⟨c, rfl, q⟩ | ⟨i, rfl, hz, q⟩
  · obtain ⟨u, rfl, rfl⟩ := vals1 r
    exact PySem.P.repr_of_none ⟨.str _, H, I.tok _, ⟨_, rfl⟩, q⟩
  · obtain ⟨u, rfl, rfl⟩ := vals1 r
    exact PySem.P.repr_of_bool ⟨.str _, H, I.tok _, ⟨_, by cases c <;> rfl⟩, q⟩
  · obtain ⟨u, rfl, t, rfl⟩ := vals1 r
    exact PySem.P.repr_of_int hz ⟨.str _, H, I.tok _, ⟨_, rfl⟩, q⟩
theorem cd_repr : CallD X g (.builtin "repr") cRepr := by
  refine ⟨_, call_repr, fun F s H xs vs d Q hF w rs e q => ?_⟩
  unfold cRepr at e
  split at e
  · obtain ⟨v, rfl, r⟩ := reps1 rs
    cases r; cases e
    exact .inl ⟨rfl, q _ H (Kp.refl g H) w (.str _)⟩
  · obtain ⟨v, rfl, r⟩ := reps1 rs
    cases r; cases e
    exact .inr (.inl ⟨_, rfl, q _ H (Kp.refl g H) w (.str _)⟩)
  · obtain ⟨v, rfl, r⟩ := reps1 rs
    split at e
    · rename_i hl
      cases r; cases e
      exact .inr (.inr ⟨_, rfl, hl, q _ H (Kp.refl g H) w (.str _)⟩)
    · cases e
  · cases e

/-! ### the script's list -/
def cLenX (xs : List D) : Option D := match xs with
  | [.scr ns] => some (.int ns.length)
  | _ => cLen xs
theorem cd_lenX (hK : g.K = X.K) : CallD X g (.builtin "len") cLenX := by
  obtain ⟨r, h1, h2⟩ := cd_len (X := X) (g := g) hK
  refine ⟨_, CallR.or call_len_seq h1, fun F s H xs vs d Q hF w rs e q => ?_⟩
  unfold cLenX at e
  split at e
  · obtain ⟨v, rfl, r⟩ := reps1 rs
    cases e
    cases r with
    | scr hs sl =>
      rw [hK] at sl
      refine .inl ⟨_, _, rfl, .inl sl.sq, ?_⟩
      have := q (.int _) H (Kp.refl g H) w (.int _)
      simpa using this
    | scrL f h =>
      refine .inl ⟨_, _, rfl, .inl (.inl (.inl h)), ?_⟩
      have := q (.int _) H (Kp.refl g H) w (.int _)
      simpa using this
  · exact .inr (h2 F s H xs vs d Q hF w rs e q)
def eScr (m : Env → M D) : Env → M (List D) := fun ρ => (m ρ).bind fun d => match d with
  | .scr ns => M.ok (ns.map .int)
  | _ => M.stuck
theorem df_scr (bx : Bx X g k E) {tg e : Expr} {m : Env → M D} (h : DE X g E ω true e m) : DF X g E ω tg e (eScr m) := by
  obtain ⟨t, ht, hq⟩ := h
  refine ⟨_, pi_seq ht, fun H0 F0 κ ρ s σ H R r S hm hp => ?_⟩
  rcases M.bind_some hm with ⟨e, s1, e1, rfl⟩ | ⟨d, s1, e1, e2⟩
  · exact hq H0 F0 κ ρ s σ H _ _ S e1 hp
  refine hq H0 F0 κ ρ s σ H _ _ S e1 fun v H1 k1 S1 r1 => ?_
  cases d <;> first | (cases e2; done) | skip
  rename_i ns
  cases e2
  cases r1 with
  | scr hs sl =>
    rename_i a
    refine ⟨a, rfl, .inl ⟨⟨_, by rw [← bx.K]; exact sl.sq⟩, ?_⟩⟩
    rw [← bx.K]
    refine hp _ H1 [.val (.scr ns) (.ref a)] k1 S1 (fun p hp => ?_) (walkOk_list (vs := ns.map V.int) (by simp) fun F H ⟨Hx, q⟩ => ?_)
    · rcases List.mem_cons.mp hp with rfl | hp
      · exact .scr hs sl
      · cases hp
    · have q1 : Rep g F H (.scr ns) (.ref a) := q _ List.mem_cons_self
      cases q1 with
      | scr hs2 sl2 => exact ⟨sl2.sq, reps_ofInts ns⟩
      | scrL f2 h2 => exact ⟨.inl (.inl h2), reps_ofInts ns⟩
  | scrL f h =>
    rename_i a
    refine ⟨a, rfl, .inl ⟨⟨_, .inl (.inl h)⟩, ?_⟩⟩
    rw [← bx.K]
    refine hp _ H1 [.val (.scr ns) (.ref a)] k1 S1 (fun p hp => ?_) (walkOk_list (vs := ns.map V.int) (by simp) fun F H ⟨Hx, q⟩ => ?_)
    · rcases List.mem_cons.mp hp with rfl | hp
      · exact .scrL f h
      · cases hp
    · have q1 : Rep g F H (.scr ns) (.ref a) := q _ List.mem_cons_self
      cases q1 with
      | scr hs2 sl2 => exact ⟨sl2.sq, reps_ofInts ns⟩
      | scrL f2 h2 => exact ⟨.inl (.inl h2), reps_ofInts ns⟩
end
end VS

/-! VS17: short words for the generator. -/
namespace VS
open PySem PySem.Spec PyProof.Rows L2 LamX

def eAndV (m m2 : Env → M D) : Env → M D := fun ρ => (eTest m ρ).bind fun k => if k = true then m2 ρ else M.ok (.bl false)
def eOrV (m m2 : Env → M D) : Env → M D := fun ρ => (eTest m ρ).bind fun k => if k = true then M.ok (.bl true) else m2 ρ
def sStuck : Env → M Out := fun _ => M.stuck
def tabM (l : List (Nat × (List D → M D))) (n : Nat) : Option (List D → M D) := l.lookup n
section
variable {X : Cx} {g : G} {E : XK} {ω : List Nat} {b : Bool} {k j : Nat}
theorem plainIx_c {c : Const} {i : Nat} {pos : Pos} : PlainIx (.Constant c i pos) := by intro _ _; rfl
theorem n_gint {x : Str} {i : Int} {pos : Pos} (hg : Gl X x) (hm : ∃ t, X.mg x = some (.int i t)) (hd : (x == ("__debug__" : Str)) = false := by decide) : DE X g E ω b (.Name x pos) (eC (.int i)) := by
  obtain ⟨t, h⟩ := hm
  exact de_gint hg h hd
section
variable {ea eb : Expr} {ma mb : Env → M D} {pos : Pos}
theorem n_add (bx : Bx X g k E) (ha : DE X g E ω b ea ma) (hb : DE X g E ω b eb mb) : DE X g E ω b (.BinOp ea .Add eb pos) (eBin opAdd ma mb) := de_bin bx (od_add bx.K bx.ok) ha hb
theorem n_sub (bx : Bx X g k E) (ha : DE X g E ω b ea ma) (hb : DE X g E ω b eb mb) : DE X g E ω b (.BinOp ea .Sub eb pos) (eBin opSub ma mb) := de_bin bx od_sub ha hb
theorem n_mul (bx : Bx X g k E) (ha : DE X g E ω b ea ma) (hb : DE X g E ω b eb mb) : DE X g E ω b (.BinOp ea .Mult eb pos) (eBin opMul ma mb) := de_bin bx (od_mul bx.ok) ha hb
theorem n_mod (bx : Bx X g k E) (ha : DE X g E ω b ea ma) (hb : DE X g E ω b eb mb) : DE X g E ω b (.BinOp ea .Mod eb pos) (eBin opMod ma mb) := de_bin bx od_mod ha hb
theorem n_div (bx : Bx X g k E) (ha : DE X g E ω b ea ma) (hb : DE X g E ω b eb mb) : DE X g E ω b (.BinOp ea .FloorDiv eb pos) (eBin opDiv ma mb) := de_bin bx od_div ha hb
theorem n_pow (bx : Bx X g k E) (ha : DE X g E ω b ea ma) (hb : DE X g E ω b eb mb) : DE X g E ω b (.BinOp ea .Pow eb pos) (eBin opPow ma mb) := de_bin bx od_pow ha hb
theorem n_ix (bx : Bx X g k E) (ha : DE X g E ω b ea ma) (hb : DE X g E ω b eb mb) (hs : PlainIx eb) : DE X g E ω b (.Subscript ea eb pos) (eBin opIx ma mb) := de_ix bx (xd_ix bx.K bx.u1) ha hb hs
end
/-- {} -/
theorem de_dict0 (bx : Bx X g k E) {pos : Pos} : DE X g E ω b (.Dict [] [] pos) (eC (.dct [] [])) := by
  refine ⟨_, pe_dnewK, fun H0 F0 κ ρ s σ H Q r S hm hp => ?_⟩
  cases hm
  intro p hp'
  have k2 := Kp.new (g := g) (o := .dK []) hp'
  exact hp _ _ k2 (S.kpTo bx.ok k2 (S.wd.new hp')) (.dct (S.newFT hp').1 (.inl upd_same) rfl .nil)
/-! ### tables of defs -/
theorem tab_ok_nil : ∀ n f, tabM [] n = some f → ∃ (st : Stmt) (y : Str) (j : Nat) (fd : FuncData) (ps : List Str), j ≤ k ∧ Cl X.prog X.w X.K X.mg X.base g st y n j fd ps f := fun n f h => by cases h
theorem tab_ok_cons {l : List (Nat × (List D → M D))} {st : Stmt} {y : Str} {n : Nat} {fd : FuncData} {ps : List Str} {m : List D → M D} (hj : j ≤ k) (C : Cl X.prog X.w X.K X.mg X.base g st y n j fd ps m)
    (h : ∀ n f, tabM l n = some f → ∃ (st : Stmt) (y : Str) (j : Nat) (fd : FuncData) (ps : List Str), j ≤ k ∧ Cl X.prog X.w X.K X.mg X.base g st y n j fd ps f) :
    ∀ i f, tabM ((n, m) :: l) i = some f → ∃ (st : Stmt) (y : Str) (j : Nat) (fd : FuncData) (ps : List Str), j ≤ k ∧ Cl X.prog X.w X.K X.mg X.base g st y i j fd ps f := fun i f e => by
  unfold tabM at e
  rw [List.lookup_cons] at e
  by_cases q : i = n
  · subst q
    rw [show (i == i) = true from beq_self_eq_true i] at e
    cases e
    exact ⟨st, y, j, fd, ps, hj, C⟩
  · rw [show (i == n) = false from beq_false_of_ne q] at e
    exact h i f e
end
/-! ### errors -/
structure ExcG (K : PySem.W.Frag) (mg : Str → Option Value) (x : Str) (C : Addr) : Prop where
  q : PySem.W.excIn K C [.type "ValueError", .type "Exception", .type "BaseException", .type "object"] "ValueError.__new__" = true
  gC : mg x = some (.ref C)
  kC : PySem.W.keepIn K (.ref C) = true
  b : PySem.W.subIn K (.ref C) (.type "BaseException") = some true
  t : PySem.W.typeIn K (.ref C) = some (.type "type")
theorem ExcG.f {X : Cx} {x : Str} {C : Addr} (h : ExcG X.K X.mg x C) : ExcF X x C := ⟨h.q, h.gC, h.kC, h.b, h.t⟩
/-! ### the def that catches -/
def qualOf (x : Str) (st : Stmt) : Str := (envOfC x (defScope st) 0 0 .none).qual ++ "<lambda>"
structure LamF (K : PySem.W.Frag) (base : Heap) (mg : Str → Option Value) (g : G) (q : Str) (f : Addr) : Prop where
  ex : ∃ c P : Addr, TabB base mg c P ∧ (∀ cdv, HasCode K f cdv → cdv = .ref c) ∧ (P, q) ∈ g.tb ∧ ∀ p ∈ g.tb, p.1 = P → p.2 = q
structure CT (K : PySem.W.Frag) (mg : Str → Option Value) (g : G) (st : Stmt) (gf CS : Addr) (cls : Nat → Bool) : Prop where
  m : mg "_law_caught" = some (.ref gf)
  F : ∃ fd, Fun K "_law_caught" "_law_caught" st gf fd
  me : mg "StretchError" = some (.ref CS)
  cls : ∀ j, cls j = true → PySem.W.exmOne K (.ref (g.fv j)) (.ref CS) = some true
  bn : ∀ (kV doc pm : Value) (an : Option Addr) (cdv ct : Value) (us : List Value), us.length = (["work"] : List Str).length → bindArgs (PySem.W.fnOf "_law_caught" "_law_caught" (defArgs st) (defBody st) (defScope st) .none kV doc pm an cdv ct) ⟨us, []⟩ = pure ((["work"] : List Str).zip us)
  S : FnScope ["work", "caught", "error"] ["work"] (defScope st)
  va : (defScope st).names.lookup ("work" : Str) = some .local
  ge : (defScope st).names.lookup ("StretchError" : Str) = some .globalImplicit
  hy : (defScope st).names.lookup ("caught" : Str) = some .local
  hn : (defScope st).names.lookup ("error" : Str) = some .local
  bd : ∃ (kd : Nat) (p1 p2 p3 p4 p5 p6 p7 p8 p9 q1 q2 q3 q4 q5 : Pos), defBody st = [.Assign [.Name "caught" p2] (.Constant .none kd p1) p3, .Try [.Expr (.Call (.Name "work" p4) [] [] p5) p6] [.ExceptHandler (some (.Name "StretchError" q1)) (some "error") [.Assign [.Name "caught" p8] (.Name "error" p7) p9] q2] [] [] q3, .Return (some (.Name "caught" q4)) q5] ∧
    (∀ {Y : Cx}, Y.env.scope = defScope st → swapsWith (.Constant .none kd p1) (some (.Name "caught" p2)) p3.line Y.env = pure false) ∧ (∀ {Y : Cx}, Y.env.scope = defScope st → swapsWith (.Call (.Name "work" p4) [] [] p5) none p6.line Y.env = pure false) ∧ (∀ {Y : Cx}, Y.env.scope = defScope st → swapsWith (.Name "error" p7) (some (.Name "caught" p8)) p9.line Y.env = pure false)
section
variable {X : Cx} {g : G} {E : XK} {ω : List Nat} {b : Bool} {k j : Nat}
theorem c_caught {st : Stmt} {gf CS f : Addr} {q : Str} {cdv : Value} {cls : Nat → Bool} {m : Env → M D} {params : Arguments} {body : Expr} {scope : Scope} {p lpos pos : Pos} (T : CT X.K X.mg g st gf CS cls) (lf : LamF X.K X.base X.mg g q f) (hc : HasCode X.K f cdv) (hq : X.env.qual ++ "<lambda>" = q)
    (bx : Bx X g (k + 2) E) (hcode : X.env.code = cdv) (hg : Gl X "_law_caught") (L : LamS X.env.scope scope) (hdef : defaultsOf params X.env = ([], []))
    (hbind : ∀ (q : Str) (cl : List (Str × Addr)) (pm cv ctv : Value), bindArgs (PySem.W.kla_fn "<lambda>" q params body scope cl pm cv ctv) ⟨[], []⟩ = pure [])
    (hbody : ∀ (A : Around) (outer : List PySem.Env) (s : Shared) (H : Hp) (E : XK) (f cn : Addr), Bx (lamCx X A outer s H E scope f cn) g k E → DE (lamCx X A outer s H E scope f cn) g E [] false body m) :
    DE X g E ω b (.Call (.Name "_law_caught" p) [.Lambda params body scope lpos] [] pos) (eCaught cls m) := by
  obtain ⟨c, P, TB, hcc, hm, hu⟩ := lf.ex
  obtain ⟨fd, F⟩ := T.F
  obtain ⟨kd, p1, p2, p3, p4, p5, p6, p7, p8, p9, q1, q2, q3, q4, q5, e, w1, w2, w3⟩ := T.bd
  have hb : L2.Binds X.K fd ["work"] [] := F.binds (ps := ["work"]) T.bn
  have kp := F.kp
  obtain ⟨oc, od, kV, doc, pm, an, cd, ct, osl, rfl, lk, hcd⟩ := F.ex
  rw [e] at lk hb
  subst hq
  exact de_caught bx hg T.m kp lk hcd hb T.S (.inl T.va) T.ge T.me T.cls TB (hcode.trans (hcc _ hc)) hm hu L hdef hbind hbody (by decide) T.hy T.hn w1 w2 w3
end
/-- of the head's words -/
theorem fun_of {K : PySem.W.Frag} {x : Str} {st : Stmt} {f : Addr} {fd : FuncData} (F : FunD K x x (defArgs st) (defBody st) (defScope st) [] [] f fd) : Fun K x x st f fd := by
  obtain ⟨oc, od, dV, kV, doc, pm, an, cdv, ct, osl, rfl, lk, hcd, hD, hK⟩ := F.ex
  rcases hD with ⟨_, rfl⟩ | ⟨e, _⟩
  · exact ⟨⟨oc, od, kV, doc, pm, an, cdv, ct, osl, rfl, lk, hcd⟩, F.kp⟩
  · exact absurd rfl e
end VS

/-! VS18: how the draws begin; a law's def. -/
namespace VS
open PySem PySem.Spec PyProof.Rows L2 LamX

section
variable {X : Cx} {g : G} {E : XK} {ω : List Nat} {b : Bool} {k j : Nat}
/-- the conditions of a def's body -/
theorem fx_of {P : Program} {w : World} {K : PySem.W.Frag} {mg : Str → Option Value} {base : Heap} {N ps : List Str} {x : Str} {sc : Scope} {f : Addr} {cdv : Value} {A : Around} {outer : List PySem.Env} {s : Shared} {H : Hp} (hK : g.K = K) (S : FnScope N ps sc) (hr : Room k (A.deeper (envOfC x sc s.heap.objs.size f cdv))) :
    Fx (cxOf (L2.CX P w) P w K mg base N x sc f cdv A outer s H E) g k E := by
  have tk : Takes (cxOf (L2.CX P w) P w K mg base N x sc f cdv A outer s H E) fun cls d _ H => E cls d H := takes_of rfl rfl rfl rfl
  exact ⟨⟨hK, trivial, rfl, S.nd, hr, passes_call tk fun _ _ _ _ h => h⟩, passes_of rfl, tk⟩
theorem asInts_map : ∀ cs : List Int, asInts (cs.map D.int) = some cs
  | [] => rfl
  | c :: cs => by
    show (asInts (cs.map D.int)).map (c :: ·) = some (c :: cs)
    rw [asInts_map cs]; rfl
theorem begun_body (bx : Bx X g k E) {st1 st2 : Stmt} {m1 m2 : Env → M Out} {iw ic j1 j2 j3 j4 : Nat} {p1 p2 p3 q1 q2 q3 pd pr : Pos} (d1 : DSt X g E ω st1 m1) (d2 : DSt X g E ω st2 m2) (hw : X.N[iw]? = some ("whole" : Str)) (vw : Vis X.env.scope "whole") (nw : iw ∉ ω) (hc : X.N[ic]? = some ("cells" : Str)) (vc : Vis X.env.scope "cells") (oc : ic ∈ ω) :
    ∃ t : TS, PSs X [st1, st2, .Return (some (.Dict [some (.Constant (.str "whole") j1 p1), some (.Constant (.str "cells") j2 p2), some (.Constant (.str "count") j3 p3)] [.Name "whole" q1, .Name "cells" q2, .Constant (.int 0) j4 q3] pd)) pr] t ∧
      ∀ H0 F0 ρ s σ H N ρ' s' (w : Int) (cs : List Int), Sim g H0 F0 ω [] ρ s σ H → sCons m1 m2 ρ s = some (.ok (.nx ρ'), s') → ρ'[iw]? = some (some (.int w)) → ρ'[ic]? = some (some (.lst (cs.map .int))) →
        (∀ p c H', Kp g H0 H' → Wd g s' H' → H0 p = none → H0 c = none → c ≠ p → H' p = some (.dK [(.inr "whole", .int w), (.inr "cells", .ref c), (.inr "count", .int 0)]) → H' c = some (.lst (cs.map V.int)) → N.rt (.ref p) H') → t N σ H := by
  obtain ⟨t1, h1, r1⟩ := d1
  obtain ⟨t2, h2, r2⟩ := d2
  refine ⟨_, pss_cons h1 (pss_cons h2 (pss_one (ps_ret (pe_disp (pps_cons pe_str (pe_var hw vw) (pps_cons pe_str (pe_var hc vc) (pps_cons pe_str pe_int pps_nil))) rfl rfl (by intro z; cases z) (by show 3 ≤ 15; decide))))), fun H0 F0 ρ s σ H N ρ' s' w cs S hm ew ec hN => ?_⟩
  rcases M.bind_some hm with ⟨e, s1, e1, h⟩ | ⟨o, s1, e1, e2⟩
  · cases h
  refine r1 H0 F0 [] ρ s σ H _ _ S e1 ?_
  cases o with
  | nx ρ1 =>
    refine fun σ1 H1 S1 => r2 H0 F0 [] ρ1 s1 σ1 H1 _ _ S1 e2 fun σ2 H2 S2 => ?_
    obtain ⟨v, g1, g2⟩ := S2.val iw _ nw ew
    cases g2
    obtain ⟨c, c1, c2, c3, c4, vs, c5, c6⟩ := S2.own ic _ oc ec
    have ev : vs = cs.map V.int := by
      exact reps_ints c6 (asInts_map cs)
    intro p hp
    have np : c ≠ p := ne_of_none c5 hp
    have e3 : (upd H2 p (.dK [])) c = some (.lst vs) := by rw [upd_ne np]; exact c5
    refine ⟨_, g1, ?_⟩
    refine ⟨_, c1, upd_same, [(.inr "whole", .int w), (.inr "cells", .ref c), (.inr "count", .int 0)], rfl, by show 3 ≤ 15; decide, ?_⟩
    have k1 := Kp.new (g := g) (o := .dK []) hp
    have h0 := S2.kp.free hp
    have k2 : Kp g H0 (upd (upd H2 p (.dK [])) p (.dK [(.inr "whole", .int w), (.inr "cells", .ref c), (.inr "count", .int 0)])) := (S2.kp.trans k1).mut h0 upd_same rfl
    have w1 := S2.wd.new (o := .dK []) hp
    obtain ⟨n1, n2⟩ := S2.wd.newNe hp
    have w2 : Wd g s' (upd (upd H2 p (.dK [])) p (.dK [(.inr "whole", .int w), (.inr "cells", .ref c), (.inr "count", .int 0)])) := w1.upd upd_same rfl n1 n2
    refine hN p c _ k2 w2 h0 c2 np upd_same ?_
    rw [upd_ne np, e3, ev]
  | rt d => cases e2
  | bk r => cases e2
  | ct r => cases e2
def spBegun (g : G) (n iw ic : Nat) (b0 : Env → M Out) : Sp := fun vs H Q E => ∃ (a : Addr) (ns : List Int) (F : Addr → Prop) (s s' : DS) (ρ' : Env) (w : Int) (cs : List Int), vs = [.ref a] ∧ (∀ a, F a → g.nd a) ∧ Rep g F H (.scr ns) (.ref a) ∧ Wd g s H ∧
  b0 (some (.scr ns) :: List.replicate n none) s = some (.ok (.nx ρ'), s') ∧ ρ'[iw]? = some (some (.int w)) ∧ ρ'[ic]? = some (some (.lst (cs.map .int))) ∧
  ∀ p c H', Kp g H H' → Wd g s' H' → H p = none → H c = none → c ≠ p → H' p = some (.dK [(.inr "whole", .int w), (.inr "cells", .ref c), (.inr "count", .int 0)]) → H' c = some (.lst (cs.map V.int)) → Q (.ref p) H'
/-- the state at the start of a def of one parameter -/
theorem sim_start {H : Hp} {F : Addr → Prop} {s : DS} {N : List Str} {n : Nat} {d : D} {v : V} (hn : N.length = n + 1) (hω : 0 ∉ ω) (hF : ∀ a, F a → g.nd a) (r : Rep g F H d v) (w : Wd g s H) : Sim g H F ω [] (some d :: List.replicate n none) s (L2.start N [v]) H := by
  have nl : ∀ i, i ∈ ω → ¬ live (some d :: List.replicate n (none : Option D)) i := fun i hi ⟨x, e⟩ => by
    cases i with
    | zero => exact hω hi
    | succ i =>
      rw [List.getElem?_cons_succ, List.getElem?_replicate] at e
      split at e <;> cases e
  refine ⟨by simp [L2.start, hn], Kp.refl g H, w, fun i x hi e => ?_, fun i x hi e => absurd ⟨x, e⟩ (nl i hi), fun p hp => (by cases hp), fun i j a hi _ l _ _ _ => absurd l (nl i hi)⟩
  cases i with
  | zero =>
    cases e
    exact ⟨v, rfl, r.weak fun a h _ => ⟨⟨.inl h, hF a h⟩, fun _ j hj l => absurd l (nl j hj)⟩⟩
  | succ i =>
    rw [List.getElem?_cons_succ, List.getElem?_replicate] at e
    split at e <;> cases e

/-! ### a law's def: draw = _law_begun(script), then the rest, for whatever dict and list come -/
def G.at_ (g : G) (p c : Addr) : G := { g with dr := some (p, c) }
theorem pss_ex {ι : Type} {sts : List Stmt} {t : ι → TS} (h : ∀ i, PSs X sts (t i)) : PSs X sts (fun N σ H => ∃ i, t i N σ H) := ⟨fun pins s σ H N I ⟨i, q⟩ => (h i).run pins s σ H N I q⟩
theorem law_body {f : Addr} {fd : FuncData} {n iw ic N1 : Nat} {b0 m : Env → M Out} {rest : List Stmt} {p1 p2 p3 p4 p5 : Pos} (fx : Fx X g k E) (hdr : g.dr = none) (F : FnOk X.prog X.w X.K X.mg X.base (L2.CX X.prog X.w) j f fd ["script"] (spBegun g n iw ic b0)) (hj : j ≤ k) (hm : X.mg "_law_begun" = some (.ref f)) (hk : PySem.W.keepIn X.K (.ref f) = true) (hb : L2.Binds X.K fd ["script"] [])
    (hg : Gl X "_law_begun") (hs0 : X.N[0]? = some ("script" : Str)) (vs0 : Vis X.env.scope "script") (hs1 : X.N[1]? = some ("draw" : Str)) (vs1 : Loc X.env.scope "draw") (hf : X.fn "draw" = true ∨ X.env.scope.names.lookup ("draw" : Str) = some .local) (hω : ∀ i ∈ ω, 2 ≤ i) (hsw : swapsWith (.Call (.Name "_law_begun" p2) [.Name "script" p3] [] p4) (some (.Name "draw" p1)) p5.line X.env = pure false)
    (hst : starEach [.Name "script" p3] X.env = (false, eval (.Name "script" p3) X.env) :: starEach [] X.env) (hpl : (backTo p4 (starEach [] X.env)).any (·.1) = false)
    (hrest : ∀ p c, DSs X (g.at_ p c) E ω rest m) :
    ∃ t : TS, PSs X (.Assign [.Name "draw" p1] (.Call (.Name "_law_begun" p2) [.Name "script" p3] [] p4) p5 :: rest) t ∧
      ∀ (a : Addr) (ns : List Int) (F0 : Addr → Prop) (s s' : DS) (ρ' : Env) (w : Int) (cs : List Int) (H : Hp) (N : Ends) (r : DS), X.N.length = N1 + 2 → (∀ a, F0 a → H a ≠ none) → Rep g F0 H (.scr ns) (.ref a) → Wd g s H → b0 (some (.scr ns) :: List.replicate n none) s = some (.ok (.nx ρ'), s') → ρ'[iw]? = some (some (.int w)) → ρ'[ic]? = some (some (.lst (cs.map .int))) →
        m (some (.scr ns) :: some .draw :: List.replicate N1 none) ⟨w, cs, 0⟩ = some (.ok (.rt (.bl true)), r) → (∀ H', N.rt (.bl true) H') → t N (L2.start X.N [.ref a]) H := by
  have bx := fx.bx
  have htr := fun p c => (Classical.choose_spec (hrest p c)).1
  have hqr := fun p c => (Classical.choose_spec (hrest p c)).2
  refine ⟨_, pss_cons (ps_set bx.nd hs1 vs1 (pe_call F (bx.room.mono hj) hg hm hk hb .nil bx.ps (pa_cons (pe_var hs0 vs0) pa_nil hst) (by decide) hst hpl) hsw hf) (pss_ex (ι := Addr × Addr) fun q => htr q.1 q.2), fun a ns F0 s s' ρ' w cs H N r hlen hF0 ra w0 hm0 e1 e2 hmr hN => ?_⟩
  refine ⟨.ref a, rfl, ?_⟩
  refine ⟨a, ns, F0, s, s', ρ', w, cs, rfl, fun a _ p hp => (by rw [hdr] at hp; cases hp), ra, w0, hm0, e1, e2, fun p c H' kp wd hp hc ncp q1 q2 => ?_⟩
  refine ⟨(p, c), ?_⟩
  have wd' : Wd (g.at_ p c) ⟨w, cs, 0⟩ H' := ⟨fun q hq => by cases hq; exact ⟨q1, q2⟩, wd.tb⟩
  -- the script as it is
  have F0n : ∀ x, F0 x → x ≠ p := fun x hx z => hF0 x hx (by rw [z]; exact hp)
  have ra' : Rep (g.at_ p c) F0 H' (.scr ns) (.ref a) := by
    cases ra with
    | scr h sl => exact .scr h (sc_keep kp (a, ns) h sl)
    | scrL fh h => exact .scrL fh (kp.keep _ _ h rfl fun _ q hq => by rw [hdr] at hq; cases hq)
  refine hqr p c H' F0 [] (some (.scr ns) :: some .draw :: List.replicate N1 none) ⟨w, cs, 0⟩ _ H' N _ ?_ hmr fun v H2 k2 w2 r2 => by cases r2; exact hN H2
  have nl : ∀ i, i ∈ ω → ¬ live (some (.scr ns) :: some .draw :: List.replicate N1 (none : Option D)) i := fun i hi ⟨x, e⟩ => by
    have := hω i hi
    match i, this with
    | i + 2, _ =>
      rw [List.getElem?_cons_succ, List.getElem?_cons_succ, List.getElem?_replicate] at e
      split at e <;> cases e
  have hst : (L2.start X.N [.ref a]) = some (.ref a) :: none :: List.replicate N1 none := by
    unfold L2.start
    rw [hlen]
    rfl
  rw [hst]
  refine ⟨by simp, Kp.refl _ _, wd', fun i x hi e => ?_, fun i x hi e => absurd ⟨x, e⟩ (nl i hi), fun p hp => (by cases hp), fun i j a hi _ l _ _ _ => absurd l (nl i hi)⟩
  match i with
  | 0 =>
    cases e
    exact ⟨_, rfl, ra'.weak fun x h _ => ⟨⟨.inl h, fun q hq => by cases hq; exact F0n x h⟩, fun _ j hj l => absurd l (nl j hj)⟩⟩
  | 1 =>
    cases e
    exact ⟨_, rfl, .draw (p := (p, c)) rfl⟩
  | i + 2 =>
    rw [List.getElem?_cons_succ, List.getElem?_cons_succ, List.getElem?_replicate] at e
    split at e <;> cases e
end
end VS

/-! VS19: the end of a law: what the head tells; the walk. -/
namespace VS
open PySem PySem.Spec PyProof.Rows L2 LamX

/-! ### classes of errors by Bools -/
def excCB (K : PySem.W.Frag) (D : Addr) : Bool := He.eqO (PySem.W.findIn K (.ref D) "__getattribute__") (some (some (.builtin "BaseException.__getattribute__"))) && (He.eqO (PySem.W.findIn K (.ref D) "__getattr__") (some none) && (decide (PySem.W.subIn K (.ref D) (.type "BaseException") = some true) && (PySem.W.hasDictIn K D &&
  (He.eqO (PySem.W.findIn K (.ref D) "__class__") (some (some (.builtin "object.__class__"))) && (He.eqO (PySem.W.specialIn K (.builtin "object.__class__") "__get__") (some (some (.builtin "getset_descriptor.__get__"))) && (decide (PySem.W.takesIn K (.builtin "object.__class__") = some true) && decide (PySem.W.mroIn K D (.type "object") = some true)))))))
theorem excC_of {K : PySem.W.Frag} {D : Addr} (h : excCB K D = true) : ExcC K D := by
  obtain ⟨h1, h⟩ := He.ba h
  obtain ⟨h2, h⟩ := He.ba h
  obtain ⟨h3, h⟩ := He.ba h
  obtain ⟨h4, h⟩ := He.ba h
  obtain ⟨h5, h⟩ := He.ba h
  obtain ⟨h6, h⟩ := He.ba h
  obtain ⟨h7, h8⟩ := He.ba h
  exact ⟨He.eqO_ok h1, He.eqO_ok h2, of_decide_eq_true h3, h4, He.eqO_ok h5, He.eqO_ok h6, of_decide_eq_true h7, of_decide_eq_true h8⟩
def tabL (l : List (Nat × Bool)) (n : Nat) : Option Bool := l.lookup n
def isTB (K : PySem.W.Frag) (fv : Nat → Addr) (l : List (Nat × Bool)) (n : Nat) : Bool := decide (PySem.W.kitOne K (.type "NoneType") (.ref (fv n)) = some false) && l.all fun p => excCB K (fv p.1) && decide (PySem.W.kitOne K (.ref (fv p.1)) (.ref (fv n)) = some p.2)
theorem lookup_mem' {α : Type} {n : Nat} {b : α} : ∀ {l : List (Nat × α)}, l.lookup n = some b → (n, b) ∈ l
  | [], h => by cases h
  | (m, c) :: r, h => by
    rw [List.lookup_cons] at h
    by_cases q : n = m
    · subst q
      rw [show (n == n) = true from beq_self_eq_true n] at h
      cases h
      exact List.mem_cons_self
    · rw [show (n == m) = false from beq_false_of_ne q] at h
      exact List.mem_cons_of_mem _ (lookup_mem' h)
theorem isT_of {K : PySem.W.Frag} {fv : Nat → Addr} {l : List (Nat × Bool)} {n : Nat} (h : isTB K fv l n = true) : IsT K fv (tabL l) n := by
  obtain ⟨h1, h2⟩ := He.ba h
  refine ⟨fun c b e => ?_, fun a => ?_⟩
  · obtain ⟨h3, h4⟩ := He.ba (List.all_eq_true.mp h2 _ (lookup_mem' e))
    exact ⟨excC_of h3, of_decide_eq_true h4⟩
  · by_cases z : a = "NoneType"
    · subst z; exact .inl (of_decide_eq_true h1)
    · exact .inr z
def clsB (K : PySem.W.Frag) (fv : Nat → Addr) (l : List Nat) (n : Nat) : Bool := l.all fun j => decide (PySem.W.exmOne K (.ref (fv j)) (.ref (fv n)) = some true)
theorem cls_of {K : PySem.W.Frag} {fv : Nat → Addr} {l : List Nat} {n : Nat} (h : clsB K fv l n = true) : ∀ j, l.contains j = true → PySem.W.exmOne K (.ref (fv j)) (.ref (fv n)) = some true := fun j hj => of_decide_eq_true (List.all_eq_true.mp h j (List.contains_iff_mem.mp hj))
theorem excG_of {K : PySem.W.Frag} {h : Heap} {mg : Str → Option Value} {x : Str} (X : K.In h) (G : h.Ns mainGlobals mg) (c : (He.Fa.exc x).ok K = true) (c2 : (He.Fa.glo x).ok K = true) : ExcG K mg x (He.ga K x) := by
  obtain ⟨h1, h2, h3, h4⟩ := He.exc_ok c
  exact ⟨h1, He.glo_ok X G c2, h2, h3, h4⟩
/-- the defs' tables of code objects, with the names of what they make -/
def tbOf (K : PySem.W.Frag) (tf : List (He.Defn × Str)) : List (Addr × Str) := tf.map fun p => ((He.cT K p.1).2, p.2)
def apart (l : List Addr) : Bool := decide l.Nodup
theorem lamF_of {K : PySem.W.Frag} {base : Heap} {mg : Str → Option Value} {g : G} {x q : Str} {st : Stmt} {tf : List (He.Defn × Str)} (F : ∃ fd, Fun K x x st (He.ga K x) fd) (ht : g.tb = tbOf K tf) (hp : ((x, none), q) ∈ tf) (hn : apart (tf.map fun p => (He.cT K p.1).2) = true) (TB : TabB base mg (He.cT K (x, none)).1 (He.cT K (x, none)).2) : LamF K base mg g q (He.ga K x) := by
  refine ⟨_, _, TB, fun cdv ⟨oc, od, osl, fd, lk, e⟩ => ?_, ?_, fun p hp2 e => ?_⟩
  · obtain ⟨fd2, F2⟩ := F
    obtain ⟨oc2, od2, kV, doc, pm, an, cd2, ct, osl2, rfl, lk2, hcd⟩ := F2.ex
    have z := lk.symm.trans lk2
    obtain ⟨c, ec⟩ := He.codeIn_ref hcd
    have e1 : fd.code = cd2 := by
      injection z with z
      injection z with _ _ z _
      injection z with z
      rw [z] <;> rfl
    have e2 : cdv = .ref c := by rw [← e, e1, ec]
    rw [e2]
    exact congrArg Value.ref (He.codeOf_eq (p := (x, none)) lk2 (by exact ec)).symm
  · rw [ht]
    exact List.mem_map.mpr ⟨_, hp, rfl⟩
  · rw [ht] at hp2
    obtain ⟨r, hr, rfl⟩ := List.mem_map.mp hp2
    have nd : (tf.map fun p => (He.cT K p.1).2).Nodup := of_decide_eq_true hn
    have key : ∀ (l : List (He.Defn × Str)), (l.map fun p => (He.cT K p.1).2).Nodup → ∀ a ∈ l, ∀ b ∈ l, (He.cT K a.1).2 = (He.cT K b.1).2 → a = b := fun l => by
      induction l with
      | nil => intro _ a ha; cases ha
      | cons y l ih =>
        intro h a ha b hb eq
        rw [List.map_cons, List.nodup_cons] at h
        rcases List.mem_cons.mp ha with e1 | ha1
        · rcases List.mem_cons.mp hb with e2 | hb1
          · rw [e1, e2]
          · exact absurd (List.mem_map.mpr ⟨b, hb1, by rw [← eq, e1]⟩) h.1
        · rcases List.mem_cons.mp hb with e2 | hb1
          · exact absurd (List.mem_map.mpr ⟨a, ha1, by rw [eq, e2]⟩) h.1
          · exact ih h.2 a ha1 b hb1 eq
    have := key tf nd r hr _ hp e
    rw [this]

/-! ### the law's promise -/
def spLaw (g : G) (n iw ic N1 : Nat) (b0 m : Env → M Out) : Sp := fun vs H Q E => ∃ (a : Addr) (ns : List Int) (s s' r : DS) (ρ' : Env) (w : Int) (cs : List Int), vs = [.ref a] ∧ Tabs g.tb H ∧ SqL g.K H a (ns.map V.int) ∧ b0 (some (.scr ns) :: List.replicate n none) s = some (.ok (.nx ρ'), s') ∧ ρ'[iw]? = some (some (.int w)) ∧ ρ'[ic]? = some (some (.lst (cs.map .int))) ∧
  m (some (.scr ns) :: some .draw :: List.replicate N1 none) ⟨w, cs, 0⟩ = some (.ok (.rt (.bl true)), r) ∧ ∀ H', Q (.bl true) H'
def G.sc_ (g : G) (a : Addr) (ns : List Int) : G := { g with sc := some (a, ns), dr := none }
theorem rep_scr {g : G} {H : Hp} {a : Addr} {ns : List Int} (h : SqL g.K H a (ns.map V.int)) : ∃ F0 : Addr → Prop, (∀ x, F0 x → H x ≠ none) ∧ Rep (g.sc_ a ns) F0 H (.scr ns) (.ref a) := by
  rcases h with (h | ⟨o, h⟩) | h
  · exact ⟨fun x => x = a, fun x (e : x = a) => (by rw [e, h]; exact fun z => by cases z), .scrL rfl h⟩
  · exact ⟨fun _ => False, fun _ z => z.elim, .scr rfl (.inl ⟨o, h⟩)⟩
  · exact ⟨fun _ => False, fun _ z => z.elim, .scr rfl (.inr h)⟩
theorem wd_start {g : G} {H : Hp} {s : DS} (h : Tabs g.tb H) (hd : g.dr = none) : Wd g s H := ⟨fun p hp => (by rw [hd] at hp; cases hp), h⟩

/-- the walk of a law row, its facts found in the state that the head leaves -/
theorem walk_x {l : PySem.W.OpenLaw} {n k : Nat} {q : Program} {loose : List Str} {XP : (Str → Option Value) → Heap → Prop} {YP : World → Heap → Prop} {d : DefRec} {x : Str}
    (hn : l.most = some n) (hn2 : n ≤ sizeLine) (hdf : d.params.defaults = []) (hr : Room k callerA)
    (F : ∀ (w : World) (mg : Str → Option Value) (fa : Addr) (h : Heap), YP w h → h.Ns mainGlobals mg → mg d.name = some (.ref fa) → ∃ K : PySem.W.Frag, K.In h ∧ LawAtS l w K (L2.CX l.prog w) k n x mg fa h) :
    PySem.W.WalkO q loose XP YP l.row.toRowW d [] (fun f vs => PySem.call f vs) := by
  refine Att.attach_callB hn hdf fun w s₀ s₁ mg mb fa o pm cd doc a vs ns G Y ho hd hcd hmg hobj hints hlen hbits hg => ?_
  obtain ⟨K, KX, fd, cs, sp, hT, nT, C, hb, hsp, hF⟩ := F w mg fa _ Y G.T.g hmg
  exact law_callTs KX G.T.g G.T.b G.T.builtins G.T.nolimit hg hT nT C G.T.bmain hobj hints (Nat.le_trans hlen hn2) hr hF hb (fun H hH hS => hsp H a ns hlen hbits hH hS) fun H e s' ⟨_, _, _, _, _, _, _, _, _, _, _, _, z⟩ => z
end VS

/-! VM: what the helpers mean that all laws have (printed by gen.py) -/
namespace VS
open PySem
noncomputable def b__law_mixed : Env → M Out :=
    (sCons (sDraw "count" (eVar 0) (eBin opAdd (eDraw "count" (eVar 0)) (eC (.int 1))))
    (sCons (sAsg (tName 1) (eBin opAdd (eC (.int 1469598103934665603)) (eBin opMul (eC (.int 97)) (eDraw "count" (eVar 0)))))
    (sCons (sFor (tName 2) (eItems (eBin opAdd (eDraw "cells" (eVar 0)) (eArgs opLst (eCons (eDraw "count" (eVar 0)) eNil)))) (sCons (sAsg (tName 1) (eBin opMod (eArgs cInt (eCons (eBin opMul (eBin opAdd (eVar 1) (eVar 2)) (eC (.int 1099511628211))) eNil)) (eBin opSub (eBin opPow (eC (.int 2)) (eC (.int 61))) (eC (.int 1)))))
    (sAsg (tName 1) (eBin opAdd (eVar 1) (eBin opDiv (eVar 1) (eBin opPow (eC (.int 2)) (eC (.int 17))))))))
    (sRet (eVar 1)))))
noncomputable def m__law_mixed : List D → M D := fnM 3 1 b__law_mixed
noncomputable def b__law_take : Env → M Out :=
    (sCons (sIf (eTest (eBin opLt (eVar 1) (eC (.int 2)))) (sRet (eC (.int 0))) sNil)
    (sCons (sIf (eTest (eBin opGt (eDraw "whole" (eVar 0)) (eC (.int 0)))) (sCons (sAsg (tName 2) (eBin opMod (eArgs cInt (eCons (eDraw "whole" (eVar 0)) eNil)) (eVar 1)))
    (sCons (sDraw "whole" (eVar 0) (eBin opDiv (eDraw "whole" (eVar 0)) (eVar 1)))
    (sRet (eVar 2)))) sNil)
    (sCons (sAsg (tName 2) (eCall m__law_mixed (eCons (eVar 0) eNil)))
    (sCons (sWhile (eAnd (eTest (eBin opGt (eVar 1) (eBin opPow (eC (.int 2)) (eC (.int 50))))) (eTest (eBin opLt (eVar 2) (eBin opMul (eVar 1) (eVar 1))))) (sAsg (tName 2) (eBin opAdd (eBin opMul (eVar 2) (eBin opPow (eC (.int 2)) (eC (.int 61)))) (eCall m__law_mixed (eCons (eVar 0) eNil)))))
    (sRet (eBin opMod (eArgs cInt (eCons (eBin opDiv (eVar 2) (eC (.int 1024))) eNil)) (eVar 1)))))))
noncomputable def m__law_take : List D → M D := fnM 3 2 b__law_take
noncomputable def b__law_pick : Env → M Out :=
    (sRet (eBin opIx (eVar 1) (eCall m__law_take (eCons (eVar 0) (eCons (eArgs cLenX (eCons (eVar 1) eNil)) eNil)))))
noncomputable def m__law_pick : List D → M D := fnM 2 2 b__law_pick
noncomputable def b__law_kinds : Env → M Out :=
    (sCons (sPar [1, 2] (eCons (eArgs opLst eNil) (eCons (eArgs opLst (eCons (eVar 0) eNil)) eNil)))
    (sCons (sWhile (eTest (eBin opNe (eVar 2) (eArgs opLst eNil))) (sCons (sPop 2 3)
    (sIf (eOr (eTest (eUn (dIs "bool") (eVar 3))) (eTest (eBin opIs (eVar 3) (eC .non)))) (sApp 1 (eArgs cRepr (eCons (eVar 3) eNil))) (sIf (eTest (eUn (dIs "int") (eVar 3))) (sApp 1 (eC (.str "number"))) (sIf (eTest (eUn (dIs "str") (eVar 3))) (sApp 1 (eC (.str "string"))) (sIf (eOr (eTest (eUn (dIs "list") (eVar 3))) (eTest (eUn (dIs "tuple") (eVar 3)))) (sCons (sApp 1 (eIf (eTest (eUn (dIs "list") (eVar 3))) (eC (.str "list")) (eC (.str "tuple"))))
    (sAsg (tName 2) (eBin opCat (eSeq (eVar 2)) (eSeq (eUn toLst (eSeq (eVar 3))))))) (sIf (eTest (eUn (dIs "dict") (eVar 3))) (sCons (sApp 1 (eC (.str "dict")))
    sStuck) (sApp 1 (eC (.str "other"))))))))))
    (sRet (eVar 1))))
noncomputable def m__law_kinds : List D → M D := fnM 5 1 b__law_kinds
noncomputable def b__law_says : Env → M Out :=
    (sRet (eAndV (eBin opEq (eCall m__law_kinds (eCons (eVar 0) eNil)) (eCall m__law_kinds (eCons (eVar 1) eNil))) (eBin opEq (eVar 0) (eVar 1))))
noncomputable def m__law_says : List D → M D := fnM 2 2 b__law_says
noncomputable def b__law_begun : Env → M Out := sCons (sPar [2, 3] (eCons (eC (.int 0)) (eCons (eArgs opLst eNil) eNil))) (sFor (tName 1) (eScr (eVar 0)) (sIf (eTest (eUn (dIs "int") (eVar 1))) (sCons (sIf (eTest (eBin opGe (eVar 1) (eBin opPow (eC (.int 10)) (eC (.int 18))))) (sAsg (tName 2) (eBin opAdd (eBin opMul (eVar 2) (eBin opAdd (eBin opSub (eVar 1) (eBin opPow (eC (.int 10)) (eC (.int 18)))) (eC (.int 1)))) (eBin opSub (eVar 1) (eBin opPow (eC (.int 10)) (eC (.int 18)))))) sNil)
    (sApp 3 (eVar 1))) sNil))
end VS

/-! VN: runs that end; the draws. -/
namespace VS
open PySem

/-! ### runs -/
def OkS (s : DS) : Prop := s.cs.length ≤ 63
/-- from every state m ends with an answer in P -/
def Ev {α : Type} (m : M α) (P : α → Prop) : Prop := ∀ s, OkS s → ∃ a s', m s = some (.ok a, s') ∧ OkS s' ∧ P a
/-- .. with an error in P -/
def EvE {α : Type} (m : M α) (P : Er → Prop) : Prop := ∀ s, OkS s → ∃ e s', m s = some (.error e, s') ∧ OkS s' ∧ P e
section
variable {α β : Type} {m : M α} {f : α → M β} {P : α → Prop} {Q : β → Prop} {R : Er → Prop}
theorem Ev.ok {a : α} (h : P a) : Ev (M.ok a) P := fun s hs => ⟨a, s, rfl, hs, h⟩
theorem Ev.bind (h : Ev m P) (k : ∀ a, P a → Ev (f a) Q) : Ev (M.bind m f) Q := fun s hs => by
  obtain ⟨a, s1, e1, h1, p⟩ := h s hs
  obtain ⟨b, s2, e2, h2, q⟩ := k a p s1 h1
  exact ⟨b, s2, by unfold M.bind; rw [e1]; exact e2, h2, q⟩
theorem Ev.mono {P' : α → Prop} (h : Ev m P) (k : ∀ a, P a → P' a) : Ev m P' := fun s hs => by
  obtain ⟨a, s1, e1, h1, p⟩ := h s hs
  exact ⟨a, s1, e1, h1, k a p⟩
theorem EvE.er {e : Er} (h : R e) : EvE (M.er e : M α) R := fun s hs => ⟨e, s, rfl, hs, h⟩
theorem EvE.bind (h : Ev m P) (k : ∀ a, P a → EvE (f a) R) : EvE (M.bind m f) R := fun s hs => by
  obtain ⟨a, s1, e1, h1, p⟩ := h s hs
  obtain ⟨b, s2, e2, h2, q⟩ := k a p s1 h1
  exact ⟨b, s2, by unfold M.bind; rw [e1]; exact e2, h2, q⟩
theorem EvE.bind1 (h : EvE m R) : EvE (M.bind m f) R := fun s hs => by
  obtain ⟨e, s1, e1, h1, p⟩ := h s hs
  exact ⟨e, s1, by unfold M.bind; rw [e1], h1, p⟩
theorem Ev.caught {cls : Nat → Bool} {m : VS.Env → M D} {ρ : VS.Env} {R : Er → Prop} {Q : D → Prop} (h : EvE (m ρ) R) (k : ∀ e, R e → cls e.1 = true ∧ Q (.exc e.1 e.2)) : Ev (eCaught cls m ρ) Q := fun s hs => by
  obtain ⟨e, s1, e1, h1, p⟩ := h s hs
  obtain ⟨c, q⟩ := k e p
  refine ⟨_, s1, ?_, h1, q⟩
  unfold eCaught
  rw [e1]
  simp only [c, if_true]
theorem Ev.uncaught {cls : Nat → Bool} {m : VS.Env → M D} {ρ : VS.Env} {P Q : D → Prop} (h : Ev (m ρ) P) (k : Q .non) : Ev (eCaught cls m ρ) Q := fun s hs => by
  obtain ⟨a, s1, e1, h1, p⟩ := h s hs
  refine ⟨_, s1, ?_, h1, k⟩
  unfold eCaught
  rw [e1]
/-- a for whose body keeps an invariant -/
theorem Ev.forI {f : D → VS.Env → Option VS.Env} {body : VS.Env → M Out} {I : VS.Env → Prop} : ∀ {ds : List D} {ρ : VS.Env}, I ρ → (∀ d ∈ ds, ∀ ρ, I ρ → ∃ ρ', f d ρ = some ρ' ∧ Ev (body ρ') fun o => ∃ ρ2, o = .nx ρ2 ∧ I ρ2) → Ev (mFor f body ds ρ) fun o => ∃ ρ2, o = .nx ρ2 ∧ I ρ2
  | [], ρ, h, _ => Ev.ok ⟨ρ, rfl, h⟩
  | d :: ds, ρ, h, k => by
    obtain ⟨ρ', e, hb⟩ := k d List.mem_cons_self ρ h
    unfold mFor
    rw [e]
    refine Ev.bind hb fun o ho => ?_
    obtain ⟨ρ2, rfl, h2⟩ := ho
    exact Ev.forI h2 fun d' hd' => k d' (List.mem_cons_of_mem _ hd')
end

/-! ### the mixed number -/
def mixP : Int := 1099511628211
def mixM : Int := 2305843009213693951
def mixA : Int := 1469598103934665603
def mixY (f x : Int) : Int := ((f + x) * mixP) % mixM
def mixG (y : Int) : Int := y + y / 131072
def mixStep (f x : Int) : Int := mixG (mixY f x)
def mixF (cs : List Int) (n : Int) : Int := cs.foldl mixStep (mixA + 97 * n)
def mixV (cs : List Int) (n : Int) : Int := mixStep (mixF cs n) n
theorem mixY_range (f x : Int) : 0 ≤ mixY f x ∧ mixY f x < mixM := ⟨Int.emod_nonneg _ (by decide), Int.emod_lt_of_pos _ (by decide)⟩
theorem mixV_nonneg (cs : List Int) (n : Int) : 0 ≤ mixV cs n := by
  have h := (mixY_range (mixF cs n) n).1
  unfold mixV mixStep mixG
  have := Int.ediv_nonneg h (by decide : (0 : Int) ≤ 131072)
  omega
/-- as mod goes -/
theorem mixY_congr {f f' : Int} (x : Int) (h : f % mixM = f' % mixM) : mixY f x = mixY f' x := by
  unfold mixY
  rw [Int.mul_emod, Int.add_emod, h, ← Int.add_emod, ← Int.mul_emod]
theorem mixF_congr : ∀ (r : List Int) {f f' : Int}, f % mixM = f' % mixM → (r.foldl mixStep f) % mixM = (r.foldl mixStep f') % mixM
  | [], _, _, h => h
  | x :: r, f, f', h => by
    rw [List.foldl_cons, List.foldl_cons]
    unfold mixStep
    rw [mixY_congr x h]
theorem mix_zero {f x : Int} (h : mixStep f x = 0) : (f + x) % mixM = 0 := by
  have h0 : mixY f x = 0 := by
    have h1 := mixY_range f x
    have := Int.ediv_nonneg h1.1 (by decide : (0 : Int) ≤ 131072)
    unfold mixStep mixG at h
    omega
  have d : mixM ∣ (f + x) * mixP := Int.dvd_of_emod_eq_zero h0
  obtain ⟨k, hk⟩ := d
  -- the inverse
  have e : (f + x) * (mixP * 1886636988539514303) = mixM * k * 1886636988539514303 := by rw [← Int.mul_assoc, hk]
  have e2 : mixP * 1886636988539514303 = 1 + mixM * 899618620532 := by decide
  rw [e2, Int.mul_add, Int.mul_one] at e
  have e3 : f + x = mixM * (k * 1886636988539514303 - (f + x) * 899618620532) := by
    rw [Int.mul_sub, ← Int.mul_assoc, ← e]
    have : mixM * ((f + x) * 899618620532) = (f + x) * (mixM * 899618620532) := by
      rw [← Int.mul_assoc, ← Int.mul_assoc, Int.mul_comm mixM]
    omega
  rw [e3, Int.mul_emod_right]
/-- each residue is met, late enough -/
theorem mix_meet (c1 y b : Int) (h0 : 0 ≤ y) (h1 : y < mixM) : ∃ n, b < n ∧ mixY (mixA + 97 * n) c1 = y := by
  refine ⟨(y * 1886636988539514303 - mixA - c1) * 213944196731167480 + mixM * ((b.natAbs : Int) + ((y * 1886636988539514303 - mixA - c1) * 213944196731167480).natAbs + 1), ?_, ?_⟩
  · generalize (y * 1886636988539514303 - mixA - c1) * 213944196731167480 = z
    have : mixM = 2305843009213693951 := rfl
    rw [this]
    omega
  · generalize hw : ((b.natAbs : Int) + ((y * 1886636988539514303 - mixA - c1) * 213944196731167480).natAbs + 1) = w
    unfold mixY
    have e : (mixA + 97 * ((y * 1886636988539514303 - mixA - c1) * 213944196731167480 + mixM * w) + c1) * mixP = y + mixM * (y * 899618620532 + ((y * 1886636988539514303 - mixA - c1) * 9 + 97 * w) * mixP) := by
      have : mixM = 2305843009213693951 := rfl
      have h2 : mixP = 1099511628211 := rfl
      rw [this, h2]
      unfold mixA
      omega
    rw [e, Int.add_mul_emod_self_left, Int.emod_eq_of_lt h0 h1]
theorem mix_r1 {x y n m : Int} (c : x % mixM = y % mixM) (h1 : (x + n) % mixM = 0) (h2 : (y + m) % mixM = 0) : n % mixM = m % mixM := by
  have e : mixM = 2305843009213693951 := rfl
  rw [e] at c h1 h2 ⊢
  omega
theorem mix_r2 {n m : Int} (h : n % mixM = m % mixM) : (mixA + 97 * n) % mixM = (mixA + 97 * m) % mixM := by
  have e : mixM = 2305843009213693951 := rfl
  rw [e] at h ⊢
  omega
/-- the numbers are not all zero from some place on -/
theorem mix_not_all (cs : List Int) (b : Int) : ∃ n, b < n ∧ mixV cs n ≠ 0 := by
  apply Classical.byContradiction
  intro hno
  have all : ∀ n, b < n → mixV cs n = 0 := fun n hn => Classical.byContradiction fun h => hno ⟨n, hn, h⟩
  have z : ∀ n, b < n → (mixF cs n + n) % mixM = 0 := fun n hn => mix_zero (all n hn)
  cases cs with
  | nil =>
    have h1 := z (b + 1) (by omega)
    have h2 := z (b + 2) (by omega)
    unfold mixF mixA mixM at h1 h2
    simp only [List.foldl_nil] at h1 h2
    omega
  | cons c1 r =>
    obtain ⟨n1, hb1, e1⟩ := mix_meet c1 17592051827710 b (by decide) (by decide)
    obtain ⟨n2, hb2, e2⟩ := mix_meet c1 2305843009213693950 b (by decide) (by decide)
    have F1 : mixF (c1 :: r) n1 = r.foldl mixStep (mixG 17592051827710) := by
      show r.foldl mixStep (mixG (mixY (mixA + 97 * n1) c1)) = _
      rw [e1]
    have F2 : mixF (c1 :: r) n2 = r.foldl mixStep (mixG 2305843009213693950) := by
      show r.foldl mixStep (mixG (mixY (mixA + 97 * n2) c1)) = _
      rw [e2]
    have c : (mixF (c1 :: r) n1) % mixM = (mixF (c1 :: r) n2) % mixM := by
      rw [F1, F2]
      exact mixF_congr r (by decide)
    have z1 := z n1 hb1
    have z2 := z n2 hb2
    have hn : n1 % mixM = n2 % mixM := mix_r1 c z1 z2
    have hy : mixY (mixA + 97 * n1) c1 = mixY (mixA + 97 * n2) c1 := mixY_congr c1 (mix_r2 hn)
    rw [e1, e2] at hy
    exact absurd hy (by decide)
end VS

/-! VO: how meanings are reckoned; the draws' helpers. -/
namespace VS
open PySem

theorem bind_id {α : Type} (m : M α) : M.bind m (fun a => M.ok a) = m := by
  funext s
  unfold M.bind M.ok
  cases m s with
  | none => rfl
  | some q =>
    obtain ⟨r, s'⟩ := q
    cases r <;> rfl
theorem bind_ok' {α β : Type} (a : α) (f : α → M β) : M.bind (M.ok a) f = f a := rfl
theorem mulOk_r {i j : Int} (h : Builtin.Int.intBits j ≤ 64) : mulOk i j = true := by unfold mulOk; simp [h]
theorem mulOk_l {i j : Int} (h : Builtin.Int.intBits i ≤ 64) : mulOk i j = true := by unfold mulOk; simp [h]
theorem mulOk_b {i j : Int} (h : Builtin.Int.intBits i + Builtin.Int.intBits j ≤ bitsLine) : mulOk i j = true := by unfold mulOk; simp [h]
theorem pow_2_61 : opPow (.int 2) (.int 61) = some (.int 2305843009213693952) := by simp [opPow, iiC]
theorem pow_2_17 : opPow (.int 2) (.int 17) = some (.int 131072) := by simp [opPow, iiC]
theorem pow_2_50 : opPow (.int 2) (.int 50) = some (.int 1125899906842624) := by simp [opPow, iiC]
theorem add_i (i j : Int) : opAdd (.int i) (.int j) = some (.int (i + j)) := rfl
theorem sub_i (i j : Int) : opSub (.int i) (.int j) = some (.int (i - j)) := rfl
theorem mul_i {i j : Int} (h : mulOk i j = true) : opMul (.int i) (.int j) = some (.int (i * j)) := by
  simp [opMul, opMul0, iiC, h]
theorem mod_i {i j : Int} (h : 0 < j) : opMod (.int i) (.int j) = some (.int (i % j)) := by
  have h1 : j ≠ 0 := by omega
  simp [opMod, iiC, h1, Int.fmod_eq_emod_of_nonneg i (Int.le_of_lt h)]
theorem div_i {i j : Int} (h : 0 < j) (h2 : j.natAbs.log2 < 9000) : opDiv (.int i) (.int j) = some (.int (i / j)) := by
  simp [opDiv, iiC, h, h2]
theorem lt_i (i j : Int) : opLt (.int i) (.int j) = some (.bl (decide (i < j))) := rfl
theorem le_i (i j : Int) : opLe (.int i) (.int j) = some (.bl (decide (i ≤ j))) := rfl
theorem gt_i (i j : Int) : opGt (.int i) (.int j) = some (.bl (decide (j < i))) := rfl
theorem ge_i (i j : Int) : opGe (.int i) (.int j) = some (.bl (decide (j ≤ i))) := rfl
theorem int_i (i : Int) : cInt [.int i] = some (.int i) := rfl

def mixB : Env → M Out := (sCons (sAsg (tName 1) (eBin opMod (eArgs cInt (eCons (eBin opMul (eBin opAdd (eVar 1) (eVar 2)) (eC (.int 1099511628211))) eNil)) (eBin opSub (eBin opPow (eC (.int 2)) (eC (.int 61))) (eC (.int 1)))))
    (sAsg (tName 1) (eBin opAdd (eVar 1) (eBin opDiv (eVar 1) (eBin opPow (eC (.int 2)) (eC (.int 17)))))))
theorem mixB_run (f x : Int) : mixB [some .draw, some (.int f), some (.int x)] = M.ok (.nx [some .draw, some (.int (mixStep f x)), some (.int x)]) := by
  have h1 : mulOk (f + x) 1099511628211 = true := mulOk_r (by decide)
  have h2 : (2305843009213693952 : Int) - 1 = 2305843009213693951 := by decide
  simp only [mixB, sCons, sAsg, eBin, eArgs, eCons, eNil, eVar, eC, bind_ok', List.getElem?_cons_succ, List.getElem?_cons_zero, Option.getD_some, M.ofO, add_i, mul_i h1, int_i, pow_2_61, sub_i, h2,
    mod_i (show (0 : Int) < 2305843009213693951 by decide), pow_2_17, div_i (show (0 : Int) < 131072 by decide) (show (131072 : Int).natAbs.log2 < 9000 by decide), tName, List.length_cons, List.length_nil, List.set_cons_succ, List.set_cons_zero]
  rfl
theorem mix_loop : ∀ (l : List Int) (f : Int) (y : Option D), ∃ y', mFor (tName 2) mixB (l.map .int) [some .draw, some (.int f), y] = M.ok (.nx [some .draw, some (.int (l.foldl mixStep f)), y'])
  | [], f, y => ⟨y, rfl⟩
  | x :: l, f, y => by
    obtain ⟨y', h⟩ := mix_loop l (mixStep f x) (some (.int x))
    refine ⟨y', ?_⟩
    show (mixB [some .draw, some (.int f), some (.int x)]).bind _ = _
    rw [mixB_run, bind_ok']
    exact h
theorem nCW : (Str.ofString "count" = Str.ofString "whole") = False := eq_false (by decide)
theorem nCC : (Str.ofString "count" = Str.ofString "cells") = False := eq_false (by decide)
theorem nEW : (Str.ofString "cells" = Str.ofString "whole") = False := eq_false (by decide)
theorem opLst1 (d : D) : opLst [d] = some (.lst [d]) := if_pos (show 1 ≤ sizeLine by decide)
theorem mixed_run {s : DS} (h : OkS s) : m__law_mixed [.draw] s = some (.ok (.int (mixV s.cs (s.c + 1))), { s with c := s.c + 1 }) := by
  have hs : s.cs.length + 1 ≤ sizeLine := Nat.le_trans (Nat.succ_le_succ h) (by decide)
  obtain ⟨y', hl⟩ := mix_loop (s.cs ++ [s.c + 1]) (1469598103934665603 + 97 * (s.c + 1)) none
  have hm : mulOk 97 (s.c + 1) = true := mulOk_l (by decide)
  have e1 : opAdd (.lst (s.cs.map .int)) (.lst [.int (s.c + 1)]) = some (.lst ((s.cs ++ [s.c + 1]).map .int)) := by
    simp [opAdd, opAdd0, ii, opCat, hs]
  have e2 : mFor (tName 2) mixB ((s.cs ++ [s.c + 1]).map .int) [some .draw, some (.int (1469598103934665603 + 97 * (s.c + 1))), none] { s with c := s.c + 1 } = some (.ok (.nx [some .draw, some (.int (mixV s.cs (s.c + 1))), y']), { s with c := s.c + 1 }) := by
    rw [hl]
    show some _ = some _
    rw [List.foldl_append]
    rfl
  unfold m__law_mixed fnM
  rw [if_pos (by rfl)]
  show M.bind (b__law_mixed [some .draw, none, none]) _ s = _
  unfold b__law_mixed
  simp only [sCons, sDraw, sAsg, sFor, sRet, eBin, eArgs, eCons, eNil, eVar, eC, eDraw, eItems, M.bind, M.ok, M.ofO, List.getElem?_cons_succ, List.getElem?_cons_zero, Option.getD_some, drawGet, drawSet, add_i, mul_i hm, tName, List.length_cons, List.length_nil, List.set_cons_succ, List.set_cons_zero,
    nCW, nCC, nEW, if_false, if_true, Option.map_some, opLst1, e1, D.items, Nat.reduceAdd, Nat.reduceLT]
  have e3 := e2
  unfold mixB at e3
  rw [e3]
  rfl

/-! ### what is drawn -/
noncomputable def takeW : Env → M Bool := eAnd (eTest (eBin opGt (eVar 1) (eBin opPow (eC (.int 2)) (eC (.int 50))))) (eTest (eBin opLt (eVar 2) (eBin opMul (eVar 1) (eVar 1))))
noncomputable def takeB : Env → M Out := sAsg (tName 2) (eBin opAdd (eBin opMul (eVar 2) (eBin opPow (eC (.int 2)) (eC (.int 61)))) (eCall m__law_mixed (eCons (eVar 0) eNil)))
theorem takeW_run {a f : Int} {s : DS} (ha : mulOk a a = true) : takeW [some .draw, some (.int a), some (.int f)] s = some (.ok (decide (1125899906842624 < a) && decide (f < a * a)), s) := by
  simp only [takeW, eAnd, eTest, eBin, eVar, eC, bind_ok', List.getElem?_cons_succ, List.getElem?_cons_zero, Option.getD_some, M.ofO, pow_2_50, gt_i, mul_i ha, lt_i]
  cases decide (1125899906842624 < a) <;> rfl
theorem takeB_run {a f : Int} {s : DS} (h : OkS s) : takeB [some .draw, some (.int a), some (.int f)] s = some (.ok (.nx [some .draw, some (.int a), some (.int (f * 2305843009213693952 + mixV s.cs (s.c + 1)))]), { s with c := s.c + 1 }) := by
  have hm : mulOk f 2305843009213693952 = true := mulOk_r (by decide)
  simp only [takeB, sAsg, eCall, eCons, eNil, eBin, eVar, eC, bind_ok', List.getElem?_cons_succ, List.getElem?_cons_zero, Option.getD_some, M.ofO, pow_2_61, mul_i hm]
  unfold M.bind
  rw [mixed_run h]
  rfl
theorem take_up {a : Int} (ha : mulOk a a = true) : ∀ (k : Nat) (f : Int) (s : DS), OkS s → 1 ≤ f → (a * a - f).toNat ≤ k → ∃ n f' s', mWhile takeW takeB n [some .draw, some (.int a), some (.int f)] s = some (.ok (.nx [some .draw, some (.int a), some (.int f')]), s') ∧ 0 ≤ f' ∧ OkS s'
  | k, f, s, hs, hf, hk => by
    by_cases c : (decide (1125899906842624 < a) && decide (f < a * a)) = true
    · have h1 : f < a * a := by
        rw [Bool.and_eq_true] at c
        exact of_decide_eq_true c.2
      have hv := mixV_nonneg s.cs (s.c + 1)
      match k, hk with
      | 0, hk => omega
      | k + 1, hk =>
        obtain ⟨n, f', s', e, h2, h3⟩ := take_up ha k (f * 2305843009213693952 + mixV s.cs (s.c + 1)) { s with c := s.c + 1 } hs (by omega) (by omega)
        obtain ⟨n', e'⟩ := sWhile_turn (c := takeW) (body := takeB) (by rw [takeW_run ha, c]) (takeB_run hs) ⟨n, e⟩
        exact ⟨n', f', s', e', h2, h3⟩
    · obtain ⟨n, e⟩ := mWhile_end (c := takeW) (body := takeB) (ρ := [some .draw, some (.int a), some (.int f)]) (s := s) (by rw [takeW_run ha, Bool.not_eq_true _ |>.mp c])
      exact ⟨n, f, s, e, by omega, hs⟩
theorem take_go {a : Int} (ha : mulOk a a = true) : ∀ (j : Nat) (s : DS), OkS s → mixV s.cs (s.c + 1 + j) ≠ 0 → ∃ n f' s', mWhile takeW takeB n [some .draw, some (.int a), some (.int 0)] s = some (.ok (.nx [some .draw, some (.int a), some (.int f')]), s') ∧ 0 ≤ f' ∧ OkS s'
  | j, s, hs, hj => by
    by_cases c : (decide (1125899906842624 < a) && decide ((0 : Int) < a * a)) = true
    · have hv := mixV_nonneg s.cs (s.c + 1)
      by_cases z : mixV s.cs (s.c + 1) = 0
      · match j, hj with
        | 0, hj => exact absurd z (by simpa using hj)
        | j + 1, hj =>
          obtain ⟨n, f', s', e, h2, h3⟩ := take_go ha j { s with c := s.c + 1 } hs (by
            have : s.c + 1 + 1 + (j : Int) = s.c + 1 + ((j + 1 : Nat) : Int) := by omega
            show mixV s.cs (s.c + 1 + 1 + j) ≠ 0
            rw [this]
            exact hj)
          obtain ⟨n', e'⟩ := sWhile_turn (c := takeW) (body := takeB) (by rw [takeW_run ha, c]) (by rw [takeB_run hs, z]; rfl) ⟨n, e⟩
          exact ⟨n', f', s', e', h2, h3⟩
      · obtain ⟨n, f', s', e, h2, h3⟩ := take_up ha _ (0 * 2305843009213693952 + mixV s.cs (s.c + 1)) { s with c := s.c + 1 } hs (by omega) (Nat.le_refl _)
        obtain ⟨n', e'⟩ := sWhile_turn (c := takeW) (body := takeB) (by rw [takeW_run ha, c]) (takeB_run hs) ⟨n, e⟩
        exact ⟨n', f', s', e', h2, h3⟩
    · obtain ⟨n, e⟩ := mWhile_end (c := takeW) (body := takeB) (ρ := [some .draw, some (.int a), some (.int 0)]) (s := s) (by rw [takeW_run ha, Bool.not_eq_true _ |>.mp c])
      exact ⟨n, 0, s, e, by omega, hs⟩
/-- a drawn number lies below the amount -/
def Tk (a : Int) (d : D) : Prop := ∃ x : Int, d = .int x ∧ 0 ≤ x ∧ (2 ≤ a → x < a) ∧ (a < 2 → x = 0)
theorem take_ev {a : Int} (ha : a.natAbs.log2 < 9000) : Ev (m__law_take [.draw, .int a]) (Tk a) := by
  intro s hs
  have hb : Builtin.Int.intBits a ≤ 9000 := by
    unfold Builtin.Int.intBits
    split <;> omega
  have hm : mulOk a a = true := mulOk_b (Nat.le_trans (Nat.add_le_add hb hb) (by decide))
  unfold m__law_take fnM
  rw [if_pos (by rfl)]
  show ∃ x s', M.bind (b__law_take [some .draw, some (.int a), none]) _ s = _ ∧ _
  by_cases h2 : a < 2
  · refine ⟨.int 0, s, ?_, hs, 0, rfl, Int.le_refl _, fun h => by omega, fun _ => rfl⟩
    simp only [b__law_take, sCons, sIf, eTest, eBin, eVar, eC, sRet, bind_ok', List.getElem?_cons_succ, List.getElem?_cons_zero, Option.getD_some, M.ofO, lt_i, decide_eq_true h2, if_true]
    rfl
  have a0 : 0 < a := by omega
  by_cases hw : 0 < s.w
  · refine ⟨.int (s.w % a), { s with w := s.w / a }, ?_, hs, _, rfl, Int.emod_nonneg _ (by omega), fun _ => Int.emod_lt_of_pos _ a0, fun h => absurd h h2⟩
    simp only [b__law_take, sCons, sIf, eTest, eBin, eVar, eC, sRet, sAsg, sDraw, eDraw, sNil, eArgs, eCons, eNil, M.bind, M.ok, List.getElem?_cons_succ, List.getElem?_cons_zero, Option.getD_some, M.ofO, lt_i, gt_i, decide_eq_false h2, drawGet, drawSet, if_true, if_false, Option.map_some, decide_eq_true hw, Bool.false_eq_true, int_i, mod_i a0, div_i a0 ha, tName, List.length_cons, List.length_nil, List.set_cons_succ, List.set_cons_zero, Nat.reduceAdd, Nat.reduceLT]
  · obtain ⟨n, hn, hz⟩ := mix_not_all s.cs (s.c + 1)
    have key : ∃ n f' s', mWhile takeW takeB n [some .draw, some (.int a), some (.int (mixV s.cs (s.c + 1)))] { s with c := s.c + 1 } = some (.ok (.nx [some .draw, some (.int a), some (.int f')]), s') ∧ 0 ≤ f' ∧ OkS s' := by
      by_cases z : mixV s.cs (s.c + 1) = 0
      · rw [z]
        refine take_go hm (n - (s.c + 1) - 1).toNat { s with c := s.c + 1 } hs ?_
        have : s.c + 1 + 1 + ((n - (s.c + 1) - 1).toNat : Int) = n := by omega
        show mixV s.cs (s.c + 1 + 1 + _) ≠ 0
        rw [this]
        exact hz
      · have hv := mixV_nonneg s.cs (s.c + 1)
        exact take_up hm _ _ _ hs (by omega) (Nat.le_refl _)
    obtain ⟨k, f', s', hk, hf, hs'⟩ := key
    have hW := sWhile_of hk
    refine ⟨.int (f' / 1024 % a), s', ?_, hs', _, rfl, Int.emod_nonneg _ (by omega), fun _ => Int.emod_lt_of_pos _ a0, fun h => absurd h h2⟩
    have hd : opDiv (.int f') (.int 1024) = some (.int (f' / 1024)) := div_i (by decide) (by decide)
    unfold takeW takeB at hW
    simp only [b__law_take, sCons, sIf, eTest, eBin, eVar, eC, sRet, sAsg, sDraw, eDraw, sNil, eArgs, eCons, eNil, eCall, M.bind, M.ok, List.getElem?_cons_succ, List.getElem?_cons_zero, Option.getD_some, M.ofO, lt_i, gt_i, decide_eq_false h2, drawGet, if_true, if_false, Option.map_some, decide_eq_false hw, Bool.false_eq_true, mixed_run hs, tName, List.length_cons, List.length_nil, List.set_cons_succ, List.set_cons_zero, Nat.reduceAdd, Nat.reduceLT, hW, hd, int_i, mod_i a0]
theorem pick_ev {ds : List D} {P : D → Prop} (h0 : ds ≠ []) (hl : ds.length < 1000000) (h : ∀ d ∈ ds, P d) : Ev (m__law_pick [.draw, .lst ds]) P := by
  have hp : 0 < ds.length := List.length_pos_iff.mpr h0
  have hlen : (ds.length : Int).natAbs.log2 < 9000 := by
    have : (ds.length : Int).natAbs = ds.length := rfl
    rw [this]
    have : ds.length.log2 ≤ ds.length := Nat.log2_le_self _
    rcases Nat.lt_or_ge ds.length 9000 with z | z
    · omega
    · exact Nat.lt_of_lt_of_le ((Nat.log2_lt (by omega)).mpr (Nat.lt_of_lt_of_le hl (by decide : 1000000 ≤ 2 ^ 20))) (by decide)
  have e : m__law_pick [.draw, .lst ds] = M.bind (m__law_take [.draw, .int ds.length]) fun i => M.ofO (opIx (.lst ds) i) := by
    unfold m__law_pick fnM
    rw [if_pos (by rfl)]
    show M.bind (b__law_pick [some .draw, some (.lst ds)]) _ = _
    simp only [b__law_pick, sRet, eBin, eVar, eCall, eCons, eNil, eArgs, bind_ok', List.getElem?_cons_succ, List.getElem?_cons_zero, Option.getD_some, M.ofO, cLenX, cLen, cLenS, D.items, M.bind_assoc, bind_id]
  rw [e]
  refine Ev.bind (take_ev hlen) fun d hd => ?_
  obtain ⟨x, rfl, h1, h2, h3⟩ := hd
  have hx : x.toNat < ds.length := by
    rcases Nat.lt_or_ge ds.length 2 with z | z
    · have := h3 (by omega); omega
    · have := h2 (by omega); omega
  have e2 : opIx (.lst ds) (.int x) = some ds[x.toNat] := by
    have h4 : ¬ x < 0 := by omega
    have h5 : x < ds.length := by omega
    simp [opIx, opIxS, D.items, L2.atI, L2.ixN, h1, h5, hx]
  rw [e2]
  exact Ev.ok (h _ (List.getElem_mem hx))
end VS

/-! VP: data, equality, kinds, says. -/
namespace VS
open PySem PyProof.Rows

/-! ### plain data of some depth -/
def dOk : Nat → D → Bool
  | _, .non => true
  | _, .bl _ => true
  | _, .int _ => true
  | _, .str x => PyData.strOk x
  | n + 1, .tup ds => ds.all (dOk n)
  | n + 1, .lst ds => ds.all (dOk n)
  | _, _ => false
theorem dOk_py : ∀ (n : Nat) (d : D), dOk n d = true → ∃ p, d.py = some p ∧ p.canLay0 = true ∧ p.depth ≤ n
  | n, .non, _ => ⟨_, rfl, rfl, Nat.zero_le _⟩
  | n, .bl b, _ => ⟨_, rfl, rfl, Nat.zero_le _⟩
  | n, .int i, _ => ⟨_, rfl, rfl, Nat.zero_le _⟩
  | n, .str x, h => ⟨_, rfl, by cases n <;> exact h, Nat.zero_le _⟩
  | n + 1, .tup ds, h => by
    have all : ∀ ds : List D, (∀ d ∈ ds, dOk n d = true) → ∃ ps, pys ds = some ps ∧ PyData.canLayAll0 ps = true ∧ PyData.depthAll ps ≤ n := fun ds => by
      induction ds with
      | nil => exact fun _ => ⟨[], rfl, rfl, Nat.zero_le _⟩
      | cons d ds ih =>
        intro h
        obtain ⟨p, e1, e2, e3⟩ := dOk_py n d (h d List.mem_cons_self)
        obtain ⟨ps, f1, f2, f3⟩ := ih fun x hx => h x (List.mem_cons_of_mem _ hx)
        refine ⟨p :: ps, by unfold pys; rw [e1, f1], by unfold PyData.canLayAll0; rw [e2, f2]; rfl, by unfold PyData.depthAll; omega⟩
    obtain ⟨ps, f1, f2, f3⟩ := all ds fun d hd => List.all_eq_true.mp (show ds.all (dOk n) = true from h) d hd
    exact ⟨.tuple ps, by unfold D.py; rw [f1], by unfold PyData.canLay0; exact f2, by unfold PyData.depth; omega⟩
  | n + 1, .lst ds, h => by
    have all : ∀ ds : List D, (∀ d ∈ ds, dOk n d = true) → ∃ ps, pys ds = some ps ∧ PyData.canLayAll0 ps = true ∧ PyData.depthAll ps ≤ n := fun ds => by
      induction ds with
      | nil => exact fun _ => ⟨[], rfl, rfl, Nat.zero_le _⟩
      | cons d ds ih =>
        intro h
        obtain ⟨p, e1, e2, e3⟩ := dOk_py n d (h d List.mem_cons_self)
        obtain ⟨ps, f1, f2, f3⟩ := ih fun x hx => h x (List.mem_cons_of_mem _ hx)
        refine ⟨p :: ps, by unfold pys; rw [e1, f1], by unfold PyData.canLayAll0; rw [e2, f2]; rfl, by unfold PyData.depthAll; omega⟩
    obtain ⟨ps, f1, f2, f3⟩ := all ds fun d hd => List.all_eq_true.mp (show ds.all (dOk n) = true from h) d hd
    exact ⟨.list ps, by unfold D.py; rw [f1], by unfold PyData.canLay0; exact f2, by unfold PyData.depth; omega⟩
  | 0, .tup ds, h => by cases h
  | 0, .lst ds, h => by cases h
  | 0, .dct ks ds, h => by cases h
  | n + 1, .dct ks ds, h => by cases h
  | 0, .dctT ks ds, h => by cases h
  | n + 1, .dctT ks ds, h => by cases h
  | 0, .fn i, h => by cases h
  | n + 1, .fn i, h => by cases h
  | 0, .exc c m, h => by cases h
  | n + 1, .exc c m, h => by cases h
  | 0, .draw, h => by cases h
  | n + 1, .draw, h => by cases h
  | 0, .scr xs, h => by cases h
  | n + 1, .scr xs, h => by cases h
theorem dOk_shaped {n : Nat} {d : D} (h : dOk n d = true) (hn : n ≤ 64 := by decide) : ∃ p, d.py = some p ∧ SeqAt.shaped p = true := by
  obtain ⟨p, e1, e2, e3⟩ := dOk_py n d h
  refine ⟨p, e1, ?_⟩
  unfold SeqAt.shaped
  rw [e2, Bool.true_and]
  exact decide_eq_true (Nat.le_trans e3 hn)
def dEqv (x y : D) : Bool := match x.py, y.py with
  | some p, some q => PyData.eqv p q
  | _, _ => false
theorem dEq_of {n m : Nat} {x y : D} (hx : dOk n x = true) (hy : dOk m y = true) (hn : n ≤ 64 := by decide) (hm : m ≤ 64 := by decide) : dEq x y = some (dEqv x y) := by
  obtain ⟨p, e1, e2⟩ := dOk_shaped hx hn
  obtain ⟨q, f1, f2⟩ := dOk_shaped hy hm
  unfold dEq dEqv
  rw [e1, f1]
  simp only [e2, f2, Bool.and_self, if_true]
theorem eq_of {n m : Nat} {x y : D} (hx : dOk n x = true) (hy : dOk m y = true) (hn : n ≤ 64 := by decide) (hm : m ≤ 64 := by decide) : opEq x y = some (.bl (dEqv x y)) := by
  unfold opEq; rw [dEq_of hx hy hn hm]; rfl
theorem ne_of' {n m : Nat} {x y : D} (hx : dOk n x = true) (hy : dOk m y = true) (hn : n ≤ 64 := by decide) (hm : m ≤ 64 := by decide) : opNe x y = some (.bl (!dEqv x y)) := by
  unfold opNe; rw [dEq_of hx hy hn hm]; rfl
theorem eqv_refl : ∀ p : PyData, p.canLay0 = true → PyData.eqv p p = true
  | .none, _ => rfl
  | .bool b, _ => by simp [PyData.eqv]
  | .int i, _ => by simp [PyData.eqv]
  | .str x, _ => by simp [PyData.eqv]
  | .list xs, h => by
    unfold PyData.eqv
    exact go xs (by unfold PyData.canLay0 at h; exact h)
  | .tuple xs, h => by
    unfold PyData.eqv
    exact go xs (by unfold PyData.canLay0 at h; exact h)
  | .dict kvs, h => by unfold PyData.canLay0 at h; cases h
where
  go : ∀ xs : List PyData, PyData.canLayAll0 xs = true → PyData.eqvAll xs xs = true
    | [], _ => by unfold PyData.eqvAll; rfl
    | x :: xs, h => by
      unfold PyData.canLayAll0 at h
      rw [Bool.and_eq_true] at h
      unfold PyData.eqvAll
      rw [eqv_refl x h.1, go xs h.2]
      rfl
theorem dEqv_refl {n : Nat} {d : D} (h : dOk n d = true) : dEqv d d = true := by
  obtain ⟨p, e1, e2, _⟩ := dOk_py n d h
  unfold dEqv
  rw [e1]
  exact eqv_refl p e2
theorem dOk_nil {n : Nat} : dOk (n + 1) (.lst []) = true := rfl
theorem ne_nil {n : Nat} {ds : List D} (h : ∀ d ∈ ds, dOk n d = true) (hn : n ≤ 63) : opNe (.lst ds) (.lst []) = some (.bl (!ds.isEmpty)) := by
  rw [ne_of' (x := .lst ds) (y := .lst []) (n := n + 1) (m := 1) (show ds.all (dOk n) = true from List.all_eq_true.mpr h) dOk_nil (by omega)]
  cases ds with
  | nil => rfl
  | cons d ds =>
    obtain ⟨p, e1, _⟩ := dOk_py n d (h d List.mem_cons_self)
    have : dEqv (.lst (d :: ds)) (.lst []) = false := by
      unfold dEqv
      cases q : (D.lst (d :: ds)).py with
      | none => rfl
      | some z =>
        unfold D.py pys at q
        rw [e1] at q
        cases r : pys ds with
        | none => rw [r] at q; cases q
        | some zs => rw [r] at q; cases q; rfl
    rw [this]
    rfl

/-! ### sizes -/
mutual
def sz : D → Nat
  | .tup ds => szs ds + 1
  | .lst ds => szs ds + 1
  | _ => 1
def szs : List D → Nat
  | [] => 0
  | d :: ds => sz d + szs ds
end
theorem szs_app (a b : List D) : szs (a ++ b) = szs a + szs b := by
  induction a with
  | nil => simp [szs]
  | cons d a ih => simp only [List.cons_append, szs, ih]; omega
theorem sz_pos (d : D) : 1 ≤ sz d := by cases d <;> simp [sz]
theorem szs_len (ds : List D) : ds.length ≤ szs ds := by
  induction ds with
  | nil => exact Nat.le_refl _
  | cons d ds ih => simp only [szs, List.length_cons]; have := sz_pos d; omega

/-! ### isinstance -/
theorem is_bool_non : dIs "bool" (.non) = some (.bl false) := by show (L2.kitB "NoneType" "bool").map D.bl = _; rw [show L2.kitB "NoneType" "bool" = some false by decide +kernel]; rfl
theorem is_bool_bl (c : Bool) : dIs "bool" (.bl c) = some (.bl true) := by show (L2.kitB "bool" "bool").map D.bl = _; rw [show L2.kitB "bool" "bool" = some true by decide +kernel]; rfl
theorem is_bool_int (i : Int) : dIs "bool" (.int i) = some (.bl false) := by show (L2.kitB "int" "bool").map D.bl = _; rw [show L2.kitB "int" "bool" = some false by decide +kernel]; rfl
theorem is_bool_str (x : Str) : dIs "bool" (.str x) = some (.bl false) := by show (L2.kitB "str" "bool").map D.bl = _; rw [show L2.kitB "str" "bool" = some false by decide +kernel]; rfl
theorem is_bool_tup (ds : List D) : dIs "bool" (.tup ds) = some (.bl false) := by show (L2.kitB "tuple" "bool").map D.bl = _; rw [show L2.kitB "tuple" "bool" = some false by decide +kernel]; rfl
theorem is_bool_lst (ds : List D) : dIs "bool" (.lst ds) = some (.bl false) := by show (L2.kitB "list" "bool").map D.bl = _; rw [show L2.kitB "list" "bool" = some false by decide +kernel]; rfl
theorem is_bool_dct (ks : List L2.Key) (ds : List D) : dIs "bool" (.dct ks ds) = some (.bl false) := by show (L2.kitB "dict" "bool").map D.bl = _; rw [show L2.kitB "dict" "bool" = some false by decide +kernel]; rfl
theorem is_int_non : dIs "int" (.non) = some (.bl false) := by show (L2.kitB "NoneType" "int").map D.bl = _; rw [show L2.kitB "NoneType" "int" = some false by decide +kernel]; rfl
theorem is_int_bl (c : Bool) : dIs "int" (.bl c) = some (.bl true) := by show (L2.kitB "bool" "int").map D.bl = _; rw [show L2.kitB "bool" "int" = some true by decide +kernel]; rfl
theorem is_int_int (i : Int) : dIs "int" (.int i) = some (.bl true) := by show (L2.kitB "int" "int").map D.bl = _; rw [show L2.kitB "int" "int" = some true by decide +kernel]; rfl
theorem is_int_str (x : Str) : dIs "int" (.str x) = some (.bl false) := by show (L2.kitB "str" "int").map D.bl = _; rw [show L2.kitB "str" "int" = some false by decide +kernel]; rfl
theorem is_int_tup (ds : List D) : dIs "int" (.tup ds) = some (.bl false) := by show (L2.kitB "tuple" "int").map D.bl = _; rw [show L2.kitB "tuple" "int" = some false by decide +kernel]; rfl
theorem is_int_lst (ds : List D) : dIs "int" (.lst ds) = some (.bl false) := by show (L2.kitB "list" "int").map D.bl = _; rw [show L2.kitB "list" "int" = some false by decide +kernel]; rfl
theorem is_int_dct (ks : List L2.Key) (ds : List D) : dIs "int" (.dct ks ds) = some (.bl false) := by show (L2.kitB "dict" "int").map D.bl = _; rw [show L2.kitB "dict" "int" = some false by decide +kernel]; rfl
theorem is_str_non : dIs "str" (.non) = some (.bl false) := by show (L2.kitB "NoneType" "str").map D.bl = _; rw [show L2.kitB "NoneType" "str" = some false by decide +kernel]; rfl
theorem is_str_bl (c : Bool) : dIs "str" (.bl c) = some (.bl false) := by show (L2.kitB "bool" "str").map D.bl = _; rw [show L2.kitB "bool" "str" = some false by decide +kernel]; rfl
theorem is_str_int (i : Int) : dIs "str" (.int i) = some (.bl false) := by show (L2.kitB "int" "str").map D.bl = _; rw [show L2.kitB "int" "str" = some false by decide +kernel]; rfl
theorem is_str_str (x : Str) : dIs "str" (.str x) = some (.bl true) := by show (L2.kitB "str" "str").map D.bl = _; rw [show L2.kitB "str" "str" = some true by decide +kernel]; rfl
theorem is_str_tup (ds : List D) : dIs "str" (.tup ds) = some (.bl false) := by show (L2.kitB "tuple" "str").map D.bl = _; rw [show L2.kitB "tuple" "str" = some false by decide +kernel]; rfl
theorem is_str_lst (ds : List D) : dIs "str" (.lst ds) = some (.bl false) := by show (L2.kitB "list" "str").map D.bl = _; rw [show L2.kitB "list" "str" = some false by decide +kernel]; rfl
theorem is_str_dct (ks : List L2.Key) (ds : List D) : dIs "str" (.dct ks ds) = some (.bl false) := by show (L2.kitB "dict" "str").map D.bl = _; rw [show L2.kitB "dict" "str" = some false by decide +kernel]; rfl
theorem is_list_non : dIs "list" (.non) = some (.bl false) := by show (L2.kitB "NoneType" "list").map D.bl = _; rw [show L2.kitB "NoneType" "list" = some false by decide +kernel]; rfl
theorem is_list_bl (c : Bool) : dIs "list" (.bl c) = some (.bl false) := by show (L2.kitB "bool" "list").map D.bl = _; rw [show L2.kitB "bool" "list" = some false by decide +kernel]; rfl
theorem is_list_int (i : Int) : dIs "list" (.int i) = some (.bl false) := by show (L2.kitB "int" "list").map D.bl = _; rw [show L2.kitB "int" "list" = some false by decide +kernel]; rfl
theorem is_list_str (x : Str) : dIs "list" (.str x) = some (.bl false) := by show (L2.kitB "str" "list").map D.bl = _; rw [show L2.kitB "str" "list" = some false by decide +kernel]; rfl
theorem is_list_tup (ds : List D) : dIs "list" (.tup ds) = some (.bl false) := by show (L2.kitB "tuple" "list").map D.bl = _; rw [show L2.kitB "tuple" "list" = some false by decide +kernel]; rfl
theorem is_list_lst (ds : List D) : dIs "list" (.lst ds) = some (.bl true) := by show (L2.kitB "list" "list").map D.bl = _; rw [show L2.kitB "list" "list" = some true by decide +kernel]; rfl
theorem is_list_dct (ks : List L2.Key) (ds : List D) : dIs "list" (.dct ks ds) = some (.bl false) := by show (L2.kitB "dict" "list").map D.bl = _; rw [show L2.kitB "dict" "list" = some false by decide +kernel]; rfl
theorem is_tuple_non : dIs "tuple" (.non) = some (.bl false) := by show (L2.kitB "NoneType" "tuple").map D.bl = _; rw [show L2.kitB "NoneType" "tuple" = some false by decide +kernel]; rfl
theorem is_tuple_bl (c : Bool) : dIs "tuple" (.bl c) = some (.bl false) := by show (L2.kitB "bool" "tuple").map D.bl = _; rw [show L2.kitB "bool" "tuple" = some false by decide +kernel]; rfl
theorem is_tuple_int (i : Int) : dIs "tuple" (.int i) = some (.bl false) := by show (L2.kitB "int" "tuple").map D.bl = _; rw [show L2.kitB "int" "tuple" = some false by decide +kernel]; rfl
theorem is_tuple_str (x : Str) : dIs "tuple" (.str x) = some (.bl false) := by show (L2.kitB "str" "tuple").map D.bl = _; rw [show L2.kitB "str" "tuple" = some false by decide +kernel]; rfl
theorem is_tuple_tup (ds : List D) : dIs "tuple" (.tup ds) = some (.bl true) := by show (L2.kitB "tuple" "tuple").map D.bl = _; rw [show L2.kitB "tuple" "tuple" = some true by decide +kernel]; rfl
theorem is_tuple_lst (ds : List D) : dIs "tuple" (.lst ds) = some (.bl false) := by show (L2.kitB "list" "tuple").map D.bl = _; rw [show L2.kitB "list" "tuple" = some false by decide +kernel]; rfl
theorem is_tuple_dct (ks : List L2.Key) (ds : List D) : dIs "tuple" (.dct ks ds) = some (.bl false) := by show (L2.kitB "dict" "tuple").map D.bl = _; rw [show L2.kitB "dict" "tuple" = some false by decide +kernel]; rfl
theorem is_dict_non : dIs "dict" (.non) = some (.bl false) := by show (L2.kitB "NoneType" "dict").map D.bl = _; rw [show L2.kitB "NoneType" "dict" = some false by decide +kernel]; rfl
theorem is_dict_bl (c : Bool) : dIs "dict" (.bl c) = some (.bl false) := by show (L2.kitB "bool" "dict").map D.bl = _; rw [show L2.kitB "bool" "dict" = some false by decide +kernel]; rfl
theorem is_dict_int (i : Int) : dIs "dict" (.int i) = some (.bl false) := by show (L2.kitB "int" "dict").map D.bl = _; rw [show L2.kitB "int" "dict" = some false by decide +kernel]; rfl
theorem is_dict_str (x : Str) : dIs "dict" (.str x) = some (.bl false) := by show (L2.kitB "str" "dict").map D.bl = _; rw [show L2.kitB "str" "dict" = some false by decide +kernel]; rfl
theorem is_dict_tup (ds : List D) : dIs "dict" (.tup ds) = some (.bl false) := by show (L2.kitB "tuple" "dict").map D.bl = _; rw [show L2.kitB "tuple" "dict" = some false by decide +kernel]; rfl
theorem is_dict_lst (ds : List D) : dIs "dict" (.lst ds) = some (.bl false) := by show (L2.kitB "list" "dict").map D.bl = _; rw [show L2.kitB "list" "dict" = some false by decide +kernel]; rfl
theorem is_dict_dct (ks : List L2.Key) (ds : List D) : dIs "dict" (.dct ks ds) = some (.bl true) := by show (L2.kitB "dict" "dict").map D.bl = _; rw [show L2.kitB "dict" "dict" = some true by decide +kernel]; rfl

/-! ### kinds -/
def kindsW : Env → M Bool := (eTest (eBin opNe (eVar 2) (eArgs opLst eNil)))
def kindsB : Env → M Out := (sCons (sPop 2 3)
    (sIf (eOr (eTest (eUn (dIs "bool") (eVar 3))) (eTest (eBin opIs (eVar 3) (eC .non)))) (sApp 1 (eArgs cRepr (eCons (eVar 3) eNil))) (sIf (eTest (eUn (dIs "int") (eVar 3))) (sApp 1 (eC (.str "number"))) (sIf (eTest (eUn (dIs "str") (eVar 3))) (sApp 1 (eC (.str "string"))) (sIf (eOr (eTest (eUn (dIs "list") (eVar 3))) (eTest (eUn (dIs "tuple") (eVar 3)))) (sCons (sApp 1 (eIf (eTest (eUn (dIs "list") (eVar 3))) (eC (.str "list")) (eC (.str "tuple"))))
    (sAsg (tName 2) (eBin opCat (eSeq (eVar 2)) (eSeq (eUn toLst (eSeq (eVar 3))))))) (sIf (eTest (eUn (dIs "dict") (eVar 3))) (sCons (sApp 1 (eC (.str "dict")))
    sStuck) (sApp 1 (eC (.str "other")))))))))
/-- the word for a value, what it adds to the line -/
def kindOf : D → Str
  | .non => "None"
  | .bl c => if c then "True" else "False"
  | .int _ => "number"
  | .str _ => "string"
  | .lst _ => "list"
  | _ => "tuple"
def kindIn : D → List D
  | .lst ds => ds
  | .tup ds => ds
  | _ => []
theorem kind_size {d : D} : szs (kindIn d) + 1 ≤ sz d := by cases d <;> simp [kindIn, sz, szs]
theorem kinds_step {n : Nat} {d : D} (hd : dOk n d = true) {t : D} {f l : List D} {o k : Option D} (hf : f.length < sizeLine) (hl : l.length + (kindIn d).length ≤ sizeLine) :
    kindsB [some t, some (.lst f), some (.lst (l ++ [d])), o, k] = M.ok (.nx [some t, some (.lst (f ++ [.str (kindOf d)])), some (.lst (l ++ kindIn d)), some d, k]) := by
  have e1 : (l ++ [d]).getLast? = some d := by simp
  have e2 : (l ++ [d]).dropLast = l := by simp
  have e0 : sPop 2 3 [some t, some (.lst f), some (.lst (l ++ [d])), o, k] = M.ok (.nx [some t, some (.lst f), some (.lst l), some d, k]) := by
    simp [sPop, e1, e2]
  unfold kindsB
  simp only [sCons, e0, bind_ok']
  cases d <;> first | (exfalso; cases n <;> cases hd; done) | skip
  all_goals simp only [sIf, eOr, eTest, eUn, eBin, eVar, eC, eIf, sApp, sAsg, sCons, eArgs, eCons, eNil, eSeq, toLst, opIs, isNon, cRepr, kindOf, kindIn, bind_ok', M.ofO, hf, tName, D.items, opCat, List.getElem?_cons_succ, List.getElem?_cons_zero, Option.getD_some, if_true, if_false, Bool.false_eq_true, List.append_nil, List.length_append, List.set_cons_succ, List.set_cons_zero, List.length_cons, List.length_nil, Option.isSome_some, Option.map_some, Nat.reduceAdd, Nat.reduceLT, is_bool_non, is_bool_bl, is_bool_int, is_bool_str, is_bool_tup, is_bool_lst, is_bool_dct, is_int_non, is_int_bl, is_int_int, is_int_str, is_int_tup, is_int_lst, is_int_dct, is_str_non, is_str_bl, is_str_int, is_str_str, is_str_tup, is_str_lst, is_str_dct, is_list_non, is_list_bl, is_list_int, is_list_str, is_list_tup, is_list_lst, is_list_dct, is_tuple_non, is_tuple_bl, is_tuple_int, is_tuple_str, is_tuple_tup, is_tuple_lst, is_tuple_dct, is_dict_non, is_dict_bl, is_dict_int, is_dict_str, is_dict_tup, is_dict_lst, is_dict_dct]
  all_goals
    have hl2 := hl
    simp only [kindIn] at hl2
    rw [if_pos hl2]
    rfl
theorem kindsW_run {n : Nat} {t : D} {f l : List D} {o k : Option D} (h : ∀ d ∈ l, dOk n d = true) (hn : n ≤ 63) : kindsW [some t, some (.lst f), some (.lst l), o, k] = M.ok (!l.isEmpty) := by
  simp only [kindsW, eTest, eBin, eVar, eArgs, eNil, bind_ok', List.getElem?_cons_succ, List.getElem?_cons_zero, Option.getD_some, M.ofO, ne_nil h hn, show opLst [] = some (.lst []) from if_pos (Nat.zero_le _)]
theorem kindOf_ok (d : D) : dOk 0 (.str (kindOf d)) = true := by
  cases d with
  | bl b => cases b <;> (show PyData.strOk _ = true; decide +kernel)
  | non => show PyData.strOk "None" = true; decide +kernel
  | int i => show PyData.strOk "number" = true; decide +kernel
  | str x => show PyData.strOk "string" = true; decide +kernel
  | lst x => show PyData.strOk "list" = true; decide +kernel
  | _ => show PyData.strOk "tuple" = true; decide +kernel
theorem dOk_in {n : Nat} {d : D} (h : dOk n d = true) : ∀ x ∈ kindIn d, dOk n x = true := by
  have up : ∀ (m : Nat) (x : D), dOk m x = true → dOk (m + 1) x = true := fun m => by
    induction m with
    | zero => intro x h; cases x <;> first | exact h | cases h
    | succ m ih =>
      intro x h
      cases x <;> first | exact h | skip
      · exact List.all_eq_true.mpr fun y hy => ih y (List.all_eq_true.mp (show _ = true from h) y hy)
      · exact List.all_eq_true.mpr fun y hy => ih y (List.all_eq_true.mp (show _ = true from h) y hy)
  intro x hx
  cases d <;> first | (cases hx; done) | skip
  · cases n with
    | zero => cases h
    | succ n => exact up n x (List.all_eq_true.mp (show _ = true from h) x hx)
  · cases n with
    | zero => cases h
    | succ n => exact up n x (List.all_eq_true.mp (show _ = true from h) x hx)
theorem kinds_loop {n : Nat} (hn : n ≤ 63) {t : D} {k : Option D} {s : DS} : ∀ (m : Nat) (l f : List D) (o : Option D), szs l ≤ m → szs l + f.length ≤ 1000000 → (∀ d ∈ l, dOk n d = true) → (∀ d ∈ f, dOk 0 d = true) →
    ∃ j f' o', mWhile kindsW kindsB j [some t, some (.lst f), some (.lst l), o, k] s = some (.ok (.nx [some t, some (.lst f'), some (.lst []), o', k]), s) ∧ (∀ d ∈ f', dOk 0 d = true)
  | m, l, f, o, hm, hb, hl, hf => by
    rcases List.eq_nil_or_concat l with e | ⟨r, d, e⟩
    · subst e
      obtain ⟨j, h⟩ := mWhile_end (c := kindsW) (body := kindsB) (ρ := [some t, some (.lst f), some (.lst []), o, k]) (s := s) (s1 := s) (by rw [kindsW_run hl hn]; rfl)
      exact ⟨j, f, o, h, hf⟩
    · have e : l = r ++ [d] := by rw [e]; simp
      subst e
      have hd := hl d (by simp)
      have h1 := szs_app r [d]
      have h2 : szs [d] = sz d := by simp [szs]
      have h3 := kind_size (d := d)
      have h4 := szs_app r (kindIn d)
      have h5 := szs_len r
      have h6 := szs_len (kindIn d)
      have hz : (1000000 : Nat) ≤ sizeLine := by decide
      match m, hm with
      | 0, hm => have := sz_pos d; omega
      | m + 1, hm =>
        obtain ⟨j, f', o', h, hf'⟩ := kinds_loop hn (t := t) (k := k) (s := s) m (r ++ kindIn d) (f ++ [.str (kindOf d)]) (some d) (by omega) (by rw [List.length_append, List.length_singleton]; omega) (fun x hx => (List.mem_append.mp hx).elim (fun z => hl x (List.mem_append_left _ z)) (dOk_in hd x)) (fun x hx => (List.mem_append.mp hx).elim (hf x) fun z => by
          rw [List.mem_singleton.mp z]; exact kindOf_ok d)
        obtain ⟨j', h'⟩ := sWhile_turn (c := kindsW) (body := kindsB) (ρ := [some t, some (.lst f), some (.lst (r ++ [d])), o, k]) (s := s) (s1 := s) (s2 := s) (by rw [kindsW_run hl hn]; cases r <;> rfl) (by rw [kinds_step hd (by omega) (by omega)]; rfl) ⟨j, h⟩
        exact ⟨j', f', o', h', hf'⟩
theorem kinds_run {n : Nat} {d : D} (hd : dOk n d = true) (hz : sz d ≤ 1000000) (s : DS) (hn : n ≤ 63 := by decide) : ∃ fs, m__law_kinds [d] s = some (.ok (.lst fs), s) ∧ ∀ x ∈ fs, dOk 0 x = true := by
  obtain ⟨j, fs, o', h, hf⟩ := kinds_loop hn (t := d) (k := none) (s := s) (sz d) [d] [] none (by simp [szs]) (by simp [szs]; omega) (fun x hx => by rw [List.mem_singleton.mp hx]; exact hd) (fun x hx => by cases hx)
  refine ⟨fs, ?_, hf⟩
  have hW := sWhile_of h
  unfold kindsW kindsB at hW
  unfold m__law_kinds fnM
  rw [if_pos (by rfl)]
  show M.bind (b__law_kinds [some d, none, none, none, none]) _ s = _
  unfold b__law_kinds
  have e1 : sPar [1, 2] (eCons (eArgs opLst eNil) (eCons (eArgs opLst (eCons (eVar 0) eNil)) eNil)) [some d, none, none, none, none] = M.ok (.nx [some d, some (.lst []), some (.lst [d]), none, none]) := by
    simp only [sPar, eCons, eArgs, eNil, eVar, bind_ok', List.getElem?_cons_zero, Option.getD_some, M.ofO, show opLst [] = some (.lst []) from if_pos (Nat.zero_le _), opLst1]
    rfl
  simp only [sCons, e1, bind_ok']
  unfold M.bind
  rw [hW]
  rfl
/-- a value is told as itself -/
theorem says_run {n : Nat} {d : D} (hd : dOk n d = true) (hz : sz d ≤ 1000000) (hn : n ≤ 63 := by decide) : m__law_says [d, d] = M.ok (.bl true) := by
  funext s
  obtain ⟨fs, e, hf⟩ := kinds_run hd hz s hn
  have hq : opEq (.lst fs) (.lst fs) = some (.bl true) := by
    have ho : dOk 1 (.lst fs) = true := List.all_eq_true.mpr hf
    rw [eq_of ho ho, dEqv_refl ho]
  have hq2 : opEq d d = some (.bl true) := by rw [eq_of hd hd (by omega) (by omega), dEqv_refl hd]
  unfold m__law_says fnM
  rw [if_pos (by rfl)]
  show M.bind (b__law_says [some d, some d]) _ s = _
  simp only [b__law_says, sRet, eAndV, eTest, eBin, eCall, eCons, eNil, eVar, bind_ok', List.getElem?_cons_succ, List.getElem?_cons_zero, Option.getD_some, M.ofO, hq2, M.bind, M.ok, e, hq, if_true]
end VS

/-! VQ: how the draws begin. -/
namespace VS
open PySem

theorem bits_le {i : Int} {b : Nat} (h : i.natAbs < 2 ^ b) : Builtin.Int.intBits i ≤ b := by
  unfold Builtin.Int.intBits
  by_cases z : (i == 0) = true
  · rw [if_pos z]; exact Nat.zero_le _
  · rw [if_neg z]
    have h0 : i.natAbs ≠ 0 := by
      intro e
      exact z (beq_iff_eq.mpr (Int.natAbs_eq_zero.mp e))
    have := (Nat.log2_lt h0).mpr h
    omega
theorem lt_of_bits {i : Int} {b : Nat} (h : Builtin.Int.intBits i ≤ b) : i.natAbs < 2 ^ b := by
  unfold Builtin.Int.intBits at h
  by_cases z : (i == 0) = true
  · rw [beq_iff_eq] at z
    rw [z]
    exact Nat.two_pow_pos b
  · rw [if_neg z] at h
    have h0 : i.natAbs ≠ 0 := by
      intro e
      exact z (beq_iff_eq.mpr (Int.natAbs_eq_zero.mp e))
    exact (Nat.log2_lt h0).mp (by omega)
theorem pow_10_18 : opPow (.int 10) (.int 18) = some (.int 1000000000000000000) := by simp [opPow, iiC]
def begunB : Env → M Out := (sIf (eTest (eUn (dIs "int") (eVar 1))) (sCons (sIf (eTest (eBin opGe (eVar 1) (eBin opPow (eC (.int 10)) (eC (.int 18))))) (sAsg (tName 2) (eBin opAdd (eBin opMul (eVar 2) (eBin opAdd (eBin opSub (eVar 1) (eBin opPow (eC (.int 10)) (eC (.int 18)))) (eC (.int 1)))) (eBin opSub (eVar 1) (eBin opPow (eC (.int 10)) (eC (.int 18)))))) sNil)
    (sApp 3 (eVar 1))) sNil)
theorem begun_loop (b : Nat) : ∀ (l : List Int) (k : Nat) (w : Int) (cs : List Int) (t c0 : Option D) (s : DS), (∀ z ∈ l, Builtin.Int.intBits z ≤ b) → 0 ≤ w → w + 1 ≤ 2 ^ (k * b) → (k + l.length) * b ≤ bitsLine → cs.length + l.length < sizeLine →
    ∃ w' c', mFor (tName 1) begunB (l.map .int) [t, c0, some (.int w), some (.lst (cs.map .int))] s = some (.ok (.nx [t, c', some (.int w'), some (.lst ((cs ++ l).map .int))]), s)
  | [], k, w, cs, t, c0, s, _, _, _, _, _ => ⟨w, c0, by rw [List.append_nil]; rfl⟩
  | z :: l, k, w, cs, t, c0, s, hb, hw, hk, hl, hz => by
    have hz1 : (cs.map D.int).length < sizeLine := by rw [List.length_map]; rw [List.length_cons] at hz; omega
    have happ : cs.map D.int ++ [.int z] = (cs ++ [z]).map .int := by simp
    have hkl : (k + 1 + l.length) * b ≤ bitsLine := by rw [List.length_cons] at hl; rw [show k + 1 + l.length = k + (l.length + 1) by omega]; exact hl
    have hzl : (cs ++ [z]).length + l.length < sizeLine := by rw [List.length_append, List.length_singleton]; rw [List.length_cons] at hz; omega
    have step : ∃ w1, 0 ≤ w1 ∧ w1 + 1 ≤ 2 ^ ((k + 1) * b) ∧ begunB [t, some (.int z), some (.int w), some (.lst (cs.map .int))] = M.ok (.nx [t, some (.int z), some (.int w1), some (.lst ((cs ++ [z]).map .int))]) := by
      have hzb := lt_of_bits (hb z List.mem_cons_self)
      have hpow : (2 : Int) ^ ((k + 1) * b) = 2 ^ (k * b) * 2 ^ b := by rw [Nat.add_mul, Nat.one_mul, Int.pow_add]
      have hp0 : (1 : Int) ≤ 2 ^ (k * b) := by
        have := Int.pow_pos (n := 2) (m := k * b) (by decide)
        omega
      have hp1 : (1 : Int) ≤ 2 ^ b := by
        have := Int.pow_pos (n := 2) (m := b) (by decide)
        omega
      by_cases c : 1000000000000000000 ≤ z
      · refine ⟨w * (z - 1000000000000000000 + 1) + (z - 1000000000000000000), ?_, ?_, ?_⟩
        · have : 0 ≤ w * (z - 1000000000000000000 + 1) := Int.mul_nonneg hw (by omega)
          omega
        · have e : w * (z - 1000000000000000000 + 1) + (z - 1000000000000000000) + 1 = (w + 1) * (z - 1000000000000000000 + 1) := by
            rw [Int.add_mul]; omega
          rw [e, hpow]
          have hz2 : z - 1000000000000000000 + 1 ≤ 2 ^ b := by
            have : (z.natAbs : Int) < ((2 ^ b : Nat) : Int) := Int.ofNat_lt.mpr hzb
            rw [Int.natCast_pow] at this
            have h2 : ((2 : Nat) : Int) ^ b = (2 : Int) ^ b := rfl
            omega
          exact Int.mul_le_mul hk hz2 (by omega) (by omega)
        · have hm : mulOk w (z - 1000000000000000000 + 1) = true := by
            refine mulOk_b ?_
            have b1 : Builtin.Int.intBits w ≤ k * b := bits_le (by
              have : (w.natAbs : Int) = w := Int.natAbs_of_nonneg hw
              have h3 : (w.natAbs : Int) < ((2 ^ (k * b) : Nat) : Int) := by rw [Int.natCast_pow]; show (w.natAbs : Int) < (2 : Int) ^ (k * b); omega
              exact Int.ofNat_lt.mp h3)
            have b2 : Builtin.Int.intBits (z - 1000000000000000000 + 1) ≤ b := bits_le (by omega)
            rw [List.length_cons] at hl
            have : (k + 1) * b ≤ (k + (l.length + 1)) * b := Nat.mul_le_mul_right _ (by omega)
            rw [Nat.add_mul, Nat.one_mul] at this
            omega
          simp only [begunB, sIf, sCons, sAsg, sApp, eTest, eUn, eBin, eVar, eC, bind_ok', List.getElem?_cons_succ, List.getElem?_cons_zero, Option.getD_some, M.ofO, is_int_int, pow_10_18, ge_i, decide_eq_true c, sub_i, add_i, mul_i hm, tName, List.length_cons, List.length_nil, List.set_cons_succ, List.set_cons_zero, if_true, Nat.reduceAdd, Nat.reduceLT, hz1, happ]
      · refine ⟨w, hw, ?_, ?_⟩
        · rw [hpow]
          have : (2 : Int) ^ (k * b) * 1 ≤ 2 ^ (k * b) * 2 ^ b := Int.mul_le_mul_of_nonneg_left hp1 (by omega)
          omega
        · simp only [begunB, sIf, sCons, sAsg, sApp, sNil, eTest, eUn, eBin, eVar, eC, bind_ok', List.getElem?_cons_succ, List.getElem?_cons_zero, Option.getD_some, M.ofO, is_int_int, pow_10_18, ge_i, decide_eq_false c, if_true, if_false, Bool.false_eq_true, List.set_cons_succ, List.set_cons_zero, hz1, happ]
    obtain ⟨w1, h1, h2, h3⟩ := step
    obtain ⟨w', c', h⟩ := begun_loop b l (k + 1) w1 (cs ++ [z]) t (some (.int z)) s (fun x hx => hb x (List.mem_cons_of_mem _ hx)) h1 h2 hkl hzl
    refine ⟨w', c', ?_⟩
    show M.bind (begunB [t, some (.int z), some (.int w), some (.lst (cs.map .int))]) _ s = _
    rw [h3, bind_ok']
    rw [List.append_assoc] at h
    exact h
/-- the draws begin, whatever the script -/
theorem begun_run {ns : List Int} (hl : ns.length ≤ 63) (hb : ∀ z ∈ ns, Builtin.Int.intBits z ≤ 1048576) : ∃ (ρ' : Env) (w : Int), b__law_begun (some (.scr ns) :: List.replicate 3 none) ⟨0, [], 0⟩ = some (.ok (.nx ρ'), ⟨0, [], 0⟩) ∧ ρ'[2]? = some (some (.int w)) ∧ ρ'[3]? = some (some (.lst (ns.map .int))) := by
  obtain ⟨w', c', h⟩ := begun_loop 1048576 ns 0 0 [] (some (.scr ns)) none ⟨0, [], 0⟩ hb (Int.le_refl _) (by rw [Nat.zero_mul]; decide) (Nat.le_trans (Nat.mul_le_mul_right _ (show 0 + ns.length ≤ 63 by omega)) (by decide)) (Nat.lt_of_le_of_lt (show [].length + ns.length ≤ 63 by simpa using hl) (by decide))
  refine ⟨[some (.scr ns), c', some (.int w'), some (.lst (([] ++ ns).map .int))], w', ?_, rfl, by simp⟩
  · have e1 : sPar [2, 3] (eCons (eC (.int 0)) (eCons (eArgs opLst eNil) eNil)) (some (.scr ns) :: List.replicate 3 none) = M.ok (.nx [some (.scr ns), none, some (.int 0), some (.lst [])]) := by
      simp only [sPar, eCons, eArgs, eNil, eC, bind_ok', M.ofO, show opLst [] = some (.lst []) from if_pos (Nat.zero_le _)]
      rfl
    unfold begunB at h
    simp only [b__law_begun, sCons, e1, bind_ok', sFor, eScr, eVar, List.getElem?_cons_zero, Option.getD_some, M.ofO]
    exact h
end VS

/-! VR: reckoning by simp. -/
namespace VS
open PySem
section
variable {α β γ : Type}
@[simp] theorem x_bind (a : α) (f : α → M β) : M.bind (M.ok a) f = f a := rfl
@[simp] theorem x_er (e : Er) (f : α → M β) : M.bind (M.er e) f = M.er e := rfl
@[simp] theorem x_stuck (f : α → M β) : M.bind M.stuck f = M.stuck := rfl
@[simp] theorem x_assoc (m : M α) (f : α → M β) (h : β → M γ) : M.bind (M.bind m f) h = M.bind m fun a => M.bind (f a) h := M.bind_assoc m f h
@[simp] theorem x_id (m : M α) : M.bind m M.ok = m := bind_id m
@[simp] theorem x_id' (m : M α) : M.bind m (fun a => M.ok a) = m := bind_id m
@[simp] theorem x_ite {c : Prop} [Decidable c] (a b : M α) (f : α → M β) : M.bind (if c then a else b) f = if c then M.bind a f else M.bind b f := by split <;> rfl
@[simp] theorem x_iteok {c : Prop} [Decidable c] (a b : α) : (if c then M.ok a else M.ok b) = M.ok (if c then a else b) := by split <;> rfl
@[simp] theorem x_some (a : α) : M.ofO (some a) = M.ok a := rfl
@[simp] theorem x_none : (M.ofO none : M α) = M.stuck := rfl
@[simp] theorem x_ofO {c : Prop} [Decidable c] (a b : Option α) : M.ofO (if c then a else b) = if c then M.ofO a else M.ofO b := by split <;> rfl
end
section
variable {ρ : Env}
@[simp] theorem x_var (i : Nat) : eVar i ρ = M.ofO (ρ[i]?.getD none) := rfl
@[simp] theorem x_c (d : D) : eC d ρ = M.ok d := rfl
@[simp] theorem x_bin (f : D → D → Option D) (a b : Env → M D) : eBin f a b ρ = (a ρ).bind fun x => (b ρ).bind fun y => M.ofO (f x y) := rfl
@[simp] theorem x_un (f : D → Option D) (a : Env → M D) : eUn f a ρ = (a ρ).bind fun x => M.ofO (f x) := rfl
@[simp] theorem x_nil : eNil ρ = M.ok [] := rfl
@[simp] theorem x_cons (a : Env → M D) (b : Env → M (List D)) : eCons a b ρ = (a ρ).bind fun x => (b ρ).bind fun xs => M.ok (x :: xs) := rfl
@[simp] theorem x_args (f : List D → Option D) (a : Env → M (List D)) : eArgs f a ρ = (a ρ).bind fun xs => M.ofO (f xs) := rfl
@[simp] theorem x_call (f : List D → M D) (a : Env → M (List D)) : eCall f a ρ = (a ρ).bind f := rfl
@[simp] theorem x_callK (f : List D → M D) (ix : List Nat) (a : Env → M (List D)) : eCallK f ix a ρ = (a ρ).bind fun xs => f (pick ix xs) := rfl
@[simp] theorem x_lenIs (n : Nat) (a : Env → M (List D)) : lenIs n a ρ = (a ρ).bind fun xs => if xs.length = n then M.ok xs else M.stuck := rfl
@[simp] theorem x_if (c : Env → M Bool) (a b : Env → M D) : eIf c a b ρ = (c ρ).bind fun k => if k = true then a ρ else b ρ := rfl
@[simp] theorem x_flat (a : Env → M D) : eFlat a ρ = (a ρ).bind fun d => if d.flat = true then M.ok d else M.stuck := rfl
def tst : D → M Bool
  | .bl k => M.ok k
  | _ => M.stuck
@[simp] theorem x_tst (k : Bool) : tst (.bl k) = M.ok k := rfl
@[simp] theorem x_test (a : Env → M D) : eTest a ρ = (a ρ).bind tst := rfl
@[simp] theorem x_ofT (a : Env → M Bool) : eOfT a ρ = (a ρ).bind fun k => M.ok (.bl k) := rfl
@[simp] theorem x_and (a b : Env → M Bool) : eAnd a b ρ = (a ρ).bind fun k => if k = true then b ρ else M.ok false := rfl
@[simp] theorem x_or (a b : Env → M Bool) : eOr a b ρ = (a ρ).bind fun k => if k = true then M.ok true else b ρ := rfl
@[simp] theorem x_not (a : Env → M Bool) : eNot a ρ = (a ρ).bind fun k => M.ok (!k) := rfl
@[simp] theorem x_andV (a b : Env → M D) : eAndV a b ρ = (eTest a ρ).bind fun k => if k = true then b ρ else M.ok (.bl false) := rfl
@[simp] theorem x_orV (a b : Env → M D) : eOrV a b ρ = (eTest a ρ).bind fun k => if k = true then M.ok (.bl true) else b ρ := rfl
def chn (z : D) (k : M D) : M D := match z with
  | .bl true => k
  | .bl false => M.ok (.bl false)
  | _ => M.stuck
@[simp] theorem x_chn (q : Bool) (k : M D) : chn (.bl q) k = if q = true then k else M.ok (.bl false) := by cases q <;> rfl
@[simp] theorem x_chain (f h : D → D → Option D) (a b c : Env → M D) : eChain f h a b c ρ = (a ρ).bind fun x => (b ρ).bind fun y => (M.ofO (f x y)).bind fun z => chn z ((c ρ).bind fun w => M.ofO (h y w)) := rfl
@[simp] theorem x_seq (m : Env → M D) : eSeq m ρ = (m ρ).bind fun d => if d.items.isSome = true then M.ok d else M.stuck := rfl
@[simp] theorem x_items (m : Env → M D) : eItems m ρ = (m ρ).bind fun d => M.ofO d.items := rfl
@[simp] theorem x_itl (ds : List D) : (D.lst ds).items = some ds := rfl
@[simp] theorem x_itt (ds : List D) : (D.tup ds).items = some ds := rfl
@[simp] theorem x_toLst (d : D) : toLst d = d.items.map D.lst := rfl
@[simp] theorem x_toTup (d : D) : toTup d = d.items.map D.tup := rfl
@[simp] theorem x_yes : cYes ρ = M.ok true := rfl
/-! statements -/
def nxt (o : Out) (b : Env → M Out) : M Out := match o with
  | .nx ρ' => b ρ'
  | o => M.ok o
@[simp] theorem x_nxt (ρ' : Env) (b : Env → M Out) : nxt (.nx ρ') b = b ρ' := rfl
@[simp] theorem x_nxi {c : Prop} [Decidable c] (x y : Out) (b : Env → M Out) : nxt (if c then x else y) b = if c then nxt x b else nxt y b := by split <;> rfl
@[simp] theorem x_nxr (d : D) (b : Env → M Out) : nxt (.rt d) b = M.ok (.rt d) := rfl
@[simp] theorem x_sCons (a b : Env → M Out) : sCons a b ρ = (a ρ).bind fun o => nxt o b := rfl
def asg (o : Option Env) : M Out := match o with
  | some ρ' => M.ok (.nx ρ')
  | none => M.stuck
@[simp] theorem x_asg (ρ' : Env) : asg (some ρ') = M.ok (.nx ρ') := rfl
@[simp] theorem x_sAsg (f : D → Env → Option Env) (e : Env → M D) : sAsg f e ρ = (e ρ).bind fun d => asg (f d ρ) := rfl
@[simp] theorem x_sDrop (e : Env → M D) : sDrop e ρ = (e ρ).bind fun _ => M.ok (.nx ρ) := rfl
@[simp] theorem x_sRet (e : Env → M D) : sRet e ρ = (e ρ).bind fun d => M.ok (.rt d) := rfl
@[simp] theorem x_sIf (c : Env → M Bool) (a b : Env → M Out) : sIf c a b ρ = (c ρ).bind fun k => if k = true then a ρ else b ρ := rfl
@[simp] theorem x_sFor (f : D → Env → Option Env) (it : Env → M (List D)) (b : Env → M Out) : sFor f it b ρ = (it ρ).bind fun ds => mFor f b ds ρ := rfl
@[simp] theorem x_sNil : sNil ρ = M.ok (.nx ρ) := rfl
@[simp] theorem x_sRaise (c : Nat) : sRaise c ρ = M.er (c, none) := rfl
@[simp] theorem x_sPar (is : List Nat) (m : Env → M (List D)) : sPar is m ρ = (m ρ).bind fun ds => asg (storeD is ds ρ) := rfl
@[simp] theorem x_store0 : storeD [] [] ρ = some ρ := rfl
@[simp] theorem x_store (i : Nat) (is : List Nat) (d : D) (ds : List D) : storeD (i :: is) (d :: ds) ρ = (storeD is ds ρ).bind fun ρ' => if i < ρ'.length then some (ρ'.set i (some d)) else none := rfl
@[simp] theorem x_tName (i : Nat) (d : D) : tName i d ρ = if i < ρ.length then some (ρ.set i (some d)) else none := rfl
@[simp] theorem x_tsNil : tsNil [] ρ = some ρ := rfl
@[simp] theorem x_tsCons (f : D → Env → Option Env) (h : List D → Env → Option Env) (d : D) (ds : List D) : tsCons f h (d :: ds) ρ = (f d ρ).bind (h ds) := rfl
@[simp] theorem x_tSeqT (n : Nat) (h : List D → Env → Option Env) (ds : List D) : tSeq' n h (.tup ds) ρ = if ds.length = n then h ds ρ else none := rfl
@[simp] theorem x_tSeqL (n : Nat) (h : List D → Env → Option Env) (ds : List D) : tSeq' n h (.lst ds) ρ = if ds.length = n then h ds ρ else none := rfl
@[simp] theorem x_wipe0 : wipeD ρ [] = ρ := rfl
@[simp] theorem x_wipe (v : Nat) (vs : List Nat) : wipeD ρ (v :: vs) = (wipeD ρ vs).set v none := rfl
def retM : Out → M D
  | .rt d => M.ok d
  | .nx _ => M.ok .non
  | _ => M.stuck
@[simp] theorem x_retr (d : D) : retM (.rt d) = M.ok d := rfl
@[simp] theorem x_reti {c : Prop} [Decidable c] (x y : Out) : retM (if c then x else y) = if c then retM x else retM y := by split <;> rfl
@[simp] theorem x_retn : retM (.nx ρ) = M.ok .non := rfl
@[simp] theorem x_fn (n ar : Nat) (body : Env → M Out) (ds : List D) (h : ds.length = ar) : fnM n ar body ds = (body (ds.map some ++ List.replicate (n - ar) none)).bind retM := by
  unfold fnM
  rw [if_pos h]
  rfl
end
@[simp] theorem x_tup (ds : List D) (h : ds.length ≤ sizeLine) : opTup ds = some (.tup ds) := if_pos h
@[simp] theorem x_lst (ds : List D) (h : ds.length ≤ sizeLine) : opLst ds = some (.lst ds) := if_pos h
@[simp] theorem x_lenT (ds : List D) : cLenX [.tup ds] = some (.int ds.length) := rfl
@[simp] theorem x_lenL (ds : List D) : cLenX [.lst ds] = some (.int ds.length) := rfl
theorem x_len1 (n : Nat) (h : n ≤ 100) : n ≤ sizeLine := Nat.le_trans h (by decide)
@[simp] theorem x_min (i j : Int) : cMin [.int i, .int j] = some (.int (min i j)) := by
  have h : (if j < i then j else i) = min i j := by split <;> omega
  show some (D.int (if j < i then j else i)) = _
  rw [h]
@[simp] theorem x_max (i j : Int) : cMax [.int i, .int j] = some (.int (max i j)) := by
  have h : (if j > i then j else i) = max i j := by split <;> omega
  show some (D.int (if j > i then j else i)) = _
  rw [h]
@[simp] theorem x_neg (i : Int) : opNeg (.int i) = some (.int (-i)) := rfl
@[simp] theorem x_isn : opIs .non .non = some (.bl true) := rfl
@[simp] theorem x_isi (i : Int) : opIs (.int i) .non = some (.bl false) := rfl
@[simp] theorem x_inn : opIsNot .non .non = some (.bl false) := rfl
@[simp] theorem x_ini (i : Int) : opIsNot (.int i) .non = some (.bl true) := rfl
@[simp] theorem x_eqi (i j : Int) : opEq (.int i) (.int j) = some (.bl (i == j)) := eq_of (n := 0) (m := 0) rfl rfl
@[simp] theorem x_nei (i j : Int) : opNe (.int i) (.int j) = some (.bl (!(i == j))) := ne_of' (n := 0) (m := 0) rfl rfl
/-- a comprehension without draws -/
theorem x_mComp {ρ : Env} {f : D → Env → Option Env} {c : Env → M Bool} {e : Env → M D} (p : D → Bool) (g : D → D) : ∀ {ds : List D}, (∀ d ∈ ds, ∃ ρ', f d ρ = some ρ' ∧ c ρ' = M.ok (p d) ∧ (p d = true → e ρ' = M.ok (g d))) → mComp ρ f c e ds = M.ok ((ds.filter p).map g)
  | [], _ => rfl
  | d :: ds, h => by
    obtain ⟨ρ', h1, h2, h3⟩ := h d List.mem_cons_self
    unfold mComp
    rw [h1]
    simp only [h2]
    show M.bind (M.ok (p d)) _ = _
    rw [x_bind, x_mComp p g fun d' hd' => h d' (List.mem_cons_of_mem _ hd')]
    cases q : p d with
    | false => simp [q]
    | true =>
      rw [h3 q]
      simp only [List.filter_cons, q, if_true, List.map_cons]
      rfl
theorem x_comp {ρ : Env} {own : List Nat} {it : Env → M (List D)} {f : D → Env → Option Env} {c : Env → M Bool} {e : Env → M D} (p : D → Bool) (g : D → D) {ds : List D} (hi : it ρ = M.ok ds) (hl : ds.length < sizeLine) (h : ∀ d ∈ ds, ∃ ρ', f d (wipeD ρ own) = some ρ' ∧ c ρ' = M.ok (p d) ∧ (p d = true → e ρ' = M.ok (g d))) : eComp own it f c e ρ = M.ok (.lst ((ds.filter p).map g)) := by
  unfold eComp
  rw [hi, x_bind, if_pos hl, x_mComp p g h]
  rfl
theorem add_l {a b : List D} (h : a.length + b.length ≤ sizeLine) : opAdd (.lst a) (.lst b) = some (.lst (a ++ b)) := by simp [opAdd, opAdd0, ii, opCat, h]
theorem mul_l {a : List D} {n : Int} (h0 : 0 ≤ n) (h1 : n < 2 ^ 62) (h : a.length * n.toNat ≤ sizeLine) : opMul (.lst a) (.int n) = some (.lst (List.replicate n.toNat a).flatten) := by
  have h1 : n < 4611686018427387904 := by simpa using h1
  simp [opMul, opMul0, iiC, opRep, h0, h1, h]
theorem caught_er {cls : Nat → Bool} {m : Env → M D} {ρ : Env} {e : Er} (h : m ρ = M.er e) (hc : cls e.1 = true) : eCaught cls m ρ = M.ok (.exc e.1 e.2) := by
  funext s
  unfold eCaught
  rw [h]
  show (if cls e.1 = true then some (Except.ok (D.exc e.1 e.2), s) else none) = _
  rw [if_pos hc]
  rfl
theorem callV_run {tab : Nat → Option (List D → M D)} {i n : Nat} {ms : Env → M (List D)} {ρ : Env} {f : List D → M D} (h : ρ[i]?.getD none = some (.fn n)) (hf : tab n = some f) : eCallV tab i ms ρ = (ms ρ).bind f := by
  unfold eCallV
  rw [h]
  simp only [hf]
theorem Ev.noEr {α : Type} {m : M α} {P : α → Prop} (h : Ev m P) : Ev (noEr m) P := fun s hs => by
  obtain ⟨a, s', e, h1, h2⟩ := h s hs
  exact ⟨a, s', by unfold VS.noEr; rw [e], h1, h2⟩
/-- a comprehension whose items are drawn -/
theorem Ev.mComp {ρ : Env} {f : D → Env → Option Env} {e : Env → M D} {P : D → Prop} : ∀ {ds : List D}, (∀ d ∈ ds, ∃ ρ', f d ρ = some ρ' ∧ Ev (e ρ') P) → Ev (VS.mComp ρ f cYes e ds) fun ys => ys.length = ds.length ∧ ∀ y ∈ ys, P y
  | [], _ => Ev.ok ⟨rfl, fun y hy => by cases hy⟩
  | d :: ds, h => by
    obtain ⟨ρ', h1, h2⟩ := h d List.mem_cons_self
    unfold VS.mComp
    rw [h1]
    show Ev (M.bind (VS.noEr (M.ok true)) _) _
    refine Ev.bind (P := fun k => k = true) (Ev.noEr (Ev.ok rfl)) fun k hk => ?_
    subst hk
    rw [if_pos rfl]
    refine Ev.bind (Ev.noEr h2) fun y hy => Ev.bind (Ev.mComp fun d' hd' => h d' (List.mem_cons_of_mem _ hd')) fun ys hys => Ev.ok ⟨by simp [hys.1], fun z hz => ?_⟩
    rcases List.mem_cons.mp hz with rfl | hz
    · exact hy
    · exact hys.2 z hz
theorem Ev.comp {ρ : Env} {own : List Nat} {it : Env → M (List D)} {f : D → Env → Option Env} {e : Env → M D} {P : D → Prop} {ds : List D} (hi : it ρ = M.ok ds) (hl : ds.length < sizeLine) (h : ∀ d ∈ ds, ∃ ρ', f d (wipeD ρ own) = some ρ' ∧ Ev (e ρ') P) : Ev (eComp own it f cYes e ρ) fun d => ∃ ys, d = .lst ys ∧ ys.length = ds.length ∧ ∀ y ∈ ys, P y := by
  unfold eComp
  rw [hi, x_bind, if_pos hl]
  exact Ev.bind (Ev.mComp h) fun ys hys => Ev.ok ⟨ys, rfl, hys⟩
end VS

/-! M_k00: what the defs of law_k00_whole_pairings mean (printed by gen.py) -/
namespace K00
open PySem VS
def tab_BadNumber : Nat → Option Bool := tabL [(4, false), (5, true), (6, false)]
def tab_BadPairing : Nat → Option Bool := tabL [(4, false), (5, false), (6, true)]
def cls_ (n : Nat) : Bool := ([4, 5, 6] : List Nat).contains n
noncomputable def b_is_whole : VS.Env → M Out :=
    (sRet (eAndV (eUn (dIs "int") (eVar 0)) (eOfT (eNot (eTest (eUn (dIs "bool") (eVar 0)))))))
noncomputable def m_is_whole : List D → M D := fnM 1 1 b_is_whole
noncomputable def b_is_pairing_by : VS.Env → M Out :=
    (sCons (sIf (eOr (eNot (eTest (eUn (dIs "tuple") (eVar 0)))) (eOr (eTest (eBin opNe (eArgs cLenX (eCons (eVar 0) eNil)) (eC (.int 4)))) (eNot (eTest (eArgs cAll (eCons (eComp [6] (eItems (eSeq (eVar 0))) (tName 6) cYes (eCall m_is_whole (eCons (eVar 6) eNil))) eNil)))))) (sRet (eC (.bl false))) sNil)
    (sCons (sAsg (tSeq' 4 (tsCons (tName 2) (tsCons (tName 3) (tsCons (tName 4) (tsCons (tName 5) tsNil))))) (eVar 0))
    (sCons (sIf (eOr (eTest (eBin opLt (eArgs cMin (eCons (eVar 2) (eCons (eVar 3) eNil))) (eC (.int 0)))) (eOr (eTest (eBin opLt (eVar 4) (eC (.int 1)))) (eTest (eBin opNotIn (eVar 5) (eArgs opTup (eCons (eC (.int 1)) (eCons (eUn opNeg (eC (.int 1))) eNil))))))) (sRet (eC (.bl false))) sNil)
    (sRet (eBin opLe (eBin opAdd (eArgs cMax (eCons (eVar 2) (eCons (eVar 3) eNil))) (eVar 4)) (eVar 1))))))
noncomputable def m_is_pairing_by : List D → M D := fnM 7 2 b_is_pairing_by
noncomputable def b_need_pairing : VS.Env → M Out :=
    (sIf (eNot (eTest (eCall m_is_pairing_by (eCons (eVar 0) (eCons (eC (.int (1000000000000000000000000000000000000000000000000000000000000))) eNil))))) (sRaise 6) sNil)
noncomputable def m_need_pairing : List D → M D := fnM 1 1 b_need_pairing
noncomputable def b_goal_by : VS.Env → M Out :=
    (sCons (sAsg (tSeq' 4 (tsCons (tName 2) (tsCons (tName 3) (tsCons (tName 4) (tsCons (tName 5) tsNil))))) (eVar 0))
    (sCons (sIf (eNot (eTest (eChain opLe opLt (eVar 2) (eVar 1) (eBin opAdd (eVar 2) (eVar 4))))) (sRet (eC .non)) sNil)
    (sRet (eIf (eTest (eBin opEq (eVar 5) (eC (.int 1)))) (eBin opSub (eBin opAdd (eVar 3) (eVar 1)) (eVar 2)) (eBin opSub (eBin opSub (eBin opAdd (eVar 3) (eVar 4)) (eC (.int 1))) (eBin opSub (eVar 1) (eVar 2)))))))
noncomputable def m_goal_by : List D → M D := fnM 6 2 b_goal_by
noncomputable def b_turned_by : VS.Env → M Out :=
    (sCons (sAsg (tSeq' 4 (tsCons (tName 1) (tsCons (tName 2) (tsCons (tName 3) (tsCons (tName 4) tsNil))))) (eVar 0))
    (sRet (eArgs opTup (eCons (eVar 2) (eCons (eVar 1) (eCons (eVar 3) (eCons (eVar 4) eNil)))))))
noncomputable def m_turned_by : List D → M D := fnM 5 1 b_turned_by
noncomputable def b_is_pairing : VS.Env → M Out :=
    (sRet (eCall m_is_pairing_by (eCons (eVar 0) (eCons (eC (.int (1000000000000000000000000000000000000000000000000000000000000))) eNil))))
noncomputable def m_is_pairing : List D → M D := fnM 1 1 b_is_pairing
noncomputable def b_goal_of : VS.Env → M Out :=
    (sCons (sDrop (eCall m_need_pairing (eCons (eVar 0) eNil)))
    (sCons (sIf (eNot (eTest (eCall m_is_whole (eCons (eVar 1) eNil)))) (sRaise 5) sNil)
    (sRet (eCall m_goal_by (eCons (eVar 0) (eCons (eVar 1) eNil))))))
noncomputable def m_goal_of : List D → M D := fnM 2 2 b_goal_of
noncomputable def b_from_of : VS.Env → M Out :=
    (sCons (sDrop (eCall m_need_pairing (eCons (eVar 0) eNil)))
    (sCons (sIf (eNot (eTest (eCall m_is_whole (eCons (eVar 1) eNil)))) (sRaise 5) sNil)
    (sRet (eCall m_goal_by (eCons (eCall m_turned_by (eCons (eVar 0) eNil)) (eCons (eVar 1) eNil))))))
noncomputable def m_from_of : List D → M D := fnM 2 2 b_from_of
noncomputable def b_turned : VS.Env → M Out :=
    (sCons (sDrop (eCall m_need_pairing (eCons (eVar 0) eNil)))
    (sRet (eCall m_turned_by (eCons (eVar 0) eNil))))
noncomputable def m_turned : List D → M D := fnM 1 1 b_turned
noncomputable def b_mended : VS.Env → M Out :=
    (sCons (sDrop (eCall m_need_pairing (eCons (eVar 0) eNil)))
    (sRet (eIf (eTest (eBin opLe (eBin opIx (eVar 0) (eC (.int 0))) (eBin opIx (eVar 0) (eC (.int 1))))) (eVar 0) (eCall m_turned_by (eCons (eVar 0) eNil)))))
noncomputable def m_mended : List D → M D := fnM 1 1 b_mended
noncomputable def b__law_is_number : VS.Env → M Out :=
    (sRet (eAndV (eUn (dIs "int") (eVar 0)) (eOfT (eNot (eTest (eUn (dIs "bool") (eVar 0)))))))
noncomputable def m__law_is_number : List D → M D := fnM 1 1 b__law_is_number
noncomputable def b__law_odd : VS.Env → M Out :=
    (sRet (eCall m__law_pick (eCons (eVar 0) (eCons (eArgs opLst (eCons (eC .non) (eCons (eC (.bl true)) (eCons (eBin opSub (eC (.int 0)) (eC (.int 1))) (eCons (eC (.str "2")) (eCons (eArgs opTup eNil) (eCons (eArgs opLst eNil) (eCons (eC (.dct [] [])) (eCons (eArgs opTup (eCons (eC (.int 0)) eNil)) (eCons (eArgs opTup (eCons (eC (.int 1)) (eCons (eC (.int 2)) eNil))) (eCons (eArgs opTup (eCons (eC (.bl true)) eNil)) (eCons (eArgs opLst (eCons (eC (.int 3)) eNil)) (eCons (eArgs opTup (eCons (eC (.int 0)) (eCons (eC (.int 1)) (eCons (eC (.int 1)) (eCons (eC (.int 1)) eNil))))) (eCons (eArgs opTup (eCons (eC (.int 2)) (eCons (eArgs opTup eNil) eNil))) (eCons (eArgs opTup (eCons (eArgs opTup (eCons (eC (.int 1)) eNil)) (eCons (eArgs opTup (eCons (eC (.int 0)) eNil)) (eCons (eArgs opTup (eCons (eC (.int 1)) eNil)) eNil)))) (eCons (eC (.int 7)) (eCons (eC (.str "x")) eNil))))))))))))))))) eNil))))
noncomputable def m__law_odd : List D → M D := fnM 1 1 b__law_odd
noncomputable def b__law_is_pairing : VS.Env → M Out :=
    (sCons (sIf (eOr (eNot (eTest (eUn (dIs "tuple") (eVar 0)))) (eOr (eTest (eBin opNe (eArgs cLenX (eCons (eVar 0) eNil)) (eC (.int 4)))) (eTest (eBin opNe (eComp [6] (eItems (eSeq (eVar 0))) (tName 6) (eNot (eTest (eCall m__law_is_number (eCons (eVar 6) eNil)))) (eVar 6)) (eArgs opLst eNil))))) (sRet (eC (.bl false))) sNil)
    (sCons (sAsg (tSeq' 4 (tsCons (tName 2) (tsCons (tName 3) (tsCons (tName 4) (tsCons (tName 5) tsNil))))) (eVar 0))
    (sRet (eAndV (eBin opGe (eVar 2) (eC (.int 0))) (eAndV (eBin opGe (eVar 3) (eC (.int 0))) (eAndV (eBin opGe (eVar 4) (eC (.int 1))) (eAndV (eBin opIn (eVar 5) (eArgs opLst (eCons (eC (.int 1)) (eCons (eBin opSub (eC (.int 0)) (eC (.int 1))) eNil)))) (eBin opLe (eBin opAdd (eArgs cMax (eCons (eVar 2) (eCons (eVar 3) eNil))) (eVar 4)) (eVar 1)))))))))
noncomputable def m__law_is_pairing : List D → M D := fnM 7 2 b__law_is_pairing
noncomputable def b__law_goal : VS.Env → M Out :=
    (sCons (sAsg (tSeq' 4 (tsCons (tName 2) (tsCons (tName 3) (tsCons (tName 4) (tsCons (tName 5) tsNil))))) (eVar 0))
    (sCons (sIf (eNot (eTest (eChain opLe opLt (eVar 2) (eVar 1) (eBin opAdd (eVar 2) (eVar 4))))) (sRet (eC .non)) sNil)
    (sRet (eIf (eTest (eBin opEq (eVar 5) (eC (.int 1)))) (eBin opSub (eBin opAdd (eVar 3) (eVar 1)) (eVar 2)) (eBin opSub (eBin opSub (eBin opAdd (eVar 3) (eVar 4)) (eC (.int 1))) (eBin opSub (eVar 1) (eVar 2)))))))
noncomputable def m__law_goal : List D → M D := fnM 6 2 b__law_goal
noncomputable def b__law_back : VS.Env → M Out :=
    (sRet (eArgs opTup (eCons (eBin opIx (eVar 0) (eC (.int 1))) (eCons (eBin opIx (eVar 0) (eC (.int 0))) (eCons (eBin opIx (eVar 0) (eC (.int 2))) (eCons (eBin opIx (eVar 0) (eC (.int 3))) eNil))))))
noncomputable def m__law_back : List D → M D := fnM 1 1 b__law_back
noncomputable def b__law_pairing : VS.Env → M Out :=
    (sCons (sAsg (tName 2) (eBin opAdd (eC (.int 1)) (eCall m__law_take (eCons (eVar 0) (eCons (eCall m__law_pick (eCons (eVar 0) (eCons (eArgs opLst (eCons (eVar 1) (eCons (eVar 1) (eCons (eArgs cMax (eCons (eC (.int 1)) (eCons (eBin opDiv (eVar 1) (eC (.int 3))) eNil))) (eCons (eArgs cMin (eCons (eVar 1) (eCons (eC (.int 3)) eNil))) eNil))))) eNil))) eNil)))))
    (sCons (sAsg (tName 3) (eCall m__law_take (eCons (eVar 0) (eCons (eBin opAdd (eBin opSub (eVar 1) (eVar 2)) (eC (.int 1))) eNil))))
    (sCons (sAsg (tName 4) (eCall m__law_pick (eCons (eVar 0) (eCons (eArgs opLst (eCons (eCall m__law_take (eCons (eVar 0) (eCons (eBin opAdd (eBin opSub (eVar 1) (eVar 2)) (eC (.int 1))) eNil))) (eCons (eCall m__law_take (eCons (eVar 0) (eCons (eBin opAdd (eBin opSub (eVar 1) (eVar 2)) (eC (.int 1))) eNil))) (eCons (eArgs cMin (eCons (eBin opSub (eVar 1) (eVar 2)) (eCons (eBin opAdd (eVar 3) (eC (.int 1))) eNil))) (eCons (eVar 3) (eCons (eBin opSub (eVar 1) (eVar 2)) (eCons (eArgs cMax (eCons (eC (.int 0)) (eCons (eArgs cMin (eCons (eBin opSub (eVar 1) (eVar 2)) (eCons (eBin opAdd (eVar 3) (eVar 2)) eNil))) eNil))) eNil))))))) eNil))))
    (sRet (eArgs opTup (eCons (eVar 3) (eCons (eVar 4) (eCons (eVar 2) (eCons (eCall m__law_pick (eCons (eVar 0) (eCons (eArgs opLst (eCons (eC (.int 1)) (eCons (eC (.int 1)) (eCons (eBin opSub (eC (.int 0)) (eC (.int 1))) eNil)))) eNil))) eNil)))))))))
noncomputable def m__law_pairing : List D → M D := fnM 5 2 b__law_pairing
noncomputable def b__law_far_pairing : VS.Env → M Out :=
    (sCons (sAsg (tName 2) (eBin opAdd (eC (.int 1)) (eCall m__law_take (eCons (eVar 0) (eCons (eCall m__law_pick (eCons (eVar 0) (eCons (eArgs opLst (eCons (eVar 1) (eCons (eArgs cMax (eCons (eC (.int 1)) (eCons (eBin opDiv (eVar 1) (eC (.int 3))) eNil))) (eCons (eArgs cMin (eCons (eVar 1) (eCons (eBin opPow (eC (.int 10)) (eC (.int 6))) eNil))) eNil)))) eNil))) eNil)))))
    (sCons (sAsg (tName 3) (eCall m__law_take (eCons (eVar 0) (eCons (eBin opAdd (eBin opSub (eVar 1) (eVar 2)) (eC (.int 1))) eNil))))
    (sCons (sAsg (tName 4) (eCall m__law_pick (eCons (eVar 0) (eCons (eArgs opLst (eCons (eCall m__law_take (eCons (eVar 0) (eCons (eBin opAdd (eBin opSub (eVar 1) (eVar 2)) (eC (.int 1))) eNil))) (eCons (eCall m__law_take (eCons (eVar 0) (eCons (eBin opAdd (eBin opSub (eVar 1) (eVar 2)) (eC (.int 1))) eNil))) (eCons (eArgs cMin (eCons (eBin opSub (eVar 1) (eVar 2)) (eCons (eBin opAdd (eBin opAdd (eVar 3) (eC (.int 1))) (eCall m__law_take (eCons (eVar 0) (eCons (eC (.int 1000)) eNil)))) eNil))) eNil)))) eNil))))
    (sRet (eArgs opTup (eCons (eVar 3) (eCons (eVar 4) (eCons (eVar 2) (eCons (eCall m__law_pick (eCons (eVar 0) (eCons (eArgs opLst (eCons (eC (.int 1)) (eCons (eC (.int 1)) (eCons (eBin opSub (eC (.int 0)) (eC (.int 1))) eNil)))) eNil))) eNil)))))))))
noncomputable def m__law_far_pairing : List D → M D := fnM 5 2 b__law_far_pairing
noncomputable def b__law_no_pairing : VS.Env → M Out :=
    (sRet (eCall m__law_pick (eCons (eVar 0) (eCons (eArgs opLst (eCons (eC .non) (eCons (eArgs opTup eNil) (eCons (eArgs opTup (eCons (eC (.int 0)) (eCons (eC (.int 1)) (eCons (eC (.int 0)) (eCons (eC (.int 1)) eNil))))) (eCons (eArgs opTup (eCons (eC (.int 0)) (eCons (eC (.int 1)) (eCons (eC (.int 1)) (eCons (eC (.int 0)) eNil))))) (eCons (eArgs opTup (eCons (eC (.int 0)) (eCons (eC (.int 1)) (eCons (eC (.int 1)) (eCons (eC (.int 2)) eNil))))) (eCons (eArgs opTup (eCons (eBin opSub (eC (.int 0)) (eC (.int 1))) (eCons (eC (.int 0)) (eCons (eC (.int 1)) (eCons (eC (.int 1)) eNil))))) (eCons (eArgs opTup (eCons (eC (.int 0)) (eCons (eC (.int 1)) (eCons (eC (.int 1)) eNil)))) (eCons (eArgs opTup (eCons (eC (.int 0)) (eCons (eC (.int 1)) (eCons (eC (.int 1)) (eCons (eC (.int 1)) (eCons (eC (.int 1)) eNil)))))) (eCons (eArgs opLst (eCons (eC (.int 0)) (eCons (eC (.int 1)) (eCons (eC (.int 1)) (eCons (eC (.int 1)) eNil))))) (eCons (eArgs opTup (eCons (eC (.bl true)) (eCons (eC (.int 1)) (eCons (eC (.int 1)) (eCons (eC (.int 1)) eNil))))) (eCons (eArgs opTup (eCons (eC (.int 0)) (eCons (eC (.int 1)) (eCons (eC (.int 1)) (eCons (eC (.bl true)) eNil))))) (eCons (eArgs opTup (eCons (eC (.int 0)) (eCons (eBin opPow (eC (.int 10)) (eC (.int 60))) (eCons (eC (.int 1)) (eCons (eC (.int 1)) eNil))))) (eCons (eArgs opTup (eCons (eC (.int 0)) (eCons (eC (.int 1)) (eCons (eBin opPow (eC (.int 10)) (eC (.int 60))) (eCons (eBin opSub (eC (.int 0)) (eC (.int 1))) eNil))))) (eCons (eC (.str "x")) (eCons (eArgs opTup (eCons (eC (.int 0)) (eCons (eC .non) (eCons (eC (.int 1)) (eCons (eC (.int 1)) eNil))))) eNil)))))))))))))))) eNil))))
noncomputable def m__law_no_pairing : List D → M D := fnM 1 1 b__law_no_pairing
noncomputable def b__law_long_pairing : VS.Env → M Out :=
    (sRet (eCall m__law_pick (eCons (eVar 0) (eCons (eArgs opLst (eCons (eCall m__law_pairing (eCons (eVar 0) (eCons (eC (.int 12)) eNil))) (eCons (eCall m__law_pairing (eCons (eVar 0) (eCons (eC (.int 40)) eNil))) (eCons (eCall m__law_far_pairing (eCons (eVar 0) (eCons (eBin opAdd (eC (.int 1)) (eCall m__law_take (eCons (eVar 0) (eCons (eBin opPow (eC (.int 10)) (eC (.int 60))) eNil)))) eNil))) eNil)))) eNil))))
noncomputable def m__law_long_pairing : List D → M D := fnM 1 1 b__law_long_pairing
noncomputable def b__law_right_1 : VS.Env → M Out := (sAsg (tName 1) (eCall m__law_long_pairing (eCons (eVar 0) eNil)))
noncomputable def b__law_right_2 : VS.Env → M Out := (sAsg (tSeq' 4 (tsCons (tName 10) (tsCons (tName 11) (tsCons (tName 12) (tsCons (tName 13) tsNil))))) (eVar 1))
noncomputable def b__law_right_3 : VS.Env → M Out := (sAsg (tName 2) (eCall m__law_back (eCons (eVar 1) eNil)))
noncomputable def b__law_right_4 : VS.Env → M Out := (sAsg (tName 3) (eArgs opLst (eCons (eCall m_is_pairing (eCons (eVar 1) eNil)) (eCons (eCallK m_is_pairing [0] (lenIs 1 (eCons (eVar 1) eNil))) (eCons (eCall m_turned (eCons (eVar 1) eNil)) (eCons (eCallK m_turned [0] (lenIs 1 (eCons (eVar 1) eNil))) (eCons (eCall m_mended (eCons (eVar 1) eNil)) (eCons (eCallK m_mended [0] (lenIs 1 (eCons (eVar 1) eNil))) (eCons (eCall m_mended (eCons (eVar 2) eNil)) eNil)))))))))
noncomputable def b__law_right_5 : VS.Env → M Out := (sAsg (tName 4) (eIf (eTest (eBin opLe (eVar 10) (eVar 11))) (eVar 1) (eVar 2)))
noncomputable def b__law_right_6 : VS.Env → M Out := (sIf (eNot (eTest (eCall m__law_says (eCons (eVar 3) (eCons (eArgs opLst (eCons (eC (.bl true)) (eCons (eC (.bl true)) (eCons (eVar 2) (eCons (eVar 2) (eCons (eVar 4) (eCons (eVar 4) (eCons (eIf (eTest (eBin opLe (eVar 11) (eVar 10))) (eVar 2) (eVar 1)) eNil)))))))) eNil))))) (sRet (eC (.bl false))) sNil)
noncomputable def b__law_right_7_1 : VS.Env → M Out := (sPar [15, 16] (eCons (eCall m__law_goal (eCons (eVar 1) (eCons (eVar 5) eNil))) (eCons (eCall m__law_goal (eCons (eVar 2) (eCons (eVar 5) eNil))) eNil)))
noncomputable def b__law_right_7_2 : VS.Env → M Out := (sIf (eNot (eTest (eCall m__law_says (eCons (eArgs opLst (eCons (eCall m_goal_of (eCons (eVar 1) (eCons (eVar 5) eNil))) (eCons (eCall m_from_of (eCons (eVar 1) (eCons (eVar 5) eNil))) (eCons (eCallK m_goal_of [1, 0] (lenIs 2 (eCons (eVar 5) (eCons (eVar 1) eNil)))) (eCons (eCallK m_from_of [1, 0] (lenIs 2 (eCons (eVar 5) (eCons (eVar 1) eNil)))) eNil))))) (eCons (eArgs opLst (eCons (eVar 15) (eCons (eVar 16) (eCons (eVar 15) (eCons (eVar 16) eNil))))) eNil))))) (sRet (eC (.bl false))) sNil)
noncomputable def b__law_right_7_3 : VS.Env → M Out := (sIf (eOr (eAnd (eTest (eBin opIsNot (eVar 15) (eC .non))) (eTest (eBin opNe (eCall m_from_of (eCons (eVar 1) (eCons (eVar 15) eNil))) (eVar 5)))) (eAnd (eTest (eBin opIsNot (eVar 16) (eC .non))) (eTest (eBin opNe (eCall m_goal_of (eCons (eVar 1) (eCons (eVar 16) eNil))) (eVar 5))))) (sRet (eC (.bl false))) sNil)
noncomputable def b__law_right_7_b : VS.Env → M Out := (sCons b__law_right_7_1
    (sCons b__law_right_7_2
    b__law_right_7_3))
noncomputable def b__law_right_7 : VS.Env → M Out := (sFor (tName 5) (eItems (eArgs opLst (eCons (eVar 10) (eCons (eBin opSub (eBin opAdd (eVar 10) (eVar 12)) (eC (.int 1))) (eCons (eBin opSub (eVar 10) (eC (.int 1))) (eCons (eBin opAdd (eVar 10) (eVar 12)) (eCons (eBin opAdd (eVar 10) (eCall m__law_take (eCons (eVar 0) (eCons (eVar 12) eNil)))) (eCons (eVar 11) (eCons (eBin opAdd (eVar 11) (eVar 12)) (eCons (eBin opAdd (eVar 11) (eCall m__law_take (eCons (eVar 0) (eCons (eVar 12) eNil)))) (eCons (eBin opSub (eC (.int 0)) (eC (.int 1))) (eCons (eBin opPow (eC (.int 10)) (eC (.int 62))) eNil)))))))))))) b__law_right_7_b)
noncomputable def b__law_right_8 : VS.Env → M Out := (sAsg (tName 6) (eCall m__law_pick (eCons (eVar 0) (eCons (eArgs opLst (eCons (eArgs opTup (eCons (eVar 10) (eCons (eVar 11) (eCons (eC (.int 0)) (eCons (eVar 13) eNil))))) (eCons (eArgs opTup (eCons (eVar 10) (eCons (eVar 11) (eCons (eVar 12) (eCons (eC (.int 0)) eNil))))) (eCons (eArgs opTup (eCons (eVar 10) (eCons (eVar 11) (eCons (eVar 12) eNil)))) (eCons (eUn toLst (eSeq (eVar 1))) (eCons (eArgs opTup (eCons (eVar 10) (eCons (eVar 11) (eCons (eVar 12) (eCons (eC (.int 2)) eNil))))) (eCons (eArgs opTup (eCons (eBin opSub (eC (.int 0)) (eC (.int 1))) (eCons (eVar 11) (eCons (eVar 12) (eCons (eVar 13) eNil))))) (eCons (eArgs opTup (eCons (eVar 10) (eCons (eBin opAdd (eBin opSub (eBin opPow (eC (.int 10)) (eC (.int 60))) (eVar 12)) (eC (.int 1))) (eCons (eVar 12) (eCons (eVar 13) eNil))))) (eCons (eArgs opTup (eCons (eVar 10) (eCons (eBin opSub (eBin opPow (eC (.int 10)) (eC (.int 60))) (eVar 12)) (eCons (eVar 12) (eCons (eVar 13) eNil))))) (eCons (eArgs opTup (eCons (eVar 10) (eCons (eVar 11) (eCons (eVar 12) (eCons (eBin opEq (eVar 13) (eC (.int 1))) eNil))))) eNil)))))))))) eNil))))
noncomputable def b__law_right_9_1 : VS.Env → M Out := (sAsg (tName 14) (eCall m__law_is_pairing (eCons (eVar 7) (eCons (eBin opPow (eC (.int 10)) (eC (.int 60))) eNil))))
noncomputable def b__law_right_9_2 : VS.Env → M Out := (sIf (eNot (eTest (eCall m__law_says (eCons (eArgs opLst (eCons (eCall m_is_pairing (eCons (eVar 7) eNil)) (eCons (eCallK m_is_pairing [0] (lenIs 1 (eCons (eVar 7) eNil))) eNil))) (eCons (eArgs opLst (eCons (eVar 14) (eCons (eVar 14) eNil))) eNil))))) (sRet (eC (.bl false))) sNil)
noncomputable def b__law_right_9_b : VS.Env → M Out := (sCons b__law_right_9_1
    b__law_right_9_2)
noncomputable def b__law_right_9 : VS.Env → M Out := (sFor (tName 7) (eItems (eArgs opLst (eCons (eVar 6) (eCons (eCall m__law_no_pairing (eCons (eVar 0) eNil)) (eCons (eCall m__law_odd (eCons (eVar 0) eNil)) eNil))))) b__law_right_9_b)
noncomputable def b__law_right_10 : VS.Env → M Out := (sAsg (tName 8) (eCall m__law_no_pairing (eCons (eVar 0) eNil)))
noncomputable def b__law_right_11 : VS.Env → M Out := (sAsg (tName 9) (eComp [17] (eItems (eSeq (eArgs opLst (eCons (eC (.fn 15)) (eCons (eC (.fn 16)) eNil))))) (tName 17) cYes (eUn (dIsE tab_BadPairing) (eCaught cls_ (eCallV (tabM [(15, m_turned), (16, m_mended), (13, m_goal_of), (14, m_from_of)]) 17 (eCons (eVar 8) eNil))))))
noncomputable def b__law_right_12 : VS.Env → M Out := (sAsg (tName 9) (eBin opAdd (eVar 9) (eComp [17] (eItems (eSeq (eArgs opLst (eCons (eC (.fn 13)) (eCons (eC (.fn 14)) eNil))))) (tName 17) cYes (eUn (dIsE tab_BadPairing) (eCaught cls_ (eCallV (tabM [(15, m_turned), (16, m_mended), (13, m_goal_of), (14, m_from_of)]) 17 (eCons (eVar 8) (eCons (eC .non) eNil))))))))
noncomputable def b__law_right_13 : VS.Env → M Out := (sRet (eBin opEq (eBin opAdd (eVar 9) (eComp [17] (eItems (eSeq (eArgs opLst (eCons (eC (.fn 13)) (eCons (eC (.fn 14)) eNil))))) (tName 17) cYes (eUn (dIsE tab_BadNumber) (eCaught cls_ (eCallV (tabM [(15, m_turned), (16, m_mended), (13, m_goal_of), (14, m_from_of)]) 17 (eCons (eVar 1) (eCons (eCall m__law_pick (eCons (eVar 0) (eCons (eArgs opLst (eCons (eC .non) (eCons (eC (.bl true)) (eCons (eC (.str "1")) (eCons (eArgs opTup (eCons (eC (.int 1)) eNil)) eNil))))) eNil))) eNil))))))) (eBin opMul (eArgs opLst (eCons (eC (.bl true)) eNil)) (eC (.int 6)))))
noncomputable def b__law_right : VS.Env → M Out :=
    (sCons b__law_right_1
    (sCons b__law_right_2
    (sCons b__law_right_3
    (sCons b__law_right_4
    (sCons b__law_right_5
    (sCons b__law_right_6
    (sCons b__law_right_7
    (sCons b__law_right_8
    (sCons b__law_right_9
    (sCons b__law_right_10
    (sCons b__law_right_11
    (sCons b__law_right_12
    b__law_right_13))))))))))))
noncomputable def m__law_right : List D → M D := fnM 18 1 b__law_right
noncomputable def b_law1_1_b : VS.Env → M Out := (sIf (eNot (eTest (eCall m__law_right (eCons (eVar 1) eNil)))) (sRet (eC (.bl false))) sNil)
noncomputable def b_law1_1 : VS.Env → M Out := (sFor (tName 2) (eRange1 (eCons (eBin opAdd (eC (.int 6)) (eArgs cMin (eCons (eArgs cLenX (eCons (eVar 0) eNil)) (eCons (eC (.int 12)) eNil)))) eNil)) b_law1_1_b)
noncomputable def b_law1_2 : VS.Env → M Out := (sAsg (tName 3) (eArgs opLst (eCons (eCall m_goal_of (eCons (eArgs opTup (eCons (eC (.int 0)) (eCons (eC (.int 3)) (eCons (eC (.int 2)) (eCons (eBin opSub (eC (.int 0)) (eC (.int 1))) eNil))))) (eCons (eC (.int 0)) eNil))) (eCons (eCall m_goal_of (eCons (eArgs opTup (eCons (eC (.int 0)) (eCons (eC (.int 3)) (eCons (eC (.int 2)) (eCons (eBin opSub (eC (.int 0)) (eC (.int 1))) eNil))))) (eCons (eC (.int 1)) eNil))) (eCons (eCall m_goal_of (eCons (eArgs opTup (eCons (eC (.int 0)) (eCons (eC (.int 3)) (eCons (eC (.int 2)) (eCons (eBin opSub (eC (.int 0)) (eC (.int 1))) eNil))))) (eCons (eC (.int 2)) eNil))) (eCons (eCall m_from_of (eCons (eArgs opTup (eCons (eC (.int 0)) (eCons (eC (.int 3)) (eCons (eC (.int 2)) (eCons (eC (.int 1)) eNil))))) (eCons (eC (.int 4)) eNil))) (eCons (eCall m_mended (eCons (eArgs opTup (eCons (eC (.int 3)) (eCons (eC (.int 0)) (eCons (eC (.int 2)) (eCons (eC (.int 1)) eNil))))) eNil)) (eCons (eCall m_is_pairing (eCons (eArgs opTup (eCons (eC (.int 0)) (eCons (eC (.int 0)) (eCons (eBin opPow (eC (.int 10)) (eC (.int 60))) (eCons (eC (.int 1)) eNil))))) eNil)) (eCons (eCall m_is_pairing (eCons (eArgs opTup (eCons (eC (.int 0)) (eCons (eC (.int 1)) (eCons (eBin opPow (eC (.int 10)) (eC (.int 60))) (eCons (eC (.int 1)) eNil))))) eNil)) eNil)))))))))
noncomputable def b_law1_3 : VS.Env → M Out := (sRet (eCall m__law_says (eCons (eVar 3) (eCons (eArgs opLst (eCons (eC (.int 4)) (eCons (eC (.int 3)) (eCons (eC .non) (eCons (eC (.int 1)) (eCons (eArgs opTup (eCons (eC (.int 0)) (eCons (eC (.int 3)) (eCons (eC (.int 2)) (eCons (eC (.int 1)) eNil))))) (eCons (eC (.bl true)) (eCons (eC (.bl false)) eNil)))))))) eNil))))
noncomputable def b_law1 : VS.Env → M Out :=
    (sCons b_law1_1
    (sCons b_law1_2
    b_law1_3))
end K00

namespace K00
open PySem VS
def PV (a b w y : Int) : D := .tup [.int a, .int b, .int w, .int y]
/-- where a pairing leads -/
def goalD (a b w y n : Int) : D := if a ≤ n ∧ n < a + w then (if y = 1 then .int (b + n - a) else .int (b + w - 1 - (n - a))) else .non
theorem goal_by_run (a b w y n : Int) : m_goal_by [PV a b w y, .int n] = M.ok (goalD a b w y n) := by
  unfold m_goal_by b_goal_by PV goalD
  simp [le_i, lt_i, add_i, sub_i]
  by_cases h1 : a ≤ n
  · by_cases h2 : a + w ≤ n
    · simp [h1, h2, Int.not_lt.mpr h2]
    · simp [h1, h2, Int.not_le.mp h2]
  · simp [h1]
theorem law_goal_run (a b w y n : Int) : m__law_goal [PV a b w y, .int n] = M.ok (goalD a b w y n) := by
  unfold m__law_goal b__law_goal PV goalD
  simp [le_i, lt_i, add_i, sub_i]
  by_cases h1 : a ≤ n
  · by_cases h2 : a + w ≤ n
    · simp [h1, h2, Int.not_lt.mpr h2]
    · simp [h1, h2, Int.not_le.mp h2]
  · simp [h1]
theorem turned_by_run (a b w y : Int) : m_turned_by [PV a b w y] = M.ok (PV b a w y) := by
  unfold m_turned_by b_turned_by PV
  simp [x_len1]
theorem law_back_run (a b w y : Int) : m__law_back [PV a b w y] = M.ok (PV b a w y) := by
  unfold m__law_back b__law_back PV
  simp [x_len1, opIx, opIxS, L2.atI, L2.ixN]
/-! ### what is a pairing -/
def isI : D → Bool
  | .int _ => true
  | _ => false
theorem is_whole_run {n : Nat} {x : D} (h : dOk n x = true) : m_is_whole [x] = M.ok (.bl (isI x)) := by
  unfold m_is_whole b_is_whole
  cases x <;> first | (exfalso; cases n <;> cases h; done) | simp [isI, is_int_non, is_int_bl, is_int_int, is_int_str, is_int_tup, is_int_lst, is_bool_bl, is_bool_int]
theorem is_number_run {n : Nat} {x : D} (h : dOk n x = true) : m__law_is_number [x] = M.ok (.bl (isI x)) := by
  unfold m__law_is_number b__law_is_number
  cases x <;> first | (exfalso; cases n <;> cases h; done) | simp [isI, is_int_non, is_int_bl, is_int_int, is_int_str, is_int_tup, is_int_lst, is_bool_bl, is_bool_int]
/-- values that may be asked -/
def Th (t : D) : Prop := dOk 60 t = true ∨ ∃ ks ds, t = .dct ks ds
def isP (t : D) (L : Int) : Bool := match t with
  | .tup [.int a, .int b, .int w, .int y] => decide (0 ≤ a ∧ 0 ≤ b ∧ 1 ≤ w ∧ (y = 1 ∨ y = -1) ∧ max a b + w ≤ L)
  | _ => false
theorem isP_no {ds : List D} {L : Int} (h : ds.all isI = false ∨ ds.length ≠ 4) : isP (.tup ds) L = false := by
  unfold isP
  split
  · rename_i e
    cases e
    rcases h with h | h
    · simp [isI] at h
    · simp at h
  · rfl
theorem four {ds : List D} (h1 : ds.length = 4) (h2 : ds.all isI = true) : ∃ a b w y, ds = [.int a, .int b, .int w, .int y] := by
  match ds, h1 with
  | [p, q, r, s], _ =>
    simp only [List.all_cons, List.all_nil, Bool.and_true, Bool.and_eq_true] at h2
    obtain ⟨h3, h4, h5, h6⟩ := h2
    cases p <;> first | (cases h3; done) | skip
    cases q <;> first | (cases h4; done) | skip
    cases r <;> first | (cases h5; done) | skip
    cases s <;> first | (cases h6; done) | skip
    exact ⟨_, _, _, _, rfl⟩
theorem all_bls (f : D → Bool) (ds : List D) : cAll [.lst (ds.map fun x => .bl (f x))] = some (.bl (ds.all f)) := by
  have : asBls (ds.map fun x => .bl (f x)) = some (ds.map f) := by
    induction ds with
    | nil => rfl
    | cons d ds ih => simp [asBls, ih]
  show onBls _ _ = _
  simp only [onBls, this]
  simp [List.all_map]
theorem notin2 (y a b : Int) : opNotIn (.int y) (.tup [.int a, .int b]) = some (.bl (!(a == y || b == y))) := by
  simp [opNotIn, opIn0, D.items, D.fl, inF, eqF]
theorem in2 (y a b : Int) : opIn (.int y) (.lst [.int a, .int b]) = some (.bl (a == y || b == y)) := by
  simp [opIn, opIn0, D.items, D.fl, inF, eqF]
theorem dOk_tup {n : Nat} {ds : List D} (h : dOk n (.tup ds) = true) : ∃ m, n = m + 1 ∧ ∀ d ∈ ds, dOk m d = true := by
  cases n with
  | zero => cases h
  | succ m => exact ⟨m, rfl, fun d hd => List.all_eq_true.mp (show ds.all (dOk m) = true from h) d hd⟩
theorem small_len {ds : List D} (h : ds.length = 4) : ds.length < sizeLine := by rw [h]; decide
theorem comp_whole {n : Nat} {ds : List D} {a b c d e f : Option D} (h : ∀ x ∈ ds, dOk n x = true) (hl : ds.length = 4) :
    eComp [6] (eItems (eSeq (eVar 0))) (tName 6) cYes (eCall m_is_whole (eCons (eVar 6) eNil)) [some (.tup ds), a, b, c, d, e, f] = M.ok (.lst (ds.map fun x => .bl (isI x))) := by
  have := x_comp (own := [6]) (it := eItems (eSeq (eVar 0))) (f := tName 6) (c := cYes) (e := eCall m_is_whole (eCons (eVar 6) eNil)) (ρ := [some (.tup ds), a, b, c, d, e, f]) (fun _ => true) (fun x => .bl (isI x)) (ds := ds) (by simp) (small_len hl) fun x hx => ⟨[some (.tup ds), a, b, c, d, e, some x], by simp, by simp, fun _ => by simp [is_whole_run (h x hx)]⟩
  have e : ds.filter (fun _ => true) = ds := List.filter_eq_self.mpr fun _ _ => rfl
  rw [e] at this
  exact this
theorem comp_number {n : Nat} {ds : List D} {a b c d e f : Option D} (h : ∀ x ∈ ds, dOk n x = true) (hl : ds.length = 4) :
    eComp [6] (eItems (eSeq (eVar 0))) (tName 6) (eNot (eTest (eCall m__law_is_number (eCons (eVar 6) eNil)))) (eVar 6) [some (.tup ds), a, b, c, d, e, f] = M.ok (.lst (ds.filter fun x => !isI x)) := by
  have := x_comp (own := [6]) (it := eItems (eSeq (eVar 0))) (f := tName 6) (c := eNot (eTest (eCall m__law_is_number (eCons (eVar 6) eNil)))) (e := eVar 6) (ρ := [some (.tup ds), a, b, c, d, e, f]) (fun x => !isI x) (fun x => x) (ds := ds) (by simp) (small_len hl) fun x hx => ⟨[some (.tup ds), a, b, c, d, e, some x], by simp, by simp [is_number_run (h x hx)], fun _ => by simp⟩
  simpa using this
theorem is_pairing_by_run {t : D} (L : Int) (h : Th t) : m_is_pairing_by [t, .int L] = M.ok (.bl (isP t L)) := by
  unfold m_is_pairing_by b_is_pairing_by
  have no : ∀ {u : D}, dIs "tuple" u = some (.bl false) → isP u L = false → fnM 7 2 b_is_pairing_by [u, .int L] = M.ok (.bl (isP u L)) := fun {u} h1 h2 => by
    unfold b_is_pairing_by
    simp [h1, h2]
  unfold b_is_pairing_by at no
  rcases h with h | ⟨ks, ds, rfl⟩
  · cases t <;> first | (cases h; done) | skip
    · exact no is_tuple_non rfl
    · exact no (is_tuple_bl _) rfl
    · exact no (is_tuple_int _) rfl
    · exact no (is_tuple_str _) rfl
    · rename_i ds
      obtain ⟨m, _, hd⟩ := dOk_tup h
      by_cases hl : ds.length = 4
      · by_cases ha : ds.all isI = true
        · obtain ⟨a, b, w, y, rfl⟩ := four hl ha
          have hc := comp_whole (a := some (.int L)) (b := none) (c := none) (d := none) (e := none) (f := none) hd rfl
          generalize hR : isP (.tup [.int a, .int b, .int w, .int y]) L = R
          simp [is_tuple_tup, hc, isI, lt_i, le_i, add_i, notin2, x_len1, show cAll [.lst [.bl true, .bl true, .bl true, .bl true]] = some (.bl true) from rfl]
          have hR : decide (0 ≤ a ∧ 0 ≤ b ∧ 1 ≤ w ∧ (y = 1 ∨ y = -1) ∧ max a b + w ≤ L) = R := hR
          rw [← hR]
          split
          · rw [decide_eq_false (by omega)]
          · exact congrArg (fun k => M.ok (D.bl k)) (decide_eq_decide.mpr (by omega))
        · have hc := comp_whole (a := some (.int L)) (b := none) (c := none) (d := none) (e := none) (f := none) hd hl
          have ha' : ds.all isI = false := Bool.not_eq_true _ |>.mp ha
          rw [isP_no (.inl ha')]
          simp [is_tuple_tup, hc, all_bls, hl, ha', -List.all_eq_false]
      · rw [isP_no (.inr hl)]
        have hl2 : ¬ ((ds.length : Int) = 4) := by omega
        simp [is_tuple_tup, hl2]
    · exact no (is_tuple_lst _) rfl
  · exact no (is_tuple_dct _ _) rfl
theorem law_is_pairing_run {t : D} (L : Int) (h : Th t) : m__law_is_pairing [t, .int L] = M.ok (.bl (isP t L)) := by
  unfold m__law_is_pairing b__law_is_pairing
  have no : ∀ {u : D}, dIs "tuple" u = some (.bl false) → isP u L = false → fnM 7 2 b__law_is_pairing [u, .int L] = M.ok (.bl (isP u L)) := fun {u} h1 h2 => by
    unfold b__law_is_pairing
    simp [h1, h2]
  unfold b__law_is_pairing at no
  rcases h with h | ⟨ks, ds, rfl⟩
  · cases t <;> first | (cases h; done) | skip
    · exact no is_tuple_non rfl
    · exact no (is_tuple_bl _) rfl
    · exact no (is_tuple_int _) rfl
    · exact no (is_tuple_str _) rfl
    · rename_i ds
      obtain ⟨m, hm, hd⟩ := dOk_tup h
      by_cases hl : ds.length = 4
      · have hc := comp_number (a := some (.int L)) (b := none) (c := none) (d := none) (e := none) (f := none) hd hl
        have hn : opNe (.lst (ds.filter fun x => !isI x)) (.lst []) = some (.bl (!(ds.filter fun x => !isI x).isEmpty)) := ne_nil (n := m) (fun x hx => hd x (List.mem_filter.mp hx).1) (by omega)
        by_cases ha : ds.all isI = true
        · obtain ⟨a, b, w, y, rfl⟩ := four hl ha
          generalize hR : isP (.tup [.int a, .int b, .int w, .int y]) L = R
          simp [isI] at hn hc
          simp [is_tuple_tup, hc, hn, isI, le_i, ge_i, add_i, sub_i, in2, x_len1]
          have hR : decide (0 ≤ a ∧ 0 ≤ b ∧ 1 ≤ w ∧ (y = 1 ∨ y = -1) ∧ max a b + w ≤ L) = R := hR
          rw [← hR]
          split
          · split
            · split
              · split
                · exact congrArg (fun k => M.ok (D.bl k)) (decide_eq_decide.mpr (by omega))
                · rw [decide_eq_false (by omega)]
              · rw [decide_eq_false (by omega)]
            · rw [decide_eq_false (by omega)]
          · rw [decide_eq_false (by omega)]
        · have ha' : ds.all isI = false := Bool.not_eq_true _ |>.mp ha
          have he : (ds.filter fun x => !isI x).isEmpty = false := by
            rw [List.all_eq_false] at ha'
            obtain ⟨x, hx, h2⟩ := ha'
            cases q : ds.filter fun x => !isI x with
            | nil =>
              have := List.filter_eq_nil_iff.mp q x hx
              simp [h2] at this
            | cons _ _ => rfl
          rw [isP_no (.inl ha')]
          rw [he] at hn
          simp [is_tuple_tup, hc, hl, hn]
      · rw [isP_no (.inr hl)]
        have hl2 : ¬ ((ds.length : Int) = 4) := by omega
        simp [is_tuple_tup, hl2]
    · exact no (is_tuple_lst _) rfl
  · exact no (is_tuple_dct _ _) rfl
/-! ### the program's functions -/
abbrev T60 : Int := 1000000000000000000000000000000000000000000000000000000000000
theorem pow_10_60 : opPow (.int 10) (.int 60) = some (.int T60) := by simp [opPow, iiC]
theorem pow_10_62 : opPow (.int 10) (.int 62) = some (.int 100000000000000000000000000000000000000000000000000000000000000) := by simp [opPow, iiC]
theorem pow_10_6 : opPow (.int 10) (.int 6) = some (.int 1000000) := by simp [opPow, iiC]
/-- a pairing on a line of L cells -/
structure Ok (L a b w y : Int) : Prop where
  pa : 0 ≤ a
  pb : 0 ≤ b
  pw : 1 ≤ w
  py : y = 1 ∨ y = -1
  pm : max a b + w ≤ L
theorem Ok.is {L a b w y : Int} (h : Ok L a b w y) : isP (PV a b w y) L = true := decide_eq_true ⟨h.pa, h.pb, h.pw, h.py, h.pm⟩
theorem Ok.sw {L a b w y : Int} (h : Ok L a b w y) : Ok L b a w y := ⟨h.pb, h.pa, h.pw, h.py, by have := h.pm; omega⟩
theorem th_pv (a b w y : Int) : Th (PV a b w y) := .inl rfl
theorem is_pairing_run {t : D} (h : Th t) : m_is_pairing [t] = M.ok (.bl (isP t T60)) := by
  unfold m_is_pairing b_is_pairing
  simp [is_pairing_by_run _ h]
theorem need_run {t : D} (h : Th t) : m_need_pairing [t] = if isP t T60 = true then M.ok .non else M.er (6, none) := by
  unfold m_need_pairing b_need_pairing
  simp [is_pairing_by_run _ h]
  cases isP t T60 <;> simp
theorem turned_run {a b w y : Int} (h : Ok T60 a b w y) : m_turned [PV a b w y] = M.ok (PV b a w y) := by
  unfold m_turned b_turned
  simp [need_run (th_pv a b w y), h.is, turned_by_run]
theorem turned_no {t : D} (h : Th t) (h2 : isP t T60 = false) : m_turned [t] = M.er (6, none) := by
  unfold m_turned b_turned
  simp [need_run h, h2]
theorem mended_run {a b w y : Int} (h : Ok T60 a b w y) : m_mended [PV a b w y] = M.ok (if a ≤ b then PV a b w y else PV b a w y) := by
  unfold m_mended b_mended
  simp [need_run (th_pv a b w y), h.is, turned_by_run]
  have e0 : opIx (PV a b w y) (.int 0) = some (.int a) := by simp [PV, opIx, opIxS, L2.atI, L2.ixN]
  have e1 : opIx (PV a b w y) (.int 1) = some (.int b) := by simp [PV, opIx, opIxS, L2.atI, L2.ixN]
  simp [e0, e1, le_i]
theorem mended_no {t : D} (h : Th t) (h2 : isP t T60 = false) : m_mended [t] = M.er (6, none) := by
  unfold m_mended b_mended
  simp [need_run h, h2]
theorem goal_of_run {a b w y : Int} (h : Ok T60 a b w y) (n : Int) : m_goal_of [PV a b w y, .int n] = M.ok (goalD a b w y n) := by
  unfold m_goal_of b_goal_of
  simp [need_run (th_pv a b w y), h.is, is_whole_run (n := 0) (x := .int n) rfl, isI, goal_by_run]
theorem goal_of_no {t x : D} (h : Th t) (h2 : isP t T60 = false) : m_goal_of [t, x] = M.er (6, none) := by
  unfold m_goal_of b_goal_of
  simp [need_run h, h2]
theorem goal_of_nw {a b w y : Int} (h : Ok T60 a b w y) {n : Nat} {x : D} (hx : dOk n x = true) (h2 : isI x = false) : m_goal_of [PV a b w y, x] = M.er (5, none) := by
  unfold m_goal_of b_goal_of
  simp [need_run (th_pv a b w y), h.is, is_whole_run hx, h2]
theorem from_of_run {a b w y : Int} (h : Ok T60 a b w y) (n : Int) : m_from_of [PV a b w y, .int n] = M.ok (goalD b a w y n) := by
  unfold m_from_of b_from_of
  simp [need_run (th_pv a b w y), h.is, is_whole_run (n := 0) (x := .int n) rfl, isI, turned_by_run, goal_by_run]
theorem from_of_no {t x : D} (h : Th t) (h2 : isP t T60 = false) : m_from_of [t, x] = M.er (6, none) := by
  unfold m_from_of b_from_of
  simp [need_run h, h2]
theorem from_of_nw {a b w y : Int} (h : Ok T60 a b w y) {n : Nat} {x : D} (hx : dOk n x = true) (h2 : isI x = false) : m_from_of [PV a b w y, x] = M.er (5, none) := by
  unfold m_from_of b_from_of
  simp [need_run (th_pv a b w y), h.is, is_whole_run hx, h2]

/-! ### what is drawn -/
theorem log_small {a : Int} (h0 : 0 ≤ a) (h : a ≤ 2 ^ 210) : a.natAbs.log2 < 9000 := by
  by_cases z : a.natAbs = 0
  · rw [z]; decide
  · have : a.natAbs < 2 ^ 211 := by
      have : (2 : Int) ^ 210 = 1645504557321206042154969182557350504982735865633579863348609024 := by decide
      have : (2 : Nat) ^ 211 = 3291009114642412084309938365114701009965471731267159726697218048 := by decide
      omega
    have := (Nat.log2_lt z).mpr this
    omega
/-- an amount from 1 on, not too large -/
theorem take_in {a : Int} (h1 : 1 ≤ a) (h : a ≤ 2 ^ 210) : Ev (m__law_take [.draw, .int a]) fun d => ∃ x, d = .int x ∧ 0 ≤ x ∧ x < a :=
  (take_ev (log_small (by omega) h)).mono fun d ⟨x, e, h0, h2, h3⟩ => ⟨x, e, h0, by
    by_cases z : 2 ≤ a
    · exact h2 z
    · have := h3 (by omega); omega⟩
/-- one of some numbers in a range -/
theorem pick_in {ds : List D} {lo hi : Int} (h0 : ds ≠ []) (hl : ds.length < 1000000) (h : ∀ d ∈ ds, ∃ x, d = .int x ∧ lo ≤ x ∧ x ≤ hi) : Ev (m__law_pick [.draw, .lst ds]) fun d => ∃ x, d = .int x ∧ lo ≤ x ∧ x ≤ hi := pick_ev h0 hl h
theorem way_ev : Ev (m__law_pick [.draw, .lst [.int 1, .int 1, .int (-1)]]) fun d => ∃ y, d = .int y ∧ (y = 1 ∨ y = -1) :=
  pick_ev (by simp) (by simp) fun d hd => by
    simp only [List.mem_cons, List.not_mem_nil, or_false] at hd
    rcases hd with rfl | rfl | rfl
    · exact ⟨_, rfl, .inl rfl⟩
    · exact ⟨_, rfl, .inl rfl⟩
    · exact ⟨_, rfl, .inr rfl⟩
def Pair (L : Int) (d : D) : Prop := ∃ a b w y, d = PV a b w y ∧ Ok L a b w y
theorem div3 (i : Int) : opDiv (.int i) (.int 3) = some (.int (i / 3)) := div_i (by decide) (by decide)
theorem pairing_ev {L : Int} (h1 : 1 ≤ L) (h2 : L ≤ 2 ^ 205) : Ev (m__law_pairing [.draw, .int L]) (Pair L) := by
  have hL : L ≤ 2 ^ 210 := Int.le_trans h2 (by decide)
  unfold m__law_pairing b__law_pairing
  simp [x_len1, div3, add_i, sub_i]
  refine Ev.bind (pick_in (lo := 1) (hi := L) (by simp) (by simp) ?_) fun d hd => ?_
  · intro d hd
    simp only [List.mem_cons, List.not_mem_nil, or_false] at hd
    rcases hd with rfl | rfl | rfl | rfl <;> exact ⟨_, rfl, by omega, by omega⟩
  obtain ⟨k, rfl, k1, k2⟩ := hd
  refine Ev.bind (take_in k1 (by omega)) fun d hd => ?_
  obtain ⟨x, rfl, x1, x2⟩ := hd
  simp [x_len1, add_i, sub_i]
  refine Ev.bind (take_in (by omega) (by omega)) fun d hd => ?_
  obtain ⟨a, rfl, a1, a2⟩ := hd
  simp [x_len1, add_i, sub_i]
  refine Ev.bind (take_in (by omega) (by omega)) fun d hd => ?_
  obtain ⟨b1, rfl, b11, b12⟩ := hd
  refine Ev.bind (take_in (by omega) (by omega)) fun d hd => ?_
  obtain ⟨b2, rfl, b21, b22⟩ := hd
  refine Ev.bind (pick_in (lo := 0) (hi := L - (1 + x)) (by simp) (by simp) ?_) fun d hd => ?_
  · intro d hd
    simp only [List.mem_cons, List.not_mem_nil, or_false] at hd
    rcases hd with rfl | rfl | rfl | rfl | rfl | rfl <;> exact ⟨_, rfl, by omega, by omega⟩
  obtain ⟨b, rfl, b3, b4⟩ := hd
  refine Ev.bind way_ev fun d hd => ?_
  obtain ⟨y, rfl, hy⟩ := hd
  exact Ev.ok ⟨a, b, 1 + x, y, rfl, a1, b3, by omega, hy, by omega⟩
theorem far_pairing_ev {L : Int} (h1 : 1 ≤ L) (h2 : L ≤ 2 ^ 205) : Ev (m__law_far_pairing [.draw, .int L]) (Pair L) := by
  have hL : L ≤ 2 ^ 210 := Int.le_trans h2 (by decide)
  unfold m__law_far_pairing b__law_far_pairing
  simp [x_len1, div3, add_i, sub_i, pow_10_6]
  refine Ev.bind (pick_in (lo := 1) (hi := L) (by simp) (by simp) ?_) fun d hd => ?_
  · intro d hd
    simp only [List.mem_cons, List.not_mem_nil, or_false] at hd
    rcases hd with rfl | rfl | rfl <;> exact ⟨_, rfl, by omega, by omega⟩
  obtain ⟨k, rfl, k1, k2⟩ := hd
  refine Ev.bind (take_in k1 (by omega)) fun d hd => ?_
  obtain ⟨x, rfl, x1, x2⟩ := hd
  simp [x_len1, add_i, sub_i]
  refine Ev.bind (take_in (by omega) (by omega)) fun d hd => ?_
  obtain ⟨a, rfl, a1, a2⟩ := hd
  simp [x_len1, add_i, sub_i]
  refine Ev.bind (take_in (by omega) (by omega)) fun d hd => ?_
  obtain ⟨b1, rfl, b11, b12⟩ := hd
  refine Ev.bind (take_in (by omega) (by omega)) fun d hd => ?_
  obtain ⟨b2, rfl, b21, b22⟩ := hd
  refine Ev.bind (take_in (a := 1000) (by omega) (by decide)) fun d hd => ?_
  obtain ⟨z, rfl, z1, z2⟩ := hd
  simp [x_len1, add_i, sub_i]
  refine Ev.bind (pick_in (lo := 0) (hi := L - (1 + x)) (by simp) (by simp) ?_) fun d hd => ?_
  · intro d hd
    simp only [List.mem_cons, List.not_mem_nil, or_false] at hd
    rcases hd with rfl | rfl | rfl <;> exact ⟨_, rfl, by omega, by omega⟩
  obtain ⟨b, rfl, b3, b4⟩ := hd
  refine Ev.bind way_ev fun d hd => ?_
  obtain ⟨y, rfl, hy⟩ := hd
  exact Ev.ok ⟨a, b, 1 + x, y, rfl, a1, b3, by omega, hy, by omega⟩
theorem Pair.up {L L' : Int} {d : D} (h : L ≤ L') : Pair L d → Pair L' d := fun ⟨a, b, w, y, e, o⟩ => ⟨a, b, w, y, e, o.pa, o.pb, o.pw, o.py, Int.le_trans o.pm h⟩
theorem long_pairing_ev : Ev (m__law_long_pairing [.draw]) (Pair T60) := by
  unfold m__law_long_pairing b__law_long_pairing
  simp [x_len1, pow_10_60]
  refine Ev.bind (pairing_ev (L := 12) (by decide) (by decide)) fun p hp => ?_
  refine Ev.bind (pairing_ev (L := 40) (by decide) (by decide)) fun q hq => ?_
  refine Ev.bind (take_in (a := T60) (by decide) (by decide)) fun d hd => ?_
  obtain ⟨x, rfl, x1, x2⟩ := hd
  simp [x_len1, add_i]
  refine Ev.bind (far_pairing_ev (L := 1 + x) (by omega) (by
    have : T60 ≤ 2 ^ 204 := by decide
    have : (2 : Int) ^ 204 + 1 ≤ 2 ^ 205 := by decide
    omega)) fun r hr => ?_
  refine pick_ev (by simp) (by simp) fun d hd => ?_
  simp only [List.mem_cons, List.not_mem_nil, or_false] at hd
  rcases hd with rfl | rfl | rfl
  · exact hp.up (by decide)
  · exact hq.up (by decide)
  · exact hr.up (by omega)
/-- values that are no pairings -/
def No (t : D) : Prop := Th t ∧ isP t T60 = false
theorem no_pairing_ev : Ev (m__law_no_pairing [.draw]) No := by
  unfold m__law_no_pairing b__law_no_pairing
  simp [x_len1, pow_10_60, sub_i]
  refine pick_ev (by simp) (by simp) fun d hd => ?_
  simp only [List.mem_cons, List.not_mem_nil, or_false] at hd
  rcases hd with rfl | rfl | rfl | rfl | rfl | rfl | rfl | rfl | rfl | rfl | rfl | rfl | rfl | rfl | rfl
  all_goals first | exact ⟨.inl rfl, by decide⟩ | exact ⟨.inl (by show PySem.PyData.strOk "x" = true; decide +kernel), by decide⟩
theorem odd_ev : Ev (m__law_odd [.draw]) Th := by
  unfold m__law_odd b__law_odd
  simp [x_len1, sub_i]
  refine pick_ev (by simp) (by simp) fun d hd => ?_
  simp only [List.mem_cons, List.not_mem_nil, or_false] at hd
  rcases hd with rfl | rfl | rfl | rfl | rfl | rfl | rfl | rfl | rfl | rfl | rfl | rfl | rfl | rfl | rfl | rfl
  all_goals first | exact .inl rfl | exact .inr ⟨_, _, rfl⟩ | exact .inl (by show PySem.PyData.strOk _ = true; decide +kernel)
/-! ### one lap -/
theorem goalD_ok (a b w y n : Int) : dOk 0 (goalD a b w y n) = true := by
  unfold goalD
  split
  · split <;> rfl
  · rfl
end K00

namespace K00
open PySem VS
theorem goal_back {a b w y n m : Int} (hy : y = 1 ∨ y = -1) (h : goalD a b w y n = .int m) : goalD b a w y m = .int n := by
  unfold goalD at h ⊢
  split at h
  · rename_i hn
    split at h
    · rename_i h1
      injection h with h
      rw [if_pos (by omega), if_pos h1]
      congr 1; omega
    · rename_i h1
      injection h with h
      rw [if_pos (by omega), if_neg h1]
      congr 1; omega
  · cases h
theorem goal_cases (a b w y n : Int) : goalD a b w y n = .non ∨ ∃ m, goalD a b w y n = .int m := by
  unfold goalD
  split
  · split <;> exact .inr ⟨_, rfl⟩
  · exact .inl rfl
def E7 (a b w y : Int) (l3 l4 u v z : Option D) : VS.Env := [some .draw, some (PV a b w y), some (PV b a w y), l3, l4, u, none, none, none, none, some (.int a), some (.int b), some (.int w), some (.int y), none, v, z, none]
theorem body7 {a b w y : Int} (o : Ok T60 a b w y) (l3 l4 v z : Option D) (n : Int) : ∃ v' z', b__law_right_7_b (E7 a b w y l3 l4 (some (.int n)) v z) = M.ok (.nx (E7 a b w y l3 l4 (some (.int n)) v' z')) := by
  refine ⟨some (goalD a b w y n), some (goalD b a w y n), ?_⟩
  have e1 : b__law_right_7_1 (E7 a b w y l3 l4 (some (.int n)) v z) = M.ok (.nx (E7 a b w y l3 l4 (some (.int n)) (some (goalD a b w y n)) (some (goalD b a w y n)))) := by
    simp [b__law_right_7_1, E7, law_goal_run]
  have hs : m__law_says [.lst [goalD a b w y n, goalD b a w y n, goalD a b w y n, goalD b a w y n], .lst [goalD a b w y n, goalD b a w y n, goalD a b w y n, goalD b a w y n]] = M.ok (.bl true) := by
    rcases goal_cases a b w y n with h | ⟨m, h⟩ <;> rcases goal_cases b a w y n with h' | ⟨m', h'⟩ <;> rw [h, h'] <;> exact says_run (n := 1) rfl (by simp [sz, szs])
  have e2 : b__law_right_7_2 (E7 a b w y l3 l4 (some (.int n)) (some (goalD a b w y n)) (some (goalD b a w y n))) = M.ok (.nx (E7 a b w y l3 l4 (some (.int n)) (some (goalD a b w y n)) (some (goalD b a w y n)))) := by
    simp [b__law_right_7_2, E7, goal_of_run o, from_of_run o, pick, x_len1, hs]
  have e3 : b__law_right_7_3 (E7 a b w y l3 l4 (some (.int n)) (some (goalD a b w y n)) (some (goalD b a w y n))) = M.ok (.nx (E7 a b w y l3 l4 (some (.int n)) (some (goalD a b w y n)) (some (goalD b a w y n)))) := by
    rcases goal_cases a b w y n with h | ⟨m, h⟩ <;> rcases goal_cases b a w y n with h' | ⟨m', h'⟩
    · simp [b__law_right_7_3, E7, h, h']
    · have g := goal_back o.py h'
      simp [b__law_right_7_3, E7, h, h', goal_of_run o, g]
    · have g := goal_back o.py h
      simp [b__law_right_7_3, E7, h, h', from_of_run o, g]
    · have g := goal_back o.py h
      have g' := goal_back o.py h'
      simp [b__law_right_7_3, E7, h, h', from_of_run o, goal_of_run o, g, g']
  simp [b__law_right_7_b, e1, e2, e3]
theorem loop7 {a b w y : Int} (o : Ok T60 a b w y) (l3 l4 : Option D) : Ev (b__law_right_7 (E7 a b w y l3 l4 none none none)) fun ot => ∃ u v z, ot = .nx (E7 a b w y l3 l4 u v z) := by
  have hw := o.pm
  have hpa := o.pa
  have hpb := o.pb
  have h60 : T60 ≤ 2 ^ 210 := by decide
  have e : ∀ u v z, E7 a b w y l3 l4 u v z = [some .draw, some (PV a b w y), some (PV b a w y), l3, l4, u, none, none, none, none, some (.int a), some (.int b), some (.int w), some (.int y), none, v, z, none] := fun _ _ _ => rfl
  simp [b__law_right_7, e, add_i, sub_i]
  refine Ev.bind (take_in o.pw (by omega)) fun d hd => ?_
  obtain ⟨x1, rfl, _, _⟩ := hd
  simp [add_i]
  refine Ev.bind (take_in o.pw (by omega)) fun d hd => ?_
  obtain ⟨x2, rfl, _, _⟩ := hd
  simp [add_i, pow_10_62, x_len1]
  refine (Ev.forI (I := fun ρ => ∃ u v z, ρ = E7 a b w y l3 l4 u v z) ⟨none, none, none, rfl⟩ ?_).mono fun ot ⟨ρ2, h1, u, v, z, h2⟩ => ⟨u, v, z, by rw [h1, h2, e]⟩
  rintro d hd ρ ⟨u, v, z, rfl⟩
  obtain ⟨n, rfl⟩ : ∃ n, d = .int n := by
    simp only [List.mem_cons, List.not_mem_nil, or_false] at hd
    rcases hd with rfl | rfl | rfl | rfl | rfl | rfl | rfl | rfl | rfl | rfl <;> exact ⟨_, rfl⟩
  obtain ⟨v', z', h⟩ := body7 o l3 l4 v z n
  exact ⟨E7 a b w y l3 l4 (some (.int n)) v z, by simp [E7], by rw [h]; exact Ev.ok ⟨_, rfl, _, _, _, rfl⟩⟩

/-! ### bent ones, wrong ones -/
theorem th_tup {ds : List D} (h : ds.all (dOk 59) = true) : Th (.tup ds) := .inl h
def E9 (a b w y : Int) (l3 l4 u v z b6 t7 o14 : Option D) : VS.Env := [some .draw, some (PV a b w y), some (PV b a w y), l3, l4, u, b6, t7, none, none, some (.int a), some (.int b), some (.int w), some (.int y), o14, v, z, none]
theorem body9 {a b w y : Int} (l3 l4 u v z b6 o14 : Option D) {t : D} (ht : Th t) : b__law_right_9_b (E9 a b w y l3 l4 u v z b6 (some t) o14) = M.ok (.nx (E9 a b w y l3 l4 u v z b6 (some t) (some (.bl (isP t T60))))) := by
  have hs : m__law_says [.lst [.bl (isP t T60), .bl (isP t T60)], .lst [.bl (isP t T60), .bl (isP t T60)]] = M.ok (.bl true) := says_run (n := 1) rfl (by simp [sz, szs])
  simp [b__law_right_9_b, b__law_right_9_1, b__law_right_9_2, E9, pow_10_60, law_is_pairing_run T60 ht, is_pairing_run ht, pick, x_len1, hs]
theorem step8 {a b w y : Int} (l3 l4 u v z : Option D) : Ev (b__law_right_8 (E7 a b w y l3 l4 u v z)) fun ot => ∃ t, Th t ∧ ot = .nx (E9 a b w y l3 l4 u v z (some t) none none) := by
  have hP : PV a b w y = .tup [.int a, .int b, .int w, .int y] := rfl
  simp [b__law_right_8, E7, hP, pow_10_60, sub_i, add_i, x_len1]
  refine Ev.bind (P := Th) (pick_ev (by simp) (by simp) fun d hd => ?_) fun t ht => Ev.ok ⟨t, ht, rfl⟩
  simp only [List.mem_cons, List.not_mem_nil, or_false] at hd
  rcases hd with rfl | rfl | rfl | rfl | rfl | rfl | rfl | rfl | rfl <;> exact .inl rfl
theorem loop9 {a b w y : Int} (l3 l4 u v z : Option D) {t : D} (ht : Th t) : Ev (b__law_right_9 (E9 a b w y l3 l4 u v z (some t) none none)) fun ot => ∃ t7 o14, ot = .nx (E9 a b w y l3 l4 u v z (some t) t7 o14) := by
  have e : ∀ t7 o14, E9 a b w y l3 l4 u v z (some t) t7 o14 = [some .draw, some (PV a b w y), some (PV b a w y), l3, l4, u, some t, t7, none, none, some (.int a), some (.int b), some (.int w), some (.int y), o14, v, z, none] := fun _ _ => rfl
  simp [b__law_right_9, e]
  refine Ev.bind no_pairing_ev fun d hd => ?_
  refine Ev.bind odd_ev fun q hq => ?_
  simp [x_len1]
  refine (Ev.forI (I := fun ρ => ∃ t7 o14, ρ = E9 a b w y l3 l4 u v z (some t) t7 o14) ⟨none, none, rfl⟩ ?_).mono fun ot ⟨ρ2, h1, t7, o14, h2⟩ => ⟨t7, o14, by rw [h1, h2, e]⟩
  rintro x hx ρ ⟨t7, o14, rfl⟩
  have hT : Th x := by
    simp only [List.mem_cons, List.not_mem_nil, or_false] at hx
    rcases hx with rfl | rfl | rfl
    · exact ht
    · exact hd.1
    · exact hq
  exact ⟨E9 a b w y l3 l4 u v z (some t) (some x) o14, by simp [E9], by rw [body9 l3 l4 u v z (some t) o14 hT]; exact Ev.ok ⟨_, rfl, _, _, rfl⟩⟩
def E10 (a b w y : Int) (l3 l4 u v z b6 t7 o14 w8 e9 : Option D) : VS.Env := [some .draw, some (PV a b w y), some (PV b a w y), l3, l4, u, b6, t7, w8, e9, some (.int a), some (.int b), some (.int w), some (.int y), o14, v, z, none]
theorem step10 {a b w y : Int} (l3 l4 u v z b6 t7 o14 : Option D) : Ev (b__law_right_10 (E9 a b w y l3 l4 u v z b6 t7 o14)) fun ot => ∃ t, No t ∧ ot = .nx (E10 a b w y l3 l4 u v z b6 t7 o14 (some t) none) := by
  simp [b__law_right_10, E9]
  exact Ev.bind no_pairing_ev fun t ht => Ev.ok ⟨t, ht, rfl⟩
theorem isE6 : dIsE tab_BadPairing (.exc 6 none) = some (.bl true) := rfl
theorem isE5 : dIsE tab_BadNumber (.exc 5 none) = some (.bl true) := rfl
theorem step11 {a b w y : Int} (l3 l4 u v z b6 t7 o14 : Option D) {t : D} (ht : No t) : b__law_right_11 (E10 a b w y l3 l4 u v z b6 t7 o14 (some t) none) = M.ok (.nx (E10 a b w y l3 l4 u v z b6 t7 o14 (some t) (some (.lst [.bl true, .bl true])))) := by
  have hc : eComp [17] (eItems (eSeq (eArgs opLst (eCons (eC (.fn 15)) (eCons (eC (.fn 16)) eNil))))) (tName 17) cYes (eUn (dIsE tab_BadPairing) (eCaught cls_ (eCallV (tabM [(15, m_turned), (16, m_mended), (13, m_goal_of), (14, m_from_of)]) 17 (eCons (eVar 8) eNil)))) (E10 a b w y l3 l4 u v z b6 t7 o14 (some t) none) = M.ok (.lst [.bl true, .bl true]) := by
    rw [x_comp (fun _ => true) (fun _ => .bl true) (ds := [.fn 15, .fn 16]) (by simp [x_len1]) (by simp; decide) fun d hd => ?_]
    · rfl
    · refine ⟨[some .draw, some (PV a b w y), some (PV b a w y), l3, l4, u, b6, t7, some t, none, some (.int a), some (.int b), some (.int w), some (.int y), o14, v, z, some d], by simp [E10], rfl, fun _ => ?_⟩
      simp only [List.mem_cons, List.not_mem_nil, or_false] at hd
      rcases hd with rfl | rfl
      · rw [x_un, caught_er (e := (6, none)) (by rw [callV_run (n := 15) rfl rfl]; simp [turned_no ht.1 ht.2]) rfl]
        simp [isE6]
      · rw [x_un, caught_er (e := (6, none)) (by rw [callV_run (n := 16) rfl rfl]; simp [mended_no ht.1 ht.2]) rfl]
        simp [isE6]
  unfold b__law_right_11
  rw [x_sAsg, hc]
  rfl
theorem step12 {a b w y : Int} (l3 l4 u v z b6 t7 o14 : Option D) {t : D} (ht : No t) : b__law_right_12 (E10 a b w y l3 l4 u v z b6 t7 o14 (some t) (some (.lst [.bl true, .bl true]))) = M.ok (.nx (E10 a b w y l3 l4 u v z b6 t7 o14 (some t) (some (.lst [.bl true, .bl true, .bl true, .bl true])))) := by
  have hc : eComp [17] (eItems (eSeq (eArgs opLst (eCons (eC (.fn 13)) (eCons (eC (.fn 14)) eNil))))) (tName 17) cYes (eUn (dIsE tab_BadPairing) (eCaught cls_ (eCallV (tabM [(15, m_turned), (16, m_mended), (13, m_goal_of), (14, m_from_of)]) 17 (eCons (eVar 8) (eCons (eC .non) eNil))))) (E10 a b w y l3 l4 u v z b6 t7 o14 (some t) (some (.lst [.bl true, .bl true]))) = M.ok (.lst [.bl true, .bl true]) := by
    rw [x_comp (fun _ => true) (fun _ => .bl true) (ds := [.fn 13, .fn 14]) (by simp [x_len1]) (by simp; decide) fun d hd => ?_]
    · rfl
    · refine ⟨[some .draw, some (PV a b w y), some (PV b a w y), l3, l4, u, b6, t7, some t, some (.lst [.bl true, .bl true]), some (.int a), some (.int b), some (.int w), some (.int y), o14, v, z, some d], by simp [E10], rfl, fun _ => ?_⟩
      simp only [List.mem_cons, List.not_mem_nil, or_false] at hd
      rcases hd with rfl | rfl
      · rw [x_un, caught_er (e := (6, none)) (by rw [callV_run (n := 13) rfl rfl]; simp [goal_of_no ht.1 ht.2]) rfl]
        simp [isE6]
      · rw [x_un, caught_er (e := (6, none)) (by rw [callV_run (n := 14) rfl rfl]; simp [from_of_no ht.1 ht.2]) rfl]
        simp [isE6]
  have ha : opAdd (.lst [.bl true, .bl true]) (.lst [.bl true, .bl true]) = some (.lst [.bl true, .bl true, .bl true, .bl true]) := by
    exact add_l (by decide)
  unfold b__law_right_12
  rw [x_sAsg, x_bin, hc]
  simp [E10, ha]
theorem bits6 {ys : List D} (h : ys.length = 2) (k : ∀ y ∈ ys, y = .bl true) : ys = [.bl true, .bl true] := by
  match ys, h with
  | [p, q], _ => rw [k p (by simp), k q (by simp)]
theorem step13 {a b w y : Int} (o : Ok T60 a b w y) (l3 l4 u v z b6 t7 o14 w8 : Option D) : Ev (b__law_right_13 (E10 a b w y l3 l4 u v z b6 t7 o14 w8 (some (.lst [.bl true, .bl true, .bl true, .bl true])))) fun ot => ot = .rt (.bl true) := by
  have ha : opAdd (.lst [.bl true, .bl true, .bl true, .bl true]) (.lst [.bl true, .bl true]) = some (.lst [.bl true, .bl true, .bl true, .bl true, .bl true, .bl true]) := by
    exact add_l (by decide)
  have hm : opMul (.lst [.bl true]) (.int 6) = some (.lst [.bl true, .bl true, .bl true, .bl true, .bl true, .bl true]) := by
    exact mul_l (by decide) (by decide) (by decide)
  have he : opEq (.lst [.bl true, .bl true, .bl true, .bl true, .bl true, .bl true]) (.lst [.bl true, .bl true, .bl true, .bl true, .bl true, .bl true]) = some (.bl true) := by
    rw [eq_of (n := 1) (m := 1) rfl rfl, dEqv_refl (n := 1) rfl]
  have wrong : Ev (m__law_pick [.draw, .lst [.non, .bl true, .str "1", .tup [.int 1]]]) fun d => dOk 1 d = true ∧ isI d = false := pick_ev (by simp) (by simp) fun d hd => by
    simp only [List.mem_cons, List.not_mem_nil, or_false] at hd
    rcases hd with rfl | rfl | rfl | rfl
    · exact ⟨rfl, rfl⟩
    · exact ⟨rfl, rfl⟩
    · exact ⟨by show PySem.PyData.strOk "1" = true; decide +kernel, rfl⟩
    · exact ⟨rfl, rfl⟩
  unfold b__law_right_13
  rw [x_sRet]
  simp only [x_bin, x_var, E10, List.getElem?_cons_succ, List.getElem?_cons_zero, Option.getD_some, x_some, x_bind, x_assoc]
  refine Ev.bind (Ev.comp (P := fun d => d = .bl true) (ds := [.fn 13, .fn 14]) (by simp [x_len1]) (by simp; decide) fun d hd => ?_) fun d hd => ?_
  · refine ⟨[some .draw, some (PV a b w y), some (PV b a w y), l3, l4, u, b6, t7, w8, some (.lst [.bl true, .bl true, .bl true, .bl true]), some (.int a), some (.int b), some (.int w), some (.int y), o14, v, z, some d], by simp, ?_⟩
    simp only [List.mem_cons, List.not_mem_nil, or_false] at hd
    rcases hd with rfl | rfl
    · rw [x_un]
      refine Ev.bind (P := fun d => d = .exc 5 none) (Ev.caught (R := fun e => e = (5, none)) ?_ fun e h => by subst h; exact ⟨rfl, rfl⟩) fun d h => by subst h; exact Ev.ok (by rfl)
      rw [callV_run (n := 13) rfl rfl]
      simp [x_len1]
      exact EvE.bind wrong fun d h => by rw [goal_of_nw o h.1 h.2]; exact EvE.er rfl
    · rw [x_un]
      refine Ev.bind (P := fun d => d = .exc 5 none) (Ev.caught (R := fun e => e = (5, none)) ?_ fun e h => by subst h; exact ⟨rfl, rfl⟩) fun d h => by subst h; exact Ev.ok (by rfl)
      rw [callV_run (n := 14) rfl rfl]
      simp [x_len1]
      exact EvE.bind wrong fun d h => by rw [from_of_nw o h.1 h.2]; exact EvE.er rfl
  · obtain ⟨ys, rfl, h1, h2⟩ := hd
    rw [bits6 h1 h2]
    simp [ha, hm, he, x_len1]
    exact Ev.ok rfl
theorem right_ev : Ev (m__law_right [.draw]) fun d => d = .bl true := by
  unfold m__law_right b__law_right
  simp [b__law_right_1]
  refine Ev.bind long_pairing_ev fun d hd => ?_
  obtain ⟨a, b, w, y, rfl, o⟩ := hd
  have e2 : b__law_right_2 [some .draw, some (PV a b w y), none, none, none, none, none, none, none, none, none, none, none, none, none, none, none, none] = M.ok (.nx [some .draw, some (PV a b w y), none, none, none, none, none, none, none, none, some (.int a), some (.int b), some (.int w), some (.int y), none, none, none, none]) := by
    simp [b__law_right_2, PV]
  obtain ⟨p, q, hpq⟩ : ∃ p q, (if a ≤ b then PV a b w y else PV b a w y) = PV p q w y := by split <;> exact ⟨_, _, rfl⟩
  obtain ⟨p', q', hpq'⟩ : ∃ p q, (if b ≤ a then PV b a w y else PV a b w y) = PV p q w y := by split <;> exact ⟨_, _, rfl⟩
  simp [e2, b__law_right_3, b__law_right_4, law_back_run, is_pairing_run (th_pv a b w y), o.is, turned_run o, mended_run o, mended_run o.sw, pick, x_len1, hpq, hpq']
  have hs : m__law_says [.lst [.bl true, .bl true, PV b a w y, PV b a w y, PV p q w y, PV p q w y, PV p' q' w y], .lst [.bl true, .bl true, PV b a w y, PV b a w y, PV p q w y, PV p q w y, PV p' q' w y]] = M.ok (.bl true) := says_run (n := 2) rfl (by simp [sz, szs, PV])
  simp [b__law_right_5, b__law_right_6, le_i, x_len1, hpq, hpq', hs]
  refine Ev.bind (loop7 o (some (.lst [.bl true, .bl true, PV b a w y, PV b a w y, PV p q w y, PV p q w y, PV p' q' w y])) (some (PV p q w y))) fun ot h => ?_
  obtain ⟨u, v, z, rfl⟩ := h
  simp only [x_nxt, x_sCons, x_assoc]
  refine Ev.bind (step8 _ _ u v z) fun ot h => ?_
  obtain ⟨t, ht, rfl⟩ := h
  simp only [x_nxt, x_sCons, x_assoc]
  refine Ev.bind (loop9 _ _ u v z ht) fun ot h => ?_
  obtain ⟨t7, o14, rfl⟩ := h
  simp only [x_nxt, x_sCons, x_assoc]
  refine Ev.bind (step10 _ _ u v z _ t7 o14) fun ot h => ?_
  obtain ⟨t2, ht2, rfl⟩ := h
  simp only [x_nxt, x_sCons, x_assoc, step11 _ _ u v z _ t7 o14 ht2, step12 _ _ u v z _ t7 o14 ht2, x_bind]
  refine Ev.bind (step13 o _ _ u v z _ t7 o14 _) fun ot h => ?_
  subst h
  exact Ev.ok rfl
end K00

/-! W_k00: each def means what is told (printed by gen.py) -/
namespace K00
open PySem PySem.Spec PyProof.Rows L2 LamX VS
def top (i : Nat) : Stmt := PySem.Challenge.pw_pairedstretches_k00_whole_pairings.main.body.getD i (.Pass ⟨0, 0, 0, 0⟩)
def nm (n : Nat) : Str := Str.ofString ((["", "", "is_whole", "", "StretchError", "BadNumber", "BadPairing", "", "is_pairing_by", "need_pairing", "goal_by", "turned_by", "is_pairing", "goal_of", "from_of", "turned", "mended", "", "_law_begun", "_law_mixed", "_law_take", "_law_pick", "_law_caught", "_law_kinds", "_law_says", "_law_is_number", "_law_odd", "_law_is_pairing", "_law_goal", "_law_back", "_law_pairing", "_law_far_pairing", "_law_no_pairing", "_law_long_pairing", "_law_right", "law"] : List String).getD n "")
abbrev s_is_whole : Stmt := top 2
abbrev s_is_pairing_by : Stmt := top 8
abbrev s_need_pairing : Stmt := top 9
abbrev s_goal_by : Stmt := top 10
abbrev s_turned_by : Stmt := top 11
abbrev s_is_pairing : Stmt := top 12
abbrev s_goal_of : Stmt := top 13
abbrev s_from_of : Stmt := top 14
abbrev s_turned : Stmt := top 15
abbrev s_mended : Stmt := top 16
abbrev s__law_begun : Stmt := top 18
abbrev s__law_mixed : Stmt := top 19
abbrev s__law_take : Stmt := top 20
abbrev s__law_pick : Stmt := top 21
abbrev s__law_caught : Stmt := top 22
abbrev s__law_kinds : Stmt := top 23
abbrev s__law_says : Stmt := top 24
abbrev s__law_is_number : Stmt := top 25
abbrev s__law_odd : Stmt := top 26
abbrev s__law_is_pairing : Stmt := top 27
abbrev s__law_goal : Stmt := top 28
abbrev s__law_back : Stmt := top 29
abbrev s__law_pairing : Stmt := top 30
abbrev s__law_far_pairing : Stmt := top 31
abbrev s__law_no_pairing : Stmt := top 32
abbrev s__law_long_pairing : Stmt := top 33
abbrev s__law_right : Stmt := top 34
abbrev s_law : Stmt := top 35
structure Txt (K : PySem.W.Frag) (mg : Str → Option Value) (base : Heap) (g : G) : Prop where
  hK : g.K = K
  nb_all : mg "all" = none
  nb_bool : mg "bool" = none
  nb_dict : mg "dict" = none
  nb_int : mg "int" = none
  nb_isinstance : mg "isinstance" = none
  nb_len : mg "len" = none
  nb_list : mg "list" = none
  nb_max : mg "max" = none
  nb_min : mg "min" = none
  nb_range : mg "range" = none
  nb_repr : mg "repr" = none
  nb_sorted : mg "sorted" = none
  nb_str : mg "str" = none
  nb_tuple : mg "tuple" = none
  i_MOST_LINE : ∃ t, mg "MOST_LINE" = some (.int (1000000000000000000000000000000000000000000000000000000000000) t)
  e_BadNumber : ExcG K mg "BadNumber" (g.fv 5)
  t_BadNumber : IsT g.K g.fv tab_BadNumber 5
  e_BadPairing : ExcG K mg "BadPairing" (g.fv 6)
  t_BadPairing : IsT g.K g.fv tab_BadPairing 6
  m_is_whole : mg "is_whole" = some (.ref (g.fv 2))
  f_is_whole : ∃ fd, Fun K "is_whole" "is_whole" s_is_whole (g.fv 2) fd
  m_is_pairing_by : mg "is_pairing_by" = some (.ref (g.fv 8))
  f_is_pairing_by : ∃ fd, Fun K "is_pairing_by" "is_pairing_by" s_is_pairing_by (g.fv 8) fd
  m_need_pairing : mg "need_pairing" = some (.ref (g.fv 9))
  f_need_pairing : ∃ fd, Fun K "need_pairing" "need_pairing" s_need_pairing (g.fv 9) fd
  m_goal_by : mg "goal_by" = some (.ref (g.fv 10))
  f_goal_by : ∃ fd, Fun K "goal_by" "goal_by" s_goal_by (g.fv 10) fd
  m_turned_by : mg "turned_by" = some (.ref (g.fv 11))
  f_turned_by : ∃ fd, Fun K "turned_by" "turned_by" s_turned_by (g.fv 11) fd
  m_is_pairing : mg "is_pairing" = some (.ref (g.fv 12))
  f_is_pairing : ∃ fd, Fun K "is_pairing" "is_pairing" s_is_pairing (g.fv 12) fd
  m_goal_of : mg "goal_of" = some (.ref (g.fv 13))
  f_goal_of : ∃ fd, Fun K "goal_of" "goal_of" s_goal_of (g.fv 13) fd
  m_from_of : mg "from_of" = some (.ref (g.fv 14))
  f_from_of : ∃ fd, Fun K "from_of" "from_of" s_from_of (g.fv 14) fd
  m_turned : mg "turned" = some (.ref (g.fv 15))
  f_turned : ∃ fd, Fun K "turned" "turned" s_turned (g.fv 15) fd
  m_mended : mg "mended" = some (.ref (g.fv 16))
  f_mended : ∃ fd, Fun K "mended" "mended" s_mended (g.fv 16) fd
  m__law_begun : mg "_law_begun" = some (.ref (g.fv 18))
  f__law_begun : ∃ fd, Fun K "_law_begun" "_law_begun" s__law_begun (g.fv 18) fd
  m__law_mixed : mg "_law_mixed" = some (.ref (g.fv 19))
  f__law_mixed : ∃ fd, Fun K "_law_mixed" "_law_mixed" s__law_mixed (g.fv 19) fd
  m__law_take : mg "_law_take" = some (.ref (g.fv 20))
  f__law_take : ∃ fd, Fun K "_law_take" "_law_take" s__law_take (g.fv 20) fd
  m__law_pick : mg "_law_pick" = some (.ref (g.fv 21))
  f__law_pick : ∃ fd, Fun K "_law_pick" "_law_pick" s__law_pick (g.fv 21) fd
  m__law_caught : mg "_law_caught" = some (.ref (g.fv 22))
  f__law_caught : ∃ fd, Fun K "_law_caught" "_law_caught" s__law_caught (g.fv 22) fd
  m__law_kinds : mg "_law_kinds" = some (.ref (g.fv 23))
  f__law_kinds : ∃ fd, Fun K "_law_kinds" "_law_kinds" s__law_kinds (g.fv 23) fd
  m__law_says : mg "_law_says" = some (.ref (g.fv 24))
  f__law_says : ∃ fd, Fun K "_law_says" "_law_says" s__law_says (g.fv 24) fd
  m__law_is_number : mg "_law_is_number" = some (.ref (g.fv 25))
  f__law_is_number : ∃ fd, Fun K "_law_is_number" "_law_is_number" s__law_is_number (g.fv 25) fd
  m__law_odd : mg "_law_odd" = some (.ref (g.fv 26))
  f__law_odd : ∃ fd, Fun K "_law_odd" "_law_odd" s__law_odd (g.fv 26) fd
  m__law_is_pairing : mg "_law_is_pairing" = some (.ref (g.fv 27))
  f__law_is_pairing : ∃ fd, Fun K "_law_is_pairing" "_law_is_pairing" s__law_is_pairing (g.fv 27) fd
  m__law_goal : mg "_law_goal" = some (.ref (g.fv 28))
  f__law_goal : ∃ fd, Fun K "_law_goal" "_law_goal" s__law_goal (g.fv 28) fd
  m__law_back : mg "_law_back" = some (.ref (g.fv 29))
  f__law_back : ∃ fd, Fun K "_law_back" "_law_back" s__law_back (g.fv 29) fd
  m__law_pairing : mg "_law_pairing" = some (.ref (g.fv 30))
  f__law_pairing : ∃ fd, Fun K "_law_pairing" "_law_pairing" s__law_pairing (g.fv 30) fd
  m__law_far_pairing : mg "_law_far_pairing" = some (.ref (g.fv 31))
  f__law_far_pairing : ∃ fd, Fun K "_law_far_pairing" "_law_far_pairing" s__law_far_pairing (g.fv 31) fd
  m__law_no_pairing : mg "_law_no_pairing" = some (.ref (g.fv 32))
  f__law_no_pairing : ∃ fd, Fun K "_law_no_pairing" "_law_no_pairing" s__law_no_pairing (g.fv 32) fd
  m__law_long_pairing : mg "_law_long_pairing" = some (.ref (g.fv 33))
  f__law_long_pairing : ∃ fd, Fun K "_law_long_pairing" "_law_long_pairing" s__law_long_pairing (g.fv 33) fd
  m__law_right : mg "_law_right" = some (.ref (g.fv 34))
  f__law_right : ∃ fd, Fun K "_law_right" "_law_right" s__law_right (g.fv 34) fd
  ct : CT K mg g s__law_caught (g.fv 22) (g.fv 4) cls_
  lam__law_right : LamF K base mg g (qualOf "_law_right" s__law_right) (g.fv 34)
section
variable {P : Program} {w : World} {K : PySem.W.Frag} {mg : Str → Option Value} {base : Heap} {g : G}
theorem sc_is_whole : FnScope ["thing"] ["thing"] (defScope s_is_whole) := ⟨rfl, rfl, rfl, by decide +kernel, rfl, by decide +kernel, by decide +kernel⟩
theorem ok_is_whole {fd : FuncData} (F : Fun K "is_whole" "is_whole" s_is_whole (g.fv 2) fd) (T : Txt K mg base g) :
    FnOk P w K mg base (L2.CX P w) 1 (g.fv 2) fd ["thing"] (SpD g m_is_whole) := by
  refine def_ok (ω := []) (k := 0) F sc_is_whole T.hK trivial (by decide) fun cdv A outer s H E hc fx => ?_
  have bx := fx.bx
  exact (dss_one (ds_ret (de_and (de_isi bx rfl T.nb_isinstance rfl T.nb_int (by rfl) (de_var (.inl (by decide)) rfl (.inl rfl))) (de_one (de_not (de_isi bx rfl T.nb_isinstance rfl T.nb_bool (by rfl) (de_var (.inl (by decide)) rfl (.inl rfl))))))))
theorem sc_is_pairing_by : FnScope ["thing", "length", "first", "second", "width", "way", "item"] ["thing", "length"] (defScope s_is_pairing_by) := ⟨rfl, rfl, rfl, by decide +kernel, rfl, by decide +kernel, by decide +kernel⟩
theorem ok_is_pairing_by {fd : FuncData} {fd_is_whole : FuncData} (F : Fun K "is_pairing_by" "is_pairing_by" s_is_pairing_by (g.fv 8) fd) (T : Txt K mg base g) (C_is_whole : VS.Cl P w K mg base g s_is_whole "is_whole" 2 1 fd_is_whole ["thing"] m_is_whole) :
    FnOk P w K mg base (L2.CX P w) 2 (g.fv 8) fd ["thing", "length"] (SpD g m_is_pairing_by) := by
  refine def_ok (ω := []) (k := 1) F sc_is_pairing_by T.hK trivial (by decide) fun cdv A outer s H E hc fx => ?_
  have bx := fx.bx
  exact (dss_cons (ds_if (DW.dt (dw_or (dt_not (dt_val (de_isi bx rfl T.nb_isinstance rfl T.nb_tuple (by rfl) (de_var (.inl (by decide)) rfl (.inl rfl))))) (dw_or (dt_cmp bx (od_ne (Bx.K bx) (Bx.u64 bx)) (de_callB bx (cd_lenX (Bx.K bx)) rfl T.nb_len (by rfl) (da_cons bx (de_var (.inl (by decide)) rfl (.inl rfl)) da_nil)) de_int (by rfl)) (dw_or1 (dt_not (dt_val (de_callB bx (cd_all (Bx.K bx) (Bx.calm bx)) rfl T.nb_all (by rfl) (da_cons bx (DR.de bx (dr_comp (own := [("item", 6)]) bx (by exact CompOk.mk (own := [("item", 6)]) (dc_seq bx (di_of (de_var (.inl (by decide)) rfl (.inl rfl)))) (blkOk_by (by rfl)) (by decide) (by decide) (fun s1 h1 c1 cl1 fp1 => (dg_name (Bx.blk bx s1 h1 c1 cl1 fp1) (by decide) rfl (.inl rfl))) (fun s1 h1 c1 cl1 fp1 => dts_nil) (fun s1 h1 c1 cl1 fp1 => (c_call C_is_whole (Bx.blk bx s1 h1 c1 cl1 fp1) (by decide) rfl (da_cons (Bx.blk bx s1 h1 c1 cl1 fp1) (de_var (.inl (by decide)) rfl (.inl rfl)) da_nil)))))) da_nil)))))))) (dss_one (ds_ret de_bl)) dss_nil)
    (dss_cons (ds_asg (de_var (.inl (by decide)) rfl (.inl rfl)) (dg_tup bx (dgs_cons (Bx.ok bx) (dg_name bx (by decide) rfl (.inl rfl)) (dgs_cons (Bx.ok bx) (dg_name bx (by decide) rfl (.inl rfl)) (dgs_cons (Bx.ok bx) (dg_name bx (by decide) rfl (.inl rfl)) (dgs_cons (Bx.ok bx) (dg_name bx (by decide) rfl (.inl rfl)) dgs_nil (by decide)) (by decide)) (by decide)) (by decide))))
    (dss_cons (ds_if (DW.dt (dw_or (dt_cmp bx od_lt (de_callB bx (cd_min (Bx.K bx) (Bx.calm bx)) rfl T.nb_min (by rfl) (da_cons bx (de_var (.inl (by decide)) rfl (.inl rfl)) (da_cons bx (de_var (.inl (by decide)) rfl (.inl rfl)) da_nil))) de_int (by rfl)) (dw_or (dt_cmp bx od_lt (de_var (.inl (by decide)) rfl (.inl rfl)) de_int (by rfl)) (dw_or1 (dt_cmp bx (od_notin (Bx.K bx) (Bx.u1 bx)) (de_var (.inl (by decide)) rfl (.inl rfl)) (de_tup bx (da_cons bx de_int (da_cons bx (de_un bx ud_neg de_int) da_nil))) (by rfl)))))) (dss_one (ds_ret de_bl)) dss_nil)
    (dss_one (ds_ret (de_cmp bx od_le (n_add bx (de_callB bx (cd_max (Bx.K bx) (Bx.calm bx)) rfl T.nb_max (by rfl) (da_cons bx (de_var (.inl (by decide)) rfl (.inl rfl)) (da_cons bx (de_var (.inl (by decide)) rfl (.inl rfl)) da_nil))) (de_var (.inl (by decide)) rfl (.inl rfl))) (de_var (.inl (by decide)) rfl (.inl rfl)) (by rfl)))))))
theorem sc_need_pairing : FnScope ["pairing"] ["pairing"] (defScope s_need_pairing) := ⟨rfl, rfl, rfl, by decide +kernel, rfl, by decide +kernel, by decide +kernel⟩
theorem ok_need_pairing {fd : FuncData} {fd_is_pairing_by : FuncData} (F : Fun K "need_pairing" "need_pairing" s_need_pairing (g.fv 9) fd) (T : Txt K mg base g) (C_is_pairing_by : VS.Cl P w K mg base g s_is_pairing_by "is_pairing_by" 8 2 fd_is_pairing_by ["thing", "length"] m_is_pairing_by) :
    FnOk P w K mg base (L2.CX P w) 3 (g.fv 9) fd ["pairing"] (SpD g m_need_pairing) := by
  refine def_ok (ω := []) (k := 2) F sc_need_pairing T.hK trivial (by decide) fun cdv A outer s H E hc fx => ?_
  have bx := fx.bx
  exact (dss_one (ds_if (dt_not (dt_val (c_call C_is_pairing_by bx (by decide) rfl (da_cons bx (de_var (.inl (by decide)) rfl (.inl rfl)) (da_cons bx (n_gint rfl T.i_MOST_LINE) da_nil))))) (dss_one (ds_raise fx (ExcG.f T.e_BadPairing) rfl)) dss_nil))
theorem sc_goal_by : FnScope ["pairing", "number", "first", "second", "width", "way"] ["pairing", "number"] (defScope s_goal_by) := ⟨rfl, rfl, rfl, by decide +kernel, rfl, by decide +kernel, by decide +kernel⟩
theorem ok_goal_by {fd : FuncData} (F : Fun K "goal_by" "goal_by" s_goal_by (g.fv 10) fd) (T : Txt K mg base g) :
    FnOk P w K mg base (L2.CX P w) 1 (g.fv 10) fd ["pairing", "number"] (SpD g m_goal_by) := by
  refine def_ok (ω := []) (k := 0) F sc_goal_by T.hK trivial (by decide) fun cdv A outer s H E hc fx => ?_
  have bx := fx.bx
  exact (dss_cons (ds_asg (de_var (.inl (by decide)) rfl (.inl rfl)) (dg_tup bx (dgs_cons (Bx.ok bx) (dg_name bx (by decide) rfl (.inl rfl)) (dgs_cons (Bx.ok bx) (dg_name bx (by decide) rfl (.inl rfl)) (dgs_cons (Bx.ok bx) (dg_name bx (by decide) rfl (.inl rfl)) (dgs_cons (Bx.ok bx) (dg_name bx (by decide) rfl (.inl rfl)) dgs_nil (by decide)) (by decide)) (by decide)) (by decide))))
    (dss_cons (ds_if (dt_not (dt_chain bx od_le od_lt (de_var (.inl (by decide)) rfl (.inl rfl)) (de_var (.inl (by decide)) rfl (.inl rfl)) (n_add bx (de_var (.inl (by decide)) rfl (.inl rfl)) (de_var (.inl (by decide)) rfl (.inl rfl))))) (dss_one (ds_ret de_non)) dss_nil)
    (dss_one (ds_ret (de_if (dt_cmp bx (od_eq (Bx.K bx) (Bx.u64 bx)) (de_var (.inl (by decide)) rfl (.inl rfl)) de_int (by rfl)) (n_sub bx (n_add bx (de_var (.inl (by decide)) rfl (.inl rfl)) (de_var (.inl (by decide)) rfl (.inl rfl))) (de_var (.inl (by decide)) rfl (.inl rfl))) (n_sub bx (n_sub bx (n_add bx (de_var (.inl (by decide)) rfl (.inl rfl)) (de_var (.inl (by decide)) rfl (.inl rfl))) de_int) (n_sub bx (de_var (.inl (by decide)) rfl (.inl rfl)) (de_var (.inl (by decide)) rfl (.inl rfl)))))))))
theorem sc_turned_by : FnScope ["pairing", "first", "second", "width", "way"] ["pairing"] (defScope s_turned_by) := ⟨rfl, rfl, rfl, by decide +kernel, rfl, by decide +kernel, by decide +kernel⟩
theorem ok_turned_by {fd : FuncData} (F : Fun K "turned_by" "turned_by" s_turned_by (g.fv 11) fd) (T : Txt K mg base g) :
    FnOk P w K mg base (L2.CX P w) 1 (g.fv 11) fd ["pairing"] (SpD g m_turned_by) := by
  refine def_ok (ω := []) (k := 0) F sc_turned_by T.hK trivial (by decide) fun cdv A outer s H E hc fx => ?_
  have bx := fx.bx
  exact (dss_cons (ds_asg (de_var (.inl (by decide)) rfl (.inl rfl)) (dg_tup bx (dgs_cons (Bx.ok bx) (dg_name bx (by decide) rfl (.inl rfl)) (dgs_cons (Bx.ok bx) (dg_name bx (by decide) rfl (.inl rfl)) (dgs_cons (Bx.ok bx) (dg_name bx (by decide) rfl (.inl rfl)) (dgs_cons (Bx.ok bx) (dg_name bx (by decide) rfl (.inl rfl)) dgs_nil (by decide)) (by decide)) (by decide)) (by decide))))
    (dss_one (ds_ret (de_tup bx (da_cons bx (de_var (.inl (by decide)) rfl (.inl rfl)) (da_cons bx (de_var (.inl (by decide)) rfl (.inl rfl)) (da_cons bx (de_var (.inl (by decide)) rfl (.inl rfl)) (da_cons bx (de_var (.inl (by decide)) rfl (.inl rfl)) da_nil))))))))
theorem sc_is_pairing : FnScope ["thing"] ["thing"] (defScope s_is_pairing) := ⟨rfl, rfl, rfl, by decide +kernel, rfl, by decide +kernel, by decide +kernel⟩
theorem ok_is_pairing {fd : FuncData} {fd_is_pairing_by : FuncData} (F : Fun K "is_pairing" "is_pairing" s_is_pairing (g.fv 12) fd) (T : Txt K mg base g) (C_is_pairing_by : VS.Cl P w K mg base g s_is_pairing_by "is_pairing_by" 8 2 fd_is_pairing_by ["thing", "length"] m_is_pairing_by) :
    FnOk P w K mg base (L2.CX P w) 3 (g.fv 12) fd ["thing"] (SpD g m_is_pairing) := by
  refine def_ok (ω := []) (k := 2) F sc_is_pairing T.hK trivial (by decide) fun cdv A outer s H E hc fx => ?_
  have bx := fx.bx
  exact (dss_one (ds_ret (c_call C_is_pairing_by bx (by decide) rfl (da_cons bx (de_var (.inl (by decide)) rfl (.inl rfl)) (da_cons bx (n_gint rfl T.i_MOST_LINE) da_nil)))))
theorem sc_goal_of : FnScope ["pairing", "number"] ["pairing", "number"] (defScope s_goal_of) := ⟨rfl, rfl, rfl, by decide +kernel, rfl, by decide +kernel, by decide +kernel⟩
theorem ok_goal_of {fd : FuncData} {fd_need_pairing : FuncData} {fd_is_whole : FuncData} {fd_goal_by : FuncData} (F : Fun K "goal_of" "goal_of" s_goal_of (g.fv 13) fd) (T : Txt K mg base g) (C_need_pairing : VS.Cl P w K mg base g s_need_pairing "need_pairing" 9 3 fd_need_pairing ["pairing"] m_need_pairing) (C_is_whole : VS.Cl P w K mg base g s_is_whole "is_whole" 2 1 fd_is_whole ["thing"] m_is_whole) (C_goal_by : VS.Cl P w K mg base g s_goal_by "goal_by" 10 1 fd_goal_by ["pairing", "number"] m_goal_by) :
    FnOk P w K mg base (L2.CX P w) 4 (g.fv 13) fd ["pairing", "number"] (SpD g m_goal_of) := by
  refine def_ok (ω := []) (k := 3) F sc_goal_of T.hK trivial (by decide) fun cdv A outer s H E hc fx => ?_
  have bx := fx.bx
  exact (dss_cons (ds_expr (c_call C_need_pairing bx (by decide) rfl (da_cons bx (de_var (.inl (by decide)) rfl (.inl rfl)) da_nil)))
    (dss_cons (ds_if (dt_not (dt_val (c_call C_is_whole bx (by decide) rfl (da_cons bx (de_var (.inl (by decide)) rfl (.inl rfl)) da_nil)))) (dss_one (ds_raise fx (ExcG.f T.e_BadNumber) rfl)) dss_nil)
    (dss_one (ds_ret (c_call C_goal_by bx (by decide) rfl (da_cons bx (de_var (.inl (by decide)) rfl (.inl rfl)) (da_cons bx (de_var (.inl (by decide)) rfl (.inl rfl)) da_nil)))))))
theorem sc_from_of : FnScope ["pairing", "number"] ["pairing", "number"] (defScope s_from_of) := ⟨rfl, rfl, rfl, by decide +kernel, rfl, by decide +kernel, by decide +kernel⟩
theorem ok_from_of {fd : FuncData} {fd_need_pairing : FuncData} {fd_is_whole : FuncData} {fd_goal_by : FuncData} {fd_turned_by : FuncData} (F : Fun K "from_of" "from_of" s_from_of (g.fv 14) fd) (T : Txt K mg base g) (C_need_pairing : VS.Cl P w K mg base g s_need_pairing "need_pairing" 9 3 fd_need_pairing ["pairing"] m_need_pairing) (C_is_whole : VS.Cl P w K mg base g s_is_whole "is_whole" 2 1 fd_is_whole ["thing"] m_is_whole) (C_goal_by : VS.Cl P w K mg base g s_goal_by "goal_by" 10 1 fd_goal_by ["pairing", "number"] m_goal_by) (C_turned_by : VS.Cl P w K mg base g s_turned_by "turned_by" 11 1 fd_turned_by ["pairing"] m_turned_by) :
    FnOk P w K mg base (L2.CX P w) 4 (g.fv 14) fd ["pairing", "number"] (SpD g m_from_of) := by
  refine def_ok (ω := []) (k := 3) F sc_from_of T.hK trivial (by decide) fun cdv A outer s H E hc fx => ?_
  have bx := fx.bx
  exact (dss_cons (ds_expr (c_call C_need_pairing bx (by decide) rfl (da_cons bx (de_var (.inl (by decide)) rfl (.inl rfl)) da_nil)))
    (dss_cons (ds_if (dt_not (dt_val (c_call C_is_whole bx (by decide) rfl (da_cons bx (de_var (.inl (by decide)) rfl (.inl rfl)) da_nil)))) (dss_one (ds_raise fx (ExcG.f T.e_BadNumber) rfl)) dss_nil)
    (dss_one (ds_ret (c_call C_goal_by bx (by decide) rfl (da_cons bx (c_call C_turned_by bx (by decide) rfl (da_cons bx (de_var (.inl (by decide)) rfl (.inl rfl)) da_nil)) (da_cons bx (de_var (.inl (by decide)) rfl (.inl rfl)) da_nil)))))))
theorem sc_turned : FnScope ["pairing"] ["pairing"] (defScope s_turned) := ⟨rfl, rfl, rfl, by decide +kernel, rfl, by decide +kernel, by decide +kernel⟩
theorem ok_turned {fd : FuncData} {fd_need_pairing : FuncData} {fd_turned_by : FuncData} (F : Fun K "turned" "turned" s_turned (g.fv 15) fd) (T : Txt K mg base g) (C_need_pairing : VS.Cl P w K mg base g s_need_pairing "need_pairing" 9 3 fd_need_pairing ["pairing"] m_need_pairing) (C_turned_by : VS.Cl P w K mg base g s_turned_by "turned_by" 11 1 fd_turned_by ["pairing"] m_turned_by) :
    FnOk P w K mg base (L2.CX P w) 4 (g.fv 15) fd ["pairing"] (SpD g m_turned) := by
  refine def_ok (ω := []) (k := 3) F sc_turned T.hK trivial (by decide) fun cdv A outer s H E hc fx => ?_
  have bx := fx.bx
  exact (dss_cons (ds_expr (c_call C_need_pairing bx (by decide) rfl (da_cons bx (de_var (.inl (by decide)) rfl (.inl rfl)) da_nil)))
    (dss_one (ds_ret (c_call C_turned_by bx (by decide) rfl (da_cons bx (de_var (.inl (by decide)) rfl (.inl rfl)) da_nil)))))
theorem sc_mended : FnScope ["pairing"] ["pairing"] (defScope s_mended) := ⟨rfl, rfl, rfl, by decide +kernel, rfl, by decide +kernel, by decide +kernel⟩
theorem ok_mended {fd : FuncData} {fd_need_pairing : FuncData} {fd_turned_by : FuncData} (F : Fun K "mended" "mended" s_mended (g.fv 16) fd) (T : Txt K mg base g) (C_need_pairing : VS.Cl P w K mg base g s_need_pairing "need_pairing" 9 3 fd_need_pairing ["pairing"] m_need_pairing) (C_turned_by : VS.Cl P w K mg base g s_turned_by "turned_by" 11 1 fd_turned_by ["pairing"] m_turned_by) :
    FnOk P w K mg base (L2.CX P w) 4 (g.fv 16) fd ["pairing"] (SpD g m_mended) := by
  refine def_ok (ω := []) (k := 3) F sc_mended T.hK trivial (by decide) fun cdv A outer s H E hc fx => ?_
  have bx := fx.bx
  exact (dss_cons (ds_expr (c_call C_need_pairing bx (by decide) rfl (da_cons bx (de_var (.inl (by decide)) rfl (.inl rfl)) da_nil)))
    (dss_one (ds_ret (de_if (dt_cmp bx od_le (n_ix bx (de_var (.inl (by decide)) rfl (.inl rfl)) de_int (by intro _ _; rfl)) (n_ix bx (de_var (.inl (by decide)) rfl (.inl rfl)) de_int (by intro _ _; rfl)) (by rfl)) (de_var (.inl (by decide)) rfl (.inl rfl)) (c_call C_turned_by bx (by decide) rfl (da_cons bx (de_var (.inl (by decide)) rfl (.inl rfl)) da_nil))))))
theorem sc__law_mixed : FnScope ["draw", "found", "cell"] ["draw"] (defScope s__law_mixed) := ⟨rfl, rfl, rfl, by decide +kernel, rfl, by decide +kernel, by decide +kernel⟩
theorem ok__law_mixed {fd : FuncData} (F : Fun K "_law_mixed" "_law_mixed" s__law_mixed (g.fv 19) fd) (T : Txt K mg base g) :
    FnOk P w K mg base (L2.CX P w) 1 (g.fv 19) fd ["draw"] (SpD g m__law_mixed) := by
  refine def_ok (ω := []) (k := 0) F sc__law_mixed T.hK trivial (by decide) fun cdv A outer s H E hc fx => ?_
  have bx := fx.bx
  exact (dss_cons (ds_drawSet bx (Bx.u1 bx) (de_var (.inl (by decide)) rfl (.inl rfl)) (n_add bx (de_drawIx bx (Bx.u1 bx) (de_var (.inl (by decide)) rfl (.inl rfl)) plainIx_c) de_int))
    (dss_cons (ds_asg (n_add bx de_int (n_mul bx de_int (de_drawIx bx (Bx.u1 bx) (de_var (.inl (by decide)) rfl (.inl rfl)) plainIx_c))) (dg_name bx (by decide) rfl (.inl rfl)))
    (dss_cons (ds_for fx (df_seq bx (n_add bx (de_drawIx bx (Bx.u1 bx) (de_var (.inl (by decide)) rfl (.inl rfl)) plainIx_c) (de_lst bx (da_cons bx (de_drawIx bx (Bx.u1 bx) (de_var (.inl (by decide)) rfl (.inl rfl)) plainIx_c) da_nil)))) (dg_name bx (by decide) rfl (.inl rfl)) (dss_cons (ds_asg (n_mod bx (de_callTy bx cd_int rfl T.nb_int (by rfl) (da_cons bx (n_mul bx (n_add bx (de_var (.inl (by decide)) rfl (.inl rfl)) (de_var (.inl (by decide)) rfl (.inl rfl))) de_int) da_nil)) (n_sub bx (n_pow bx de_int de_int) de_int)) (dg_name bx (by decide) rfl (.inl rfl)))
    (dss_one (ds_asg (n_add bx (de_var (.inl (by decide)) rfl (.inl rfl)) (n_div bx (de_var (.inl (by decide)) rfl (.inl rfl)) (n_pow bx de_int de_int))) (dg_name bx (by decide) rfl (.inl rfl))))))
    (dss_one (ds_ret (de_var (.inl (by decide)) rfl (.inl rfl)))))))
theorem sc__law_take : FnScope ["draw", "amount", "found"] ["draw", "amount"] (defScope s__law_take) := ⟨rfl, rfl, rfl, by decide +kernel, rfl, by decide +kernel, by decide +kernel⟩
theorem ok__law_take {fd : FuncData} {fd__law_mixed : FuncData} (F : Fun K "_law_take" "_law_take" s__law_take (g.fv 20) fd) (T : Txt K mg base g) (C__law_mixed : VS.Cl P w K mg base g s__law_mixed "_law_mixed" 19 1 fd__law_mixed ["draw"] m__law_mixed) :
    FnOk P w K mg base (L2.CX P w) 2 (g.fv 20) fd ["draw", "amount"] (SpD g m__law_take) := by
  refine def_ok (ω := []) (k := 1) F sc__law_take T.hK trivial (by decide) fun cdv A outer s H E hc fx => ?_
  have bx := fx.bx
  exact (dss_cons (ds_if (dt_cmp bx od_lt (de_var (.inl (by decide)) rfl (.inl rfl)) de_int (by rfl)) (dss_one (ds_ret de_int)) dss_nil)
    (dss_cons (ds_if (dt_cmp bx od_gt (de_drawIx bx (Bx.u1 bx) (de_var (.inl (by decide)) rfl (.inl rfl)) plainIx_c) de_int (by rfl)) (dss_cons (ds_asg (n_mod bx (de_callTy bx cd_int rfl T.nb_int (by rfl) (da_cons bx (de_drawIx bx (Bx.u1 bx) (de_var (.inl (by decide)) rfl (.inl rfl)) plainIx_c) da_nil)) (de_var (.inl (by decide)) rfl (.inl rfl))) (dg_name bx (by decide) rfl (.inl rfl)))
    (dss_cons (ds_drawSet bx (Bx.u1 bx) (de_var (.inl (by decide)) rfl (.inl rfl)) (n_div bx (de_drawIx bx (Bx.u1 bx) (de_var (.inl (by decide)) rfl (.inl rfl)) plainIx_c) (de_var (.inl (by decide)) rfl (.inl rfl))))
    (dss_one (ds_ret (de_var (.inl (by decide)) rfl (.inl rfl)))))) dss_nil)
    (dss_cons (ds_asg (c_call C__law_mixed bx (by decide) rfl (da_cons bx (de_var (.inl (by decide)) rfl (.inl rfl)) da_nil)) (dg_name bx (by decide) rfl (.inl rfl)))
    (dss_cons (ds_while fx (DW.dt (dw_and (dt_cmp bx od_gt (de_var (.inl (by decide)) rfl (.inl rfl)) (n_pow bx de_int de_int) (by rfl)) (dw_and1 (dt_cmp bx od_lt (de_var (.inl (by decide)) rfl (.inl rfl)) (n_mul bx (de_var (.inl (by decide)) rfl (.inl rfl)) (de_var (.inl (by decide)) rfl (.inl rfl))) (by rfl))))) (dss_one (ds_asg (n_add bx (n_mul bx (de_var (.inl (by decide)) rfl (.inl rfl)) (n_pow bx de_int de_int)) (c_call C__law_mixed bx (by decide) rfl (da_cons bx (de_var (.inl (by decide)) rfl (.inl rfl)) da_nil))) (dg_name bx (by decide) rfl (.inl rfl)))))
    (dss_one (ds_ret (n_mod bx (de_callTy bx cd_int rfl T.nb_int (by rfl) (da_cons bx (n_div bx (de_var (.inl (by decide)) rfl (.inl rfl)) de_int) da_nil)) (de_var (.inl (by decide)) rfl (.inl rfl)))))))))
theorem sc__law_pick : FnScope ["draw", "items"] ["draw", "items"] (defScope s__law_pick) := ⟨rfl, rfl, rfl, by decide +kernel, rfl, by decide +kernel, by decide +kernel⟩
theorem ok__law_pick {fd : FuncData} {fd__law_take : FuncData} (F : Fun K "_law_pick" "_law_pick" s__law_pick (g.fv 21) fd) (T : Txt K mg base g) (C__law_take : VS.Cl P w K mg base g s__law_take "_law_take" 20 2 fd__law_take ["draw", "amount"] m__law_take) :
    FnOk P w K mg base (L2.CX P w) 3 (g.fv 21) fd ["draw", "items"] (SpD g m__law_pick) := by
  refine def_ok (ω := []) (k := 2) F sc__law_pick T.hK trivial (by decide) fun cdv A outer s H E hc fx => ?_
  have bx := fx.bx
  exact (dss_one (ds_ret (n_ix bx (de_var (.inl (by decide)) rfl (.inl rfl)) (c_call C__law_take bx (by decide) rfl (da_cons bx (de_var (.inl (by decide)) rfl (.inl rfl)) (da_cons bx (de_callB bx (cd_lenX (Bx.K bx)) rfl T.nb_len (by rfl) (da_cons bx (de_var (.inl (by decide)) rfl (.inl rfl)) da_nil)) da_nil))) (by intro _ _; rfl))))
theorem sc__law_kinds : FnScope ["thing", "found", "line", "one", "key"] ["thing"] (defScope s__law_kinds) := ⟨rfl, rfl, rfl, by decide +kernel, rfl, by decide +kernel, by decide +kernel⟩
theorem ok__law_kinds {fd : FuncData} (F : Fun K "_law_kinds" "_law_kinds" s__law_kinds (g.fv 23) fd) (T : Txt K mg base g) :
    FnOk P w K mg base (L2.CX P w) 3 (g.fv 23) fd ["thing"] (SpD g m__law_kinds) := by
  refine def_ok (ω := [1, 2]) (k := 2) F sc__law_kinds T.hK trivial (by decide) fun cdv A outer s H E hc fx => ?_
  have bx := fx.bx
  exact (dss_cons (ds_par2 bx rfl rfl (by decide) rfl rfl (dx_root bx (by decide) (dr_lst bx da_nil) (dx_root bx (by decide) (dr_lst bx (da_cons bx (de_var (.inl (by decide)) rfl (.inl rfl)) da_nil)) dx_nil)) (by rfl))
    (dss_cons (ds_while fx (dt_cmp bx (od_ne (Bx.K bx) (Bx.u64 bx)) (de_var (.inr rfl) rfl (.inl rfl)) (de_lst bx da_nil) (by rfl)) (dss_cons (ds_pop bx (by decide) (by decide) rfl (.inl rfl) rfl (.inl rfl))
    (dss_one (ds_if (DW.dt (dw_or (dt_val (de_isi bx rfl T.nb_isinstance rfl T.nb_bool (by rfl) (de_var (.inl (by decide)) rfl (.inl rfl)))) (dw_or1 (dt_cmp bx od_is (de_var (.inl (by decide)) rfl (.inl rfl)) de_non (by rfl))))) (dss_one (ds_app bx (by decide) rfl (.inl rfl) (de_callB bx cd_repr rfl T.nb_repr (by rfl) (da_cons bx (de_var (.inl (by decide)) rfl (.inl rfl)) da_nil)))) (dss_one (ds_if (dt_val (de_isi bx rfl T.nb_isinstance rfl T.nb_int (by rfl) (de_var (.inl (by decide)) rfl (.inl rfl)))) (dss_one (ds_app bx (by decide) rfl (.inl rfl) de_str)) (dss_one (ds_if (dt_val (de_isi bx rfl T.nb_isinstance rfl T.nb_str (by rfl) (de_var (.inl (by decide)) rfl (.inl rfl)))) (dss_one (ds_app bx (by decide) rfl (.inl rfl) de_str)) (dss_one (ds_if (DW.dt (dw_or (dt_val (de_isi bx rfl T.nb_isinstance rfl T.nb_list (by rfl) (de_var (.inl (by decide)) rfl (.inl rfl)))) (dw_or1 (dt_val (de_isi bx rfl T.nb_isinstance rfl T.nb_tuple (by rfl) (de_var (.inl (by decide)) rfl (.inl rfl))))))) (dss_cons (ds_app bx (by decide) rfl (.inl rfl) (de_if (dt_val (de_isi bx rfl T.nb_isinstance rfl T.nb_list (by rfl) (de_var (.inl (by decide)) rfl (.inl rfl)))) de_str de_str))
    (dss_one (ds_own bx (by decide) rfl (.inl rfl) (dr_cat bx (di_own (by decide) rfl (.inl rfl)) (di_of (DR.de bx (dr_list bx (di_of (de_var (.inl (by decide)) rfl (.inl rfl))) rfl T.nb_list))))))) (dss_one (ds_if (dt_val (de_isi bx rfl T.nb_isinstance rfl T.nb_dict (by rfl) (de_var (.inl (by decide)) rfl (.inl rfl)))) (dss_cons (ds_app bx (by decide) rfl (.inl rfl) de_str)
    (dss_one ds_stuck)) (dss_one (ds_app bx (by decide) rfl (.inl rfl) de_str))))))))))))))
    (dss_one (ds_ret (de_var (.inr rfl) rfl (.inl rfl))))))
theorem sc__law_says : FnScope ["told", "due"] ["told", "due"] (defScope s__law_says) := ⟨rfl, rfl, rfl, by decide +kernel, rfl, by decide +kernel, by decide +kernel⟩
theorem ok__law_says {fd : FuncData} {fd__law_kinds : FuncData} (F : Fun K "_law_says" "_law_says" s__law_says (g.fv 24) fd) (T : Txt K mg base g) (C__law_kinds : VS.Cl P w K mg base g s__law_kinds "_law_kinds" 23 3 fd__law_kinds ["thing"] m__law_kinds) :
    FnOk P w K mg base (L2.CX P w) 4 (g.fv 24) fd ["told", "due"] (SpD g m__law_says) := by
  refine def_ok (ω := []) (k := 3) F sc__law_says T.hK trivial (by decide) fun cdv A outer s H E hc fx => ?_
  have bx := fx.bx
  exact (dss_one (ds_ret (de_and (de_cmp bx (od_eq (Bx.K bx) (Bx.u64 bx)) (c_call C__law_kinds bx (by decide) rfl (da_cons bx (de_var (.inl (by decide)) rfl (.inl rfl)) da_nil)) (c_call C__law_kinds bx (by decide) rfl (da_cons bx (de_var (.inl (by decide)) rfl (.inl rfl)) da_nil)) (by rfl)) (de_one (de_cmp bx (od_eq (Bx.K bx) (Bx.u64 bx)) (de_var (.inl (by decide)) rfl (.inl rfl)) (de_var (.inl (by decide)) rfl (.inl rfl)) (by rfl))))))
theorem sc__law_is_number : FnScope ["thing"] ["thing"] (defScope s__law_is_number) := ⟨rfl, rfl, rfl, by decide +kernel, rfl, by decide +kernel, by decide +kernel⟩
theorem ok__law_is_number {fd : FuncData} (F : Fun K "_law_is_number" "_law_is_number" s__law_is_number (g.fv 25) fd) (T : Txt K mg base g) :
    FnOk P w K mg base (L2.CX P w) 1 (g.fv 25) fd ["thing"] (SpD g m__law_is_number) := by
  refine def_ok (ω := []) (k := 0) F sc__law_is_number T.hK trivial (by decide) fun cdv A outer s H E hc fx => ?_
  have bx := fx.bx
  exact (dss_one (ds_ret (de_and (de_isi bx rfl T.nb_isinstance rfl T.nb_int (by rfl) (de_var (.inl (by decide)) rfl (.inl rfl))) (de_one (de_not (de_isi bx rfl T.nb_isinstance rfl T.nb_bool (by rfl) (de_var (.inl (by decide)) rfl (.inl rfl))))))))
theorem sc__law_odd : FnScope ["draw"] ["draw"] (defScope s__law_odd) := ⟨rfl, rfl, rfl, by decide +kernel, rfl, by decide +kernel, by decide +kernel⟩
theorem ok__law_odd {fd : FuncData} {fd__law_pick : FuncData} (F : Fun K "_law_odd" "_law_odd" s__law_odd (g.fv 26) fd) (T : Txt K mg base g) (C__law_pick : VS.Cl P w K mg base g s__law_pick "_law_pick" 21 3 fd__law_pick ["draw", "items"] m__law_pick) :
    FnOk P w K mg base (L2.CX P w) 4 (g.fv 26) fd ["draw"] (SpD g m__law_odd) := by
  refine def_ok (ω := []) (k := 3) F sc__law_odd T.hK trivial (by decide) fun cdv A outer s H E hc fx => ?_
  have bx := fx.bx
  exact (dss_one (ds_ret (c_call C__law_pick bx (by decide) rfl (da_cons bx (de_var (.inl (by decide)) rfl (.inl rfl)) (da_cons bx (de_lst bx (da_cons bx de_non (da_cons bx de_bl (da_cons bx (n_sub bx de_int de_int) (da_cons bx de_str (da_cons bx (de_tup bx da_nil) (da_cons bx (de_lst bx da_nil) (da_cons bx (de_dict0 bx) (da_cons bx (de_tup bx (da_cons bx de_int da_nil)) (da_cons bx (de_tup bx (da_cons bx de_int (da_cons bx de_int da_nil))) (da_cons bx (de_tup bx (da_cons bx de_bl da_nil)) (da_cons bx (de_lst bx (da_cons bx de_int da_nil)) (da_cons bx (de_tup bx (da_cons bx de_int (da_cons bx de_int (da_cons bx de_int (da_cons bx de_int da_nil))))) (da_cons bx (de_tup bx (da_cons bx de_int (da_cons bx (de_tup bx da_nil) da_nil))) (da_cons bx (de_tup bx (da_cons bx (de_tup bx (da_cons bx de_int da_nil)) (da_cons bx (de_tup bx (da_cons bx de_int da_nil)) (da_cons bx (de_tup bx (da_cons bx de_int da_nil)) da_nil)))) (da_cons bx de_int (da_cons bx de_str da_nil))))))))))))))))) da_nil)))))
theorem sc__law_is_pairing : FnScope ["thing", "length", "first", "second", "width", "way", "item"] ["thing", "length"] (defScope s__law_is_pairing) := ⟨rfl, rfl, rfl, by decide +kernel, rfl, by decide +kernel, by decide +kernel⟩
theorem ok__law_is_pairing {fd : FuncData} {fd__law_is_number : FuncData} (F : Fun K "_law_is_pairing" "_law_is_pairing" s__law_is_pairing (g.fv 27) fd) (T : Txt K mg base g) (C__law_is_number : VS.Cl P w K mg base g s__law_is_number "_law_is_number" 25 1 fd__law_is_number ["thing"] m__law_is_number) :
    FnOk P w K mg base (L2.CX P w) 2 (g.fv 27) fd ["thing", "length"] (SpD g m__law_is_pairing) := by
  refine def_ok (ω := []) (k := 1) F sc__law_is_pairing T.hK trivial (by decide) fun cdv A outer s H E hc fx => ?_
  have bx := fx.bx
  exact (dss_cons (ds_if (DW.dt (dw_or (dt_not (dt_val (de_isi bx rfl T.nb_isinstance rfl T.nb_tuple (by rfl) (de_var (.inl (by decide)) rfl (.inl rfl))))) (dw_or (dt_cmp bx (od_ne (Bx.K bx) (Bx.u64 bx)) (de_callB bx (cd_lenX (Bx.K bx)) rfl T.nb_len (by rfl) (da_cons bx (de_var (.inl (by decide)) rfl (.inl rfl)) da_nil)) de_int (by rfl)) (dw_or1 (dt_cmp bx (od_ne (Bx.K bx) (Bx.u64 bx)) (DR.de bx (dr_comp (own := [("item", 6)]) bx (by exact CompOk.mk (own := [("item", 6)]) (dc_seq bx (di_of (de_var (.inl (by decide)) rfl (.inl rfl)))) (blkOk_by (by rfl)) (by decide) (by decide) (fun s1 h1 c1 cl1 fp1 => (dg_name (Bx.blk bx s1 h1 c1 cl1 fp1) (by decide) rfl (.inl rfl))) (fun s1 h1 c1 cl1 fp1 => (dts_one (dt_not (dt_val (c_call C__law_is_number (Bx.blk bx s1 h1 c1 cl1 fp1) (by decide) rfl (da_cons (Bx.blk bx s1 h1 c1 cl1 fp1) (de_var (.inl (by decide)) rfl (.inl rfl)) da_nil)))))) (fun s1 h1 c1 cl1 fp1 => (de_var (.inl (by decide)) rfl (.inl rfl)))))) (de_lst bx da_nil) (by rfl)))))) (dss_one (ds_ret de_bl)) dss_nil)
    (dss_cons (ds_asg (de_var (.inl (by decide)) rfl (.inl rfl)) (dg_tup bx (dgs_cons (Bx.ok bx) (dg_name bx (by decide) rfl (.inl rfl)) (dgs_cons (Bx.ok bx) (dg_name bx (by decide) rfl (.inl rfl)) (dgs_cons (Bx.ok bx) (dg_name bx (by decide) rfl (.inl rfl)) (dgs_cons (Bx.ok bx) (dg_name bx (by decide) rfl (.inl rfl)) dgs_nil (by decide)) (by decide)) (by decide)) (by decide))))
    (dss_one (ds_ret (de_and (de_cmp bx od_ge (de_var (.inl (by decide)) rfl (.inl rfl)) de_int (by rfl)) (de_and (de_cmp bx od_ge (de_var (.inl (by decide)) rfl (.inl rfl)) de_int (by rfl)) (de_and (de_cmp bx od_ge (de_var (.inl (by decide)) rfl (.inl rfl)) de_int (by rfl)) (de_and (de_cmp bx (od_in (Bx.K bx) (Bx.u1 bx)) (de_var (.inl (by decide)) rfl (.inl rfl)) (de_lst bx (da_cons bx de_int (da_cons bx (n_sub bx de_int de_int) da_nil))) (by rfl)) (de_one (de_cmp bx od_le (n_add bx (de_callB bx (cd_max (Bx.K bx) (Bx.calm bx)) rfl T.nb_max (by rfl) (da_cons bx (de_var (.inl (by decide)) rfl (.inl rfl)) (da_cons bx (de_var (.inl (by decide)) rfl (.inl rfl)) da_nil))) (de_var (.inl (by decide)) rfl (.inl rfl))) (de_var (.inl (by decide)) rfl (.inl rfl)) (by rfl)))))))))))
theorem sc__law_goal : FnScope ["pairing", "number", "first", "second", "width", "way"] ["pairing", "number"] (defScope s__law_goal) := ⟨rfl, rfl, rfl, by decide +kernel, rfl, by decide +kernel, by decide +kernel⟩
theorem ok__law_goal {fd : FuncData} (F : Fun K "_law_goal" "_law_goal" s__law_goal (g.fv 28) fd) (T : Txt K mg base g) :
    FnOk P w K mg base (L2.CX P w) 1 (g.fv 28) fd ["pairing", "number"] (SpD g m__law_goal) := by
  refine def_ok (ω := []) (k := 0) F sc__law_goal T.hK trivial (by decide) fun cdv A outer s H E hc fx => ?_
  have bx := fx.bx
  exact (dss_cons (ds_asg (de_var (.inl (by decide)) rfl (.inl rfl)) (dg_tup bx (dgs_cons (Bx.ok bx) (dg_name bx (by decide) rfl (.inl rfl)) (dgs_cons (Bx.ok bx) (dg_name bx (by decide) rfl (.inl rfl)) (dgs_cons (Bx.ok bx) (dg_name bx (by decide) rfl (.inl rfl)) (dgs_cons (Bx.ok bx) (dg_name bx (by decide) rfl (.inl rfl)) dgs_nil (by decide)) (by decide)) (by decide)) (by decide))))
    (dss_cons (ds_if (dt_not (dt_chain bx od_le od_lt (de_var (.inl (by decide)) rfl (.inl rfl)) (de_var (.inl (by decide)) rfl (.inl rfl)) (n_add bx (de_var (.inl (by decide)) rfl (.inl rfl)) (de_var (.inl (by decide)) rfl (.inl rfl))))) (dss_one (ds_ret de_non)) dss_nil)
    (dss_one (ds_ret (de_if (dt_cmp bx (od_eq (Bx.K bx) (Bx.u64 bx)) (de_var (.inl (by decide)) rfl (.inl rfl)) de_int (by rfl)) (n_sub bx (n_add bx (de_var (.inl (by decide)) rfl (.inl rfl)) (de_var (.inl (by decide)) rfl (.inl rfl))) (de_var (.inl (by decide)) rfl (.inl rfl))) (n_sub bx (n_sub bx (n_add bx (de_var (.inl (by decide)) rfl (.inl rfl)) (de_var (.inl (by decide)) rfl (.inl rfl))) de_int) (n_sub bx (de_var (.inl (by decide)) rfl (.inl rfl)) (de_var (.inl (by decide)) rfl (.inl rfl)))))))))
theorem sc__law_back : FnScope ["pairing"] ["pairing"] (defScope s__law_back) := ⟨rfl, rfl, rfl, by decide +kernel, rfl, by decide +kernel, by decide +kernel⟩
theorem ok__law_back {fd : FuncData} (F : Fun K "_law_back" "_law_back" s__law_back (g.fv 29) fd) (T : Txt K mg base g) :
    FnOk P w K mg base (L2.CX P w) 1 (g.fv 29) fd ["pairing"] (SpD g m__law_back) := by
  refine def_ok (ω := []) (k := 0) F sc__law_back T.hK trivial (by decide) fun cdv A outer s H E hc fx => ?_
  have bx := fx.bx
  exact (dss_one (ds_ret (de_tup bx (da_cons bx (n_ix bx (de_var (.inl (by decide)) rfl (.inl rfl)) de_int (by intro _ _; rfl)) (da_cons bx (n_ix bx (de_var (.inl (by decide)) rfl (.inl rfl)) de_int (by intro _ _; rfl)) (da_cons bx (n_ix bx (de_var (.inl (by decide)) rfl (.inl rfl)) de_int (by intro _ _; rfl)) (da_cons bx (n_ix bx (de_var (.inl (by decide)) rfl (.inl rfl)) de_int (by intro _ _; rfl)) da_nil)))))))
theorem sc__law_pairing : FnScope ["draw", "length", "width", "first", "second"] ["draw", "length"] (defScope s__law_pairing) := ⟨rfl, rfl, rfl, by decide +kernel, rfl, by decide +kernel, by decide +kernel⟩
theorem ok__law_pairing {fd : FuncData} {fd__law_take : FuncData} {fd__law_pick : FuncData} (F : Fun K "_law_pairing" "_law_pairing" s__law_pairing (g.fv 30) fd) (T : Txt K mg base g) (C__law_take : VS.Cl P w K mg base g s__law_take "_law_take" 20 2 fd__law_take ["draw", "amount"] m__law_take) (C__law_pick : VS.Cl P w K mg base g s__law_pick "_law_pick" 21 3 fd__law_pick ["draw", "items"] m__law_pick) :
    FnOk P w K mg base (L2.CX P w) 4 (g.fv 30) fd ["draw", "length"] (SpD g m__law_pairing) := by
  refine def_ok (ω := []) (k := 3) F sc__law_pairing T.hK trivial (by decide) fun cdv A outer s H E hc fx => ?_
  have bx := fx.bx
  exact (dss_cons (ds_asg (n_add bx de_int (c_call C__law_take bx (by decide) rfl (da_cons bx (de_var (.inl (by decide)) rfl (.inl rfl)) (da_cons bx (c_call C__law_pick bx (by decide) rfl (da_cons bx (de_var (.inl (by decide)) rfl (.inl rfl)) (da_cons bx (de_lst bx (da_cons bx (de_var (.inl (by decide)) rfl (.inl rfl)) (da_cons bx (de_var (.inl (by decide)) rfl (.inl rfl)) (da_cons bx (de_callB bx (cd_max (Bx.K bx) (Bx.calm bx)) rfl T.nb_max (by rfl) (da_cons bx de_int (da_cons bx (n_div bx (de_var (.inl (by decide)) rfl (.inl rfl)) de_int) da_nil))) (da_cons bx (de_callB bx (cd_min (Bx.K bx) (Bx.calm bx)) rfl T.nb_min (by rfl) (da_cons bx (de_var (.inl (by decide)) rfl (.inl rfl)) (da_cons bx de_int da_nil))) da_nil))))) da_nil))) da_nil)))) (dg_name bx (by decide) rfl (.inl rfl)))
    (dss_cons (ds_asg (c_call C__law_take bx (by decide) rfl (da_cons bx (de_var (.inl (by decide)) rfl (.inl rfl)) (da_cons bx (n_add bx (n_sub bx (de_var (.inl (by decide)) rfl (.inl rfl)) (de_var (.inl (by decide)) rfl (.inl rfl))) de_int) da_nil))) (dg_name bx (by decide) rfl (.inl rfl)))
    (dss_cons (ds_asg (c_call C__law_pick bx (by decide) rfl (da_cons bx (de_var (.inl (by decide)) rfl (.inl rfl)) (da_cons bx (de_lst bx (da_cons bx (c_call C__law_take bx (by decide) rfl (da_cons bx (de_var (.inl (by decide)) rfl (.inl rfl)) (da_cons bx (n_add bx (n_sub bx (de_var (.inl (by decide)) rfl (.inl rfl)) (de_var (.inl (by decide)) rfl (.inl rfl))) de_int) da_nil))) (da_cons bx (c_call C__law_take bx (by decide) rfl (da_cons bx (de_var (.inl (by decide)) rfl (.inl rfl)) (da_cons bx (n_add bx (n_sub bx (de_var (.inl (by decide)) rfl (.inl rfl)) (de_var (.inl (by decide)) rfl (.inl rfl))) de_int) da_nil))) (da_cons bx (de_callB bx (cd_min (Bx.K bx) (Bx.calm bx)) rfl T.nb_min (by rfl) (da_cons bx (n_sub bx (de_var (.inl (by decide)) rfl (.inl rfl)) (de_var (.inl (by decide)) rfl (.inl rfl))) (da_cons bx (n_add bx (de_var (.inl (by decide)) rfl (.inl rfl)) de_int) da_nil))) (da_cons bx (de_var (.inl (by decide)) rfl (.inl rfl)) (da_cons bx (n_sub bx (de_var (.inl (by decide)) rfl (.inl rfl)) (de_var (.inl (by decide)) rfl (.inl rfl))) (da_cons bx (de_callB bx (cd_max (Bx.K bx) (Bx.calm bx)) rfl T.nb_max (by rfl) (da_cons bx de_int (da_cons bx (de_callB bx (cd_min (Bx.K bx) (Bx.calm bx)) rfl T.nb_min (by rfl) (da_cons bx (n_sub bx (de_var (.inl (by decide)) rfl (.inl rfl)) (de_var (.inl (by decide)) rfl (.inl rfl))) (da_cons bx (n_add bx (de_var (.inl (by decide)) rfl (.inl rfl)) (de_var (.inl (by decide)) rfl (.inl rfl))) da_nil))) da_nil))) da_nil))))))) da_nil))) (dg_name bx (by decide) rfl (.inl rfl)))
    (dss_one (ds_ret (de_tup bx (da_cons bx (de_var (.inl (by decide)) rfl (.inl rfl)) (da_cons bx (de_var (.inl (by decide)) rfl (.inl rfl)) (da_cons bx (de_var (.inl (by decide)) rfl (.inl rfl)) (da_cons bx (c_call C__law_pick bx (by decide) rfl (da_cons bx (de_var (.inl (by decide)) rfl (.inl rfl)) (da_cons bx (de_lst bx (da_cons bx de_int (da_cons bx de_int (da_cons bx (n_sub bx de_int de_int) da_nil)))) da_nil))) da_nil))))))))))
theorem sc__law_far_pairing : FnScope ["draw", "length", "width", "first", "second"] ["draw", "length"] (defScope s__law_far_pairing) := ⟨rfl, rfl, rfl, by decide +kernel, rfl, by decide +kernel, by decide +kernel⟩
theorem ok__law_far_pairing {fd : FuncData} {fd__law_take : FuncData} {fd__law_pick : FuncData} (F : Fun K "_law_far_pairing" "_law_far_pairing" s__law_far_pairing (g.fv 31) fd) (T : Txt K mg base g) (C__law_take : VS.Cl P w K mg base g s__law_take "_law_take" 20 2 fd__law_take ["draw", "amount"] m__law_take) (C__law_pick : VS.Cl P w K mg base g s__law_pick "_law_pick" 21 3 fd__law_pick ["draw", "items"] m__law_pick) :
    FnOk P w K mg base (L2.CX P w) 4 (g.fv 31) fd ["draw", "length"] (SpD g m__law_far_pairing) := by
  refine def_ok (ω := []) (k := 3) F sc__law_far_pairing T.hK trivial (by decide) fun cdv A outer s H E hc fx => ?_
  have bx := fx.bx
  exact (dss_cons (ds_asg (n_add bx de_int (c_call C__law_take bx (by decide) rfl (da_cons bx (de_var (.inl (by decide)) rfl (.inl rfl)) (da_cons bx (c_call C__law_pick bx (by decide) rfl (da_cons bx (de_var (.inl (by decide)) rfl (.inl rfl)) (da_cons bx (de_lst bx (da_cons bx (de_var (.inl (by decide)) rfl (.inl rfl)) (da_cons bx (de_callB bx (cd_max (Bx.K bx) (Bx.calm bx)) rfl T.nb_max (by rfl) (da_cons bx de_int (da_cons bx (n_div bx (de_var (.inl (by decide)) rfl (.inl rfl)) de_int) da_nil))) (da_cons bx (de_callB bx (cd_min (Bx.K bx) (Bx.calm bx)) rfl T.nb_min (by rfl) (da_cons bx (de_var (.inl (by decide)) rfl (.inl rfl)) (da_cons bx (n_pow bx de_int de_int) da_nil))) da_nil)))) da_nil))) da_nil)))) (dg_name bx (by decide) rfl (.inl rfl)))
    (dss_cons (ds_asg (c_call C__law_take bx (by decide) rfl (da_cons bx (de_var (.inl (by decide)) rfl (.inl rfl)) (da_cons bx (n_add bx (n_sub bx (de_var (.inl (by decide)) rfl (.inl rfl)) (de_var (.inl (by decide)) rfl (.inl rfl))) de_int) da_nil))) (dg_name bx (by decide) rfl (.inl rfl)))
    (dss_cons (ds_asg (c_call C__law_pick bx (by decide) rfl (da_cons bx (de_var (.inl (by decide)) rfl (.inl rfl)) (da_cons bx (de_lst bx (da_cons bx (c_call C__law_take bx (by decide) rfl (da_cons bx (de_var (.inl (by decide)) rfl (.inl rfl)) (da_cons bx (n_add bx (n_sub bx (de_var (.inl (by decide)) rfl (.inl rfl)) (de_var (.inl (by decide)) rfl (.inl rfl))) de_int) da_nil))) (da_cons bx (c_call C__law_take bx (by decide) rfl (da_cons bx (de_var (.inl (by decide)) rfl (.inl rfl)) (da_cons bx (n_add bx (n_sub bx (de_var (.inl (by decide)) rfl (.inl rfl)) (de_var (.inl (by decide)) rfl (.inl rfl))) de_int) da_nil))) (da_cons bx (de_callB bx (cd_min (Bx.K bx) (Bx.calm bx)) rfl T.nb_min (by rfl) (da_cons bx (n_sub bx (de_var (.inl (by decide)) rfl (.inl rfl)) (de_var (.inl (by decide)) rfl (.inl rfl))) (da_cons bx (n_add bx (n_add bx (de_var (.inl (by decide)) rfl (.inl rfl)) de_int) (c_call C__law_take bx (by decide) rfl (da_cons bx (de_var (.inl (by decide)) rfl (.inl rfl)) (da_cons bx de_int da_nil)))) da_nil))) da_nil)))) da_nil))) (dg_name bx (by decide) rfl (.inl rfl)))
    (dss_one (ds_ret (de_tup bx (da_cons bx (de_var (.inl (by decide)) rfl (.inl rfl)) (da_cons bx (de_var (.inl (by decide)) rfl (.inl rfl)) (da_cons bx (de_var (.inl (by decide)) rfl (.inl rfl)) (da_cons bx (c_call C__law_pick bx (by decide) rfl (da_cons bx (de_var (.inl (by decide)) rfl (.inl rfl)) (da_cons bx (de_lst bx (da_cons bx de_int (da_cons bx de_int (da_cons bx (n_sub bx de_int de_int) da_nil)))) da_nil))) da_nil))))))))))
theorem sc__law_no_pairing : FnScope ["draw"] ["draw"] (defScope s__law_no_pairing) := ⟨rfl, rfl, rfl, by decide +kernel, rfl, by decide +kernel, by decide +kernel⟩
theorem ok__law_no_pairing {fd : FuncData} {fd__law_pick : FuncData} (F : Fun K "_law_no_pairing" "_law_no_pairing" s__law_no_pairing (g.fv 32) fd) (T : Txt K mg base g) (C__law_pick : VS.Cl P w K mg base g s__law_pick "_law_pick" 21 3 fd__law_pick ["draw", "items"] m__law_pick) :
    FnOk P w K mg base (L2.CX P w) 4 (g.fv 32) fd ["draw"] (SpD g m__law_no_pairing) := by
  refine def_ok (ω := []) (k := 3) F sc__law_no_pairing T.hK trivial (by decide) fun cdv A outer s H E hc fx => ?_
  have bx := fx.bx
  exact (dss_one (ds_ret (c_call C__law_pick bx (by decide) rfl (da_cons bx (de_var (.inl (by decide)) rfl (.inl rfl)) (da_cons bx (de_lst bx (da_cons bx de_non (da_cons bx (de_tup bx da_nil) (da_cons bx (de_tup bx (da_cons bx de_int (da_cons bx de_int (da_cons bx de_int (da_cons bx de_int da_nil))))) (da_cons bx (de_tup bx (da_cons bx de_int (da_cons bx de_int (da_cons bx de_int (da_cons bx de_int da_nil))))) (da_cons bx (de_tup bx (da_cons bx de_int (da_cons bx de_int (da_cons bx de_int (da_cons bx de_int da_nil))))) (da_cons bx (de_tup bx (da_cons bx (n_sub bx de_int de_int) (da_cons bx de_int (da_cons bx de_int (da_cons bx de_int da_nil))))) (da_cons bx (de_tup bx (da_cons bx de_int (da_cons bx de_int (da_cons bx de_int da_nil)))) (da_cons bx (de_tup bx (da_cons bx de_int (da_cons bx de_int (da_cons bx de_int (da_cons bx de_int (da_cons bx de_int da_nil)))))) (da_cons bx (de_lst bx (da_cons bx de_int (da_cons bx de_int (da_cons bx de_int (da_cons bx de_int da_nil))))) (da_cons bx (de_tup bx (da_cons bx de_bl (da_cons bx de_int (da_cons bx de_int (da_cons bx de_int da_nil))))) (da_cons bx (de_tup bx (da_cons bx de_int (da_cons bx de_int (da_cons bx de_int (da_cons bx de_bl da_nil))))) (da_cons bx (de_tup bx (da_cons bx de_int (da_cons bx (n_pow bx de_int de_int) (da_cons bx de_int (da_cons bx de_int da_nil))))) (da_cons bx (de_tup bx (da_cons bx de_int (da_cons bx de_int (da_cons bx (n_pow bx de_int de_int) (da_cons bx (n_sub bx de_int de_int) da_nil))))) (da_cons bx de_str (da_cons bx (de_tup bx (da_cons bx de_int (da_cons bx de_non (da_cons bx de_int (da_cons bx de_int da_nil))))) da_nil)))))))))))))))) da_nil)))))
theorem sc__law_long_pairing : FnScope ["draw"] ["draw"] (defScope s__law_long_pairing) := ⟨rfl, rfl, rfl, by decide +kernel, rfl, by decide +kernel, by decide +kernel⟩
theorem ok__law_long_pairing {fd : FuncData} {fd__law_pick : FuncData} {fd__law_far_pairing : FuncData} {fd__law_take : FuncData} {fd__law_pairing : FuncData} (F : Fun K "_law_long_pairing" "_law_long_pairing" s__law_long_pairing (g.fv 33) fd) (T : Txt K mg base g) (C__law_pick : VS.Cl P w K mg base g s__law_pick "_law_pick" 21 3 fd__law_pick ["draw", "items"] m__law_pick) (C__law_far_pairing : VS.Cl P w K mg base g s__law_far_pairing "_law_far_pairing" 31 4 fd__law_far_pairing ["draw", "length"] m__law_far_pairing) (C__law_take : VS.Cl P w K mg base g s__law_take "_law_take" 20 2 fd__law_take ["draw", "amount"] m__law_take) (C__law_pairing : VS.Cl P w K mg base g s__law_pairing "_law_pairing" 30 4 fd__law_pairing ["draw", "length"] m__law_pairing) :
    FnOk P w K mg base (L2.CX P w) 5 (g.fv 33) fd ["draw"] (SpD g m__law_long_pairing) := by
  refine def_ok (ω := []) (k := 4) F sc__law_long_pairing T.hK trivial (by decide) fun cdv A outer s H E hc fx => ?_
  have bx := fx.bx
  exact (dss_one (ds_ret (c_call C__law_pick bx (by decide) rfl (da_cons bx (de_var (.inl (by decide)) rfl (.inl rfl)) (da_cons bx (de_lst bx (da_cons bx (c_call C__law_pairing bx (by decide) rfl (da_cons bx (de_var (.inl (by decide)) rfl (.inl rfl)) (da_cons bx de_int da_nil))) (da_cons bx (c_call C__law_pairing bx (by decide) rfl (da_cons bx (de_var (.inl (by decide)) rfl (.inl rfl)) (da_cons bx de_int da_nil))) (da_cons bx (c_call C__law_far_pairing bx (by decide) rfl (da_cons bx (de_var (.inl (by decide)) rfl (.inl rfl)) (da_cons bx (n_add bx de_int (c_call C__law_take bx (by decide) rfl (da_cons bx (de_var (.inl (by decide)) rfl (.inl rfl)) (da_cons bx (n_pow bx de_int de_int) da_nil)))) da_nil))) da_nil)))) da_nil)))))
theorem sc__law_right : FnScope ["draw", "pairing", "back", "told", "least", "number", "bent", "thing", "wrong", "errors", "first", "second", "width", "way", "is_one", "due", "source", "work"] ["draw"] (defScope s__law_right) := ⟨rfl, rfl, rfl, by decide +kernel, rfl, by decide +kernel, by decide +kernel⟩
theorem ok__law_right {fd : FuncData} {fd__law_long_pairing : FuncData} {fd__law_back : FuncData} {fd_mended : FuncData} {fd_turned : FuncData} {fd_is_pairing : FuncData} {fd__law_says : FuncData} {fd__law_take : FuncData} {fd__law_goal : FuncData} {fd_from_of : FuncData} {fd_goal_of : FuncData} {fd__law_pick : FuncData} {fd__law_odd : FuncData} {fd__law_no_pairing : FuncData} {fd__law_is_pairing : FuncData} (F : Fun K "_law_right" "_law_right" s__law_right (g.fv 34) fd) (T : Txt K mg base g) (C__law_long_pairing : VS.Cl P w K mg base g s__law_long_pairing "_law_long_pairing" 33 5 fd__law_long_pairing ["draw"] m__law_long_pairing) (C__law_back : VS.Cl P w K mg base g s__law_back "_law_back" 29 1 fd__law_back ["pairing"] m__law_back) (C_mended : VS.Cl P w K mg base g s_mended "mended" 16 4 fd_mended ["pairing"] m_mended) (C_turned : VS.Cl P w K mg base g s_turned "turned" 15 4 fd_turned ["pairing"] m_turned) (C_is_pairing : VS.Cl P w K mg base g s_is_pairing "is_pairing" 12 3 fd_is_pairing ["thing"] m_is_pairing) (C__law_says : VS.Cl P w K mg base g s__law_says "_law_says" 24 4 fd__law_says ["told", "due"] m__law_says) (C__law_take : VS.Cl P w K mg base g s__law_take "_law_take" 20 2 fd__law_take ["draw", "amount"] m__law_take) (C__law_goal : VS.Cl P w K mg base g s__law_goal "_law_goal" 28 1 fd__law_goal ["pairing", "number"] m__law_goal) (C_from_of : VS.Cl P w K mg base g s_from_of "from_of" 14 4 fd_from_of ["pairing", "number"] m_from_of) (C_goal_of : VS.Cl P w K mg base g s_goal_of "goal_of" 13 4 fd_goal_of ["pairing", "number"] m_goal_of) (C__law_pick : VS.Cl P w K mg base g s__law_pick "_law_pick" 21 3 fd__law_pick ["draw", "items"] m__law_pick) (C__law_odd : VS.Cl P w K mg base g s__law_odd "_law_odd" 26 4 fd__law_odd ["draw"] m__law_odd) (C__law_no_pairing : VS.Cl P w K mg base g s__law_no_pairing "_law_no_pairing" 32 4 fd__law_no_pairing ["draw"] m__law_no_pairing) (C__law_is_pairing : VS.Cl P w K mg base g s__law_is_pairing "_law_is_pairing" 27 2 fd__law_is_pairing ["thing", "length"] m__law_is_pairing) :
    FnOk P w K mg base (L2.CX P w) 8 (g.fv 34) fd ["draw"] (SpD g m__law_right) := by
  refine def_ok (ω := []) (k := 7) F sc__law_right T.hK trivial (by decide) fun cdv A outer s H E hc fx => ?_
  have bx := fx.bx
  exact (dss_cons (ds_asg (c_call C__law_long_pairing bx (by decide) rfl (da_cons bx (de_var (.inl (by decide)) rfl (.inr (.inl rfl))) da_nil)) (dg_name bx (by decide) rfl (.inr rfl)))
    (dss_cons (ds_asg (de_var (.inl (by decide)) rfl (.inr (.inl rfl))) (dg_tup bx (dgs_cons (Bx.ok bx) (dg_name bx (by decide) rfl (.inl rfl)) (dgs_cons (Bx.ok bx) (dg_name bx (by decide) rfl (.inl rfl)) (dgs_cons (Bx.ok bx) (dg_name bx (by decide) rfl (.inl rfl)) (dgs_cons (Bx.ok bx) (dg_name bx (by decide) rfl (.inl rfl)) dgs_nil (by decide)) (by decide)) (by decide)) (by decide))))
    (dss_cons (ds_asg (c_call C__law_back bx (by decide) rfl (da_cons bx (de_var (.inl (by decide)) rfl (.inr (.inl rfl))) da_nil)) (dg_name bx (by decide) rfl (.inl rfl)))
    (dss_cons (ds_asg (de_lst bx (da_cons bx (c_call C_is_pairing bx (by decide) rfl (da_cons bx (de_var (.inl (by decide)) rfl (.inr (.inl rfl))) da_nil)) (da_cons bx (c_callK (ks := ["thing"]) C_is_pairing bx (by decide) rfl (kb_of (ks := ["thing"]) (ix := [0]) C_is_pairing.f fun _ _ _ _ _ _ ws hl => match ws, hl with | [_], _ => rfl) (dk_cons bx (de_var (.inl (by decide)) rfl (.inr (.inl rfl))) dk_nil)) (da_cons bx (c_call C_turned bx (by decide) rfl (da_cons bx (de_var (.inl (by decide)) rfl (.inr (.inl rfl))) da_nil)) (da_cons bx (c_callK (ks := ["pairing"]) C_turned bx (by decide) rfl (kb_of (ks := ["pairing"]) (ix := [0]) C_turned.f fun _ _ _ _ _ _ ws hl => match ws, hl with | [_], _ => rfl) (dk_cons bx (de_var (.inl (by decide)) rfl (.inr (.inl rfl))) dk_nil)) (da_cons bx (c_call C_mended bx (by decide) rfl (da_cons bx (de_var (.inl (by decide)) rfl (.inr (.inl rfl))) da_nil)) (da_cons bx (c_callK (ks := ["pairing"]) C_mended bx (by decide) rfl (kb_of (ks := ["pairing"]) (ix := [0]) C_mended.f fun _ _ _ _ _ _ ws hl => match ws, hl with | [_], _ => rfl) (dk_cons bx (de_var (.inl (by decide)) rfl (.inr (.inl rfl))) dk_nil)) (da_cons bx (c_call C_mended bx (by decide) rfl (da_cons bx (de_var (.inl (by decide)) rfl (.inl rfl)) da_nil)) da_nil)))))))) (dg_name bx (by decide) rfl (.inl rfl)))
    (dss_cons (ds_asg (de_if (dt_cmp bx od_le (de_var (.inl (by decide)) rfl (.inl rfl)) (de_var (.inl (by decide)) rfl (.inl rfl)) (by rfl)) (de_var (.inl (by decide)) rfl (.inr (.inl rfl))) (de_var (.inl (by decide)) rfl (.inl rfl))) (dg_name bx (by decide) rfl (.inl rfl)))
    (dss_cons (ds_if (dt_not (dt_val (c_call C__law_says bx (by decide) rfl (da_cons bx (de_var (.inl (by decide)) rfl (.inl rfl)) (da_cons bx (de_lst bx (da_cons bx de_bl (da_cons bx de_bl (da_cons bx (de_var (.inl (by decide)) rfl (.inl rfl)) (da_cons bx (de_var (.inl (by decide)) rfl (.inl rfl)) (da_cons bx (de_var (.inl (by decide)) rfl (.inl rfl)) (da_cons bx (de_var (.inl (by decide)) rfl (.inl rfl)) (da_cons bx (de_if (dt_cmp bx od_le (de_var (.inl (by decide)) rfl (.inl rfl)) (de_var (.inl (by decide)) rfl (.inl rfl)) (by rfl)) (de_var (.inl (by decide)) rfl (.inl rfl)) (de_var (.inl (by decide)) rfl (.inr (.inl rfl)))) da_nil)))))))) da_nil))))) (dss_one (ds_ret de_bl)) dss_nil)
    (dss_cons (ds_for fx (df_seq bx (de_lst bx (da_cons bx (de_var (.inl (by decide)) rfl (.inl rfl)) (da_cons bx (n_sub bx (n_add bx (de_var (.inl (by decide)) rfl (.inl rfl)) (de_var (.inl (by decide)) rfl (.inl rfl))) de_int) (da_cons bx (n_sub bx (de_var (.inl (by decide)) rfl (.inl rfl)) de_int) (da_cons bx (n_add bx (de_var (.inl (by decide)) rfl (.inl rfl)) (de_var (.inl (by decide)) rfl (.inl rfl))) (da_cons bx (n_add bx (de_var (.inl (by decide)) rfl (.inl rfl)) (c_call C__law_take bx (by decide) rfl (da_cons bx (de_var (.inl (by decide)) rfl (.inr (.inl rfl))) (da_cons bx (de_var (.inl (by decide)) rfl (.inl rfl)) da_nil)))) (da_cons bx (de_var (.inl (by decide)) rfl (.inl rfl)) (da_cons bx (n_add bx (de_var (.inl (by decide)) rfl (.inl rfl)) (de_var (.inl (by decide)) rfl (.inl rfl))) (da_cons bx (n_add bx (de_var (.inl (by decide)) rfl (.inl rfl)) (c_call C__law_take bx (by decide) rfl (da_cons bx (de_var (.inl (by decide)) rfl (.inr (.inl rfl))) (da_cons bx (de_var (.inl (by decide)) rfl (.inl rfl)) da_nil)))) (da_cons bx (n_sub bx de_int de_int) (da_cons bx (n_pow bx de_int de_int) da_nil)))))))))))) (dg_name bx (by decide) rfl (.inl rfl)) (dss_cons (ds_par2 bx rfl rfl (by decide) rfl rfl (dx_val bx (by decide) (c_call C__law_goal bx (by decide) rfl (da_cons bx (de_var (.inl (by decide)) rfl (.inr (.inl rfl))) (da_cons bx (de_var (.inl (by decide)) rfl (.inl rfl)) da_nil))) (dx_val bx (by decide) (c_call C__law_goal bx (by decide) rfl (da_cons bx (de_var (.inl (by decide)) rfl (.inl rfl)) (da_cons bx (de_var (.inl (by decide)) rfl (.inl rfl)) da_nil))) dx_nil)) (by rfl))
    (dss_cons (ds_if (dt_not (dt_val (c_call C__law_says bx (by decide) rfl (da_cons bx (de_lst bx (da_cons bx (c_call C_goal_of bx (by decide) rfl (da_cons bx (de_var (.inl (by decide)) rfl (.inr (.inl rfl))) (da_cons bx (de_var (.inl (by decide)) rfl (.inl rfl)) da_nil))) (da_cons bx (c_call C_from_of bx (by decide) rfl (da_cons bx (de_var (.inl (by decide)) rfl (.inr (.inl rfl))) (da_cons bx (de_var (.inl (by decide)) rfl (.inl rfl)) da_nil))) (da_cons bx (c_callK (ks := ["number", "pairing"]) C_goal_of bx (by decide) rfl (kb_of (ks := ["number", "pairing"]) (ix := [1, 0]) C_goal_of.f fun _ _ _ _ _ _ ws hl => match ws, hl with | [_, _], _ => rfl) (dk_cons bx (de_var (.inl (by decide)) rfl (.inl rfl)) (dk_cons bx (de_var (.inl (by decide)) rfl (.inr (.inl rfl))) dk_nil))) (da_cons bx (c_callK (ks := ["number", "pairing"]) C_from_of bx (by decide) rfl (kb_of (ks := ["number", "pairing"]) (ix := [1, 0]) C_from_of.f fun _ _ _ _ _ _ ws hl => match ws, hl with | [_, _], _ => rfl) (dk_cons bx (de_var (.inl (by decide)) rfl (.inl rfl)) (dk_cons bx (de_var (.inl (by decide)) rfl (.inr (.inl rfl))) dk_nil))) da_nil))))) (da_cons bx (de_lst bx (da_cons bx (de_var (.inl (by decide)) rfl (.inl rfl)) (da_cons bx (de_var (.inl (by decide)) rfl (.inl rfl)) (da_cons bx (de_var (.inl (by decide)) rfl (.inl rfl)) (da_cons bx (de_var (.inl (by decide)) rfl (.inl rfl)) da_nil))))) da_nil))))) (dss_one (ds_ret de_bl)) dss_nil)
    (dss_one (ds_if (DW.dt (dw_or (DW.dt (dw_and (dt_cmp bx od_isnot (de_var (.inl (by decide)) rfl (.inl rfl)) de_non (by rfl)) (dw_and1 (dt_cmp bx (od_ne (Bx.K bx) (Bx.u64 bx)) (c_call C_from_of bx (by decide) rfl (da_cons bx (de_var (.inl (by decide)) rfl (.inr (.inl rfl))) (da_cons bx (de_var (.inl (by decide)) rfl (.inl rfl)) da_nil))) (de_var (.inl (by decide)) rfl (.inl rfl)) (by rfl))))) (dw_or1 (DW.dt (dw_and (dt_cmp bx od_isnot (de_var (.inl (by decide)) rfl (.inl rfl)) de_non (by rfl)) (dw_and1 (dt_cmp bx (od_ne (Bx.K bx) (Bx.u64 bx)) (c_call C_goal_of bx (by decide) rfl (da_cons bx (de_var (.inl (by decide)) rfl (.inr (.inl rfl))) (da_cons bx (de_var (.inl (by decide)) rfl (.inl rfl)) da_nil))) (de_var (.inl (by decide)) rfl (.inl rfl)) (by rfl)))))))) (dss_one (ds_ret de_bl)) dss_nil)))))
    (dss_cons (ds_asg (c_call C__law_pick bx (by decide) rfl (da_cons bx (de_var (.inl (by decide)) rfl (.inr (.inl rfl))) (da_cons bx (de_lst bx (da_cons bx (de_tup bx (da_cons bx (de_var (.inl (by decide)) rfl (.inl rfl)) (da_cons bx (de_var (.inl (by decide)) rfl (.inl rfl)) (da_cons bx de_int (da_cons bx (de_var (.inl (by decide)) rfl (.inl rfl)) da_nil))))) (da_cons bx (de_tup bx (da_cons bx (de_var (.inl (by decide)) rfl (.inl rfl)) (da_cons bx (de_var (.inl (by decide)) rfl (.inl rfl)) (da_cons bx (de_var (.inl (by decide)) rfl (.inl rfl)) (da_cons bx de_int da_nil))))) (da_cons bx (de_tup bx (da_cons bx (de_var (.inl (by decide)) rfl (.inl rfl)) (da_cons bx (de_var (.inl (by decide)) rfl (.inl rfl)) (da_cons bx (de_var (.inl (by decide)) rfl (.inl rfl)) da_nil)))) (da_cons bx (DR.de bx (dr_list bx (di_of (de_var (.inl (by decide)) rfl (.inr (.inl rfl)))) rfl T.nb_list)) (da_cons bx (de_tup bx (da_cons bx (de_var (.inl (by decide)) rfl (.inl rfl)) (da_cons bx (de_var (.inl (by decide)) rfl (.inl rfl)) (da_cons bx (de_var (.inl (by decide)) rfl (.inl rfl)) (da_cons bx de_int da_nil))))) (da_cons bx (de_tup bx (da_cons bx (n_sub bx de_int de_int) (da_cons bx (de_var (.inl (by decide)) rfl (.inl rfl)) (da_cons bx (de_var (.inl (by decide)) rfl (.inl rfl)) (da_cons bx (de_var (.inl (by decide)) rfl (.inl rfl)) da_nil))))) (da_cons bx (de_tup bx (da_cons bx (de_var (.inl (by decide)) rfl (.inl rfl)) (da_cons bx (n_add bx (n_sub bx (n_pow bx de_int de_int) (de_var (.inl (by decide)) rfl (.inl rfl))) de_int) (da_cons bx (de_var (.inl (by decide)) rfl (.inl rfl)) (da_cons bx (de_var (.inl (by decide)) rfl (.inl rfl)) da_nil))))) (da_cons bx (de_tup bx (da_cons bx (de_var (.inl (by decide)) rfl (.inl rfl)) (da_cons bx (n_sub bx (n_pow bx de_int de_int) (de_var (.inl (by decide)) rfl (.inl rfl))) (da_cons bx (de_var (.inl (by decide)) rfl (.inl rfl)) (da_cons bx (de_var (.inl (by decide)) rfl (.inl rfl)) da_nil))))) (da_cons bx (de_tup bx (da_cons bx (de_var (.inl (by decide)) rfl (.inl rfl)) (da_cons bx (de_var (.inl (by decide)) rfl (.inl rfl)) (da_cons bx (de_var (.inl (by decide)) rfl (.inl rfl)) (da_cons bx (de_cmp bx (od_eq (Bx.K bx) (Bx.u64 bx)) (de_var (.inl (by decide)) rfl (.inl rfl)) de_int (by rfl)) da_nil))))) da_nil)))))))))) da_nil))) (dg_name bx (by decide) rfl (.inl rfl)))
    (dss_cons (ds_for fx (df_seq bx (de_lst bx (da_cons bx (de_var (.inl (by decide)) rfl (.inl rfl)) (da_cons bx (c_call C__law_no_pairing bx (by decide) rfl (da_cons bx (de_var (.inl (by decide)) rfl (.inr (.inl rfl))) da_nil)) (da_cons bx (c_call C__law_odd bx (by decide) rfl (da_cons bx (de_var (.inl (by decide)) rfl (.inr (.inl rfl))) da_nil)) da_nil))))) (dg_name bx (by decide) rfl (.inl rfl)) (dss_cons (ds_asg (c_call C__law_is_pairing bx (by decide) rfl (da_cons bx (de_var (.inl (by decide)) rfl (.inl rfl)) (da_cons bx (n_pow bx de_int de_int) da_nil))) (dg_name bx (by decide) rfl (.inl rfl)))
    (dss_one (ds_if (dt_not (dt_val (c_call C__law_says bx (by decide) rfl (da_cons bx (de_lst bx (da_cons bx (c_call C_is_pairing bx (by decide) rfl (da_cons bx (de_var (.inl (by decide)) rfl (.inl rfl)) da_nil)) (da_cons bx (c_callK (ks := ["thing"]) C_is_pairing bx (by decide) rfl (kb_of (ks := ["thing"]) (ix := [0]) C_is_pairing.f fun _ _ _ _ _ _ ws hl => match ws, hl with | [_], _ => rfl) (dk_cons bx (de_var (.inl (by decide)) rfl (.inl rfl)) dk_nil)) da_nil))) (da_cons bx (de_lst bx (da_cons bx (de_var (.inl (by decide)) rfl (.inl rfl)) (da_cons bx (de_var (.inl (by decide)) rfl (.inl rfl)) da_nil))) da_nil))))) (dss_one (ds_ret de_bl)) dss_nil))))
    (dss_cons (ds_asg (c_call C__law_no_pairing bx (by decide) rfl (da_cons bx (de_var (.inl (by decide)) rfl (.inr (.inl rfl))) da_nil)) (dg_name bx (by decide) rfl (.inr rfl)))
    (dss_cons (ds_comp (own := [("work", 17)]) bx rfl rfl (by rfl) (by exact CompOk.mk (own := [("work", 17)]) (dc_seq bx (di_of (de_lst bx (da_cons bx (de_fn (by rfl) C_turned.m) (da_cons bx (de_fn (by rfl) C_mended.m) da_nil))))) (blkOk_by (by rfl)) (by decide) (by decide) (fun s1 h1 c1 cl1 fp1 => (dg_name (Bx.blk bx s1 h1 c1 cl1 fp1) (by decide) rfl (.inr rfl))) (fun s1 h1 c1 cl1 fp1 => dts_nil) (fun s1 h1 c1 cl1 fp1 => (de_isE (Bx.blk bx s1 h1 c1 cl1 fp1) rfl T.nb_isinstance rfl T.e_BadPairing.gC T.t_BadPairing (c_caught (k := 5) T.ct T.lam__law_right hc rfl (Bx.blk bx s1 h1 c1 cl1 fp1) rfl rfl (lamS_by (by rfl)) rfl (fun _ _ _ _ _ => rfl) (by exact fun _ _ _ _ _ _ _ bl2 => (de_callV bl2 (tab_ok_cons (j := 4) (by decide) C_turned (tab_ok_cons (j := 4) (by decide) C_mended (tab_ok_cons (j := 4) (by decide) C_goal_of (tab_ok_cons (j := 4) (by decide) C_from_of (tab_ok_nil))))) rfl (.inr (.inr rfl)) (by decide) (da_cons bl2 (de_var (.inl (by decide)) rfl (.inr (.inr rfl))) da_nil))))))))
    (dss_cons (ds_asg (n_add bx (de_var (.inl (by decide)) rfl (.inl rfl)) (DR.de bx (dr_comp (own := [("work", 17)]) bx (by exact CompOk.mk (own := [("work", 17)]) (dc_seq bx (di_of (de_lst bx (da_cons bx (de_fn (by rfl) C_goal_of.m) (da_cons bx (de_fn (by rfl) C_from_of.m) da_nil))))) (blkOk_by (by rfl)) (by decide) (by decide) (fun s3 h3 c3 cl3 fp3 => (dg_name (Bx.blk bx s3 h3 c3 cl3 fp3) (by decide) rfl (.inr rfl))) (fun s3 h3 c3 cl3 fp3 => dts_nil) (fun s3 h3 c3 cl3 fp3 => (de_isE (Bx.blk bx s3 h3 c3 cl3 fp3) rfl T.nb_isinstance rfl T.e_BadPairing.gC T.t_BadPairing (c_caught (k := 5) T.ct T.lam__law_right hc rfl (Bx.blk bx s3 h3 c3 cl3 fp3) rfl rfl (lamS_by (by rfl)) rfl (fun _ _ _ _ _ => rfl) (by exact fun _ _ _ _ _ _ _ bl4 => (de_callV bl4 (tab_ok_cons (j := 4) (by decide) C_turned (tab_ok_cons (j := 4) (by decide) C_mended (tab_ok_cons (j := 4) (by decide) C_goal_of (tab_ok_cons (j := 4) (by decide) C_from_of (tab_ok_nil))))) rfl (.inr (.inr rfl)) (by decide) (da_cons bl4 (de_var (.inl (by decide)) rfl (.inr (.inr rfl))) (da_cons bl4 de_non da_nil))))))))))) (dg_name bx (by decide) rfl (.inl rfl)))
    (dss_one (ds_ret (de_cmp bx (od_eq (Bx.K bx) (Bx.u64 bx)) (n_add bx (de_var (.inl (by decide)) rfl (.inl rfl)) (DR.de bx (dr_comp (own := [("work", 17)]) bx (by exact CompOk.mk (own := [("work", 17)]) (dc_seq bx (di_of (de_lst bx (da_cons bx (de_fn (by rfl) C_goal_of.m) (da_cons bx (de_fn (by rfl) C_from_of.m) da_nil))))) (blkOk_by (by rfl)) (by decide) (by decide) (fun s5 h5 c5 cl5 fp5 => (dg_name (Bx.blk bx s5 h5 c5 cl5 fp5) (by decide) rfl (.inr rfl))) (fun s5 h5 c5 cl5 fp5 => dts_nil) (fun s5 h5 c5 cl5 fp5 => (de_isE (Bx.blk bx s5 h5 c5 cl5 fp5) rfl T.nb_isinstance rfl T.e_BadNumber.gC T.t_BadNumber (c_caught (k := 5) T.ct T.lam__law_right hc rfl (Bx.blk bx s5 h5 c5 cl5 fp5) rfl rfl (lamS_by (by rfl)) rfl (fun _ _ _ _ _ => rfl) (by exact fun _ _ _ _ _ _ _ bl6 => (de_callV bl6 (tab_ok_cons (j := 4) (by decide) C_turned (tab_ok_cons (j := 4) (by decide) C_mended (tab_ok_cons (j := 4) (by decide) C_goal_of (tab_ok_cons (j := 4) (by decide) C_from_of (tab_ok_nil))))) rfl (.inr (.inr rfl)) (by decide) (da_cons bl6 (de_var (.inl (by decide)) rfl (.inr (.inr rfl))) (da_cons bl6 (c_call C__law_pick bl6 (by decide) rfl (da_cons bl6 (de_var (.inl (by decide)) rfl (.inr (.inr rfl))) (da_cons bl6 (de_lst bl6 (da_cons bl6 de_non (da_cons bl6 de_bl (da_cons bl6 de_str (da_cons bl6 (de_tup bl6 (da_cons bl6 de_int da_nil)) da_nil))))) da_nil))) da_nil))))))))))) (n_mul bx (de_lst bx (da_cons bx de_bl da_nil)) de_int) (by rfl))))))))))))))))
structure Defs (P : Program) (w : World) (K : PySem.W.Frag) (mg : Str → Option Value) (base : Heap) (g : G) : Prop where
  c_is_whole : ∃ fd_is_whole, VS.Cl P w K mg base g s_is_whole "is_whole" 2 1 fd_is_whole ["thing"] m_is_whole
  c_is_pairing_by : ∃ fd_is_pairing_by, VS.Cl P w K mg base g s_is_pairing_by "is_pairing_by" 8 2 fd_is_pairing_by ["thing", "length"] m_is_pairing_by
  c_need_pairing : ∃ fd_need_pairing, VS.Cl P w K mg base g s_need_pairing "need_pairing" 9 3 fd_need_pairing ["pairing"] m_need_pairing
  c_goal_by : ∃ fd_goal_by, VS.Cl P w K mg base g s_goal_by "goal_by" 10 1 fd_goal_by ["pairing", "number"] m_goal_by
  c_turned_by : ∃ fd_turned_by, VS.Cl P w K mg base g s_turned_by "turned_by" 11 1 fd_turned_by ["pairing"] m_turned_by
  c_is_pairing : ∃ fd_is_pairing, VS.Cl P w K mg base g s_is_pairing "is_pairing" 12 3 fd_is_pairing ["thing"] m_is_pairing
  c_goal_of : ∃ fd_goal_of, VS.Cl P w K mg base g s_goal_of "goal_of" 13 4 fd_goal_of ["pairing", "number"] m_goal_of
  c_from_of : ∃ fd_from_of, VS.Cl P w K mg base g s_from_of "from_of" 14 4 fd_from_of ["pairing", "number"] m_from_of
  c_turned : ∃ fd_turned, VS.Cl P w K mg base g s_turned "turned" 15 4 fd_turned ["pairing"] m_turned
  c_mended : ∃ fd_mended, VS.Cl P w K mg base g s_mended "mended" 16 4 fd_mended ["pairing"] m_mended
  c__law_mixed : ∃ fd__law_mixed, VS.Cl P w K mg base g s__law_mixed "_law_mixed" 19 1 fd__law_mixed ["draw"] m__law_mixed
  c__law_take : ∃ fd__law_take, VS.Cl P w K mg base g s__law_take "_law_take" 20 2 fd__law_take ["draw", "amount"] m__law_take
  c__law_pick : ∃ fd__law_pick, VS.Cl P w K mg base g s__law_pick "_law_pick" 21 3 fd__law_pick ["draw", "items"] m__law_pick
  c__law_kinds : ∃ fd__law_kinds, VS.Cl P w K mg base g s__law_kinds "_law_kinds" 23 3 fd__law_kinds ["thing"] m__law_kinds
  c__law_says : ∃ fd__law_says, VS.Cl P w K mg base g s__law_says "_law_says" 24 4 fd__law_says ["told", "due"] m__law_says
  c__law_is_number : ∃ fd__law_is_number, VS.Cl P w K mg base g s__law_is_number "_law_is_number" 25 1 fd__law_is_number ["thing"] m__law_is_number
  c__law_odd : ∃ fd__law_odd, VS.Cl P w K mg base g s__law_odd "_law_odd" 26 4 fd__law_odd ["draw"] m__law_odd
  c__law_is_pairing : ∃ fd__law_is_pairing, VS.Cl P w K mg base g s__law_is_pairing "_law_is_pairing" 27 2 fd__law_is_pairing ["thing", "length"] m__law_is_pairing
  c__law_goal : ∃ fd__law_goal, VS.Cl P w K mg base g s__law_goal "_law_goal" 28 1 fd__law_goal ["pairing", "number"] m__law_goal
  c__law_back : ∃ fd__law_back, VS.Cl P w K mg base g s__law_back "_law_back" 29 1 fd__law_back ["pairing"] m__law_back
  c__law_pairing : ∃ fd__law_pairing, VS.Cl P w K mg base g s__law_pairing "_law_pairing" 30 4 fd__law_pairing ["draw", "length"] m__law_pairing
  c__law_far_pairing : ∃ fd__law_far_pairing, VS.Cl P w K mg base g s__law_far_pairing "_law_far_pairing" 31 4 fd__law_far_pairing ["draw", "length"] m__law_far_pairing
  c__law_no_pairing : ∃ fd__law_no_pairing, VS.Cl P w K mg base g s__law_no_pairing "_law_no_pairing" 32 4 fd__law_no_pairing ["draw"] m__law_no_pairing
  c__law_long_pairing : ∃ fd__law_long_pairing, VS.Cl P w K mg base g s__law_long_pairing "_law_long_pairing" 33 5 fd__law_long_pairing ["draw"] m__law_long_pairing
  c__law_right : ∃ fd__law_right, VS.Cl P w K mg base g s__law_right "_law_right" 34 8 fd__law_right ["draw"] m__law_right
theorem defs_ok (T : Txt K mg base g) : Defs P w K mg base g := by
  obtain ⟨fd_is_whole, F_is_whole⟩ := T.f_is_whole
  have C_is_whole : VS.Cl P w K mg base g s_is_whole "is_whole" 2 1 fd_is_whole ["thing"] m_is_whole := ⟨ok_is_whole F_is_whole T, T.m_is_whole, F_is_whole, F_is_whole.binds (ps := ["thing"]) fun _ _ _ _ _ _ us hl => match us, hl with | [_], _ => rfl⟩
  obtain ⟨fd_is_pairing_by, F_is_pairing_by⟩ := T.f_is_pairing_by
  have C_is_pairing_by : VS.Cl P w K mg base g s_is_pairing_by "is_pairing_by" 8 2 fd_is_pairing_by ["thing", "length"] m_is_pairing_by := ⟨ok_is_pairing_by F_is_pairing_by T C_is_whole, T.m_is_pairing_by, F_is_pairing_by, F_is_pairing_by.binds (ps := ["thing", "length"]) fun _ _ _ _ _ _ us hl => match us, hl with | [_, _], _ => rfl⟩
  obtain ⟨fd_need_pairing, F_need_pairing⟩ := T.f_need_pairing
  have C_need_pairing : VS.Cl P w K mg base g s_need_pairing "need_pairing" 9 3 fd_need_pairing ["pairing"] m_need_pairing := ⟨ok_need_pairing F_need_pairing T C_is_pairing_by, T.m_need_pairing, F_need_pairing, F_need_pairing.binds (ps := ["pairing"]) fun _ _ _ _ _ _ us hl => match us, hl with | [_], _ => rfl⟩
  obtain ⟨fd_goal_by, F_goal_by⟩ := T.f_goal_by
  have C_goal_by : VS.Cl P w K mg base g s_goal_by "goal_by" 10 1 fd_goal_by ["pairing", "number"] m_goal_by := ⟨ok_goal_by F_goal_by T, T.m_goal_by, F_goal_by, F_goal_by.binds (ps := ["pairing", "number"]) fun _ _ _ _ _ _ us hl => match us, hl with | [_, _], _ => rfl⟩
  obtain ⟨fd_turned_by, F_turned_by⟩ := T.f_turned_by
  have C_turned_by : VS.Cl P w K mg base g s_turned_by "turned_by" 11 1 fd_turned_by ["pairing"] m_turned_by := ⟨ok_turned_by F_turned_by T, T.m_turned_by, F_turned_by, F_turned_by.binds (ps := ["pairing"]) fun _ _ _ _ _ _ us hl => match us, hl with | [_], _ => rfl⟩
  obtain ⟨fd_is_pairing, F_is_pairing⟩ := T.f_is_pairing
  have C_is_pairing : VS.Cl P w K mg base g s_is_pairing "is_pairing" 12 3 fd_is_pairing ["thing"] m_is_pairing := ⟨ok_is_pairing F_is_pairing T C_is_pairing_by, T.m_is_pairing, F_is_pairing, F_is_pairing.binds (ps := ["thing"]) fun _ _ _ _ _ _ us hl => match us, hl with | [_], _ => rfl⟩
  obtain ⟨fd_goal_of, F_goal_of⟩ := T.f_goal_of
  have C_goal_of : VS.Cl P w K mg base g s_goal_of "goal_of" 13 4 fd_goal_of ["pairing", "number"] m_goal_of := ⟨ok_goal_of F_goal_of T C_need_pairing C_is_whole C_goal_by, T.m_goal_of, F_goal_of, F_goal_of.binds (ps := ["pairing", "number"]) fun _ _ _ _ _ _ us hl => match us, hl with | [_, _], _ => rfl⟩
  obtain ⟨fd_from_of, F_from_of⟩ := T.f_from_of
  have C_from_of : VS.Cl P w K mg base g s_from_of "from_of" 14 4 fd_from_of ["pairing", "number"] m_from_of := ⟨ok_from_of F_from_of T C_need_pairing C_is_whole C_goal_by C_turned_by, T.m_from_of, F_from_of, F_from_of.binds (ps := ["pairing", "number"]) fun _ _ _ _ _ _ us hl => match us, hl with | [_, _], _ => rfl⟩
  obtain ⟨fd_turned, F_turned⟩ := T.f_turned
  have C_turned : VS.Cl P w K mg base g s_turned "turned" 15 4 fd_turned ["pairing"] m_turned := ⟨ok_turned F_turned T C_need_pairing C_turned_by, T.m_turned, F_turned, F_turned.binds (ps := ["pairing"]) fun _ _ _ _ _ _ us hl => match us, hl with | [_], _ => rfl⟩
  obtain ⟨fd_mended, F_mended⟩ := T.f_mended
  have C_mended : VS.Cl P w K mg base g s_mended "mended" 16 4 fd_mended ["pairing"] m_mended := ⟨ok_mended F_mended T C_need_pairing C_turned_by, T.m_mended, F_mended, F_mended.binds (ps := ["pairing"]) fun _ _ _ _ _ _ us hl => match us, hl with | [_], _ => rfl⟩
  obtain ⟨fd__law_mixed, F__law_mixed⟩ := T.f__law_mixed
  have C__law_mixed : VS.Cl P w K mg base g s__law_mixed "_law_mixed" 19 1 fd__law_mixed ["draw"] m__law_mixed := ⟨ok__law_mixed F__law_mixed T, T.m__law_mixed, F__law_mixed, F__law_mixed.binds (ps := ["draw"]) fun _ _ _ _ _ _ us hl => match us, hl with | [_], _ => rfl⟩
  obtain ⟨fd__law_take, F__law_take⟩ := T.f__law_take
  have C__law_take : VS.Cl P w K mg base g s__law_take "_law_take" 20 2 fd__law_take ["draw", "amount"] m__law_take := ⟨ok__law_take F__law_take T C__law_mixed, T.m__law_take, F__law_take, F__law_take.binds (ps := ["draw", "amount"]) fun _ _ _ _ _ _ us hl => match us, hl with | [_, _], _ => rfl⟩
  obtain ⟨fd__law_pick, F__law_pick⟩ := T.f__law_pick
  have C__law_pick : VS.Cl P w K mg base g s__law_pick "_law_pick" 21 3 fd__law_pick ["draw", "items"] m__law_pick := ⟨ok__law_pick F__law_pick T C__law_take, T.m__law_pick, F__law_pick, F__law_pick.binds (ps := ["draw", "items"]) fun _ _ _ _ _ _ us hl => match us, hl with | [_, _], _ => rfl⟩
  obtain ⟨fd__law_kinds, F__law_kinds⟩ := T.f__law_kinds
  have C__law_kinds : VS.Cl P w K mg base g s__law_kinds "_law_kinds" 23 3 fd__law_kinds ["thing"] m__law_kinds := ⟨ok__law_kinds F__law_kinds T, T.m__law_kinds, F__law_kinds, F__law_kinds.binds (ps := ["thing"]) fun _ _ _ _ _ _ us hl => match us, hl with | [_], _ => rfl⟩
  obtain ⟨fd__law_says, F__law_says⟩ := T.f__law_says
  have C__law_says : VS.Cl P w K mg base g s__law_says "_law_says" 24 4 fd__law_says ["told", "due"] m__law_says := ⟨ok__law_says F__law_says T C__law_kinds, T.m__law_says, F__law_says, F__law_says.binds (ps := ["told", "due"]) fun _ _ _ _ _ _ us hl => match us, hl with | [_, _], _ => rfl⟩
  obtain ⟨fd__law_is_number, F__law_is_number⟩ := T.f__law_is_number
  have C__law_is_number : VS.Cl P w K mg base g s__law_is_number "_law_is_number" 25 1 fd__law_is_number ["thing"] m__law_is_number := ⟨ok__law_is_number F__law_is_number T, T.m__law_is_number, F__law_is_number, F__law_is_number.binds (ps := ["thing"]) fun _ _ _ _ _ _ us hl => match us, hl with | [_], _ => rfl⟩
  obtain ⟨fd__law_odd, F__law_odd⟩ := T.f__law_odd
  have C__law_odd : VS.Cl P w K mg base g s__law_odd "_law_odd" 26 4 fd__law_odd ["draw"] m__law_odd := ⟨ok__law_odd F__law_odd T C__law_pick, T.m__law_odd, F__law_odd, F__law_odd.binds (ps := ["draw"]) fun _ _ _ _ _ _ us hl => match us, hl with | [_], _ => rfl⟩
  obtain ⟨fd__law_is_pairing, F__law_is_pairing⟩ := T.f__law_is_pairing
  have C__law_is_pairing : VS.Cl P w K mg base g s__law_is_pairing "_law_is_pairing" 27 2 fd__law_is_pairing ["thing", "length"] m__law_is_pairing := ⟨ok__law_is_pairing F__law_is_pairing T C__law_is_number, T.m__law_is_pairing, F__law_is_pairing, F__law_is_pairing.binds (ps := ["thing", "length"]) fun _ _ _ _ _ _ us hl => match us, hl with | [_, _], _ => rfl⟩
  obtain ⟨fd__law_goal, F__law_goal⟩ := T.f__law_goal
  have C__law_goal : VS.Cl P w K mg base g s__law_goal "_law_goal" 28 1 fd__law_goal ["pairing", "number"] m__law_goal := ⟨ok__law_goal F__law_goal T, T.m__law_goal, F__law_goal, F__law_goal.binds (ps := ["pairing", "number"]) fun _ _ _ _ _ _ us hl => match us, hl with | [_, _], _ => rfl⟩
  obtain ⟨fd__law_back, F__law_back⟩ := T.f__law_back
  have C__law_back : VS.Cl P w K mg base g s__law_back "_law_back" 29 1 fd__law_back ["pairing"] m__law_back := ⟨ok__law_back F__law_back T, T.m__law_back, F__law_back, F__law_back.binds (ps := ["pairing"]) fun _ _ _ _ _ _ us hl => match us, hl with | [_], _ => rfl⟩
  obtain ⟨fd__law_pairing, F__law_pairing⟩ := T.f__law_pairing
  have C__law_pairing : VS.Cl P w K mg base g s__law_pairing "_law_pairing" 30 4 fd__law_pairing ["draw", "length"] m__law_pairing := ⟨ok__law_pairing F__law_pairing T C__law_take C__law_pick, T.m__law_pairing, F__law_pairing, F__law_pairing.binds (ps := ["draw", "length"]) fun _ _ _ _ _ _ us hl => match us, hl with | [_, _], _ => rfl⟩
  obtain ⟨fd__law_far_pairing, F__law_far_pairing⟩ := T.f__law_far_pairing
  have C__law_far_pairing : VS.Cl P w K mg base g s__law_far_pairing "_law_far_pairing" 31 4 fd__law_far_pairing ["draw", "length"] m__law_far_pairing := ⟨ok__law_far_pairing F__law_far_pairing T C__law_take C__law_pick, T.m__law_far_pairing, F__law_far_pairing, F__law_far_pairing.binds (ps := ["draw", "length"]) fun _ _ _ _ _ _ us hl => match us, hl with | [_, _], _ => rfl⟩
  obtain ⟨fd__law_no_pairing, F__law_no_pairing⟩ := T.f__law_no_pairing
  have C__law_no_pairing : VS.Cl P w K mg base g s__law_no_pairing "_law_no_pairing" 32 4 fd__law_no_pairing ["draw"] m__law_no_pairing := ⟨ok__law_no_pairing F__law_no_pairing T C__law_pick, T.m__law_no_pairing, F__law_no_pairing, F__law_no_pairing.binds (ps := ["draw"]) fun _ _ _ _ _ _ us hl => match us, hl with | [_], _ => rfl⟩
  obtain ⟨fd__law_long_pairing, F__law_long_pairing⟩ := T.f__law_long_pairing
  have C__law_long_pairing : VS.Cl P w K mg base g s__law_long_pairing "_law_long_pairing" 33 5 fd__law_long_pairing ["draw"] m__law_long_pairing := ⟨ok__law_long_pairing F__law_long_pairing T C__law_pick C__law_far_pairing C__law_take C__law_pairing, T.m__law_long_pairing, F__law_long_pairing, F__law_long_pairing.binds (ps := ["draw"]) fun _ _ _ _ _ _ us hl => match us, hl with | [_], _ => rfl⟩
  obtain ⟨fd__law_right, F__law_right⟩ := T.f__law_right
  have C__law_right : VS.Cl P w K mg base g s__law_right "_law_right" 34 8 fd__law_right ["draw"] m__law_right := ⟨ok__law_right F__law_right T C__law_long_pairing C__law_back C_mended C_turned C_is_pairing C__law_says C__law_take C__law_goal C_from_of C_goal_of C__law_pick C__law_odd C__law_no_pairing C__law_is_pairing, T.m__law_right, F__law_right, F__law_right.binds (ps := ["draw"]) fun _ _ _ _ _ _ us hl => match us, hl with | [_], _ => rfl⟩
  exact ⟨⟨_, C_is_whole⟩, ⟨_, C_is_pairing_by⟩, ⟨_, C_need_pairing⟩, ⟨_, C_goal_by⟩, ⟨_, C_turned_by⟩, ⟨_, C_is_pairing⟩, ⟨_, C_goal_of⟩, ⟨_, C_from_of⟩, ⟨_, C_turned⟩, ⟨_, C_mended⟩, ⟨_, C__law_mixed⟩, ⟨_, C__law_take⟩, ⟨_, C__law_pick⟩, ⟨_, C__law_kinds⟩, ⟨_, C__law_says⟩, ⟨_, C__law_is_number⟩, ⟨_, C__law_odd⟩, ⟨_, C__law_is_pairing⟩, ⟨_, C__law_goal⟩, ⟨_, C__law_back⟩, ⟨_, C__law_pairing⟩, ⟨_, C__law_far_pairing⟩, ⟨_, C__law_no_pairing⟩, ⟨_, C__law_long_pairing⟩, ⟨_, C__law_right⟩⟩
theorem sc__law_begun : FnScope ["script", "cell", "whole", "cells"] ["script"] (defScope s__law_begun) := ⟨rfl, rfl, rfl, by decide +kernel, rfl, by decide +kernel, by decide +kernel⟩
theorem sc_law : FnScope ["script", "draw", "lap", "told"] ["script"] (defScope s_law) := ⟨rfl, rfl, rfl, by decide +kernel, rfl, by decide +kernel, by decide +kernel⟩
theorem ok__law_begun {fd : FuncData} (F : Fun K "_law_begun" "_law_begun" s__law_begun (g.fv 18) fd) (T : Txt K mg base g) : FnOk P w K mg base (L2.CX P w) 1 (g.fv 18) fd ["script"] (spBegun g 3 2 3 b__law_begun) := by
  obtain ⟨oc, od, kV, doc, pm, an, cdv, ct, osl, rfl, lk, hcd⟩ := F.ex
  refine fn_of lk hcd sc__law_begun (fun vs H Q E h => ?_) (fun A outer s H vs Q E hr h => ?_)
  · obtain ⟨a, ns, F0, s, s', ρ', w, cs, rfl, _⟩ := h
    rfl
  · obtain ⟨a, ns, F0, sd, s', ρ', w', cs, rfl, hF, ra, wd, hm, e1, e2, k⟩ := h
    refine Exists.imp (fun t ht => ⟨ht.1, ht.2 H F0 _ sd _ H _ ρ' s' w' cs (sim_start (n := 3) rfl (by decide) hF ra wd) hm e1 e2 k⟩) (begun_body (ω := [3]) (m1 := (sPar [2, 3] (eCons (eC (.int 0)) (eCons (eArgs opLst eNil) eNil)))) (m2 := (sFor (tName 1) (eScr (eVar 0)) (sIf (eTest (eUn (dIs "int") (eVar 1))) (sCons (sIf (eTest (eBin opGe (eVar 1) (eBin opPow (eC (.int 10)) (eC (.int 18))))) (sAsg (tName 2) (eBin opAdd (eBin opMul (eVar 2) (eBin opAdd (eBin opSub (eVar 1) (eBin opPow (eC (.int 10)) (eC (.int 18)))) (eC (.int 1)))) (eBin opSub (eVar 1) (eBin opPow (eC (.int 10)) (eC (.int 18)))))) sNil)
    (sApp 3 (eVar 1))) sNil))) (fx_of (P := P) (w := w) T.hK sc__law_begun hr).bx ?_ ?_ rfl (.inl rfl) (by decide) rfl (.inl rfl) (by decide))
    · have fx := fx_of (P := P) (w := w) (mg := mg) (base := base) (x := "_law_begun") (f := g.fv 18) (cdv := cdv) (A := A) (outer := outer) (s := s) (H := H) (E := E) T.hK sc__law_begun hr
      have bx := fx.bx
      exact (ds_par2 bx rfl rfl (by decide) rfl rfl (dx_val bx (by decide) de_int (dx_root bx (by decide) (dr_lst bx da_nil) dx_nil)) (by rfl))
    · have fx := fx_of (P := P) (w := w) (mg := mg) (base := base) (x := "_law_begun") (f := g.fv 18) (cdv := cdv) (A := A) (outer := outer) (s := s) (H := H) (E := E) T.hK sc__law_begun hr
      have bx := fx.bx
      exact (ds_for fx (df_scr bx (de_var (.inl (by decide)) rfl (.inl rfl))) (dg_name bx (by decide) rfl (.inl rfl)) (dss_one (ds_if (dt_val (de_isi bx rfl T.nb_isinstance rfl T.nb_int (by rfl) (de_var (.inl (by decide)) rfl (.inl rfl)))) (dss_cons (ds_if (dt_cmp bx od_ge (de_var (.inl (by decide)) rfl (.inl rfl)) (n_pow bx de_int de_int) (by rfl)) (dss_one (ds_asg (n_add bx (n_mul bx (de_var (.inl (by decide)) rfl (.inl rfl)) (n_add bx (n_sub bx (de_var (.inl (by decide)) rfl (.inl rfl)) (n_pow bx de_int de_int)) de_int)) (n_sub bx (de_var (.inl (by decide)) rfl (.inl rfl)) (n_pow bx de_int de_int))) (dg_name bx (by decide) rfl (.inl rfl)))) dss_nil)
    (dss_one (ds_app bx (by decide) rfl (.inl rfl) (de_var (.inl (by decide)) rfl (.inl rfl))))) dss_nil)))
theorem ok_law {fd : FuncData} (F : Fun K "law" "law" s_law (g.fv 35) fd) (TA : ∀ sc dr, Txt K mg base { g with sc := sc, dr := dr }) : FnOk P w K mg base (L2.CX P w) 9 (g.fv 35) fd ["script"] (spLaw g 3 2 3 2 b__law_begun b_law1) := by
  obtain ⟨oc, od, kV, doc, pm, an, cdv, ct, osl, rfl, lk, hcd⟩ := F.ex
  refine fn_of lk hcd sc_law (fun vs H Q E h => ?_) (fun A outer s H vs Q E hr h => ?_)
  · obtain ⟨a, ns, s, s', r, ρ', w, cs, rfl, _⟩ := h
    rfl
  · obtain ⟨a, ns, sd, s', r, ρ', w', cs, rfl, tabs, sq, hm, e1, e2, hmr, k⟩ := h
    have T0 := TA (some (a, ns)) none
    obtain ⟨F0, hF0, ra⟩ := rep_scr sq
    obtain ⟨fdB, FB⟩ := T0.f__law_begun
    have hc : HasCode K (g.fv 35) cdv := ⟨oc, od, osl, _, lk, rfl⟩
    refine Exists.imp (fun t ht => ⟨ht.1, ht.2 a ns F0 sd s' ρ' w' cs H _ r rfl hF0 ra (wd_start tabs rfl) hm e1 e2 hmr k⟩) (law_body (g := g.sc_ a ns) (N1 := 2) (ω := []) (m := b_law1) (fx_of (P := P) (w := w) T0.hK sc_law hr) rfl (ok__law_begun (P := P) (w := w) FB T0) (by decide) T0.m__law_begun FB.kp (FB.binds (ps := ["script"]) fun _ _ _ _ _ _ us hl => match us, hl with | [_], _ => rfl)
      rfl rfl (.inl rfl) rfl (.inl rfl) (.inr rfl) (by decide) (by rfl) (by rfl) (by rfl) fun p c => ?_)
    have T := TA (some (a, ns)) (some (p, c))
    have DD := defs_ok (P := P) (w := w) T
    obtain ⟨fd__law_right, C__law_right⟩ := DD.c__law_right
    obtain ⟨fd_is_pairing, C_is_pairing⟩ := DD.c_is_pairing
    obtain ⟨fd_mended, C_mended⟩ := DD.c_mended
    obtain ⟨fd_from_of, C_from_of⟩ := DD.c_from_of
    obtain ⟨fd_goal_of, C_goal_of⟩ := DD.c_goal_of
    obtain ⟨fd__law_says, C__law_says⟩ := DD.c__law_says
    have fx := fx_of (P := P) (w := w) (mg := mg) (base := base) (x := "law") (f := g.fv 35) (cdv := cdv) (A := A) (outer := outer) (s := s) (H := H) (E := E) T.hK sc_law hr
    have bx := fx.bx
    exact (dss_cons (ds_for fx (df_range1 rfl T.nb_range (da_cons bx (n_add bx de_int (de_callB bx (cd_min (Bx.K bx) (Bx.calm bx)) rfl T.nb_min (by rfl) (da_cons bx (de_callB bx (cd_lenX (Bx.K bx)) rfl T.nb_len (by rfl) (da_cons bx (de_var (.inl (by decide)) rfl (.inl rfl)) da_nil)) (da_cons bx de_int da_nil)))) da_nil)) (dg_name bx (by decide) rfl (.inl rfl)) (dss_one (ds_if (dt_not (dt_val (c_call C__law_right bx (by decide) rfl (da_cons bx (de_var (.inl (by decide)) rfl (.inl rfl)) da_nil)))) (dss_one (ds_ret de_bl)) dss_nil)))
    (dss_cons (ds_asg (de_lst bx (da_cons bx (c_call C_goal_of bx (by decide) rfl (da_cons bx (de_tup bx (da_cons bx de_int (da_cons bx de_int (da_cons bx de_int (da_cons bx (n_sub bx de_int de_int) da_nil))))) (da_cons bx de_int da_nil))) (da_cons bx (c_call C_goal_of bx (by decide) rfl (da_cons bx (de_tup bx (da_cons bx de_int (da_cons bx de_int (da_cons bx de_int (da_cons bx (n_sub bx de_int de_int) da_nil))))) (da_cons bx de_int da_nil))) (da_cons bx (c_call C_goal_of bx (by decide) rfl (da_cons bx (de_tup bx (da_cons bx de_int (da_cons bx de_int (da_cons bx de_int (da_cons bx (n_sub bx de_int de_int) da_nil))))) (da_cons bx de_int da_nil))) (da_cons bx (c_call C_from_of bx (by decide) rfl (da_cons bx (de_tup bx (da_cons bx de_int (da_cons bx de_int (da_cons bx de_int (da_cons bx de_int da_nil))))) (da_cons bx de_int da_nil))) (da_cons bx (c_call C_mended bx (by decide) rfl (da_cons bx (de_tup bx (da_cons bx de_int (da_cons bx de_int (da_cons bx de_int (da_cons bx de_int da_nil))))) da_nil)) (da_cons bx (c_call C_is_pairing bx (by decide) rfl (da_cons bx (de_tup bx (da_cons bx de_int (da_cons bx de_int (da_cons bx (n_pow bx de_int de_int) (da_cons bx de_int da_nil))))) da_nil)) (da_cons bx (c_call C_is_pairing bx (by decide) rfl (da_cons bx (de_tup bx (da_cons bx de_int (da_cons bx de_int (da_cons bx (n_pow bx de_int de_int) (da_cons bx de_int da_nil))))) da_nil)) da_nil)))))))) (dg_name bx (by decide) rfl (.inl rfl)))
    (dss_one (ds_ret (c_call C__law_says bx (by decide) rfl (da_cons bx (de_var (.inl (by decide)) rfl (.inl rfl)) (da_cons bx (de_lst bx (da_cons bx de_int (da_cons bx de_int (da_cons bx de_non (da_cons bx de_int (da_cons bx (de_tup bx (da_cons bx de_int (da_cons bx de_int (da_cons bx de_int (da_cons bx de_int da_nil))))) (da_cons bx de_bl (da_cons bx de_bl da_nil)))))))) da_nil)))))))
end
def fn : List He.DefD := [⟨("is_whole", none), "is_whole", "is_whole", defArgs s_is_whole, defBody s_is_whole, defScope s_is_whole, [], []⟩, ⟨("is_pairing_by", none), "is_pairing_by", "is_pairing_by", defArgs s_is_pairing_by, defBody s_is_pairing_by, defScope s_is_pairing_by, [], []⟩, ⟨("need_pairing", none), "need_pairing", "need_pairing", defArgs s_need_pairing, defBody s_need_pairing, defScope s_need_pairing, [], []⟩, ⟨("goal_by", none), "goal_by", "goal_by", defArgs s_goal_by, defBody s_goal_by, defScope s_goal_by, [], []⟩, ⟨("turned_by", none), "turned_by", "turned_by", defArgs s_turned_by, defBody s_turned_by, defScope s_turned_by, [], []⟩, ⟨("is_pairing", none), "is_pairing", "is_pairing", defArgs s_is_pairing, defBody s_is_pairing, defScope s_is_pairing, [], []⟩, ⟨("goal_of", none), "goal_of", "goal_of", defArgs s_goal_of, defBody s_goal_of, defScope s_goal_of, [], []⟩, ⟨("from_of", none), "from_of", "from_of", defArgs s_from_of, defBody s_from_of, defScope s_from_of, [], []⟩, ⟨("turned", none), "turned", "turned", defArgs s_turned, defBody s_turned, defScope s_turned, [], []⟩, ⟨("mended", none), "mended", "mended", defArgs s_mended, defBody s_mended, defScope s_mended, [], []⟩, ⟨("_law_begun", none), "_law_begun", "_law_begun", defArgs s__law_begun, defBody s__law_begun, defScope s__law_begun, [], []⟩, ⟨("_law_mixed", none), "_law_mixed", "_law_mixed", defArgs s__law_mixed, defBody s__law_mixed, defScope s__law_mixed, [], []⟩, ⟨("_law_take", none), "_law_take", "_law_take", defArgs s__law_take, defBody s__law_take, defScope s__law_take, [], []⟩, ⟨("_law_pick", none), "_law_pick", "_law_pick", defArgs s__law_pick, defBody s__law_pick, defScope s__law_pick, [], []⟩, ⟨("_law_caught", none), "_law_caught", "_law_caught", defArgs s__law_caught, defBody s__law_caught, defScope s__law_caught, [], []⟩, ⟨("_law_kinds", none), "_law_kinds", "_law_kinds", defArgs s__law_kinds, defBody s__law_kinds, defScope s__law_kinds, [], []⟩, ⟨("_law_says", none), "_law_says", "_law_says", defArgs s__law_says, defBody s__law_says, defScope s__law_says, [], []⟩, ⟨("_law_is_number", none), "_law_is_number", "_law_is_number", defArgs s__law_is_number, defBody s__law_is_number, defScope s__law_is_number, [], []⟩, ⟨("_law_odd", none), "_law_odd", "_law_odd", defArgs s__law_odd, defBody s__law_odd, defScope s__law_odd, [], []⟩, ⟨("_law_is_pairing", none), "_law_is_pairing", "_law_is_pairing", defArgs s__law_is_pairing, defBody s__law_is_pairing, defScope s__law_is_pairing, [], []⟩, ⟨("_law_goal", none), "_law_goal", "_law_goal", defArgs s__law_goal, defBody s__law_goal, defScope s__law_goal, [], []⟩, ⟨("_law_back", none), "_law_back", "_law_back", defArgs s__law_back, defBody s__law_back, defScope s__law_back, [], []⟩, ⟨("_law_pairing", none), "_law_pairing", "_law_pairing", defArgs s__law_pairing, defBody s__law_pairing, defScope s__law_pairing, [], []⟩, ⟨("_law_far_pairing", none), "_law_far_pairing", "_law_far_pairing", defArgs s__law_far_pairing, defBody s__law_far_pairing, defScope s__law_far_pairing, [], []⟩, ⟨("_law_no_pairing", none), "_law_no_pairing", "_law_no_pairing", defArgs s__law_no_pairing, defBody s__law_no_pairing, defScope s__law_no_pairing, [], []⟩, ⟨("_law_long_pairing", none), "_law_long_pairing", "_law_long_pairing", defArgs s__law_long_pairing, defBody s__law_long_pairing, defScope s__law_long_pairing, [], []⟩, ⟨("_law_right", none), "_law_right", "_law_right", defArgs s__law_right, defBody s__law_right, defScope s__law_right, [], []⟩, ⟨("law", none), "law", "law", defArgs s_law, defBody s_law, defScope s_law, [], []⟩]
def fa : List He.Fa := [.free "all", .free "bool", .free "dict", .free "int", .free "isinstance", .free "len", .free "list", .free "max", .free "min", .free "range", .free "repr", .free "sorted", .free "str", .free "tuple", .int "MOST_LINE" (1000000000000000000000000000000000000000000000000000000000000), .glo "BadNumber", .glo "BadPairing", .glo "StretchError", .exc "BadNumber", .exc "BadPairing", .glo "is_whole", .glo "is_pairing_by", .glo "need_pairing", .glo "goal_by", .glo "turned_by", .glo "is_pairing", .glo "goal_of", .glo "from_of", .glo "turned", .glo "mended", .glo "_law_begun", .glo "_law_mixed", .glo "_law_take", .glo "_law_pick", .glo "_law_caught", .glo "_law_kinds", .glo "_law_says", .glo "_law_is_number", .glo "_law_odd", .glo "_law_is_pairing", .glo "_law_goal", .glo "_law_back", .glo "_law_pairing", .glo "_law_far_pairing", .glo "_law_no_pairing", .glo "_law_long_pairing", .glo "_law_right", .glo "law"]
def tf : List (He.Defn × Str) := [(("_law_right", none), qualOf "_law_right" s__law_right)]
def fv (K : PySem.W.Frag) (n : Nat) : Addr := He.ga K (nm n)
def ex (K : PySem.W.Frag) : Bool := isTB K (fv K) [(4, false), (5, true), (6, false)] 5 && (isTB K (fv K) [(4, false), (5, false), (6, true)] 6 && (clsB K (fv K) [4, 5, 6] 4 && (apart (tf.map fun p => (He.cT K p.1).2))))
abbrev R : PySem.W.OpenRow := PySem.W.OpenLaw.row PySem.Challenge.rw_pairedstretches_k00_whole_pairings
abbrev hk : PySem.W.Hook := He.hookX 5 fa fn [] (tf.map (·.1)) ex
def ob (s : PySem.W.SharedT) : He.AlX := He.obsX 5 fa fn [] (tf.map (·.1)) ex (HandSHeadRun.getT s)
theorem ob_eq (s : PySem.W.SharedT) : ob s = hk.obs s.abs := He.obsX_eq (HandSHeadRun.getT_eq s)
def loose0 : List Str := ["MOST_LINE", "is_whole", "StretchError", "BadNumber", "BadPairing", "is_pairing_by", "need_pairing", "goal_by", "turned_by", "is_pairing", "goal_of", "from_of", "turned", "mended", "_law_begun", "_law_mixed", "_law_take", "_law_pick", "_law_caught", "_law_kinds", "_law_says", "_law_is_number", "_law_odd", "_law_is_pairing", "_law_goal", "_law_back", "_law_pairing", "_law_far_pairing", "_law_no_pairing", "_law_long_pairing"]
def loose1 : List Str := ["_law_right"]
def loose : List Str := loose0 ++ loose1
theorem run (w : World) : HandSHeadRun.RunEq R (PySem.W.view R.prog [35]) hk ob 3000 loose w := by
  intro os
  kernel_rfl
def g0 (K : PySem.W.Frag) : G := ⟨K, fv K, none, none, tbOf K tf⟩
theorem txt {w : World} {h : Heap} {K : PySem.W.Frag} {mg : Str → Option Value} {base : Heap} (KX : K.In h) (G : h.Ns mainGlobals mg) (c : He.SaysX fa fn [] (tf.map (·.1)) ex w h K) (TB : ∀ p ∈ (tf.map (·.1)).map (He.cT K), TabB base mg p.1 p.2) (sc : Option (Addr × List Int)) (dr : Option (Addr × Addr)) : Txt K mg base { g0 K with sc := sc, dr := dr } := by
  have d := c.t.d
  have e0 := c.more
  obtain ⟨x0, e0⟩ := He.ba e0
  obtain ⟨x1, e0⟩ := He.ba e0
  obtain ⟨x2, e0⟩ := He.ba e0
  have x3 := e0
  exact {
    hK := rfl
    nb_all := He.free_ok KX G (d.fact 0 (f := .free "all") rfl)
    nb_bool := He.free_ok KX G (d.fact 1 (f := .free "bool") rfl)
    nb_dict := He.free_ok KX G (d.fact 2 (f := .free "dict") rfl)
    nb_int := He.free_ok KX G (d.fact 3 (f := .free "int") rfl)
    nb_isinstance := He.free_ok KX G (d.fact 4 (f := .free "isinstance") rfl)
    nb_len := He.free_ok KX G (d.fact 5 (f := .free "len") rfl)
    nb_list := He.free_ok KX G (d.fact 6 (f := .free "list") rfl)
    nb_max := He.free_ok KX G (d.fact 7 (f := .free "max") rfl)
    nb_min := He.free_ok KX G (d.fact 8 (f := .free "min") rfl)
    nb_range := He.free_ok KX G (d.fact 9 (f := .free "range") rfl)
    nb_repr := He.free_ok KX G (d.fact 10 (f := .free "repr") rfl)
    nb_sorted := He.free_ok KX G (d.fact 11 (f := .free "sorted") rfl)
    nb_str := He.free_ok KX G (d.fact 12 (f := .free "str") rfl)
    nb_tuple := He.free_ok KX G (d.fact 13 (f := .free "tuple") rfl)
    i_MOST_LINE := He.int_ok KX G (d.fact 14 (f := .int "MOST_LINE" (1000000000000000000000000000000000000000000000000000000000000)) rfl)
    e_BadNumber := excG_of KX G (d.fact 18 (f := .exc "BadNumber") rfl) (d.fact 15 (f := .glo "BadNumber") rfl)
    t_BadNumber := isT_of (l := [(4, false), (5, true), (6, false)]) x0
    e_BadPairing := excG_of KX G (d.fact 19 (f := .exc "BadPairing") rfl) (d.fact 16 (f := .glo "BadPairing") rfl)
    t_BadPairing := isT_of (l := [(4, false), (5, false), (6, true)]) x1
    m_is_whole := He.glo_ok KX G (d.fact 20 (f := .glo "is_whole") rfl)
    f_is_whole := (d.def_ 0 (d := ⟨("is_whole", none), "is_whole", "is_whole", defArgs s_is_whole, defBody s_is_whole, defScope s_is_whole, [], []⟩) rfl).imp fun fd F => fun_of (st := s_is_whole) F
    m_is_pairing_by := He.glo_ok KX G (d.fact 21 (f := .glo "is_pairing_by") rfl)
    f_is_pairing_by := (d.def_ 1 (d := ⟨("is_pairing_by", none), "is_pairing_by", "is_pairing_by", defArgs s_is_pairing_by, defBody s_is_pairing_by, defScope s_is_pairing_by, [], []⟩) rfl).imp fun fd F => fun_of (st := s_is_pairing_by) F
    m_need_pairing := He.glo_ok KX G (d.fact 22 (f := .glo "need_pairing") rfl)
    f_need_pairing := (d.def_ 2 (d := ⟨("need_pairing", none), "need_pairing", "need_pairing", defArgs s_need_pairing, defBody s_need_pairing, defScope s_need_pairing, [], []⟩) rfl).imp fun fd F => fun_of (st := s_need_pairing) F
    m_goal_by := He.glo_ok KX G (d.fact 23 (f := .glo "goal_by") rfl)
    f_goal_by := (d.def_ 3 (d := ⟨("goal_by", none), "goal_by", "goal_by", defArgs s_goal_by, defBody s_goal_by, defScope s_goal_by, [], []⟩) rfl).imp fun fd F => fun_of (st := s_goal_by) F
    m_turned_by := He.glo_ok KX G (d.fact 24 (f := .glo "turned_by") rfl)
    f_turned_by := (d.def_ 4 (d := ⟨("turned_by", none), "turned_by", "turned_by", defArgs s_turned_by, defBody s_turned_by, defScope s_turned_by, [], []⟩) rfl).imp fun fd F => fun_of (st := s_turned_by) F
    m_is_pairing := He.glo_ok KX G (d.fact 25 (f := .glo "is_pairing") rfl)
    f_is_pairing := (d.def_ 5 (d := ⟨("is_pairing", none), "is_pairing", "is_pairing", defArgs s_is_pairing, defBody s_is_pairing, defScope s_is_pairing, [], []⟩) rfl).imp fun fd F => fun_of (st := s_is_pairing) F
    m_goal_of := He.glo_ok KX G (d.fact 26 (f := .glo "goal_of") rfl)
    f_goal_of := (d.def_ 6 (d := ⟨("goal_of", none), "goal_of", "goal_of", defArgs s_goal_of, defBody s_goal_of, defScope s_goal_of, [], []⟩) rfl).imp fun fd F => fun_of (st := s_goal_of) F
    m_from_of := He.glo_ok KX G (d.fact 27 (f := .glo "from_of") rfl)
    f_from_of := (d.def_ 7 (d := ⟨("from_of", none), "from_of", "from_of", defArgs s_from_of, defBody s_from_of, defScope s_from_of, [], []⟩) rfl).imp fun fd F => fun_of (st := s_from_of) F
    m_turned := He.glo_ok KX G (d.fact 28 (f := .glo "turned") rfl)
    f_turned := (d.def_ 8 (d := ⟨("turned", none), "turned", "turned", defArgs s_turned, defBody s_turned, defScope s_turned, [], []⟩) rfl).imp fun fd F => fun_of (st := s_turned) F
    m_mended := He.glo_ok KX G (d.fact 29 (f := .glo "mended") rfl)
    f_mended := (d.def_ 9 (d := ⟨("mended", none), "mended", "mended", defArgs s_mended, defBody s_mended, defScope s_mended, [], []⟩) rfl).imp fun fd F => fun_of (st := s_mended) F
    m__law_begun := He.glo_ok KX G (d.fact 30 (f := .glo "_law_begun") rfl)
    f__law_begun := (d.def_ 10 (d := ⟨("_law_begun", none), "_law_begun", "_law_begun", defArgs s__law_begun, defBody s__law_begun, defScope s__law_begun, [], []⟩) rfl).imp fun fd F => fun_of (st := s__law_begun) F
    m__law_mixed := He.glo_ok KX G (d.fact 31 (f := .glo "_law_mixed") rfl)
    f__law_mixed := (d.def_ 11 (d := ⟨("_law_mixed", none), "_law_mixed", "_law_mixed", defArgs s__law_mixed, defBody s__law_mixed, defScope s__law_mixed, [], []⟩) rfl).imp fun fd F => fun_of (st := s__law_mixed) F
    m__law_take := He.glo_ok KX G (d.fact 32 (f := .glo "_law_take") rfl)
    f__law_take := (d.def_ 12 (d := ⟨("_law_take", none), "_law_take", "_law_take", defArgs s__law_take, defBody s__law_take, defScope s__law_take, [], []⟩) rfl).imp fun fd F => fun_of (st := s__law_take) F
    m__law_pick := He.glo_ok KX G (d.fact 33 (f := .glo "_law_pick") rfl)
    f__law_pick := (d.def_ 13 (d := ⟨("_law_pick", none), "_law_pick", "_law_pick", defArgs s__law_pick, defBody s__law_pick, defScope s__law_pick, [], []⟩) rfl).imp fun fd F => fun_of (st := s__law_pick) F
    m__law_caught := He.glo_ok KX G (d.fact 34 (f := .glo "_law_caught") rfl)
    f__law_caught := (d.def_ 14 (d := ⟨("_law_caught", none), "_law_caught", "_law_caught", defArgs s__law_caught, defBody s__law_caught, defScope s__law_caught, [], []⟩) rfl).imp fun fd F => fun_of (st := s__law_caught) F
    m__law_kinds := He.glo_ok KX G (d.fact 35 (f := .glo "_law_kinds") rfl)
    f__law_kinds := (d.def_ 15 (d := ⟨("_law_kinds", none), "_law_kinds", "_law_kinds", defArgs s__law_kinds, defBody s__law_kinds, defScope s__law_kinds, [], []⟩) rfl).imp fun fd F => fun_of (st := s__law_kinds) F
    m__law_says := He.glo_ok KX G (d.fact 36 (f := .glo "_law_says") rfl)
    f__law_says := (d.def_ 16 (d := ⟨("_law_says", none), "_law_says", "_law_says", defArgs s__law_says, defBody s__law_says, defScope s__law_says, [], []⟩) rfl).imp fun fd F => fun_of (st := s__law_says) F
    m__law_is_number := He.glo_ok KX G (d.fact 37 (f := .glo "_law_is_number") rfl)
    f__law_is_number := (d.def_ 17 (d := ⟨("_law_is_number", none), "_law_is_number", "_law_is_number", defArgs s__law_is_number, defBody s__law_is_number, defScope s__law_is_number, [], []⟩) rfl).imp fun fd F => fun_of (st := s__law_is_number) F
    m__law_odd := He.glo_ok KX G (d.fact 38 (f := .glo "_law_odd") rfl)
    f__law_odd := (d.def_ 18 (d := ⟨("_law_odd", none), "_law_odd", "_law_odd", defArgs s__law_odd, defBody s__law_odd, defScope s__law_odd, [], []⟩) rfl).imp fun fd F => fun_of (st := s__law_odd) F
    m__law_is_pairing := He.glo_ok KX G (d.fact 39 (f := .glo "_law_is_pairing") rfl)
    f__law_is_pairing := (d.def_ 19 (d := ⟨("_law_is_pairing", none), "_law_is_pairing", "_law_is_pairing", defArgs s__law_is_pairing, defBody s__law_is_pairing, defScope s__law_is_pairing, [], []⟩) rfl).imp fun fd F => fun_of (st := s__law_is_pairing) F
    m__law_goal := He.glo_ok KX G (d.fact 40 (f := .glo "_law_goal") rfl)
    f__law_goal := (d.def_ 20 (d := ⟨("_law_goal", none), "_law_goal", "_law_goal", defArgs s__law_goal, defBody s__law_goal, defScope s__law_goal, [], []⟩) rfl).imp fun fd F => fun_of (st := s__law_goal) F
    m__law_back := He.glo_ok KX G (d.fact 41 (f := .glo "_law_back") rfl)
    f__law_back := (d.def_ 21 (d := ⟨("_law_back", none), "_law_back", "_law_back", defArgs s__law_back, defBody s__law_back, defScope s__law_back, [], []⟩) rfl).imp fun fd F => fun_of (st := s__law_back) F
    m__law_pairing := He.glo_ok KX G (d.fact 42 (f := .glo "_law_pairing") rfl)
    f__law_pairing := (d.def_ 22 (d := ⟨("_law_pairing", none), "_law_pairing", "_law_pairing", defArgs s__law_pairing, defBody s__law_pairing, defScope s__law_pairing, [], []⟩) rfl).imp fun fd F => fun_of (st := s__law_pairing) F
    m__law_far_pairing := He.glo_ok KX G (d.fact 43 (f := .glo "_law_far_pairing") rfl)
    f__law_far_pairing := (d.def_ 23 (d := ⟨("_law_far_pairing", none), "_law_far_pairing", "_law_far_pairing", defArgs s__law_far_pairing, defBody s__law_far_pairing, defScope s__law_far_pairing, [], []⟩) rfl).imp fun fd F => fun_of (st := s__law_far_pairing) F
    m__law_no_pairing := He.glo_ok KX G (d.fact 44 (f := .glo "_law_no_pairing") rfl)
    f__law_no_pairing := (d.def_ 24 (d := ⟨("_law_no_pairing", none), "_law_no_pairing", "_law_no_pairing", defArgs s__law_no_pairing, defBody s__law_no_pairing, defScope s__law_no_pairing, [], []⟩) rfl).imp fun fd F => fun_of (st := s__law_no_pairing) F
    m__law_long_pairing := He.glo_ok KX G (d.fact 45 (f := .glo "_law_long_pairing") rfl)
    f__law_long_pairing := (d.def_ 25 (d := ⟨("_law_long_pairing", none), "_law_long_pairing", "_law_long_pairing", defArgs s__law_long_pairing, defBody s__law_long_pairing, defScope s__law_long_pairing, [], []⟩) rfl).imp fun fd F => fun_of (st := s__law_long_pairing) F
    m__law_right := He.glo_ok KX G (d.fact 46 (f := .glo "_law_right") rfl)
    f__law_right := (d.def_ 26 (d := ⟨("_law_right", none), "_law_right", "_law_right", defArgs s__law_right, defBody s__law_right, defScope s__law_right, [], []⟩) rfl).imp fun fd F => fun_of (st := s__law_right) F
    ct := ⟨He.glo_ok KX G (d.fact 34 (f := .glo "_law_caught") rfl), (d.def_ 14 (d := ⟨("_law_caught", none), "_law_caught", "_law_caught", defArgs s__law_caught, defBody s__law_caught, defScope s__law_caught, [], []⟩) rfl).imp fun fd F => fun_of (st := s__law_caught) F, He.glo_ok KX G (d.fact 17 (f := .glo "StretchError") rfl), cls_of x2, fun _ _ _ _ _ _ us hl => match us, hl with | [_], _ => rfl, ⟨rfl, rfl, rfl, by decide +kernel, rfl, by decide +kernel, by decide +kernel⟩, rfl, rfl, rfl, rfl, ⟨_, _, _, _, _, _, _, _, _, _, _, _, _, _, _, rfl, fun _ => rfl, fun _ => rfl, fun _ => rfl⟩⟩
    lam__law_right := lamF_of (st := s__law_right) (tf := tf) ((d.def_ 26 (d := ⟨("_law_right", none), "_law_right", "_law_right", defArgs s__law_right, defBody s__law_right, defScope s__law_right, [], []⟩) rfl).imp fun fd F => fun_of (st := s__law_right) F) rfl (List.mem_of_getElem? (i := 0) rfl) x3 (TB _ (List.mem_of_getElem? (i := 0) rfl)) }
/-- what is left to plain mathematics -/
def Math : Prop := ∀ ns : List Int, ns.length ≤ 63 → (∀ z ∈ ns, Builtin.Int.intBits z ≤ 1048576) → ∃ (s s' r : DS) (ρ' : VS.Env) (w : Int) (cs : List Int), b__law_begun (some (.scr ns) :: List.replicate 3 none) s = some (.ok (.nx ρ'), s') ∧ ρ'[2]? = some (some (.int w)) ∧ ρ'[3]? = some (some (.lst (cs.map .int))) ∧ b_law1 (some (.scr ns) :: some .draw :: List.replicate 2 none) ⟨w, cs, 0⟩ = some (.ok (.rt (.bl true)), r)
theorem law_at (hM : Math) {w : World} {h : Heap} {K : PySem.W.Frag} {mg : Str → Option Value} {fa : Addr} (KX : K.In h) (G : h.Ns mainGlobals mg) (hmg : mg "law" = some (.ref fa)) (c : He.SaysX K00.fa fn [] (tf.map (·.1)) ex w h K) : LawAtS PySem.Challenge.rw_pairedstretches_k00_whole_pairings w K (L2.CX PySem.Challenge.rw_pairedstretches_k00_whole_pairings.prog w) 9 63 "script" mg fa h := by
  have d := c.t.d
  have e := hmg.symm.trans (He.glo_ok KX G (d.fact 47 (f := .glo "law") rfl))
  cases e
  obtain ⟨fd, F0⟩ := d.def_ 27 (d := ⟨("law", none), "law", "law", defArgs s_law, defBody s_law, defScope s_law, [], []⟩) rfl
  have F := fun_of (st := s_law) F0
  have hb := FunD.bindsA (ps := ["script"]) F0 fun _ _ _ _ _ _ us hl => match us, hl with | [_], _ => rfl
  refine ⟨fd, (tf.map (·.1)).map (He.cT K), spLaw (g0 K) 3 2 3 2 b__law_begun b_law1, fun p hp => ?_, fun p hp => ?_, fun p hp => ?_, fun s v => hb s [v] rfl, fun H a ns hl hbits hH hS => ?_, fun base KB GB TB => ok_law (g := g0 K) F (txt KX G c TB)⟩
  · obtain ⟨q, hq, rfl⟩ := List.mem_map.mp hp
    exact c.empty q hq
  · obtain ⟨q, hq, rfl⟩ := List.mem_map.mp hp
    exact c.out q hq
  · obtain ⟨q, hq, rfl⟩ := List.mem_map.mp hp
    exact PySem.W.codeHd_of_K KX (c.hd q hq)
  · obtain ⟨s, s', r, ρ', w, cs, e1, e2, e3, e4⟩ := hM ns hl hbits
    refine ⟨a, ns, s, s', r, ρ', w, cs, rfl, fun p hp => ?_, hS, e1, e2, e3, e4, fun _ => rfl⟩
    obtain ⟨q, hq, rfl⟩ := List.mem_map.mp hp
    exact TabS.nil (hH _ (List.mem_map.mpr ⟨q.1, List.mem_map.mpr ⟨q, hq, rfl⟩, rfl⟩))
end K00

namespace K00
open PySem VS
theorem laps_ev {ns : List Int} (hl : ns.length ≤ 63) : Ev (b_law1_1 [some (.scr ns), some .draw, none, none]) fun o => ∃ u, o = .nx [some (.scr ns), some .draw, u, none] := by
  have hn : (ns.length : Int) ≤ 63 := by omega
  have h1 : 6 + min (ns.length : Int) 12 < 2 ^ 62 := by
    have : (18 : Int) < 2 ^ 62 := by decide
    omega
  have h2 : -(2 ^ 62) ≤ 6 + min (ns.length : Int) 12 := by
    have : -(2 ^ 62 : Int) ≤ 0 := by decide
    omega
  have e : eRange1 (eCons (eBin opAdd (eC (.int 6)) (eArgs cMin (eCons (eArgs cLenX (eCons (eVar 0) eNil)) (eCons (eC (.int 12)) eNil)))) eNil) [some (.scr ns), some .draw, none, none] = M.ok (rangeD 0 (6 + min (ns.length : Int) 12).toNat) := by
    simp [eRange1, add_i, show cLenX [.scr ns] = some (.int ns.length) from rfl]
    intro h3
    have := h3 (by omega)
    omega
  unfold b_law1_1
  rw [x_sFor, e, x_bind]
  refine (Ev.forI (I := fun ρ => ∃ u, ρ = [some (.scr ns), some .draw, u, none]) ⟨none, rfl⟩ ?_).mono fun o ⟨ρ2, h1, u, h2⟩ => ⟨u, by rw [h1, h2]⟩
  rintro d hd ρ ⟨u, rfl⟩
  refine ⟨[some (.scr ns), some .draw, some d, none], by simp, ?_⟩
  simp [b_law1_1_b]
  exact Ev.bind right_ev fun k hk => by subst hk; simp; exact Ev.ok ⟨_, rfl, _, rfl⟩
theorem law_ev {ns : List Int} (hl : ns.length ≤ 63) : Ev (b_law1 [some (.scr ns), some .draw, none, none]) fun o => o = .rt (.bl true) := by
  unfold b_law1
  rw [x_sCons]
  refine Ev.bind (laps_ev hl) fun o ho => ?_
  obtain ⟨u, rfl⟩ := ho
  have o1 : Ok T60 0 3 2 (-1) := ⟨by decide, by decide, by decide, by decide, by decide⟩
  have o2 : Ok T60 0 3 2 1 := ⟨by decide, by decide, by decide, by decide, by decide⟩
  have o3 : Ok T60 3 0 2 1 := ⟨by decide, by decide, by decide, by decide, by decide⟩
  have g1 : m_goal_of [.tup [.int 0, .int 3, .int 2, .int (-1)], .int 0] = M.ok (.int 4) := goal_of_run o1 0
  have g2 : m_goal_of [.tup [.int 0, .int 3, .int 2, .int (-1)], .int 1] = M.ok (.int 3) := goal_of_run o1 1
  have g3 : m_goal_of [.tup [.int 0, .int 3, .int 2, .int (-1)], .int 2] = M.ok .non := goal_of_run o1 2
  have g4 : m_from_of [.tup [.int 0, .int 3, .int 2, .int 1], .int 4] = M.ok (.int 1) := from_of_run o2 4
  have g5 : m_mended [.tup [.int 3, .int 0, .int 2, .int 1]] = M.ok (.tup [.int 0, .int 3, .int 2, .int 1]) := mended_run o3
  have g6 : m_is_pairing [.tup [.int 0, .int 0, .int T60, .int 1]] = M.ok (.bl true) := (is_pairing_run (th_pv 0 0 T60 1)).trans (congrArg (fun k => M.ok (D.bl k)) (by decide))
  have g7 : m_is_pairing [.tup [.int 0, .int 1, .int T60, .int 1]] = M.ok (.bl false) := (is_pairing_run (th_pv 0 1 T60 1)).trans (congrArg (fun k => M.ok (D.bl k)) (by decide))
  have hs : m__law_says [.lst [.int 4, .int 3, .non, .int 1, .tup [.int 0, .int 3, .int 2, .int 1], .bl true, .bl false], .lst [.int 4, .int 3, .non, .int 1, .tup [.int 0, .int 3, .int 2, .int 1], .bl true, .bl false]] = M.ok (.bl true) := says_run (n := 2) rfl (by simp [sz, szs])
  simp [b_law1_2, b_law1_3, x_len1, sub_i, pow_10_60, g1, g2, g3, g4, g5, g6, g7, hs]
  exact Ev.ok rfl
theorem math : Math := fun ns hl hb => by
  obtain ⟨ρ', w, e1, e2, e3⟩ := begun_run hl hb
  obtain ⟨o, r, e4, _, rfl⟩ := law_ev hl ⟨w, ns, 0⟩ hl
  exact ⟨_, _, r, ρ', w, ns, e1, e2, e3, e4⟩
end K00


open PySem PySem.W PySem.Calls PyProof.Rows in
set_option maxRecDepth 100000 in
set_option maxHeartbeats 0 in
theorem PySem.Challenge.cw_pairedstretches_k00_whole_pairings_holds : PySem.Challenge.rw_pairedstretches_k00_whole_pairings.Holds := by
  w_on; o_law
  refine HandSHeadRun.head_any (r := OpenLaw.row PySem.Challenge.rw_pairedstretches_k00_whole_pairings) (q := view (OpenLaw.row PySem.Challenge.rw_pairedstretches_k00_whole_pairings).prog [35]) (H := K00.hk) (ob := K00.ob) (M := 3000) (loose := K00.loose) (d := HandSHeadRun.topDef (OpenLaw.row PySem.Challenge.rw_pairedstretches_k00_whole_pairings).prog 35) (kwd := []) K00.ob_eq
    (by kernel_rfl) (fun s => by kernel_rfl) K00.run (by kernel_rfl) (by kernel_rfl) (by kernel_rfl) (by rfl) (by first | assumption | decide +kernel) (by decide +kernel) ⟨rfl, rfl, rfl, rfl, rfl, by decide +kernel⟩ ?hw ?hc
  case hw => w_witness2
  case hc =>
    refine VS.walk_x (l := PySem.Challenge.rw_pairedstretches_k00_whole_pairings) (n := 63) (k := 9) (x := "script") rfl (by decide) (by kernel_rfl) ⟨rfl, by decide, by decide⟩ fun w mg fa h Y G hmg0 => ?_
    obtain ⟨K, KX, c⟩ := Y
    have hmg : mg ("law" : PySem.Str) = some (.ref fa) := by
      have e : (HandSHeadRun.topDef (OpenLaw.row PySem.Challenge.rw_pairedstretches_k00_whole_pairings).prog 35).name = ("law" : PySem.Str) := by kernel_rfl
      rw [← e]
      exact hmg0
    exact ⟨K, KX, K00.law_at K00.math KX G hmg c⟩

