import PyProof.Rows.All
import Wide.All
import OpenK.AllK
import Wide.FinOn
import HandS.Lambda
import HandS.HeadHook4
import HandS.ForMost
import HandS.Walk
import HandS.HeadHook1
import HandS.Defaults
import HandS.TupAny
import HandS.Wide
import HandS.Deep
import HandS.IsInst
import HandS.SortRule
import HandS.SortInts
import HandS.Replace
import HandS.SetFor
import HandS.TupLen
import HandS.Conv
import HandS.More
import HandS.Small
import HandS.HeadEnd
import HandS.EndTab
import HandS.NestedK
import HandS.NoneIn
import HandS.SetKeys
import HandS.HeadHook3
import PyProof.DictMoreH
import HandS.Style
import PyProof.Draws
import PyProof.EnumMake
import PyProof.ZipIter
import HandS.DictComp
import KE.KDictPairs
import HandS.Text
import PyProof.EqAt
import PyProof.NeKinds
import HandS.Property
import KE.KAssignIn
import HandS.WordsExc
import HandS.TupLe
import PyProof.ReprBulk
import HandS.Head0
import HandS.Head1
import HandS.Head2
import PySem.Challenge.RW_rimsheets_k66_certified_turns_and_height
set_option Elab.async false
set_option linter.all false
/-! Mo0: the defs of the law that hold lambdas (by the law's own text), and the tables of their code objects. -/
namespace Mo
open PySem L2
def lamDefs : List Str := ["_law_right"]
def LT (K : PySem.W.Frag) : List (Addr × Str) := lamDefs.map fun n => ((He.cT K (n, none)).2, n ++ ".<locals>." ++ "<lambda>")
end Mo
set_option Elab.async false
set_option linter.all false
set_option maxRecDepth 100000
set_option maxHeartbeats 4000000
/-! Mo1: abstract data, abstract heap, the monad, what represents what. -/
namespace Mo
open PySem L2

inductive Dt where
  | non | bl (b : Bool) | int (i : Int) | str (x : Str) | ty (n : String) | adr (a : Addr) | cl (c : Str)
  | tup (xs : List Dt) | lv (xs : List Dt) | wl (xs : List Dt) | wt (xs : List Dt)
  | dk (ks : List Key) (vs : List Dt) | dt (ks : List (List Key)) (vs : List Dt)
  | obj (i : Nat)

inductive Ao where
  | dead | lst (xs : List Dt) | dk (ks : List Key) (vs : List Dt) | dt (ks : List (List Key)) (vs : List Dt)
  | ins (c : Str) (fs : List (Str × Dt))

abbrev Ah := List Ao
structure Xv where
  cls : Addr
  fs : Option (List (Str × Dt))

inductive Rs (α : Type) where
  | ok (a : α) (h : Ah) | exn (x : Xv) (h : Ah) | no

def Mm (α : Type) : Type := Ah → Rs α
def Mm.pure {α : Type} (a : α) : Mm α := fun h => .ok a h
def Mm.bind {α β : Type} (m : Mm α) (f : α → Mm β) : Mm β := fun h => match m h with
  | .ok a h' => f a h'
  | .exn x h' => .exn x h'
  | .no => .no
instance : Monad Mm where
  pure := Mm.pure
  bind := Mm.bind
def Mm.no {α : Type} : Mm α := fun _ => .no

structure Sx where
  ρ : List Addr
  h : Ah
  H : Hp
def Sx.mut (s : Sx) (a : Addr) : Prop := ∃ (i : Nat) (o : Ao), s.ρ[i]? = some a ∧ s.h[i]? = some o ∧ o ≠ .dead
/-- a cell that does not change any more -/
def Fx (s : Sx) (a : Addr) (u : HO) : Prop := Rd s.H a u ∧ ¬ s.mut a
abbrev H0 : Hp := fun _ => none

mutual
def Rep (K : PySem.W.Frag) (s : Sx) : Dt → V → Prop
  | .non, v => v = .non
  | .bl b, v => v = .bl b
  | .int i, v => v = .int i
  | .str x, v => v = .str x
  | .ty n, v => v = .ty n
  | .adr a, v => v = .ref a
  | .cl c, v => v = .ref (He.ga K c)
  | .tup ds, v => ∃ a vs, v = .ref a ∧ (s.H a = some (.tup vs) ∧ ¬ s.mut a) ∧ Reps K s ds vs
  | .wt ds, v => ∃ a vs, v = .ref a ∧ SqT K H0 a vs ∧ Reps K s ds vs
  | .lv ds, v => ∃ a vs, v = .ref a ∧ (s.H a = some (.lst vs) ∧ ¬ s.mut a) ∧ Reps K s ds vs
  | .wl ds, v => ∃ a vs, v = .ref a ∧ (Fx s a (.lst vs) ∨ SqL K H0 a vs) ∧ Reps K s ds vs
  | .dk ks ds, v => ∃ a vs, v = .ref a ∧ Fx s a (.dK (ks.zip vs)) ∧ ks.length = vs.length ∧ Reps K s ds vs
  | .dt ks ds, v => ∃ a vs, v = .ref a ∧ Fx s a (.dT (ks.zip vs)) ∧ ks.length = vs.length ∧ Reps K s ds vs
  | .obj i, v => ∃ a, s.ρ[i]? = some a ∧ v = .ref a
def Reps (K : PySem.W.Frag) (s : Sx) : List Dt → List V → Prop
  | [], vs => vs = []
  | d :: ds, vs => ∃ v r, vs = v :: r ∧ Rep K s d v ∧ Reps K s ds r
end

/-- no table of code objects -/
def NoT (o : HO) : Prop := ∀ ps, o ≠ .tbl ps
def RepF (K : PySem.W.Frag) (s : Sx) : List (Str × Dt) → List (Str × V) → Prop
  | [], vs => vs = []
  | (n, d) :: ds, vs => ∃ v r, vs = (n, v) :: r ∧ Rep K s d v ∧ RepF K s ds r
def ORep (K : PySem.W.Frag) (s : Sx) (a : Addr) : Ao → Prop
  | .dead => ∃ u, s.H a = some u ∧ NoT u
  | .lst ds => ∃ vs, s.H a = some (.lst vs) ∧ Reps K s ds vs
  | .dk ks ds => ∃ vs, s.H a = some (.dK (ks.zip vs)) ∧ ks.length = vs.length ∧ Reps K s ds vs
  | .dt ks ds => ∃ vs, s.H a = some (.dT (ks.zip vs)) ∧ ks.length = vs.length ∧ Reps K s ds vs
  | .ins c fs => ∃ dx vs, s.H a = some (.ins (He.ga K c) dx vs) ∧ (s.H dx = some (.own a) ∧ ¬ s.mut dx) ∧ RepF K s fs vs

structure HRel (K : PySem.W.Frag) (s : Sx) : Prop where
  len : s.ρ.length = s.h.length
  nd : s.ρ.Nodup
  ob : ∀ (i : Nat) a o, s.ρ[i]? = some a → s.h[i]? = some o → ORep K s a o
  tb : LamX.Tabs (LT K) s.H

/-- a cell stays, or a dict is locked for good -/
def Fz (o o' : HO) : Prop := o' = o ∨ ∃ ob, o' = .frz ob o ∧ ((∃ kvs, o = .dK kvs) ∨ ∃ kvs, o = .dT kvs)
theorem Fz.trans {o p q : HO} (h : Fz o p) (k : Fz p q) : Fz o q := by
  rcases h with rfl | ⟨ob, rfl, h⟩
  · exact k
  · rcases k with rfl | ⟨ob', _, ⟨_, z⟩ | ⟨_, z⟩⟩
    · exact .inr ⟨ob, rfl, h⟩
    · cases z
    · cases z
theorem Fz.not {o p : HO} (h : Fz o p) (n : NoT o) : NoT p := by
  rcases h with rfl | ⟨ob, rfl, h⟩
  · exact n
  · exact fun ps z => nomatch z
structure Ext (s s' : Sx) : Prop where
  pre : ∀ (i : Nat) a, s.ρ[i]? = some a → s'.ρ[i]? = some a
  fix : ∀ a o, s.H a = some o → ¬ s.mut a → NoT o → (∃ o', s'.H a = some o' ∧ Fz o o') ∧ ¬ s'.mut a
theorem Ext.mk' {s s' : Sx} (pre : ∀ (i : Nat) a, s.ρ[i]? = some a → s'.ρ[i]? = some a) (fix : ∀ a o, s.H a = some o → ¬ s.mut a → s'.H a = some o ∧ ¬ s'.mut a) : Ext s s' :=
  ⟨pre, fun a o h k _ => ⟨⟨o, (fix a o h k).1, .inl rfl⟩, (fix a o h k).2⟩⟩
theorem Ext.refl (s : Sx) : Ext s s := .mk' (fun _ _ h => h) (fun _ _ h k => ⟨h, k⟩)
theorem Ext.trans {s s1 s2 : Sx} (x : Ext s s1) (y : Ext s1 s2) : Ext s s2 := by
  refine ⟨fun i a h => y.pre i a (x.pre i a h), fun a o h k n => ?_⟩
  obtain ⟨⟨o1, h1, f1⟩, k1⟩ := x.fix a o h k n
  obtain ⟨⟨o2, h2, f2⟩, k2⟩ := y.fix a o1 h1 k1 (f1.not n)
  exact ⟨⟨o2, h2, f1.trans f2⟩, k2⟩
def isDc : HO → Bool
  | .dK _ => true
  | .dT _ => true
  | .tbl _ => true
  | _ => false
theorem Ext.keep {s s' : Sx} (x : Ext s s') {a : Addr} {o : HO} (h : s.H a = some o ∧ ¬ s.mut a) (hd : isDc o = false) : s'.H a = some o ∧ ¬ s'.mut a := by
  obtain ⟨⟨o1, h1, f1⟩, k1⟩ := x.fix a o h.1 h.2 (fun ps z => by rw [z] at hd; cases hd)
  rcases f1 with rfl | ⟨ob, _, ⟨_, rfl⟩ | ⟨_, rfl⟩⟩
  · exact ⟨h1, k1⟩
  · cases hd
  · cases hd
theorem Fx.ext {s s' : Sx} {a : Addr} {u : HO} (x : Ext s s') (h : Fx s a u) (hu : NoT u := by intro _ z; cases z) : Fx s' a u := by
  obtain ⟨h | ⟨o, h⟩, k⟩ := h
  · obtain ⟨⟨o1, h1, f1⟩, k1⟩ := x.fix a _ h k hu
    rcases f1 with rfl | ⟨ob, rfl, _⟩
    · exact ⟨.inl h1, k1⟩
    · exact ⟨.inr ⟨ob, h1⟩, k1⟩
  · obtain ⟨h1, k1⟩ := x.keep ⟨h, k⟩ rfl
    exact ⟨.inr ⟨o, h1⟩, k1⟩

mutual
theorem Rep.ext {K : PySem.W.Frag} {s s' : Sx} (x : Ext s s') : ∀ {d : Dt} {v : V}, Rep K s d v → Rep K s' d v
  | .non, v, h => h
  | .bl b, v, h => h
  | .int i, v, h => h
  | .str y, v, h => h
  | .ty n, v, h => h
  | .adr a, v, h => h
  | .cl c, v, h => h
  | .tup ds, v, h => by
    obtain ⟨a, vs, e, k, r⟩ := h
    exact ⟨a, vs, e, x.keep k rfl, Reps.ext x r⟩
  | .wt ds, v, h => by
    obtain ⟨a, vs, e, k, r⟩ := h
    exact ⟨a, vs, e, k, Reps.ext x r⟩
  | .lv ds, v, h => by
    obtain ⟨a, vs, e, k, r⟩ := h
    exact ⟨a, vs, e, x.keep k rfl, Reps.ext x r⟩
  | .wl ds, v, h => by
    obtain ⟨a, vs, e, k, r⟩ := h
    exact ⟨a, vs, e, k.imp (fun q => q.ext x) id, Reps.ext x r⟩
  | .dk ks ds, v, h => by
    obtain ⟨a, vs, e, k, l, r⟩ := h
    exact ⟨a, vs, e, k.ext x, l, Reps.ext x r⟩
  | .dt ks ds, v, h => by
    obtain ⟨a, vs, e, k, l, r⟩ := h
    exact ⟨a, vs, e, k.ext x, l, Reps.ext x r⟩
  | .obj i, v, h => by
    obtain ⟨a, e, r⟩ := h
    exact ⟨a, x.pre i a e, r⟩
theorem Reps.ext {K : PySem.W.Frag} {s s' : Sx} (x : Ext s s') : ∀ {ds : List Dt} {vs : List V}, Reps K s ds vs → Reps K s' ds vs
  | [], vs, h => h
  | d :: ds, vs, h => by
    obtain ⟨v, r, e, h1, h2⟩ := h
    exact ⟨v, r, e, Rep.ext x h1, Reps.ext x h2⟩
end

section
variable {K : PySem.W.Frag} {s s' : Sx}
theorem Reps.length : ∀ {ds : List Dt} {vs : List V}, Reps K s ds vs → vs.length = ds.length
  | [], vs, h => by cases h; rfl
  | d :: ds, vs, h => by
    obtain ⟨v, r, rfl, h1, h2⟩ := h
    simp [Reps.length h2]
theorem Reps.cons {d : Dt} {ds : List Dt} {v : V} {vs : List V} (h : Rep K s d v) (k : Reps K s ds vs) : Reps K s (d :: ds) (v :: vs) := ⟨v, vs, rfl, h, k⟩
theorem Reps.nil : Reps K s [] [] := rfl
theorem Reps.append : ∀ {ds es : List Dt} {vs ws : List V}, Reps K s ds vs → Reps K s es ws → Reps K s (ds ++ es) (vs ++ ws)
  | [], _, _, _, h, k => by cases h; exact k
  | d :: ds, es, vs, ws, h, k => by
    obtain ⟨v, r, rfl, h1, h2⟩ := h
    exact ⟨v, _, rfl, h1, Reps.append h2 k⟩
theorem Reps.get : ∀ {ds : List Dt} {vs : List V} {i : Nat} {d : Dt}, Reps K s ds vs → ds[i]? = some d → ∃ v, vs[i]? = some v ∧ Rep K s d v
  | [], _, _, _, h, e => by simp at e
  | d :: ds, vs, 0, _, h, e => by
    obtain ⟨v, r, rfl, h1, h2⟩ := h
    simp at e; subst e
    exact ⟨v, rfl, h1⟩
  | d :: ds, vs, i + 1, _, h, e => by
    obtain ⟨v, r, rfl, h1, h2⟩ := h
    obtain ⟨w, e1, e2⟩ := Reps.get (i := i) h2 (by simpa using e)
    exact ⟨w, by simpa using e1, e2⟩
theorem Reps.getV : ∀ {ds : List Dt} {vs : List V} {i : Nat} {v : V}, Reps K s ds vs → vs[i]? = some v → ∃ d, ds[i]? = some d ∧ Rep K s d v
  | [], _, _, _, h, e => by cases h; simp at e
  | d :: ds, vs, 0, _, h, e => by
    obtain ⟨v, r, rfl, h1, h2⟩ := h
    simp at e; subst e
    exact ⟨d, rfl, h1⟩
  | d :: ds, vs, i + 1, _, h, e => by
    obtain ⟨v, r, rfl, h1, h2⟩ := h
    obtain ⟨w, e1, e2⟩ := Reps.getV (i := i) h2 (by simpa using e)
    exact ⟨w, by simpa using e1, e2⟩
theorem Reps.set {d : Dt} {v : V} (r : Rep K s d v) : ∀ {ds : List Dt} {vs : List V} (i : Nat), Reps K s ds vs → Reps K s (ds.set i d) (vs.set i v)
  | [], _, _, h => by cases h; exact rfl
  | _ :: _, _, 0, h => by
    obtain ⟨_, _, rfl, h1, h2⟩ := h
    exact ⟨v, _, rfl, r, h2⟩
  | _ :: _, _, i + 1, h => by
    obtain ⟨w, _, rfl, h1, h2⟩ := h
    exact ⟨w, _, rfl, h1, Reps.set r i h2⟩
theorem Reps.take : ∀ {ds : List Dt} {vs : List V} (n : Nat), Reps K s ds vs → Reps K s (ds.take n) (vs.take n)
  | [], _, _, h => by cases h; simp; exact rfl
  | _ :: _, _, 0, h => by simp; exact rfl
  | _ :: _, _, n + 1, h => by
    obtain ⟨w, _, rfl, h1, h2⟩ := h
    exact ⟨w, _, rfl, h1, Reps.take n h2⟩
theorem Reps.drop : ∀ {ds : List Dt} {vs : List V} (n : Nat), Reps K s ds vs → Reps K s (ds.drop n) (vs.drop n)
  | [], _, _, h => by cases h; simp; exact rfl
  | _ :: _, _, 0, h => h
  | _ :: _, _, n + 1, h => by
    obtain ⟨w, _, rfl, h1, h2⟩ := h
    exact Reps.drop n h2
theorem Reps.reverse : ∀ {ds : List Dt} {vs : List V}, Reps K s ds vs → Reps K s ds.reverse vs.reverse
  | [], _, h => by cases h; exact rfl
  | _ :: _, _, h => by
    obtain ⟨w, _, rfl, h1, h2⟩ := h
    simp only [List.reverse_cons]
    exact Reps.append (Reps.reverse h2) (Reps.cons h1 Reps.nil)
theorem HRel.live (r : HRel K s) {i : Nat} {a : Addr} {o : Ao} (e : s.ρ[i]? = some a) (k : s.h[i]? = some o) : ∃ u, s.H a = some u ∧ NoT u := by
  have q := r.ob i a o e k
  cases o with
  | dead => exact q
  | lst ds => obtain ⟨vs, e, _⟩ := q; exact ⟨_, e, fun _ z => nomatch z⟩
  | dk ks ds => obtain ⟨vs, e, _⟩ := q; exact ⟨_, e, fun _ z => nomatch z⟩
  | dt ks ds => obtain ⟨vs, e, _⟩ := q; exact ⟨_, e, fun _ z => nomatch z⟩
  | ins c fs => obtain ⟨dx, vs, e, _⟩ := q; exact ⟨_, e, fun _ z => nomatch z⟩
theorem HRel.at (r : HRel K s) {i : Nat} {a : Addr} (e : s.ρ[i]? = some a) : ∃ o, s.h[i]? = some o := by
  have h1 := (List.getElem?_eq_some_iff.mp e).1
  rw [r.len] at h1
  exact ⟨_, List.getElem?_eq_getElem h1⟩
theorem HRel.fresh (r : HRel K s) {p : Addr} (hp : s.H p = none) {i : Nat} : s.ρ[i]? ≠ some p := fun e => by
  obtain ⟨o, k⟩ := r.at e
  obtain ⟨u, q, _⟩ := r.live e k
  rw [hp] at q; cases q
theorem HRel.nomut (r : HRel K s) {p : Addr} (hp : s.H p = none) : ¬ s.mut p := fun ⟨_, _, e, _, _⟩ => r.fresh hp e
/-- what is mutable holds what the heap says -/
theorem HRel.inj (r : HRel K s) {i j : Nat} {a : Addr} (e : s.ρ[i]? = some a) (k : s.ρ[j]? = some a) : i = j := by
  obtain ⟨hi, e1⟩ := List.getElem?_eq_some_iff.mp e
  obtain ⟨hj, e2⟩ := List.getElem?_eq_some_iff.mp k
  exact (List.getElem_inj r.nd).mp (e1.trans e2.symm)
theorem RepF.ext (x : Ext s s') : ∀ {fs : List (Str × Dt)} {vs : List (Str × V)}, RepF K s fs vs → RepF K s' fs vs
  | [], _, h => h
  | (n, d) :: fs, _, h => by
    obtain ⟨v, r, e, h1, h2⟩ := h
    exact ⟨v, r, e, Rep.ext x h1, RepF.ext x h2⟩
theorem RepF.lookup (f : Str) : ∀ {fs : List (Str × Dt)} {vs : List (Str × V)}, RepF K s fs vs → (fs.lookup f = none ∧ vs.lookup f = none) ∨ ∃ d v, fs.lookup f = some d ∧ vs.lookup f = some v ∧ Rep K s d v
  | [], _, h => by cases h; exact .inl ⟨rfl, rfl⟩
  | (n, d) :: fs, _, h => by
    obtain ⟨v, r, rfl, h1, h2⟩ := h
    by_cases e : f == n
    · refine .inr ⟨d, v, ?_, ?_, h1⟩ <;> simp [List.lookup_cons, e]
    · have := RepF.lookup f h2
      simpa [List.lookup_cons, e] using this
/-- ORep goes on -/
theorem ORep.ext {a : Addr} {o : Ao} (x : Ext s s') (h : ORep K s a o) (e : s'.H a = s.H a) : ORep K s' a o := by
  cases o with
  | dead => obtain ⟨u, q, n⟩ := h; exact ⟨u, by rw [e]; exact q, n⟩
  | lst ds => obtain ⟨vs, q, r⟩ := h; exact ⟨vs, by rw [e]; exact q, Reps.ext x r⟩
  | dk ks ds => obtain ⟨vs, q, l, r⟩ := h; exact ⟨vs, by rw [e]; exact q, l, Reps.ext x r⟩
  | dt ks ds => obtain ⟨vs, q, l, r⟩ := h; exact ⟨vs, by rw [e]; exact q, l, Reps.ext x r⟩
  | ins c fs => obtain ⟨dx, vs, q, l, r⟩ := h; exact ⟨dx, vs, by rw [e]; exact q, x.keep l rfl, RepF.ext x r⟩

/-- the tables stay where something else is written -/
theorem tabs_upd {T : List (Addr × Str)} {H : Hp} (t : LamX.Tabs T H) {a : Addr} {u : HO} (h1 : ∀ ps, H a ≠ some (.tbl ps)) (h2 : ∀ φ, H a ≠ some (.ext φ)) : LamX.Tabs T (upd H a u) := fun p hp => by
  obtain ⟨ps, e1, e2, e3⟩ := t p hp
  refine ⟨ps, ?_, e2, fun pos cv hc => ?_⟩
  · rw [upd_ne (fun z => h1 ps (by rw [← z]; exact e1))]; exact e1
  · obtain ⟨c, e4, e5⟩ := e3 pos cv hc
    exact ⟨c, e4, by rw [upd_ne (fun z => h2 _ (by rw [← z]; exact e5))]; exact e5⟩
theorem tabs_new {T : List (Addr × Str)} {H : Hp} (t : LamX.Tabs T H) {a : Addr} {u : HO} (h : H a = none) : LamX.Tabs T (upd H a u) := tabs_upd t (fun _ z => by rw [h] at z; cases z) (fun _ z => by rw [h] at z; cases z)
theorem HRel.noTab (r : HRel K s) {i : Nat} {a : Addr} {o : Ao} (e : s.ρ[i]? = some a) (k : s.h[i]? = some o) (ho : o ≠ .dead) : (∀ ps, s.H a ≠ some (.tbl ps)) ∧ ∀ φ, s.H a ≠ some (.ext φ) := by
  have q := r.ob i a o e k
  cases o with
  | dead => exact (ho rfl).elim
  | lst ds => obtain ⟨vs, e, _⟩ := q; rw [e]; exact ⟨fun _ z => (nomatch z), fun _ z => (nomatch z)⟩
  | dk ks ds => obtain ⟨vs, e, _⟩ := q; rw [e]; exact ⟨fun _ z => (nomatch z), fun _ z => (nomatch z)⟩
  | dt ks ds => obtain ⟨vs, e, _⟩ := q; rw [e]; exact ⟨fun _ z => (nomatch z), fun _ z => (nomatch z)⟩
  | ins c fs => obtain ⟨dx, vs, e, _⟩ := q; rw [e]; exact ⟨fun _ z => (nomatch z), fun _ z => (nomatch z)⟩

/-! ### a new cell that is a value -/
def Sx.new (s : Sx) (p : Addr) (u : HO) : Sx := ⟨s.ρ, s.h, upd s.H p u⟩
theorem new_ext (r : HRel K s) {p : Addr} {u : HO} (hp : s.H p = none) : Ext s (s.new p u) :=
  .mk' (fun _ _ h => h) fun a o h k => ⟨by show upd s.H p u a = some o; rw [upd_ne (ne_of_none h hp)]; exact h, k⟩
theorem new_rel (r : HRel K s) {p : Addr} {u : HO} (hp : s.H p = none) : HRel K (s.new p u) := by
  refine ⟨r.len, r.nd, fun i a o e k => ?_, tabs_new r.tb hp⟩
  refine (r.ob i a o e k).ext (new_ext r hp) ?_
  show upd s.H p u a = s.H a
  exact upd_ne fun z => r.fresh hp (z ▸ e)
theorem new_fx (r : HRel K s) {p : Addr} {u : HO} (hp : s.H p = none) : Fx (s.new p u) p u := ⟨.inl upd_same, fun ⟨i, o, e, _⟩ => r.fresh hp e⟩

/-! ### a new tracked object -/
def Sx.add (s : Sx) (p : Addr) (u : HO) (o : Ao) : Sx := ⟨s.ρ ++ [p], s.h ++ [o], upd s.H p u⟩
theorem add_ext (r : HRel K s) {p : Addr} {u : HO} {o : Ao} (hp : s.H p = none) : Ext s (s.add p u o) := by
  refine .mk' (fun i a h => ?_) fun a v h k => ⟨by show upd s.H p u a = some v; rw [upd_ne (ne_of_none h hp)]; exact h, ?_⟩
  · show (s.ρ ++ [p])[i]? = some a
    rw [List.getElem?_append_left (List.getElem?_eq_some_iff.mp h).1]; exact h
  · rintro ⟨i, o', e, e2, q⟩
    have e : (s.ρ ++ [p])[i]? = some a := e
    have e2 : (s.h ++ [o])[i]? = some o' := e2
    by_cases hi : i < s.ρ.length
    · rw [List.getElem?_append_left hi] at e
      rw [List.getElem?_append_left (by rw [← r.len]; exact hi)] at e2
      exact k ⟨i, o', e, e2, q⟩
    · rw [List.getElem?_append_right (by omega)] at e
      have : i - s.ρ.length = 0 := by
        have := (List.getElem?_eq_some_iff.mp e).1
        simp at this; omega
      rw [this] at e
      simp at e
      subst e
      rw [hp] at h; cases h
theorem add_rel (r : HRel K s) {p : Addr} {u : HO} {o : Ao} (hp : s.H p = none) (ho : ORep K (s.add p u o) p o) : HRel K (s.add p u o) := by
  refine ⟨by show (s.ρ ++ [p]).length = (s.h ++ [o]).length; simp [r.len], ?_, fun i a o' e e2 => ?_, tabs_new r.tb hp⟩
  · show (s.ρ ++ [p]).Nodup
    refine List.nodup_append.mpr ⟨r.nd, by simp, fun a ha b hb => ?_⟩
    simp at hb; subst hb
    rintro rfl
    obtain ⟨i, hi, e⟩ := List.getElem_of_mem ha
    exact r.fresh hp (i := i) (by rw [List.getElem?_eq_getElem hi, e])
  · have e : (s.ρ ++ [p])[i]? = some a := e
    have e2 : (s.h ++ [o])[i]? = some o' := e2
    by_cases hi : i < s.ρ.length
    · rw [List.getElem?_append_left hi] at e
      rw [List.getElem?_append_left (by rw [← r.len]; exact hi)] at e2
      refine (r.ob i a o' e e2).ext (add_ext r hp) ?_
      show upd s.H p u a = s.H a
      exact upd_ne fun z => r.fresh hp (z ▸ e)
    · rw [List.getElem?_append_right (by omega)] at e
      have h0 : i - s.ρ.length = 0 := by
        have := (List.getElem?_eq_some_iff.mp e).1
        simp at this; omega
      rw [h0] at e
      simp at e
      subst e
      rw [List.getElem?_append_right (by rw [← r.len]; omega), ← r.len, h0] at e2
      simp at e2
      subst e2
      exact ho
theorem add_at (r : HRel K s) {p : Addr} {u : HO} {o : Ao} : (s.add p u o).ρ[s.h.length]? = some p := by
  show (s.ρ ++ [p])[s.h.length]? = some p
  rw [← r.len]; simp

/-! ### a tracked object changes -/
def Sx.put (s : Sx) (i : Nat) (a : Addr) (u : HO) (o : Ao) : Sx := ⟨s.ρ, s.h.set i o, upd s.H a u⟩
theorem put_ext (r : HRel K s) {i : Nat} {a : Addr} {u : HO} {o o' : Ao} (e : s.ρ[i]? = some a) (k : s.h[i]? = some o) (ho : o ≠ .dead) : Ext s (s.put i a u o') := by
  refine .mk' (fun _ _ h => h) fun b v h q => ?_
  have hb : b ≠ a := fun z => q (z ▸ ⟨i, o, e, k, ho⟩)
  refine ⟨by show upd s.H a u b = some v; rw [upd_ne hb]; exact h, ?_⟩
  rintro ⟨j, o2, e1, e2, q2⟩
  have e2 : (s.h.set i o')[j]? = some o2 := e2
  have e1 : s.ρ[j]? = some b := e1
  have hj : i ≠ j := fun z => by
    subst z
    rw [e] at e1
    exact hb (Option.some.inj e1).symm
  rw [List.getElem?_set_ne hj] at e2
  exact q ⟨j, o2, e1, e2, q2⟩
theorem put_rel (r : HRel K s) {i : Nat} {a : Addr} {u : HO} {o o' : Ao} (e : s.ρ[i]? = some a) (k : s.h[i]? = some o) (ho : o ≠ .dead) (hn : ORep K (s.put i a u o') a o') : HRel K (s.put i a u o') := by
  refine ⟨by show s.ρ.length = (s.h.set i o').length; simp [r.len], r.nd, fun j b o2 e1 e2 => ?_, tabs_upd r.tb (r.noTab e k ho).1 (r.noTab e k ho).2⟩
  have e2 : (s.h.set i o')[j]? = some o2 := e2
  have e1 : s.ρ[j]? = some b := e1
  by_cases hj : i = j
  · subst hj
    rw [e] at e1; cases e1
    rw [List.getElem?_set_self (List.getElem?_eq_some_iff.mp k).1] at e2
    cases e2
    exact hn
  · rw [List.getElem?_set_ne hj] at e2
    refine (r.ob j b o2 e1 e2).ext (put_ext r e k ho) ?_
    show upd s.H a u b = s.H b
    exact upd_ne fun z => hj (r.inj e (z ▸ e1))

/-! ### a tracked object becomes a value -/
def Sx.die (s : Sx) (i : Nat) : Sx := ⟨s.ρ, s.h.set i .dead, s.H⟩
theorem die_ext (r : HRel K s) (i : Nat) : Ext s (s.die i) := by
  refine .mk' (fun _ _ h => h) fun b v h q => ⟨h, ?_⟩
  rintro ⟨j, o2, e1, e2, q2⟩
  have e2 : (s.h.set i .dead)[j]? = some o2 := e2
  have e1 : s.ρ[j]? = some b := e1
  by_cases hj : i = j
  · subst hj
    by_cases hl : i < s.h.length
    · rw [List.getElem?_set_self hl] at e2; cases e2; exact q2 rfl
    · rw [List.getElem?_eq_none (by simpa using hl)] at e2; cases e2
  · rw [List.getElem?_set_ne hj] at e2
    exact q ⟨j, o2, e1, e2, q2⟩
theorem die_rel (r : HRel K s) (i : Nat) : HRel K (s.die i) := by
  refine ⟨by show s.ρ.length = (s.h.set i .dead).length; simp [r.len], r.nd, fun j b o2 e1 e2 => ?_, r.tb⟩
  have e2 : (s.h.set i .dead)[j]? = some o2 := e2
  have e1 : s.ρ[j]? = some b := e1
  by_cases hj : i = j
  · subst hj
    obtain ⟨o, k⟩ := r.at e1
    rw [List.getElem?_set_self (List.getElem?_eq_some_iff.mp k).1] at e2
    cases e2
    exact r.live e1 k
  · rw [List.getElem?_set_ne hj] at e2
    exact (r.ob j b o2 e1 e2).ext (die_ext r i) rfl
theorem die_fx (r : HRel K s) {i : Nat} {a : Addr} {u : HO} (e : s.ρ[i]? = some a) (q : s.H a = some u) : Fx (s.die i) a u := by
  refine ⟨.inl q, ?_⟩
  rintro ⟨j, o2, e1, e2, q2⟩
  have e2 : (s.h.set i .dead)[j]? = some o2 := e2
  have e1 : s.ρ[j]? = some a := e1
  have := r.inj e e1
  subst this
  rw [List.getElem?_set_self (by have := (List.getElem?_eq_some_iff.mp e).1; rw [r.len] at this; exact this)] at e2
  cases e2; exact q2 rfl
end

/-! ### a dict that is a value is locked -/
section
variable {K : PySem.W.Frag} {s s' : Sx}
theorem lock_ext {a : Addr} {u : HO} {od : Obj} (e : s.H a = some u) (hd : (∃ kvs, u = .dK kvs) ∨ ∃ kvs, u = .dT kvs) : Ext s (s.new a (.frz od u)) := by
  refine ⟨fun _ _ h => h, fun b o h k _ => ⟨?_, k⟩⟩
  by_cases hb : b = a
  · subst hb
    rw [e] at h; cases h
    exact ⟨_, upd_same, .inr ⟨od, rfl, hd⟩⟩
  · exact ⟨o, by show upd s.H a _ b = some o; rw [upd_ne hb]; exact h, .inl rfl⟩
theorem lock_rel (r : HRel K s) {a : Addr} {u : HO} {od : Obj} (e : s.H a = some u) (nm : ¬ s.mut a) (hd : (∃ kvs, u = .dK kvs) ∨ ∃ kvs, u = .dT kvs) : HRel K (s.new a (.frz od u)) := by
  refine ⟨r.len, r.nd, fun i b o e1 e2 => ?_, tabs_upd r.tb (fun _ z => ?_) fun _ z => ?_⟩
  rotate_left
  · rw [e] at z; rcases hd with ⟨_, rfl⟩ | ⟨_, rfl⟩ <;> cases z
  · rw [e] at z; rcases hd with ⟨_, rfl⟩ | ⟨_, rfl⟩ <;> cases z
  by_cases ho : o = .dead
  · subst ho
    by_cases hb : b = a
    · subst hb; exact ⟨_, upd_same, fun _ z => nomatch z⟩
    · obtain ⟨w, q, n⟩ := r.ob i b _ e1 e2
      exact ⟨w, by show upd s.H a _ b = _; rw [upd_ne hb]; exact q, n⟩
  · refine (r.ob i b o e1 e2).ext (lock_ext e hd) ?_
    show upd s.H a _ b = s.H b
    exact upd_ne fun z => nm (z ▸ ⟨i, o, e1, e2, ho⟩)
end
/-! ### exceptions, what is behind -/
def XRep (K : PySem.W.Frag) (s : Sx) (x : Xv) (c : Value) (dd : Option Addr) : Prop := c = .ref x.cls ∧ match x.fs with
  | none => dd = none
  | some fs => ∃ a vs, dd = some a ∧ Fx s a (.xd vs) ∧ RepF K s fs vs

def After {α : Type} (K : PySem.W.Frag) (E : XK) (s : Sx) (r : Rs α) (k : α → Sx → Prop) : Prop := match r with
  | .ok a h' => ∀ s', s'.h = h' → Ext s s' → HRel K s' → k a s'
  | .exn x h' => ∀ s' c dd, s'.h = h' → Ext s s' → HRel K s' → XRep K s' x c dd → E c dd s'.H
  | .no => False
section
variable {K : PySem.W.Frag} {E : XK} {s s' : Sx} {α β : Type}
theorem After.ext {r : Rs α} {k : α → Sx → Prop} (x : Ext s s') (h : After K E s r k) : After K E s' r k := by
  cases r with
  | ok a h' => exact fun s2 e y q => h s2 e (x.trans y) q
  | exn xv h' => exact fun s2 c dd e y q z => h s2 c dd e (x.trans y) q z
  | no => exact h
theorem After.bind {m : Mm α} {f : α → Mm β} {k : β → Sx → Prop} (h : After K E s ((m >>= f) s.h) k) : After K E s (m s.h) (fun a s1 => After K E s1 (f a s1.h) k) := by
  have e : (m >>= f) s.h = (match m s.h with | .ok a h' => f a h' | .exn x h' => .exn x h' | .no => .no) := rfl
  rw [e] at h
  cases q : m s.h with
  | ok a h' =>
    rw [q] at h
    intro s1 e1 x r
    subst e1
    exact After.ext x h
  | exn xv h' => rw [q] at h; exact h
  | no => rw [q] at h; exact h
theorem After.mono {r : Rs α} {k k' : α → Sx → Prop} (h : After K E s r k) (q : ∀ a s', Ext s s' → HRel K s' → k a s' → k' a s') : After K E s r k' := by
  cases r with
  | ok a h' => exact fun s2 e x r => q a s2 x r (h s2 e x r)
  | exn xv h' => exact h
  | no => exact h
end
end Mo
set_option Elab.async false
set_option linter.all false
set_option maxRecDepth 100000
set_option maxHeartbeats 4000000
/-! Mo2: readings by monadic functions; rules of the structure. -/
namespace Mo
open PySem L2 PySem.Spec PyProof.Rows
abbrev En := List (Option Dt)
inductive Fl where
  | nx (e : En) | bk (e : En) | ct (e : En) | rt (d : Dt)
structure Envs (K : PySem.W.Frag) (s : Sx) (env : En) (σ : L2.St) : Prop where
  len : env.length = σ.length
  get : ∀ (i : Nat) d, env[i]? = some (some d) → ∃ v, σ[i]? = some (some v) ∧ Rep K s d v

def tE (K : PySem.W.Frag) (E : XK) (m : En → Mm Dt) : TE := fun σ H Q => ∃ s env, s.H = H ∧ HRel K s ∧ Envs K s env σ ∧ After K E s (m env s.h) (fun d s' => ∀ v, Rep K s' d v → Q v s'.H)
def tT (K : PySem.W.Frag) (E : XK) (m : En → Mm Bool) : TT := fun σ H Q => ∃ s env, s.H = H ∧ HRel K s ∧ Envs K s env σ ∧ After K E s (m env s.h) (fun b s' => Q b s'.H)
def tA (K : PySem.W.Frag) (E : XK) (m : En → Mm (List Dt)) : TA := fun σ H Q => ∃ s env, s.H = H ∧ HRel K s ∧ Envs K s env σ ∧ After K E s (m env s.h) (fun ds s' => ∀ vs, Reps K s' ds vs → Q vs s'.H)
def tO (K : PySem.W.Frag) (E : XK) (m : En → Mm (Option Int)) : TO := fun σ H Q => ∃ s env, s.H = H ∧ HRel K s ∧ Envs K s env σ ∧ After K E s (m env s.h) (fun b s' => Q b s'.H)
def tG (K : PySem.W.Frag) (E : XK) (m : Dt → En → Mm En) : TG := fun v σ H Q => ∃ s env d, s.H = H ∧ HRel K s ∧ Envs K s env σ ∧ Rep K s d v ∧ After K E s (m d env s.h) (fun env' s' => ∀ σ', Envs K s' env' σ' → Q σ' s'.H)
def tGs (K : PySem.W.Frag) (E : XK) (m : List Dt → En → Mm En) : TGs := fun vs σ H Q => ∃ s env ds, s.H = H ∧ HRel K s ∧ Envs K s env σ ∧ Reps K s ds vs ∧ After K E s (m ds env s.h) (fun env' s' => ∀ σ', Envs K s' env' σ' → Q σ' s'.H)
def flK (K : PySem.W.Frag) (D : Ends) : Fl → Sx → Prop
  | .nx e, s' => ∀ σ', Envs K s' e σ' → D.nx σ' s'.H
  | .bk e, s' => ∀ σ', Envs K s' e σ' → D.bk σ' s'.H
  | .ct e, s' => ∀ σ', Envs K s' e σ' → D.ct σ' s'.H
  | .rt d, s' => ∀ v, Rep K s' d v → D.rt v s'.H
def tS (K : PySem.W.Frag) (E : XK) (m : En → Mm Fl) : TS := fun D σ H => ∃ s env, s.H = H ∧ HRel K s ∧ Envs K s env σ ∧ After K E s (m env s.h) (flK K D)
/-- a def that lets no exception out -/
def spM (K : PySem.W.Frag) (n : Nat) (fm : List Dt → Mm Dt) : Sp := fun vs H Q _ => ∃ s ds, s.H = H ∧ ds.length = n ∧ HRel K s ∧ Reps K s ds vs ∧ After K E0 s (fm ds s.h) (fun d s' => ∀ v, Rep K s' d v → Q v s'.H)
/-- operations on values -/
def rM (K : PySem.W.Frag) (E : XK) (g : Dt → Dt → Mm Dt) : R2 := fun x y H Q => ∃ s d e, s.H = H ∧ HRel K s ∧ Rep K s d x ∧ Rep K s e y ∧ After K E s (g d e s.h) (fun z s' => ∀ v, Rep K s' z v → Q v s'.H)
def uM (K : PySem.W.Frag) (E : XK) (g : Dt → Mm Dt) : V → Hp → VK → Prop := fun x H Q => ∃ s d, s.H = H ∧ HRel K s ∧ Rep K s d x ∧ After K E s (g d s.h) (fun z s' => ∀ v, Rep K s' z v → Q v s'.H)
def cM (K : PySem.W.Frag) (E : XK) (g : List Dt → Mm Dt) : List V → Hp → VK → Prop := fun xs H Q => ∃ s ds, s.H = H ∧ HRel K s ∧ Reps K s ds xs ∧ After K E s (g ds s.h) (fun z s' => ∀ v, Rep K s' z v → Q v s'.H)
def mM (K : PySem.W.Frag) (E : XK) (g : Dt → List Dt → Mm Dt) : V → List V → Hp → VK → Prop := fun x xs H Q => ∃ s d ds, s.H = H ∧ HRel K s ∧ Rep K s d x ∧ Reps K s ds xs ∧ After K E s (g d ds s.h) (fun z s' => ∀ v, Rep K s' z v → Q v s'.H)
def slM (K : PySem.W.Frag) (E : XK) (g : Dt → Option Int → Option Int → Mm Dt) : V → Option Int → Option Int → Hp → VK → Prop := fun x lo hi H Q => ∃ s d, s.H = H ∧ HRel K s ∧ Rep K s d x ∧ After K E s (g d lo hi s.h) (fun z s' => ∀ v, Rep K s' z v → Q v s'.H)
def stM (K : PySem.W.Frag) (E : XK) (g : Dt → Dt → Dt → Mm Unit) : TSet := fun o i v H Q => ∃ s d e f, s.H = H ∧ HRel K s ∧ Rep K s d o ∧ Rep K s e i ∧ Rep K s f v ∧ After K E s (g d e f s.h) (fun _ s' => Q s'.H)

section
variable {X : Cx} {E : XK} {K : PySem.W.Frag} {s s1 : Sx} {env : En} {σ : L2.St} {β : Type}
theorem Envs.ext (x : Ext s s1) (h : Envs K s env σ) : Envs K s1 env σ := ⟨h.len, fun i d e => (h.get i d e).imp fun v q => ⟨q.1, q.2.ext x⟩⟩
theorem tE_bind {m : En → Mm Dt} {f : Dt → Mm β} {k : β → Sx → Prop} {Q : VK} (hr : HRel K s) (he : Envs K s env σ) (ha : After K E s ((m env >>= f) s.h) k)
    (hq : ∀ d s1 v, Ext s s1 → HRel K s1 → Envs K s1 env σ → Rep K s1 d v → After K E s1 (f d s1.h) k → Q v s1.H) : tE K E m σ s.H Q :=
  ⟨s, env, rfl, hr, he, ha.bind.mono fun d s1 x r q v rv => hq d s1 v x r (he.ext x) rv q⟩
theorem tT_bind {m : En → Mm Bool} {f : Bool → Mm β} {k : β → Sx → Prop} {Q : Bool → Hp → Prop} (hr : HRel K s) (he : Envs K s env σ) (ha : After K E s ((m env >>= f) s.h) k)
    (hq : ∀ b s1, Ext s s1 → HRel K s1 → Envs K s1 env σ → After K E s1 (f b s1.h) k → Q b s1.H) : tT K E m σ s.H Q :=
  ⟨s, env, rfl, hr, he, ha.bind.mono fun d s1 x r q => hq d s1 x r (he.ext x) q⟩
theorem tA_bind {m : En → Mm (List Dt)} {f : List Dt → Mm β} {k : β → Sx → Prop} {Q : List V → Hp → Prop} (hr : HRel K s) (he : Envs K s env σ) (ha : After K E s ((m env >>= f) s.h) k)
    (hq : ∀ ds s1 vs, Ext s s1 → HRel K s1 → Envs K s1 env σ → Reps K s1 ds vs → After K E s1 (f ds s1.h) k → Q vs s1.H) : tA K E m σ s.H Q :=
  ⟨s, env, rfl, hr, he, ha.bind.mono fun d s1 x r q v rv => hq d s1 v x r (he.ext x) rv q⟩
theorem tO_bind {m : En → Mm (Option Int)} {f : Option Int → Mm β} {k : β → Sx → Prop} {Q : Option Int → Hp → Prop} (hr : HRel K s) (he : Envs K s env σ) (ha : After K E s ((m env >>= f) s.h) k)
    (hq : ∀ b s1, Ext s s1 → HRel K s1 → Envs K s1 env σ → After K E s1 (f b s1.h) k → Q b s1.H) : tO K E m σ s.H Q :=
  ⟨s, env, rfl, hr, he, ha.bind.mono fun d s1 x r q => hq d s1 x r (he.ext x) q⟩
/-- the last part of a chain -/
theorem After.ret {α : Type} {a : α} {k : α → Sx → Prop} (r : HRel K s) (h : After K E s ((Mm.pure a) s.h) k) : k a s := h s rfl (Ext.refl s) r
theorem After.now {α : Type} {a : α} {h' : Ah} {k : α → Sx → Prop} (h : After K E s (.ok a h') k) (s' : Sx) (e : s'.h = h') (x : Ext s s') (r : HRel K s') : k a s' := h s' e x r
end

section
variable {X : Cx} {E : XK} {e a b c : Expr} {pos : Pos}
theorem pe_mono {t t' : TE} (h : PE X e t) (k : ∀ σ H Q, t' σ H Q → t σ H Q) : PE X e t' := ⟨fun pins s σ H Q I w => h.run pins s σ H Q I (k σ H Q w)⟩
theorem pt_mono {t t' : TT} (h : PT X e t) (k : ∀ σ H Q, t' σ H Q → t σ H Q) : PT X e t' := ⟨fun pins s σ H Q I w => h.run pins s σ H Q I (k σ H Q w)⟩
theorem pw_mono {t t' : TT} (h : PW X e t) (k : ∀ σ H Q, t' σ H Q → t σ H Q) : PW X e t' := ⟨fun wh pins s σ H Q I w => h.run wh pins s σ H Q I (k σ H Q w)⟩
theorem pa_mono {es : List Expr} {t t' : TA} (h : PA X es t) (k : ∀ σ H Q, t' σ H Q → t σ H Q) : PA X es t' := ⟨fun pos pins s σ H Q I w => h.run pos pins s σ H Q I (k σ H Q w)⟩
theorem po_mono {e : Option Expr} {t t' : TO} (h : PO X e t) (k : ∀ σ H Q, t' σ H Q → t σ H Q) : PO X e t' := ⟨fun pins s σ H Q I w => h.run pins s σ H Q I (k σ H Q w)⟩
theorem ps_mono {st : Stmt} {t t' : TS} (h : PS X st t) (k : ∀ D σ H, t' D σ H → t D σ H) : PS X st t' := ⟨fun pins s σ H D I w => h.run pins s σ H D I (k D σ H w)⟩
theorem pss_mono {st : List Stmt} {t t' : TS} (h : PSs X st t) (k : ∀ D σ H, t' D σ H → t D σ H) : PSs X st t' := ⟨fun pins s σ H D I w => h.run pins s σ H D I (k D σ H w)⟩
theorem pg_mono {tg : Expr} {t t' : TG} (h : PG X tg t) (k : ∀ v σ H Q, t' v σ H Q → t v σ H Q) : PG X tg t' := ⟨fun pins s σ H v u Q I r w => h.run pins s σ H v u Q I r (k v σ H Q w)⟩
theorem pgs_mono {tg : List Expr} {t t' : TGs} (h : PGs X tg t) (k : ∀ v σ H Q, t' v σ H Q → t v σ H Q) : PGs X tg t' := ⟨fun pins s σ H v u Q I r w => h.run pins s σ H v u Q I r (k v σ H Q w)⟩
theorem opR_mono {f : Value → Value → Sem Value} {r r' : R2} (h : OpR X f r) (k : ∀ x y H Q, r' x y H Q → r x y H Q) : OpR X f r' := fun pins s σ H x y v u Q I rx ry w => h pins s σ H x y v u Q I rx ry (k x y H Q w)
theorem unR_mono {f : Value → Sem Value} {r r' : V → Hp → VK → Prop} (h : UnR X f r) (k : ∀ x H Q, r' x H Q → r x H Q) : UnR X f r' := fun pins s σ H x v Q I rx w => h pins s σ H x v Q I rx (k x H Q w)
theorem callR_mono {f : Value} {r r' : List V → Hp → VK → Prop} (h : CallR X f r) (k : ∀ x H Q, r' x H Q → r x H Q) : CallR X f r' := fun pins s σ H x v Q I rx w => h pins s σ H x v Q I rx (k x H Q w)

/-! ### names, constants -/
def var (i : Nat) : En → Mm Dt := fun env => match env[i]? with
  | some (some d) => Mm.pure d
  | _ => Mm.no
theorem me_var (i : Nat) {x : Str} {pos : Pos} (hN : X.N[i]? = some x := by rfl) (hv : Vis X.env.scope x := by first | exact Or.inl rfl | exact Or.inr (Or.inl rfl) | exact Or.inr (Or.inr rfl)) (hd : (x == ("__debug__" : Str)) = false := by decide)
    (hcd : (x == ("__classdict__" : Str)) = false := by decide) : PE X (.Name x pos) (tE X.K E (var i)) := pe_mono (pv i hN hv hd hcd) fun σ H Q ⟨s, env, e, hr, he, ha⟩ => by
  subst e
  unfold var at ha
  cases q : env[i]? with
  | none => rw [q] at ha; exact ha.elim
  | some o =>
    cases o with
    | none => rw [q] at ha; exact ha.elim
    | some d =>
      rw [q] at ha
      obtain ⟨v, e1, r⟩ := he.get i d q
      exact ⟨v, e1, ha.ret hr v r⟩
def con (d : Dt) : En → Mm Dt := fun _ => Mm.pure d
theorem me_con {t : TE} {d : Dt} {v : V} (h : PE X e (tC v)) (hr : ∀ s, Rep X.K s d v) : PE X e (tE X.K E (con d)) := pe_mono h fun σ H Q ⟨s, env, e, r, he, ha⟩ => by
  subst e
  exact ha.ret r v (hr s)
theorem me_int {i j pos} : PE X (.Constant (.int i) j pos) (tE X.K E (con (.int i))) := me_con (t := tC (.int i)) pe_int fun _ => rfl
theorem me_bl {b j pos} : PE X (.Constant (.bool b) j pos) (tE X.K E (con (.bl b))) := me_con (t := tC (.bl b)) pe_bl fun _ => rfl
theorem me_non {j pos} : PE X (.Constant .none j pos) (tE X.K E (con .non)) := me_con (t := tC .non) pe_non fun _ => rfl
theorem me_str {x j pos} : PE X (.Constant (.str x) j pos) (tE X.K E (con (.str x))) := me_con (t := tC (.str x)) pe_str fun _ => rfl

/-! ### operators -/
def op2 (g : Dt → Dt → Mm Dt) (ma mb : En → Mm Dt) : En → Mm Dt := fun env => ma env >>= fun x => mb env >>= fun y => g x y
def op1 (g : Dt → Mm Dt) (ma : En → Mm Dt) : En → Mm Dt := fun env => ma env >>= fun x => g x
variable {ma mb mc : En → Mm Dt} {g : Dt → Dt → Mm Dt}
theorem op2_ok {r : R2} (hr : ∀ x y H Q, rM X.K E g x y H Q → r x y H Q) : ∀ σ H Q, tE X.K E (op2 g ma mb) σ H Q → tOp r (tE X.K E ma) (tE X.K E mb) σ H Q := fun σ H Q ⟨s, env, e, r, he, ha⟩ => by
  subst e
  exact tE_bind r he ha fun d s1 x x1 r1 e1 rx q => tE_bind r1 e1 q fun d2 s2 y x2 r2 e2 ry q2 => hr _ _ _ _ ⟨s2, d, d2, rfl, r2, rx.ext x2, ry, q2⟩
theorem me_op {op : Operator} (ho : OpR X (binaryOp op) (rM X.K E g)) (ha : PE X a (tE X.K E ma)) (hb : PE X b (tE X.K E mb)) : PE X (.BinOp a op b pos) (tE X.K E (op2 g ma mb)) := pe_mono (pe_op ho ha hb) (op2_ok fun _ _ _ _ h => h)
theorem me_un {op : UnaryOp} {g : Dt → Mm Dt} (ho : UnR X (unaryOp op) (uM X.K E g)) (ha : PE X a (tE X.K E ma)) : PE X (.UnaryOp op a pos) (tE X.K E (op1 g ma)) := pe_mono (pe_un ho ha) fun σ H Q ⟨s, env, e, r, he, ha⟩ => by
  subst e
  exact tE_bind r he ha fun d s1 x x1 r1 e1 rx q => ⟨s1, d, rfl, r1, rx, q⟩
theorem me_cmp {op : CmpOp} (ho : OpR X (compareOp op) (rM X.K E g)) (ha : PE X a (tE X.K E ma)) (hb : PE X b (tE X.K E mb)) (hm : behindInMarks op b = false) : PE X (.Compare a [op] [b] pos) (tE X.K E (op2 g ma mb)) := pe_mono (pe_cmpR ho ha hb hm) (op2_ok fun _ _ _ _ h => h)
def isB : Dt → Mm Bool
  | .bl b => Mm.pure b
  | _ => Mm.no
/-- a value as a test -/
def tst (m : En → Mm Dt) : En → Mm Bool := fun env => m env >>= isB
theorem tst_ok : ∀ σ H Q, tT X.K E (tst ma) σ H Q → tTest (tE X.K E ma) σ H Q := fun σ H Q ⟨s, env, e, r, he, ha⟩ => by
  subst e
  refine tE_bind r he ha fun d s1 x x1 r1 e1 rx q => ?_
  cases d with
  | bl k =>
    cases rx
    exact ⟨k, rfl, q.ret r1⟩
  | _ => exact q.elim
theorem mt_cmp {op : CmpOp} (ho : OpR X (compareOp op) (rM X.K E g)) (ha : PE X a (tE X.K E ma)) (hb : PE X b (tE X.K E mb)) (hm : behindInMarks op b = false) : PT X (.Compare a [op] [b] pos) (tT X.K E (tst (op2 g ma mb))) := by
  refine pt_mono (pt_cmpR ho ha hb hm) fun σ H Q h => ?_
  obtain ⟨s, env, e, r, he, ha⟩ := h
  subst e
  have h2 : tE X.K E (op2 g ma mb) σ s.H (fun x H' => ∃ k, x = V.bl k ∧ Q k H') := by
    refine tE_bind r he ha fun d s1 x x1 r1 e1 rx q => ?_
    cases d with
    | bl k =>
      cases rx
      exact ⟨k, rfl, q.ret r1⟩
    | _ => exact q.elim
  exact op2_ok (fun _ _ _ _ h => h) _ _ _ h2
theorem mt_val {e : Expr} (h : PE X e (tE X.K E ma)) (he : ∀ whole, isTrue e X.env whole = (do let v ← whole; standAt e.pos; holding [v] (truthy v)) := by intro _; rfl) : PT X e (tT X.K E (tst ma)) :=
  pt_mono (pt_val h he) fun σ H Q ⟨s, env, e, r, he, ha⟩ => by
    subst e
    refine tE_bind r he ha fun d s1 x x1 r1 e1 rx q => ?_
    cases d with
    | bl k =>
      cases rx
      exact ⟨k, rfl, q.ret r1⟩
    | _ => exact q.elim

/-! ### chains -/
def chain (g g' : Dt → Dt → Mm Dt) (ma mb mc : En → Mm Dt) : En → Mm Dt := fun env => ma env >>= fun x => mb env >>= fun y => g x y >>= fun z => isB z >>= fun k => match k with
  | true => mc env >>= fun w => g' y w
  | false => Mm.pure (.bl false)
variable {g' : Dt → Dt → Mm Dt}
theorem chain_ok {β : Type} {f : Dt → Mm β} {k : β → Sx → Prop} {K : PySem.W.Frag} {s : Sx} {env : En} {σ : L2.St} {Q : VK} (r : HRel K s) (he : Envs K s env σ) (ha : After K E s ((chain g g' ma mb mc env >>= f) s.h) k)
    (hq : ∀ d s1 v, Ext s s1 → HRel K s1 → Envs K s1 env σ → Rep K s1 d v → After K E s1 (f d s1.h) k → Q v s1.H) : tChain (rM K E g) (rM K E g') (tE K E ma) (tE K E mb) (tE K E mc) σ s.H Q := by
  have as : ∀ (h : Ah), (chain g g' ma mb mc env >>= f) h = (ma env >>= fun x => mb env >>= fun y => g x y >>= fun z => isB z >>= fun k => match k with
    | true => mc env >>= fun w => g' y w >>= f
    | false => f (.bl false)) h := by
    intro h
    show Mm.bind (chain g g' ma mb mc env) f h = Mm.bind (ma env) _ h
    unfold chain
    show Mm.bind (Mm.bind (ma env) _) f h = Mm.bind (ma env) _ h
    simp only [Mm.bind]
    cases ma env h with
    | ok x h1 =>
      show Mm.bind (Mm.bind (mb env) _) f h1 = Mm.bind (mb env) _ h1
      simp only [Mm.bind]
      cases mb env h1 with
      | ok y h2 =>
        show Mm.bind (Mm.bind (g x y) _) f h2 = Mm.bind (g x y) _ h2
        simp only [Mm.bind]
        cases g x y h2 with
        | ok z h3 =>
          show Mm.bind (Mm.bind (isB z) _) f h3 = Mm.bind (isB z) _ h3
          simp only [Mm.bind]
          cases isB z h3 with
          | ok k h4 =>
            cases k with
            | true =>
              show Mm.bind (Mm.bind (mc env) _) f h4 = Mm.bind (mc env) _ h4
              simp only [Mm.bind]
              cases mc env h4 with
              | ok w h5 => rfl
              | exn x h => rfl
              | no => rfl
            | false => rfl
          | exn x h => rfl
          | no => rfl
        | exn x h => rfl
        | no => rfl
      | exn x h => rfl
      | no => rfl
    | exn x h => rfl
    | no => rfl
  rw [as] at ha
  refine tE_bind r he ha fun d s1 x x1 r1 e1 rx q1 => tE_bind r1 e1 q1 fun d2 s2 y x2 r2 e2 ry q2 => ?_
  refine ⟨s2, d, d2, rfl, r2, rx.ext x2, ry, q2.bind.mono fun z s3 x3 r3 q3 v rv => ?_⟩
  have q4 := q3.bind
  cases z with
  | bl k =>
    cases rv
    refine ⟨k, rfl, ?_⟩
    have q5 := q4.ret r3
    have e3 := e2.ext x3
    cases k with
    | true =>
      rw [if_pos rfl]
      refine tE_bind r3 e3 q5 fun d4 s4 w x4 r4 e4 rw' q6 => ⟨s4, d2, d4, rfl, r4, (ry.ext x3).ext x4, rw', q6.bind.mono fun z5 s5 x5 r5 q7 v5 rv5 => ?_⟩
      exact hq z5 s5 v5 (((x1.trans x2).trans x3).trans (x4.trans x5)) r5 (e4.ext x5) rv5 q7
    | false =>
      rw [if_neg (by decide)]
      exact hq (.bl false) s3 _ ((x1.trans x2).trans x3) r3 e3 rfl q5
  | _ => exact q4.elim
theorem me_chain {op op' : CmpOp} (ho : OpR X (compareOp op) (rM X.K E g)) (ho' : OpR X (compareOp op') (rM X.K E g')) (ha : PE X a (tE X.K E ma)) (hb : PE X b (tE X.K E mb)) (hc : PE X c (tE X.K E mc))
    (hm : lastMarks [op, op'] [b, c] = false := by with_unfolding_all rfl) : PE X (.Compare a [op, op'] [b, c] pos) (tE X.K E (chain g g' ma mb mc)) := by
  refine pe_mono (pe_chain ho ho' ha hb hc hm) fun σ H Q ⟨s, env, e, r, he, ha⟩ => ?_
  subst e
  have hb : (chain g g' ma mb mc env >>= Mm.pure) s.h = chain g g' ma mb mc env s.h := by
    show Mm.bind (chain g g' ma mb mc env) Mm.pure s.h = _
    unfold Mm.bind
    cases chain g g' ma mb mc env s.h <;> rfl
  rw [← hb] at ha
  exact chain_ok r he ha fun d s1 v _ r1 _ rv q => q.ret r1 v rv
theorem mt_chain {op op' : CmpOp} (ho : OpR X (compareOp op) (rM X.K E g)) (ho' : OpR X (compareOp op') (rM X.K E g')) (ha : PE X a (tE X.K E ma)) (hb : PE X b (tE X.K E mb)) (hc : PE X c (tE X.K E mc))
    (hm : lastMarks [op, op'] [b, c] = false := by with_unfolding_all rfl) : PT X (.Compare a [op, op'] [b, c] pos) (tT X.K E (tst (chain g g' ma mb mc))) := by
  refine pt_mono (pt_chain ho ho' ha hb hc hm) fun σ H Q ⟨s, env, e, r, he, ha⟩ => ?_
  subst e
  refine chain_ok r he ha fun d s1 v _ r1 _ rv q => ?_
  cases d with
  | bl k =>
    cases rv
    exact ⟨k, rfl, q.ret r1⟩
  | _ => exact q.elim

/-! ### and, or, not, if -/
variable {mt mu : En → Mm Bool} {rest : List Expr}
def andT (mt mu : En → Mm Bool) : En → Mm Bool := fun env => mt env >>= fun c => match c with | true => mu env | false => Mm.pure false
def orT (mt mu : En → Mm Bool) : En → Mm Bool := fun env => mt env >>= fun c => match c with | true => Mm.pure true | false => mu env
def notT (mt : En → Mm Bool) : En → Mm Bool := fun env => mt env >>= fun c => Mm.pure (!c)
theorem mw_and1 (ha : PT X a (tT X.K E mt)) : PW X (.BoolOp .And [a] pos) (tT X.K E mt) := pw_and1 ha
theorem mw_or1 (ha : PT X a (tT X.K E mt)) : PW X (.BoolOp .Or [a] pos) (tT X.K E mt) := pw_or1 ha
theorem mw_and (ha : PT X a (tT X.K E mt)) (hb : PW X (.BoolOp .And (b :: rest) pos) (tT X.K E mu)) : PW X (.BoolOp .And (a :: b :: rest) pos) (tT X.K E (andT mt mu)) := pw_mono (pw_and ha hb) fun σ H Q ⟨s, env, e, r, he, ha⟩ => by
  subst e
  refine tT_bind r he ha fun c s1 x1 r1 e1 q => ?_
  cases c with
  | true => rw [if_pos rfl]; exact ⟨s1, env, rfl, r1, e1, q⟩
  | false => rw [if_neg (by decide)]; exact q.ret r1
theorem mw_or (ha : PT X a (tT X.K E mt)) (hb : PW X (.BoolOp .Or (b :: rest) pos) (tT X.K E mu)) : PW X (.BoolOp .Or (a :: b :: rest) pos) (tT X.K E (orT mt mu)) := pw_mono (pw_or ha hb) fun σ H Q ⟨s, env, e, r, he, ha⟩ => by
  subst e
  refine tT_bind r he ha fun c s1 x1 r1 e1 q => ?_
  cases c with
  | true => rw [if_pos rfl]; exact q.ret r1
  | false => rw [if_neg (by decide)]; exact ⟨s1, env, rfl, r1, e1, q⟩
theorem mt_not (ha : PT X a (tT X.K E mt)) : PT X (.UnaryOp .Not a pos) (tT X.K E (notT mt)) := pt_mono (pt_not ha) fun σ H Q ⟨s, env, e, r, he, ha⟩ => by
  subst e
  exact tT_bind r he ha fun c s1 x1 r1 e1 q => q.ret r1
/-- .. as values, of truth values -/
def andV (ma mb : En → Mm Dt) : En → Mm Dt := fun env => ma env >>= fun x => isB x >>= fun c => match c with | true => mb env | false => Mm.pure (.bl false)
def orV (ma mb : En → Mm Dt) : En → Mm Dt := fun env => ma env >>= fun x => isB x >>= fun c => match c with | true => Mm.pure (.bl true) | false => mb env
def notV (ma : En → Mm Dt) : En → Mm Dt := fun env => ma env >>= fun x => isB x >>= fun c => Mm.pure (.bl (!c))
theorem isB_ok {K : PySem.W.Frag} {s : Sx} {β : Type} {f : Bool → Mm β} {k : β → Sx → Prop} {d : Dt} {v : V} (r : HRel K s) (rv : Rep K s d v) (h : After K E s ((isB d >>= f) s.h) k) : ∃ c, v = .bl c ∧ After K E s (f c s.h) k := by
  have q := h.bind
  cases d with
  | bl c => cases rv; exact ⟨c, rfl, q.ret r⟩
  | _ => exact q.elim
theorem me_one {op} (h : PE X a (tE X.K E ma)) : PE X (.BoolOp op [a] pos) (tE X.K E ma) := pe_one h
theorem me_and (ha : PE X a (tE X.K E ma)) (hb : PE X (.BoolOp .And (b :: rest) pos) (tE X.K E mb)) : PE X (.BoolOp .And (a :: b :: rest) pos) (tE X.K E (andV ma mb)) := pe_mono (pe_and ha hb) fun σ H Q ⟨s, env, e, r, he, ha⟩ => by
  subst e
  refine tE_bind r he ha fun d s1 v x1 r1 e1 rv q => ?_
  obtain ⟨c, rfl, q2⟩ := isB_ok r1 rv q
  refine ⟨c, rfl, ?_⟩
  cases c with
  | true => rw [if_pos rfl]; exact ⟨s1, env, rfl, r1, e1, q2⟩
  | false => rw [if_neg (by decide)]; exact q2.ret r1 _ rfl
theorem me_or (ha : PE X a (tE X.K E ma)) (hb : PE X (.BoolOp .Or (b :: rest) pos) (tE X.K E mb)) : PE X (.BoolOp .Or (a :: b :: rest) pos) (tE X.K E (orV ma mb)) := pe_mono (pe_or ha hb) fun σ H Q ⟨s, env, e, r, he, ha⟩ => by
  subst e
  refine tE_bind r he ha fun d s1 v x1 r1 e1 rv q => ?_
  obtain ⟨c, rfl, q2⟩ := isB_ok r1 rv q
  refine ⟨c, rfl, ?_⟩
  cases c with
  | true => rw [if_pos rfl]; exact q2.ret r1 _ rfl
  | false => rw [if_neg (by decide)]; exact ⟨s1, env, rfl, r1, e1, q2⟩
theorem me_not (ha : PE X a (tE X.K E ma)) : PE X (.UnaryOp .Not a pos) (tE X.K E (notV ma)) := pe_mono (pe_not ha) fun σ H Q ⟨s, env, e, r, he, ha⟩ => by
  subst e
  refine tE_bind r he ha fun d s1 v x1 r1 e1 rv q => ?_
  obtain ⟨c, rfl, q2⟩ := isB_ok r1 rv q
  exact ⟨c, rfl, q2.ret r1 _ rfl⟩
def ifE (mt : En → Mm Bool) (ma mb : En → Mm Dt) : En → Mm Dt := fun env => mt env >>= fun c => match c with | true => ma env | false => mb env
theorem me_if (hc : PT X c (tT X.K E mt)) (ha : PE X a (tE X.K E ma)) (hb : PE X b (tE X.K E mb)) : PE X (.IfExp c a b pos) (tE X.K E (ifE mt ma mb)) := pe_mono (pe_ifExp hc ha hb) fun σ H Q ⟨s, env, e, r, he, ha⟩ => by
  subst e
  refine tT_bind r he ha fun c s1 x1 r1 e1 q => ?_
  cases c with
  | true => rw [if_pos rfl]; exact ⟨s1, env, rfl, r1, e1, q⟩
  | false => rw [if_neg (by decide)]; exact ⟨s1, env, rfl, r1, e1, q⟩

/-! ### arguments, displays -/
def argN : En → Mm (List Dt) := fun _ => Mm.pure []
def argC (ma : En → Mm Dt) (mr : En → Mm (List Dt)) : En → Mm (List Dt) := fun env => ma env >>= fun x => mr env >>= fun r => Mm.pure (x :: r)
variable {mr : En → Mm (List Dt)} {es : List Expr}
theorem ma_nil : PA X [] (tA X.K E argN) := pa_mono pa_nil fun σ H Q ⟨s, env, e, r, he, ha⟩ => by
  subst e
  exact ha.ret r [] rfl
theorem ma_cons (ha : PE X e (tE X.K E ma)) (hr : PA X es (tA X.K E mr)) (hs : starEach (e :: es) X.env = (false, eval e X.env) :: starEach es X.env := by rfl) : PA X (e :: es) (tA X.K E (argC ma mr)) := pa_mono (pa_cons ha hr hs) fun σ H Q ⟨s, env, e, r, he, ha⟩ => by
  subst e
  exact tE_bind r he ha fun d s1 v x1 r1 e1 rv q => tA_bind r1 e1 q fun ds s2 vs x2 r2 e2 rvs q2 => q2.ret r2 _ (Reps.cons (rv.ext x2) rvs)
def tupE (mr : En → Mm (List Dt)) : En → Mm Dt := fun env => mr env >>= fun ds => if ds.length ≤ sizeLine then Mm.pure (.tup ds) else Mm.no
def lstE (mr : En → Mm (List Dt)) : En → Mm Dt := fun env => mr env >>= fun ds => if ds.length ≤ sizeLine then Mm.pure (.lv ds) else Mm.no
/-- a new tracked object -/
def mkO (o : Ao) : Mm Dt := fun h => .ok (.obj h.length) (h ++ [o])
def lstO (mr : En → Mm (List Dt)) : En → Mm Dt := fun env => mr env >>= fun ds => if ds.length ≤ sizeLine then mkO (.lst ds) else Mm.no
theorem me_tup {x1} (h : PA X es (tA X.K E mr)) : PE X (.Tuple es x1 pos) (tE X.K E (tupE mr)) := pe_mono (pe_tup h) fun σ H Q ⟨s, env, e, r, he, ha⟩ => by
  subst e
  refine tA_bind r he ha fun ds s1 vs x1 r1 e1 rv q => ?_
  split at q
  · rename_i hl
    rw [rv.length]
    refine ⟨hl, fun p hp => ?_⟩
    exact q.now (s1.new p (.tup vs)) rfl (new_ext r1 hp) (new_rel r1 hp) _ ⟨p, vs, rfl, ⟨upd_same, (new_fx r1 hp).2⟩, rv.ext (new_ext r1 hp)⟩
  · exact q.elim
theorem me_lst (h : PA X es (tA X.K E mr)) : PE X (.List es pos) (tE X.K E (lstE mr)) := pe_mono (pe_lst h) fun σ H Q ⟨s, env, e, r, he, ha⟩ => by
  subst e
  refine tA_bind r he ha fun ds s1 vs x1 r1 e1 rv q => ?_
  split at q
  · rename_i hl
    rw [rv.length]
    refine ⟨hl, fun p hp => ?_⟩
    exact q.now (s1.new p (.lst vs)) rfl (new_ext r1 hp) (new_rel r1 hp) _ ⟨p, vs, rfl, ⟨upd_same, (new_fx r1 hp).2⟩, rv.ext (new_ext r1 hp)⟩
  · exact q.elim
theorem mkO_ok {K : PySem.W.Frag} {s : Sx} {o : Ao} {u : HO} {p : Addr} {k : Dt → Sx → Prop} (r : HRel K s) (hp : s.H p = none) (ho : ORep K (s.add p u o) p o) (h : After K E s (mkO o s.h) k) : HRel K (s.add p u o) ∧ Ext s (s.add p u o) ∧ Rep K (s.add p u o) (.obj s.h.length) (.ref p) ∧ k (.obj s.h.length) (s.add p u o) :=
  ⟨add_rel r hp ho, add_ext r hp, ⟨p, add_at r, rfl⟩, h.now (s.add p u o) rfl (add_ext r hp) (add_rel r hp ho)⟩
theorem me_lstO (h : PA X es (tA X.K E mr)) : PE X (.List es pos) (tE X.K E (lstO mr)) := pe_mono (pe_lst h) fun σ H Q ⟨s, env, e, r, he, ha⟩ => by
  subst e
  refine tA_bind r he ha fun ds s1 vs x1 r1 e1 rv q => ?_
  split at q
  · rename_i hl
    rw [rv.length]
    refine ⟨hl, fun p hp => ?_⟩
    obtain ⟨_, x, rp, kq⟩ := mkO_ok (u := .lst vs) (o := .lst ds) r1 hp ⟨vs, upd_same, rv.ext (add_ext r1 hp)⟩ q
    exact kq _ rp
  · exact q.elim

/-! ### calls of own defs -/
def callM (n : Nat) (fm : List Dt → Mm Dt) (mr : En → Mm (List Dt)) : En → Mm Dt := fun env => mr env >>= fun ds => if ds.length = n then fm ds else Mm.no
theorem me_call {CX : CXT} {k n : Nat} {f : Addr} {fd : FuncData} {ps : List Str} {fm : List Dt → Mm Dt} {x : Str} {p : Pos} (F : FnOk X.prog X.w X.K X.mg X.base CX k f fd ps (spM X.K n fm)) (hr : Room k X.A) (hg : Gl X x) (hm : X.mg x = some (.ref f)) (hk : PySem.W.keepIn X.K (.ref f) = true) (hb : Binds X.K fd ps []) (hx : Passes CX X E0)
    (ha : PA X (e :: es) (tA X.K E0 mr)) (hdb : (x == ("__debug__" : Str)) = false := by decide) (he : starEach (e :: es) X.env = (false, eval e X.env) :: starEach es X.env := by rfl) (hpl : (backTo pos (starEach es X.env)).any (·.1) = false := by rfl) :
    PE X (.Call (.Name x p) (e :: es) [] pos) (tE X.K E0 (callM n fm mr)) := pe_mono (pe_call F hr hg hm hk hb .nil hx ha hdb he hpl) fun σ H Q ⟨s, env, e, r, he, ha⟩ => by
  subst e
  refine tA_bind r he ha fun ds s1 vs x1 r1 e1 rv q => ?_
  split at q
  · rename_i hl
    rw [List.append_nil]
    exact ⟨s1, ds, rfl, hl, r1, rv, q⟩
  · exact q.elim
theorem me_call0 {CX : CXT} {k : Nat} {f : Addr} {fd : FuncData} {ps : List Str} {fm : List Dt → Mm Dt} {x : Str} {p : Pos} (F : FnOk X.prog X.w X.K X.mg X.base CX k f fd ps (spM X.K 0 fm)) (hr : Room k X.A) (hg : Gl X x) (hm : X.mg x = some (.ref f)) (hk : PySem.W.keepIn X.K (.ref f) = true) (hb : Binds X.K fd ps []) (hx : Passes CX X E0)
    (hdb : (x == ("__debug__" : Str)) = false := by decide) : PE X (.Call (.Name x p) [] [] pos) (tE X.K E0 (fun _ => fm [])) := pe_mono (pe_call0 F hr hg hm hk hb .nil hx hdb) fun σ H Q ⟨s, env, e, r, he, ha⟩ => by
  subst e
  exact ⟨s, [], rfl, rfl, r, rfl, ha⟩
/-! ### built-ins by name -/
def bi (g : List Dt → Mm Dt) (mr : En → Mm (List Dt)) : En → Mm Dt := fun env => mr env >>= fun ds => g ds
theorem me_callB {id : String} {g : List Dt → Mm Dt} {x : Str} {p : Pos} (hc : CallR X (.builtin id) (cM X.K E g)) (hg : Gl X x) (hm : X.mg x = none) (hv : bootBuiltins x = some (.builtin id)) (ha : PA X (e :: es) (tA X.K E mr)) (hn : x ≠ "__name__" := by decide) (hdb : (x == ("__debug__" : Str)) = false := by decide)
    (h : PE X (.Call (.Name x p) (e :: es) [] pos) (tCB (cM X.K E g) (tA X.K E mr)) := by exact pe_callB ‹_› ‹_› ‹_› ‹_› ‹_›) :
    PE X (.Call (.Name x p) (e :: es) [] pos) (tE X.K E (bi g mr)) := pe_mono h fun σ H Q ⟨s, env, e, r, he, ha⟩ => by
  subst e
  exact tA_bind r he ha fun ds s1 vs x1 r1 e1 rv q => ⟨s1, ds, rfl, r1, rv, q⟩
theorem bi_ok {g : List Dt → Mm Dt} : ∀ σ H Q, tE X.K E (bi g mr) σ H Q → tCB (cM X.K E g) (tA X.K E mr) σ H Q := fun σ H Q ⟨s, env, e, r, he, ha⟩ => by
  subst e
  exact tA_bind r he ha fun ds s1 vs x1 r1 e1 rv q => ⟨s1, ds, rfl, r1, rv, q⟩
end
end Mo
set_option Elab.async false
set_option linter.all false
set_option maxRecDepth 100000
set_option maxHeartbeats 4000000
/-! Mo3: statements, targets, loops, comprehensions, defs. -/
namespace Mo
open PySem L2 PySem.Spec PyProof.Rows
section
variable {X : Cx} {E : XK} {e a b c : Expr} {pos : Pos} {st : Stmt} {rest body : List Stmt}
variable {ma mb mc : En → Mm Dt} {mt mu : En → Mm Bool} {mr : En → Mm (List Dt)} {es : List Expr} {ms m1 m2 : En → Mm Fl}
/-! ### blocks -/
def nxt : En → Mm Fl := fun env => Mm.pure (.nx env)
def seq (m1 m2 : En → Mm Fl) : En → Mm Fl := fun env => m1 env >>= fun f => match f with
  | .nx e => m2 e
  | .bk e => Mm.pure (.bk e)
  | .ct e => Mm.pure (.ct e)
  | .rt d => Mm.pure (.rt d)
theorem tS_bind {K : PySem.W.Frag} {s : Sx} {env : En} {σ : L2.St} {m : En → Mm Fl} {β : Type} {f : Fl → Mm β} {k : β → Sx → Prop} {D : Ends} (hr : HRel K s) (he : Envs K s env σ) (ha : After K E s ((m env >>= f) s.h) k)
    (hq : ∀ fl s1, Ext s s1 → HRel K s1 → After K E s1 (f fl s1.h) k → flK K D fl s1) : tS K E m D σ s.H :=
  ⟨s, env, rfl, hr, he, ha.bind.mono fun d s1 x r q => hq d s1 x r q⟩
theorem mss_nil : PSs X [] (tS X.K E nxt) := pss_mono pss_nil fun D σ H ⟨s, env, e, r, he, ha⟩ => by
  subst e
  exact ha.ret r σ he
theorem mss_cons (h1 : PS X st (tS X.K E m1)) (h2 : PSs X rest (tS X.K E m2)) : PSs X (st :: rest) (tS X.K E (seq m1 m2)) := pss_mono (pss_cons h1 h2) fun D σ H ⟨s, env, e, r, he, ha⟩ => by
  subst e
  refine tS_bind r he ha fun fl s1 x1 r1 q => ?_
  cases fl with
  | nx e => exact fun σ' he' => ⟨s1, e, rfl, r1, he', q⟩
  | bk e => exact fun σ' he' => q.ret r1 σ' he'
  | ct e => exact fun σ' he' => q.ret r1 σ' he'
  | rt d => exact fun v rv => q.ret r1 v rv
theorem mss_one (h1 : PS X st (tS X.K E m1)) : PSs X [st] (tS X.K E m1) := pss_one h1
theorem ms_pass : PS X (.Pass pos) (tS X.K E nxt) := ps_mono ps_pass fun D σ H ⟨s, env, e, r, he, ha⟩ => by
  subst e
  exact ha.ret r σ he
theorem ms_doc {x j pos pos'} : PS X (.Expr (.Constant (.str x) j pos) pos') (tS X.K E nxt) := ps_mono ps_doc fun D σ H ⟨s, env, e, r, he, ha⟩ => by
  subst e
  exact ha.ret r σ he
def brk : En → Mm Fl := fun env => Mm.pure (.bk env)
def cnt : En → Mm Fl := fun env => Mm.pure (.ct env)
theorem ms_break : PS X (.Break pos) (tS X.K E brk) := ps_mono ps_break fun D σ H ⟨s, env, e, r, he, ha⟩ => by
  subst e
  exact ha.ret r σ he
theorem ms_continue : PS X (.Continue pos) (tS X.K E cnt) := ps_mono ps_continue fun D σ H ⟨s, env, e, r, he, ha⟩ => by
  subst e
  exact ha.ret r σ he
def drp (ma : En → Mm Dt) : En → Mm Fl := fun env => ma env >>= fun _ => Mm.pure (.nx env)
theorem ms_expr (he : PE X e (tE X.K E ma)) (hs : swapsWith e none pos.line X.env = pure false := by rfl) : PS X (.Expr e pos) (tS X.K E (drp ma)) := ps_mono (ps_expr he hs) fun D σ H ⟨s, env, e, r, he, ha⟩ => by
  subst e
  exact tE_bind r he ha fun d s1 v x1 r1 e1 rv q => q.ret r1 σ e1
def ret (ma : En → Mm Dt) : En → Mm Fl := fun env => ma env >>= fun d => Mm.pure (.rt d)
theorem ms_ret (he : PE X e (tE X.K E ma)) : PS X (.Return (some e) pos) (tS X.K E (ret ma)) := ps_mono (ps_ret he) fun D σ H ⟨s, env, e, r, he, ha⟩ => by
  subst e
  exact tE_bind r he ha fun d s1 v x1 r1 e1 rv q => q.ret r1 v rv
theorem ms_retN : PS X (.Return none pos) (tS X.K E (fun _ => Mm.pure (.rt .non))) := ps_mono ps_retN fun D σ H ⟨s, env, e, r, he, ha⟩ => by
  subst e
  exact ha.ret r _ rfl
def ifS (mt : En → Mm Bool) (m1 m2 : En → Mm Fl) : En → Mm Fl := fun env => mt env >>= fun c => match c with | true => m1 env | false => m2 env
theorem ms_if {a b : List Stmt} (hc : PT X c (tT X.K E mt)) (ha : PSs X a (tS X.K E m1)) (hb : PSs X b (tS X.K E m2)) : PS X (.If c a b pos) (tS X.K E (ifS mt m1 m2)) := ps_mono (ps_if hc ha hb) fun D σ H ⟨s, env, e, r, he, ha⟩ => by
  subst e
  refine tT_bind r he ha fun c s1 x1 r1 e1 q => ?_
  cases c with
  | true => rw [if_pos rfl]; exact ⟨s1, env, rfl, r1, e1, q⟩
  | false => rw [if_neg (by decide)]; exact ⟨s1, env, rfl, r1, e1, q⟩

/-! ### targets -/
def gN (i : Nat) : Dt → En → Mm En := fun d env => Mm.pure (env.set i (some d))
theorem Envs.set {K : PySem.W.Frag} {s : Sx} {env : En} {σ : L2.St} {d : Dt} {v : V} (h : Envs K s env σ) (r : Rep K s d v) (i : Nat) : Envs K s (env.set i (some d)) (σ.set i (some v)) := by
  refine ⟨by simp [h.len], fun j d' e => ?_⟩
  by_cases hj : i = j
  · subst hj
    have hl : i < env.length := by
      have := (List.getElem?_eq_some_iff.mp e).1
      simpa using this
    rw [List.getElem?_set_self hl] at e
    cases e
    exact ⟨v, by rw [List.getElem?_set_self (by rw [← h.len]; exact hl)], r⟩
  · rw [List.getElem?_set_ne hj] at e
    obtain ⟨w, e1, r1⟩ := h.get j d' e
    exact ⟨w, by rw [List.getElem?_set_ne hj]; exact e1, r1⟩
theorem mg_name {i : Nat} {x : Str} (hN : X.N.Nodup) (hi : X.N[i]? = some x) (hx : Loc X.env.scope x) (hf : X.fn x = true ∨ X.env.scope.names.lookup x = some .local := by first | exact .inl rfl | exact .inr rfl | assumption) : PG X (.Name x pos) (tG X.K E (gN i)) :=
  pg_mono (pg_name hN hi hx hf) fun v σ H Q ⟨s, env, d, e, r, he, rv, ha⟩ => by
    subst e
    exact ha.ret r _ (he.set rv i)
def gsN : List Dt → En → Mm En := fun ds env => match ds with
  | [] => Mm.pure env
  | _ => Mm.no
def gsC (g : Dt → En → Mm En) (gs : List Dt → En → Mm En) : List Dt → En → Mm En := fun ds env => match ds with
  | d :: r => g d env >>= fun env' => gs r env'
  | [] => Mm.no
theorem mgs_nil : PGs X [] (tGs X.K E gsN) := pgs_mono pgs_nil fun vs σ H Q ⟨s, env, ds, e, r, he, rv, ha⟩ => by
  subst e
  cases ds with
  | nil => cases rv; exact ⟨rfl, ha.ret r _ he⟩
  | cons _ _ => exact ha.elim
theorem tG_bind {K : PySem.W.Frag} {s : Sx} {env : En} {σ : L2.St} {d : Dt} {v : V} {m : Dt → En → Mm En} {β : Type} {f : En → Mm β} {k : β → Sx → Prop} {Q : L2.St → Hp → Prop} (hr : HRel K s) (he : Envs K s env σ) (rv : Rep K s d v) (ha : After K E s ((m d env >>= f) s.h) k)
    (hq : ∀ env' s1 σ', Ext s s1 → HRel K s1 → Envs K s1 env' σ' → After K E s1 (f env' s1.h) k → Q σ' s1.H) : tG K E m v σ s.H Q :=
  ⟨s, env, d, rfl, hr, he, rv, ha.bind.mono fun e s1 x r q σ' es => hq e s1 σ' x r es q⟩
theorem mgs_cons {g : Dt → En → Mm En} {gs : List Dt → En → Mm En} (h1 : PG X e (tG X.K E g)) (h2 : PGs X es (tGs X.K E gs))
    (hs : (assignEach (e :: es) X.env).map (·.2) = assign e X.env :: (assignEach es X.env).map (·.2) := by rfl) : PGs X (e :: es) (tGs X.K E (gsC g gs)) := pgs_mono (pgs_cons h1 h2 hs) fun vs σ H Q ⟨s, env, ds, e, r, he, rv, ha⟩ => by
  subst e
  cases ds with
  | nil => exact ha.elim
  | cons d ds =>
    obtain ⟨v, vr, rfl, rd, rr⟩ := rv
    refine ⟨v, vr, rfl, tG_bind r he rd ha fun env' s1 σ' x1 r1 e1 q => ⟨s1, env', ds, rfl, r1, e1, rr.ext x1, q⟩⟩
def gT (n : Nat) (gs : List Dt → En → Mm En) : Dt → En → Mm En := fun d env => match d with
  | .tup ds => if ds.length = n then gs ds env else Mm.no
  | _ => Mm.no
theorem Rep.tupV {K : PySem.W.Frag} {s : Sx} {ds : List Dt} {v : V} (h : Rep K s (.tup ds) v) : ∃ a vs, v = .ref a ∧ SqT K s.H a vs ∧ Reps K s ds vs := by
  obtain ⟨a, vs, e, k, r⟩ := h
  exact ⟨a, vs, e, .of k.1, r⟩
theorem mg_tup {k : Nat} {gs : List Dt → En → Mm En} {n : Nat} (hc : X.calm = true) (h : PGs X es (tGs X.K E gs))
    (hn : (assignEach es X.env).length = n := by rfl) (hst : (assignEach es X.env).findIdx? (·.1) = none := by rfl) : PG X (.Tuple es k pos) (tG X.K E (gT n gs)) := pg_mono (pg_tup hc h hn hst) fun v σ H Q ⟨s, env, d, e, r, he, rv, ha⟩ => by
  subst e
  cases d with
  | tup ds =>
    obtain ⟨a, vs, rfl, sq, rs⟩ := rv.tupV
    by_cases hl : ds.length = n
    · have ha : After X.K E s ((if ds.length = n then gs ds env else Mm.no) s.h) _ := ha
      rw [if_pos hl] at ha
      exact ⟨a, vs, rfl, sq, by rw [rs.length]; exact hl, s, env, ds, rfl, r, he, rs, ha⟩
    · have ha : After X.K E s ((if ds.length = n then gs ds env else Mm.no) s.h) _ := ha
      rw [if_neg hl] at ha
      exact ha.elim
  | _ => exact ha.elim
/-- o[i] = .. -/
def gS (mo mi : En → Mm Dt) (g : Dt → Dt → Dt → Mm Unit) : Dt → En → Mm En := fun d env => mo env >>= fun o => mi env >>= fun i => g o i d >>= fun _ => Mm.pure env
theorem mg_sub {o i : Expr} {mo mi : En → Mm Dt} {g : Dt → Dt → Dt → Mm Unit} (ho : PE X o (tE X.K E mo)) (hi : PE X i (tE X.K E mi)) (hs : PSet X (stM X.K E g))
    (ha : ∀ v, assign (.Subscript o i pos) X.env v = (do
      let ov ← holding [v] (eval o X.env)
      let iv ← holding [v, ov] (eval i X.env)
      standAt pos
      holding [v, ov, iv] (setItem ov iv v)
      release [v, ov, iv] []) := by intro _; rfl) : PG X (.Subscript o i pos) (tG X.K E (gS mo mi g)) := pg_mono (pg_sub ho hi hs ha) fun v σ H Q ⟨s, env, d, e, r, he, rv, ha⟩ => by
  subst e
  refine tE_bind r he ha fun d1 s1 v1 x1 r1 e1 rv1 q1 => tE_bind r1 e1 q1 fun d2 s2 v2 x2 r2 e2 rv2 q2 => ?_
  refine ⟨s2, d1, d2, d, rfl, r2, rv1.ext x2, rv2, (rv.ext x1).ext x2, q2.bind.mono fun _ s3 x3 r3 q3 => ?_⟩
  exact q3.ret r3 σ (e2.ext x3)
def asg (ma : En → Mm Dt) (g : Dt → En → Mm En) : En → Mm Fl := fun env => ma env >>= fun d => g d env >>= fun env' => Mm.pure (.nx env')
theorem ms_asg {tg : Expr} {g : Dt → En → Mm En} (he : PE X e (tE X.K E ma)) (hg : PG X tg (tG X.K E g)) (hs : swapsWithSole [tg] e pos.line X.env = pure false := by rfl) (hw : swappedStores [tg] e X.env = pure none := by rfl)
    (h1 : (assignEach [tg] X.env).map (·.2) = [assign tg X.env] := by rfl) : PS X (.Assign [tg] e pos) (tS X.K E (asg ma g)) := ps_mono (ps_asg he hg hs hw h1) fun D σ H ⟨s, env, e, r, he, ha⟩ => by
  subst e
  exact tE_bind r he ha fun d s1 v x1 r1 e1 rv q => tG_bind r1 e1 rv q fun env' s2 σ' x2 r2 e2 q2 => q2.ret r2 σ' e2
def sto (i : Nat) (ma : En → Mm Dt) : En → Mm Fl := fun env => ma env >>= fun d => Mm.pure (.nx (env.set i (some d)))
theorem ms_set {i : Nat} {x : Str} {pos' : Pos} (hN : X.N.Nodup) (hi : X.N[i]? = some x) (hx : Loc X.env.scope x) (he : PE X e (tE X.K E ma)) (hs : swapsWith e (some (.Name x pos')) pos.line X.env = pure false := by rfl) (hf : X.fn x = true ∨ X.env.scope.names.lookup x = some .local := by first | exact .inl rfl | exact .inr rfl | assumption) :
    PS X (.Assign [.Name x pos'] e pos) (tS X.K E (sto i ma)) := ps_mono (ps_set hN hi hx he hs hf) fun D σ H ⟨s, env, e, r, he, ha⟩ => by
  subst e
  exact tE_bind r he ha fun d s1 v x1 r1 e1 rv q => q.ret r1 _ (e1.set rv i)
def par (i j : Nat) (mr : En → Mm (List Dt)) : En → Mm Fl := fun env => mr env >>= fun ds => match ds with
  | [d1, d2] => Mm.pure (.nx ((env.set i (some d1)).set j (some d2)))
  | _ => Mm.no
theorem ms_par {i j : Nat} {x y : Str} {px py pt : Pos} {kt k2 pt2} (hc : X.calm = true) (hN : X.N.Nodup) (hi : X.N[i]? = some x) (hj : X.N[j]? = some y) (hij : i ≠ j)
    (hx : X.env.scope.names.lookup x = some .local) (hy : X.env.scope.names.lookup y = some .local) (ha : PA X [a, b] (tA X.K E mr))
    (hw : swappedStores [.Tuple [.Name x px, .Name y py] kt pt] (.Tuple [a, b] k2 pt2) X.env = pure (some [x, y]))
    (hs : swapsWithSole [.Tuple [.Name x px, .Name y py] kt pt] (.Tuple [a, b] k2 pt2) pos.line X.env = pure false := by rfl) :
    PS X (.Assign [.Tuple [.Name x px, .Name y py] kt pt] (.Tuple [a, b] k2 pt2) pos) (tS X.K E (par i j mr)) := ps_mono (ps_par hc hN hi hj hij hx hy ha hw hs) fun D σ H ⟨s, env, e, r, he, ha⟩ => by
  subst e
  refine tA_bind r he ha fun ds s1 vs x1 r1 e1 rv q => ?_
  match ds, rv, q with
  | [d1, d2], ⟨v, _, e2, rv1, w, _, e3, rv2, e4⟩, q =>
    subst e2 e3 e4
    exact ⟨v, w, rfl, q.ret r1 _ ((e1.set rv1 i).set rv2 j)⟩
  | [], _, q => exact q.elim
  | [_], _, q => exact q.elim
  | _ :: _ :: _ :: _, _, q => exact q.elim
/-- x op= e -/
def aug (i : Nat) (ma : En → Mm Dt) (g : Dt → Dt → Mm Dt) : En → Mm Fl := fun env => match env[i]? with
  | some (some x) => ma env >>= fun y => g x y >>= fun z => Mm.pure (.nx (env.set i (some z)))
  | _ => Mm.no
theorem ms_aug {i : Nat} {x : Str} {op : Operator} {g : Dt → Dt → Mm Dt} {pos' : Pos} (hN : X.N.Nodup) (hi : X.N[i]? = some x) (hx : Loc X.env.scope x) (he : PE X e (tE X.K E ma)) (ho : OpR X (inplaceOp op) (rM X.K E g)) (hf : X.fn x = true ∨ X.env.scope.names.lookup x = some .local := by first | exact .inl rfl | exact .inr rfl | assumption) :
    PS X (.AugAssign (.Name x pos') op e pos) (tS X.K E (aug i ma g)) := ps_mono (ps_aug hN hi hx he (ti := rM X.K E g) (fun pins s σ H x y v u Q I rx ry w => ho pins s σ H x y v u Q I rx ry w) hf) fun D σ H ⟨s, env, e, r, he, ha⟩ => by
  subst e
  unfold aug at ha
  cases q : env[i]? with
  | none => rw [q] at ha; exact ha.elim
  | some o =>
    cases o with
    | none => rw [q] at ha; exact ha.elim
    | some d =>
      rw [q] at ha
      obtain ⟨v, e1, rv⟩ := he.get i d q
      refine ⟨v, e1, tE_bind r he ha fun d2 s2 v2 x2 r2 e2 rv2 q2 => ⟨s2, d, d2, rfl, r2, rv.ext x2, rv2, q2.bind.mono fun z s3 x3 r3 q3 vz rz => q3.ret r3 _ ((e2.ext x3).set rz i)⟩⟩

/-! ### while -/
def whl (mt : En → Mm Bool) (m : En → Mm Fl) : Nat → En → Mm Fl
  | 0, _ => Mm.no
  | n + 1, env => mt env >>= fun c => match c with
    | true => m env >>= fun f => match f with
      | .nx e => whl mt m n e
      | .ct e => whl mt m n e
      | .bk e => Mm.pure (.nx e)
      | .rt d => Mm.pure (.rt d)
    | false => Mm.pure (.nx env)
theorem tS_while {K : PySem.W.Frag} {D : Ends} {σ : L2.St} {H : Hp} {n : Nat} : tS K E (whl mt ms n) D σ H → tWhile (tT K E mt) (tS K E ms) D σ H := by
  intro h
  refine ⟨fun m σ H => tS K E (whl mt ms m) D σ H, ⟨n, h⟩, ?_⟩
  rintro m σ H ⟨s, env, e, r, he, ha⟩
  subst e
  cases m with
  | zero => exact ha.elim
  | succ m =>
    refine tT_bind r he ha fun c s1 x1 r1 e1 q => ?_
    cases c with
    | false => rw [if_neg (by decide)]; exact q.ret r1 σ e1
    | true =>
      rw [if_pos rfl]
      refine ⟨fun σ' H' => tS K E (whl mt ms m) D σ' H', fun σ' H' w => ⟨m, Nat.lt_succ_self m, w⟩, ?_⟩
      refine tS_bind r1 e1 q fun fl s2 x2 r2 q2 => ?_
      cases fl with
      | nx e => exact fun σ' he' => ⟨s2, e, rfl, r2, he', q2⟩
      | ct e => exact fun σ' he' => ⟨s2, e, rfl, r2, he', q2⟩
      | bk e => exact fun σ' he' => q2.ret r2 σ' he'
      | rt d => exact fun v rv => q2.ret r2 v rv
end
end Mo
set_option Elab.async false
set_option linter.all false
set_option maxRecDepth 100000
set_option maxHeartbeats 4000000
/-! Mo4: patterns, for, comprehensions, defs. -/
namespace Mo
open PySem L2 PySem.Spec PyProof.Rows
/-! ### patterns -/
inductive Pat where
  | nm (i : Nat) | tp (ps : List Pat)
mutual
def Pat.tg (K : PySem.W.Frag) : Pat → TG
  | .nm i => gName i
  | .tp ps => gTup K ps.length (Pat.tgs K ps)
def Pat.tgs (K : PySem.W.Frag) : List Pat → TGs
  | [] => gNil
  | p :: ps => gCons (Pat.tg K p) (Pat.tgs K ps)
end
mutual
def Pat.bd : Pat → Dt → En → Option En
  | .nm i, d, env => some (env.set i (some d))
  | .tp ps, .tup ds, env => if ds.length = ps.length then Pat.bds ps ds env else none
  | .tp _, _, _ => none
def Pat.bds : List Pat → List Dt → En → Option En
  | [], [], env => some env
  | p :: ps, d :: ds, env => match Pat.bd p d env with
    | some e => Pat.bds ps ds e
    | none => none
  | _, _, _ => none
end
mutual
def Pat.sl : Pat → List Nat
  | .nm i => [i]
  | .tp ps => Pat.sls ps
def Pat.sls : List Pat → List Nat
  | [] => []
  | p :: ps => Pat.sl p ++ Pat.sls ps
end
/-- equal but at some slots -/
structure But (σ τ : L2.St) (l : List Nat) : Prop where
  len : τ.length = σ.length
  get : ∀ j, j ∉ l → τ[j]? = σ[j]?
mutual
theorem Pat.ok {K : PySem.W.Frag} {s : Sx} : ∀ (p : Pat) {d : Dt} {v : V} {env env' : En} {σ : L2.St} {Q : L2.St → Hp → Prop}, Rep K s d v → p.bd d env = some env' → Envs K s env σ →
    (∀ τ, Envs K s env' τ → But σ τ p.sl → Q τ s.H) → p.tg K v σ s.H Q
  | .nm i, d, v, env, env', σ, Q, rv, e, he, h => by
    simp only [Pat.bd, Option.some.injEq] at e
    subst e
    refine h _ (he.set rv i) ⟨by simp, fun j hj => ?_⟩
    simp only [Pat.sl, List.mem_singleton] at hj
    exact List.getElem?_set_ne (fun z => hj z.symm)
  | .tp ps, d, v, env, env', σ, Q, rv, e, he, h => by
    cases d with
    | tup ds =>
      simp only [Pat.bd] at e
      split at e
      · rename_i hl
        obtain ⟨a, vs, rfl, sq, rs⟩ := rv.tupV
        refine ⟨a, vs, rfl, sq, by rw [rs.length]; exact hl, Pat.oks ps rs e he h⟩
      · cases e
    | _ => simp [Pat.bd] at e
theorem Pat.oks {K : PySem.W.Frag} {s : Sx} : ∀ (ps : List Pat) {ds : List Dt} {vs : List V} {env env' : En} {σ : L2.St} {Q : L2.St → Hp → Prop}, Reps K s ds vs → Pat.bds ps ds env = some env' → Envs K s env σ →
    (∀ τ, Envs K s env' τ → But σ τ (Pat.sls ps) → Q τ s.H) → Pat.tgs K ps vs σ s.H Q
  | [], ds, vs, env, env', σ, Q, rv, e, he, h => by
    cases ds with
    | nil =>
      cases rv
      simp only [Pat.bds, Option.some.injEq] at e
      subst e
      exact ⟨rfl, h _ he ⟨rfl, fun _ _ => rfl⟩⟩
    | cons _ _ => simp [Pat.bds] at e
  | p :: ps, ds, vs, env, env', σ, Q, rv, e, he, h => by
    cases ds with
    | nil => simp [Pat.bds] at e
    | cons d ds =>
      obtain ⟨v, vr, rfl, rd, rr⟩ := rv
      simp only [Pat.bds] at e
      cases q : p.bd d env with
      | none => rw [q] at e; cases e
      | some e1 =>
        rw [q] at e
        refine ⟨v, vr, rfl, Pat.ok p rd q he fun τ h1 b1 => ?_⟩
        refine Pat.oks ps rr e h1 fun υ h2 b2 => h υ h2 ⟨b2.len.trans b1.len, fun j hj => ?_⟩
        simp only [Pat.sls, List.mem_append, not_or] at hj
        exact (b2.get j hj.2).trans (b1.get j hj.1)
end
theorem But.wipe {σ τ : L2.St} {l : List Nat} (b : But σ τ l) : ∀ {vs : List Nat}, (∀ i ∈ l, i ∈ vs) → L2.wipe τ vs = L2.wipe σ vs := by
  intro vs hs
  apply List.ext_getElem?
  intro j
  by_cases hj : j ∈ vs
  · have key : ∀ (υ : L2.St), (L2.wipe υ vs)[j]? = if j < υ.length then some none else none := by
      intro υ
      clear hs
      induction vs with
      | nil => simp at hj
      | cons v vs ih =>
        show ((L2.wipe υ vs).set v none)[j]? = _
        by_cases hv : v = j
        · subst hv
          by_cases hl : v < υ.length
          · rw [List.getElem?_set_self (by rw [wipe_length]; exact hl), if_pos hl]
          · rw [if_neg hl, List.getElem?_eq_none (by simp [wipe_length]; omega)]
        · rw [List.getElem?_set_ne hv]
          have : j ∈ vs := by
            rcases List.mem_cons.mp hj with z | z
            · exact absurd z.symm hv
            · exact z
          exact ih this
    rw [key, key, b.len]
  · rw [wipe_out hj, wipe_out hj]
    exact b.get j fun z => hj (hs j z)

section
variable {X : Cx} {E : XK} {e a b c : Expr} {pos : Pos} {st : Stmt} {rest body : List Stmt}
variable {ma mb mc : En → Mm Dt} {mt mu : En → Mm Bool} {mr : En → Mm (List Dt)} {es : List Expr} {ms m1 m2 : En → Mm Fl}
def gP (p : Pat) : Dt → En → Mm En := fun d env => match p.bd d env with
  | some e => Mm.pure e
  | none => Mm.no
theorem tG_pat {K : PySem.W.Frag} {p : Pat} : ∀ v σ H Q, tG K E (gP p) v σ H Q → p.tg K v σ H Q := fun v σ H Q ⟨s, env, d, e, r, he, rv, ha⟩ => by
  subst e
  unfold gP at ha
  cases q : p.bd d env with
  | none => rw [q] at ha; exact ha.elim
  | some e1 =>
    rw [q] at ha
    exact p.ok rv q he fun τ h1 _ => ha.ret r τ h1
theorem mg_pat {tg : Expr} {p : Pat} (h : PG X tg (p.tg X.K)) : PG X tg (tG X.K E (gP p)) := pg_mono h tG_pat

/-! ### what is walked -/
structure ItRep (K : PySem.W.Frag) (s0 : Sx) (J : It) (ds : List Dt) : Prop where
  go : ∀ s, Ext s0 s → HRel K s → ∀ (i : Nat) d, ds[i]? = some d → J.go i s.H ∧ ∀ x H', J.yld i s.H x H' → ∃ s', s'.H = H' ∧ s'.h = s.h ∧ Ext s s' ∧ HRel K s' ∧ Rep K s' d x
  stop : ∀ s, Ext s0 s → HRel K s → J.stop ds.length s.H
def tI (K : PySem.W.Frag) (E : XK) (m : En → Mm (List Dt)) : TI := fun σ H R => ∃ s env, s.H = H ∧ HRel K s ∧ Envs K s env σ ∧ After K E s (m env s.h) (fun ds s' => ∀ J, ItRep K s' J ds → R J s'.H)
theorem pi_mono {tg iter : Expr} {t t' : TI} (h : PI X tg iter t) (k : ∀ σ H R, t' σ H R → t σ H R) : PI X tg iter t' := ⟨fun pins s σ H R I w => h.run pins s σ H R I (k σ H R w)⟩

/-! ### for -/
def forL (p : Pat) (mb : En → Mm Fl) : List Dt → En → Mm Fl
  | [], env => Mm.pure (.nx env)
  | d :: ds, env => gP p d env >>= fun e1 => mb e1 >>= fun f => match f with
    | .nx e => forL p mb ds e
    | .ct e => forL p mb ds e
    | .bk e => Mm.pure (.nx e)
    | .rt d => Mm.pure (.rt d)
def forM (mi : En → Mm (List Dt)) (p : Pat) (mb : En → Mm Fl) : En → Mm Fl := fun env => mi env >>= fun ds => forL p mb ds env
theorem tFor_ok {K : PySem.W.Frag} {mi : En → Mm (List Dt)} {p : Pat} : ∀ D σ H, tS K E (forM mi p ms) D σ H → tFor (tI K E mi) (p.tg K) (tS K E ms) D σ H := fun D σ H ⟨s, env, e, r, he, ha⟩ => by
  subst e
  refine ⟨s, env, rfl, r, he, ha.bind.mono fun ds s1 x1 r1 q J hJ => ?_⟩
  refine ⟨fun i m σ H => ∃ s2 env2, s2.H = H ∧ Ext s1 s2 ∧ HRel K s2 ∧ Envs K s2 env2 σ ∧ m = ds.length - i ∧ i ≤ ds.length ∧ After K E s2 (forL p ms (ds.drop i) env2 s2.h) (flK K D),
    ⟨ds.length, s1, env, rfl, Ext.refl _, r1, he.ext x1, by simp, Nat.zero_le _, by simpa using q⟩, ?_⟩
  rintro i m σ H ⟨s2, env2, rfl, x2, r2, e2, rfl, hi, q2⟩
  by_cases hlt : i < ds.length
  · have hd : ds.drop i = ds[i] :: ds.drop (i + 1) := by rw [List.drop_eq_getElem_cons hlt]
    rw [hd] at q2
    obtain ⟨go, yl⟩ := hJ.go s2 x2 r2 i ds[i] (by simp [hlt])
    refine .inr ⟨go, fun σ' H' => ∃ s3 env3, s3.H = H' ∧ Ext s1 s3 ∧ HRel K s3 ∧ Envs K s3 env3 σ' ∧ After K E s3 (forL p ms (ds.drop (i + 1)) env3 s3.h) (flK K D), ?_, fun x H' y => ?_⟩
    · rintro σ' H' ⟨s3, env3, rfl, x3, r3, e3, q3⟩
      exact ⟨ds.length - (i + 1), by omega, s3, env3, rfl, x3, r3, e3, rfl, by omega, q3⟩
    · obtain ⟨s3, rfl, eh, x3, r3, rx⟩ := yl x H' y
      have e3 := e2.ext x3
      have q3 := After.ext x3 q2
      rw [← eh] at q3
      refine tG_pat (E := E) _ _ _ _ (tG_bind r3 e3 rx q3 fun env4 s4 σ4 x4 r4 e4 q4 => ?_)
      refine tS_bind r4 e4 q4 fun fl s5 x5 r5 q5 => ?_
      have xx := ((x2.trans x3).trans x4).trans x5
      cases fl with
      | nx e => exact fun σ' he' => ⟨s5, e, rfl, xx, r5, he', q5⟩
      | ct e => exact fun σ' he' => ⟨s5, e, rfl, xx, r5, he', q5⟩
      | bk e => exact fun σ' he' => q5.ret r5 σ' he'
      | rt d => exact fun v rv => q5.ret r5 v rv
  · have hi' : i = ds.length := by omega
    subst hi'
    refine .inl ⟨hJ.stop s2 x2 r2, ?_⟩
    rw [List.drop_length] at q2
    exact q2.ret r2 σ e2
theorem ms_for {tg iter : Expr} {mi : En → Mm (List Dt)} {p : Pat} (hp : PassesOwn (model X.prog X.w) X.A X.env X.xe) (hc : X.calm = true) (hi : PI X tg iter (tI X.K E mi)) (hg : PG X tg (p.tg X.K)) (hb : PSs X body (tS X.K E ms))
    (hs : ∀ x, foldedSetIterable iter X.env x = pure x := by intro _; rfl) : PS X (.For tg iter body [] pos) (tS X.K E (forM mi p ms)) := ps_mono (ps_for hp hc hi hg hb hs) tFor_ok
def whileM (mt : En → Mm Bool) (m : En → Mm Fl) : En → Mm Fl := whl mt m 1000000
theorem ms_while (hp : PassesOwn (model X.prog X.w) X.A X.env X.xe) (hc : PT X c (tT X.K E mt)) (hb : PSs X body (tS X.K E ms)) : PS X (.While c body [] pos) (tS X.K E (whileM mt ms)) := ps_mono (ps_while hp hc hb) fun D σ H h => tS_while h

/-! ### comprehensions -/
def wipeE (env : En) : List Nat → En
  | [] => env
  | v :: vs => (wipeE env vs).set v none
theorem Envs.wipe {K : PySem.W.Frag} {s : Sx} {env : En} {σ : L2.St} (h : Envs K s env σ) : ∀ vs, Envs K s (wipeE env vs) (L2.wipe σ vs)
  | [] => h
  | v :: vs => by
    have q := Envs.wipe h vs
    refine ⟨by show ((wipeE env vs).set v none).length = ((L2.wipe σ vs).set v none).length; simp [q.len], fun j d e => ?_⟩
    have e : ((wipeE env vs).set v none)[j]? = some (some d) := e
    by_cases hj : v = j
    · subst hj
      by_cases hl : v < (wipeE env vs).length
      · rw [List.getElem?_set_self hl] at e; cases e
      · rw [List.getElem?_eq_none (by simpa using hl)] at e; cases e
    · rw [List.getElem?_set_ne hj] at e
      obtain ⟨w, e1, r1⟩ := q.get j d e
      exact ⟨w, by show ((L2.wipe σ vs).set v none)[j]? = _; rw [List.getElem?_set_ne hj]; exact e1, r1⟩
def push (n : Nat) (y : Dt) : Mm Unit := fun h => match h[n]? with
  | some (.lst xs) => if xs.length < sizeLine then .ok () (h.set n (.lst (xs ++ [y]))) else .no
  | _ => .no
def takeL (n : Nat) : Mm Dt := fun h => match h[n]? with
  | some (.lst xs) => .ok (.lv xs) (h.set n .dead)
  | _ => .no
def newO (o : Ao) : Mm Nat := fun h => .ok h.length (h ++ [o])
def lcL (p : Pat) (mt : En → Mm Bool) (me : En → Mm Dt) (n : Nat) : List Dt → En → Mm Unit
  | [], _ => Mm.pure ()
  | d :: ds, env => gP p d env >>= fun e1 => mt e1 >>= fun c => match c with
    | true => me e1 >>= fun y => push n y >>= fun _ => lcL p mt me n ds env
    | false => lcL p mt me n ds env
def lcM (mi : En → Mm (List Dt)) (p : Pat) (mt : En → Mm Bool) (me : En → Mm Dt) (vs : List Nat) : En → Mm Dt := fun env => mi env >>= fun ds => newO (.lst []) >>= fun n => lcL p mt me n ds (wipeE env vs) >>= fun _ => takeL n
theorem push_ok {K : PySem.W.Frag} {s : Sx} {n : Nat} {a : Addr} {y : Dt} {v : V} {k : Unit → Sx → Prop} (r : HRel K s) (ea : s.ρ[n]? = some a) (rv : Rep K s y v) (h : After K E s (push n y s.h) k) :
    ∃ xs, s.H a = some (.lst xs) ∧ xs.length < sizeLine ∧ ∃ s', s'.H = upd s.H a (.lst (xs ++ [v])) ∧ Ext s s' ∧ HRel K s' ∧ s'.ρ[n]? = some a ∧ k () s' := by
  unfold push at h
  cases q : s.h[n]? with
  | none => rw [q] at h; exact h.elim
  | some o =>
    rw [q] at h
    cases o with
    | lst ds =>
      obtain ⟨vs, e1, r1⟩ := r.ob n a _ ea q
      by_cases hl : ds.length < sizeLine
      · simp only [hl, if_true] at h
        have x := put_ext (u := .lst (vs ++ [v])) (o' := .lst (ds ++ [y])) r ea q (by intro z; cases z)
        have r' := put_rel (u := .lst (vs ++ [v])) (o' := .lst (ds ++ [y])) r ea q (by intro z; cases z) ⟨_, upd_same, (r1.ext x).append (Reps.cons (rv.ext x) Reps.nil)⟩
        exact ⟨vs, e1, by rw [r1.length]; exact hl, _, rfl, x, r', ea, h.now _ rfl x r'⟩
      · simp only [hl, if_false] at h
        exact h.elim
    | _ => exact h.elim
theorem takeL_ok {K : PySem.W.Frag} {s : Sx} {n : Nat} {a : Addr} {k : Dt → Sx → Prop} (r : HRel K s) (ea : s.ρ[n]? = some a) (h : After K E s (takeL n s.h) k) :
    ∃ xs s', s'.H = s.H ∧ Ext s s' ∧ HRel K s' ∧ Rep K s' (.lv xs) (.ref a) ∧ k (.lv xs) s' := by
  unfold takeL at h
  cases q : s.h[n]? with
  | none => rw [q] at h; exact h.elim
  | some o =>
    rw [q] at h
    cases o with
    | lst ds =>
      obtain ⟨vs, e1, r1⟩ := r.ob n a _ ea q
      have x := die_ext r n
      have f := die_fx r ea e1
      exact ⟨ds, s.die n, rfl, x, die_rel r n, ⟨a, vs, rfl, ⟨e1, f.2⟩, r1.ext x⟩, h.now (s.die n) rfl x (die_rel r n)⟩
    | _ => exact h.elim
theorem tLc_ok {K : PySem.W.Frag} {mi : En → Mm (List Dt)} {p : Pat} {me : En → Mm Dt} {vs : List Nat} (hp : ∀ i ∈ p.sl, i ∈ vs) : ∀ σ H Q, tE K E (lcM mi p mt me vs) σ H Q → tLc (tI K E mi) (p.tg K) (tT K E mt) (tE K E me) vs σ H Q := fun σ H Q ⟨s, env, e, r, he, ha⟩ => by
  subst e
  refine ⟨s, env, rfl, r, he, ha.bind.mono fun ds s1 x1 r1 q J hJ D hD => ?_⟩
  -- the list under way
  have q1 := q.bind
  have x2 := add_ext (u := .lst []) (o := .lst []) r1 hD
  have r2 := add_rel (u := .lst []) (o := .lst []) r1 hD ⟨[], upd_same, Reps.nil⟩
  have q2 := q1.now (s1.add D (.lst []) (.lst [])) rfl x2 r2
  have eD : (s1.add D (.lst []) (.lst [])).ρ[s1.h.length]? = some D := add_at r1
  have e2 := ((he.ext x1).ext x2).wipe vs
  refine ⟨fun i m H => ∃ s3, s3.H = H ∧ Ext s1 s3 ∧ HRel K s3 ∧ s3.ρ[s1.h.length]? = some D ∧ Envs K s3 (wipeE env vs) (L2.wipe σ vs) ∧ m = ds.length - i ∧ i ≤ ds.length ∧
      After K E s3 ((lcL p mt me s1.h.length (ds.drop i) (wipeE env vs) >>= fun _ => takeL s1.h.length) s3.h) (fun d s' => ∀ v, Rep K s' d v → Q v s'.H),
    ⟨ds.length, _, rfl, x2, r2, eD, e2, by simp, Nat.zero_le _, by simpa using q2⟩, ?_⟩
  rintro i m H ⟨s3, rfl, x3, r3, eD3, e3, rfl, hi, q3⟩
  by_cases hlt : i < ds.length
  · have hd : ds.drop i = ds[i] :: ds.drop (i + 1) := by rw [List.drop_eq_getElem_cons hlt]
    rw [hd] at q3
    obtain ⟨go, yl⟩ := hJ.go s3 x3 r3 i ds[i] (by simp [hlt])
    have as : ∀ h, (lcL p mt me s1.h.length (ds[i] :: ds.drop (i + 1)) (wipeE env vs) >>= fun _ => takeL s1.h.length) h = (gP p ds[i] (wipeE env vs) >>= fun e1 => mt e1 >>= fun c => match c with
        | true => me e1 >>= fun y => push s1.h.length y >>= fun _ => lcL p mt me s1.h.length (ds.drop (i + 1)) (wipeE env vs) >>= fun _ => takeL s1.h.length
        | false => lcL p mt me s1.h.length (ds.drop (i + 1)) (wipeE env vs) >>= fun _ => takeL s1.h.length) h := by
      intro h
      show Mm.bind (Mm.bind (gP p ds[i] (wipeE env vs)) _) _ h = Mm.bind (gP p ds[i] (wipeE env vs)) _ h
      simp only [Mm.bind]
      cases gP p ds[i] (wipeE env vs) h with
      | ok e1 h1 =>
        show Mm.bind (Mm.bind (mt e1) _) _ h1 = Mm.bind (mt e1) _ h1
        simp only [Mm.bind]
        cases mt e1 h1 with
        | ok c h2 =>
          cases c with
          | false => rfl
          | true =>
            show Mm.bind (Mm.bind (me e1) _) _ h2 = Mm.bind (me e1) _ h2
            simp only [Mm.bind]
            cases me e1 h2 with
            | ok y h3 =>
              show Mm.bind (Mm.bind (push s1.h.length y) _) _ h3 = Mm.bind (push s1.h.length y) _ h3
              simp only [Mm.bind]
              cases push s1.h.length y h3 <;> rfl
            | exn _ _ => rfl
            | no => rfl
        | exn _ _ => rfl
        | no => rfl
      | exn _ _ => rfl
      | no => rfl
    rw [as] at q3
    refine .inr ⟨go, fun H' => ∃ s4, s4.H = H' ∧ Ext s1 s4 ∧ HRel K s4 ∧ s4.ρ[s1.h.length]? = some D ∧ Envs K s4 (wipeE env vs) (L2.wipe σ vs) ∧
        After K E s4 ((lcL p mt me s1.h.length (ds.drop (i + 1)) (wipeE env vs) >>= fun _ => takeL s1.h.length) s4.h) (fun d s' => ∀ v, Rep K s' d v → Q v s'.H), ?_, fun x H' y => ?_⟩
    · rintro H' ⟨s4, rfl, x4, r4, eD4, e4, q4⟩
      exact ⟨ds.length - (i + 1), by omega, s4, rfl, x4, r4, eD4, e4, rfl, by omega, q4⟩
    · obtain ⟨s4, rfl, eh, x4, r4, rx⟩ := yl x H' y
      have e4 := e3.ext x4
      have q4 := After.ext x4 q3
      rw [← eh] at q4
      have eD4 := x4.pre _ _ eD3
      -- the target
      have q4' := q4.bind
      unfold gP at q4'
      cases qb : p.bd ds[i] (wipeE env vs) with
      | none => rw [qb] at q4'; exact q4'.elim
      | some e1 =>
        rw [qb] at q4'
        have q5 := q4'.ret r4
        refine p.ok rx qb e4 fun τ hτ bτ => ⟨by rw [bτ.wipe hp]; exact But.wipe (σ := σ) (τ := L2.wipe σ vs) (l := vs) ⟨wipe_length σ vs, fun j hj => wipe_out hj⟩ (fun i h => h), ?_⟩
        refine tT_bind r4 hτ q5 fun cb s6 x6 r6 e6 q6 => ?_
        cases cb with
        | false =>
          rw [if_neg (by decide)]
          exact ⟨s6, rfl, (x3.trans x4).trans x6, r6, x6.pre _ _ eD4, e4.ext x6, q6⟩
        | true =>
          rw [if_pos rfl]
          refine tE_bind r6 e6 q6 fun yd s7 yv x7 r7 e7 ry q7 => ?_
          obtain ⟨xs, hx, hl, s8, es8, x8, r8, eD8, q8⟩ := push_ok r7 (x7.pre _ _ (x6.pre _ _ eD4)) ry q7.bind
          exact ⟨xs, hx, hl, s8, es8, ((x3.trans x4).trans (x6.trans x7)).trans x8, r8, eD8, ((e4.ext x6).ext x7).ext x8, q8⟩
  · have hi' : i = ds.length := by omega
    subst hi'
    refine .inl ⟨hJ.stop s3 x3 r3, ?_⟩
    rw [List.drop_length] at q3
    obtain ⟨xs, s4, es4, x4, r4, rv, k4⟩ := takeL_ok r3 eD3 (q3.bind.ret r3)
    rw [← es4]
    exact k4 _ rv
end
end Mo
set_option Elab.async false
set_option linter.all false
set_option maxRecDepth 100000
set_option maxHeartbeats 4000000
/-! Mo5: comprehensions, defs, what is walked. -/
namespace Mo
open PySem L2 PySem.Spec PyProof.Rows
section
variable {X : Cx} {E : XK} {e a b c : Expr} {pos : Pos} {st : Stmt} {rest body : List Stmt}
variable {ma mb mc me : En → Mm Dt} {mt mu : En → Mm Bool} {mr : En → Mm (List Dt)} {es : List Expr} {ms m1 m2 : En → Mm Fl}
def yes : En → Mm Bool := fun _ => Mm.pure true
theorem mts_nil : PTs X [] (tT X.K E yes) := ⟨fun pins s σ H Q I ⟨s1, env, e, r, he, ha⟩ => by
  subst e
  exact pts_nil.run pins s σ _ Q I (ha.ret r)⟩
theorem mts_one (h : PT X c (tT X.K E mt)) : PTs X [c] (tT X.K E mt) := pts_one h
theorem me_lc {elt tg iter : Expr} {ifs : List Expr} {scope : Scope} {own : List (Str × Nat)} {mi : En → Mm (List Dt)} {p : Pat} (hc : X.calm = true) (hN : X.N.Nodup) (hp : ∀ i ∈ p.sl, i ∈ own.map (·.2)) (hi : PI X tg iter (tI X.K E mi)) (ok : BlkOk X.N X.env.scope scope own)
    (hg : ∀ (s : Shared) (H : Hp) (C : Addr) (cl : List (Str × Addr)) (fp : List Addr), PG (X.blk s H scope (compEnvC scope cl C X.env) fp) tg (p.tg X.K)) (ht : ∀ (s : Shared) (H : Hp) (C : Addr) (cl : List (Str × Addr)) (fp : List Addr), PTs (X.blk s H scope (compEnvC scope cl C X.env) fp) ifs (tT X.K E mt))
    (he : ∀ (s : Shared) (H : Hp) (C : Addr) (cl : List (Str × Addr)) (fp : List Addr), PE (X.blk s H scope (compEnvC scope cl C X.env) fp) elt (tE X.K E me)) (hs : ∀ x, foldedSetIterable iter X.env x = pure x := by intro _; rfl) :
    PE X (.ListComp elt [⟨tg, iter, ifs, 0⟩] scope pos) (tE X.K E (lcM mi p mt me (own.map (·.2)))) := pe_mono (pe_lc hc hN hi ok hg ht he hs) (tLc_ok hp)
theorem ms_setLc {i : Nat} {y : Str} {py spos : Pos} {elt tg iter : Expr} {ifs : List Expr} {scope : Scope} {own : List (Str × Nat)} {mi : En → Mm (List Dt)} {p : Pat} (hc : X.calm = true) (hN : X.N.Nodup) (hp : ∀ i ∈ p.sl, i ∈ own.map (·.2)) (hy : X.N[i]? = some y) (hyl : X.env.scope.names.lookup y = some .local)
    (hsw : swapsWith (.ListComp elt [⟨tg, iter, ifs, 0⟩] scope pos) (some (.Name y py)) spos.line X.env = pure true) (hi : PI X tg iter (tI X.K E mi)) (ok : BlkOk X.N X.env.scope scope own)
    (hg : ∀ (s : Shared) (H : Hp) (C : Addr) (cl : List (Str × Addr)) (fp : List Addr), PG (X.blk s H scope (compEnvC scope cl C X.env) fp) tg (p.tg X.K)) (ht : ∀ (s : Shared) (H : Hp) (C : Addr) (cl : List (Str × Addr)) (fp : List Addr), PTs (X.blk s H scope (compEnvC scope cl C X.env) fp) ifs (tT X.K E mt))
    (he : ∀ (s : Shared) (H : Hp) (C : Addr) (cl : List (Str × Addr)) (fp : List Addr), PE (X.blk s H scope (compEnvC scope cl C X.env) fp) elt (tE X.K E me)) (hs : ∀ x, foldedSetIterable iter X.env x = pure x := by intro _; rfl) :
    PS X (.Assign [.Name y py] (.ListComp elt [⟨tg, iter, ifs, 0⟩] scope pos) spos) (tS X.K E (sto i (lcM mi p mt me (own.map (·.2))))) := ps_mono (ps_setLc hc hN hy hyl hsw hi ok hg ht he hs) fun D σ H ⟨s, env, e, r, he, ha⟩ => by
  subst e
  exact tLc_ok hp _ _ _ (tE_bind r he ha fun d s1 v x1 r1 e1 rv q => q.ret r1 _ (e1.set rv i))

/-! ### defs -/
def fnM (N : Nat) (ms : En → Mm Fl) : List Dt → Mm Dt := fun ds => ms (ds.map some ++ List.replicate (N - ds.length) none) >>= fun f => match f with
  | .rt d => Mm.pure d
  | .nx _ => Mm.pure .non
  | _ => Mm.no
theorem envs_start {K : PySem.W.Frag} {s : Sx} {N : List Str} : ∀ {ds : List Dt} {vs : List V}, Reps K s ds vs → Envs K s (ds.map some ++ List.replicate (N.length - ds.length) none) (L2.start N vs) := by
  intro ds vs h
  have hl := h.length
  refine ⟨by simp [L2.start, hl], fun i d e => ?_⟩
  by_cases hi : i < ds.length
  · rw [List.getElem?_append_left (by simpa using hi)] at e
    rw [List.getElem?_map] at e
    cases q : ds[i]? with
    | none => rw [q] at e; cases e
    | some d' =>
      rw [q] at e
      cases e
      obtain ⟨v, e1, r⟩ := h.get q
      refine ⟨v, ?_, r⟩
      show (vs.map some ++ _)[i]? = _
      rw [List.getElem?_append_left (by simp [hl]; exact hi), List.getElem?_map, e1]
      rfl
  · rw [List.getElem?_append_right (by simpa using hi)] at e
    have := List.mem_of_getElem? e
    simp at this
theorem fn_ok {P : Program} {w : World} {K : PySem.W.Frag} {mg : Str → Option Value} {base : Heap} {x qual : Str} {params : Arguments} {body : List Stmt} {scope : Scope} {dvs : List V} {kws : List (Str × V)} {f : Addr} {fd : FuncData} {N ps : List Str} {k : Nat} {ms : En → Mm Fl}
    (F : FunD K x qual params body scope dvs kws f fd) (S : FnScope N ps scope)
    (hbody : ∀ (cdv : Value) (A : Around) (outer : List Env) (s : Shared) (H : Hp) (E : XK), Room k (A.deeper (envOfC qual scope s.heap.objs.size f cdv)) → PSs (cxOf CX0 P w K mg base N qual scope f cdv A outer s H E).nox body (tS K E0 ms)) :
    FnOk P w K mg base CX0 (k + 1) f fd ps (spM K ps.length (fnM N.length ms)) := by
  refine F.ok S (fun vs H Q E h => ?_) (fun cdv A outer s H vs Q E hr h => ⟨_, PSs.nox (hbody cdv A outer s H E hr), ?_⟩)
  · obtain ⟨s, ds, _, hl, _, rv, _⟩ := h
    rw [rv.length, hl]
  · obtain ⟨s1, ds, e, hl, r, rv, ha⟩ := h
    subst e
    have h2 : tS K E0 ms { nx := fun _ H' => Q .non H', rt := Q } (L2.start N vs) s1.H := by
      refine tS_bind r (envs_start rv) ha fun fl s2 x2 r2 q => ?_
      cases fl with
      | nx e => exact fun σ' he' => q.ret r2 _ rfl
      | rt d => exact fun v rv => q.ret r2 v rv
      | bk e => exact q.elim
      | ct e => exact q.elim
    exact h2
end
end Mo
set_option Elab.async false
set_option linter.all false
set_option maxRecDepth 100000
set_option maxHeartbeats 4000000
/-! Mo6: operators on data. -/
namespace Mo
open PySem L2 PySem.Spec PyProof.Rows
/-- the items of a list that is tracked; that can be read; of a tuple -/
def lstT (h : Ah) : Dt → Option (List Dt)
  | .lv xs => some xs
  | .obj i => match h[i]? with
    | some (.lst xs) => some xs
    | _ => none
  | _ => none
def lstR (h : Ah) : Dt → Option (List Dt)
  | .wl xs => some xs
  | d => lstT h d
def tupR : Dt → Option (List Dt)
  | .tup xs => some xs
  | .wt xs => some xs
  | _ => none
section
variable {X : Cx} {E : XK} {K : PySem.W.Frag} {s : Sx} {d : Dt} {v : V} {xs : List Dt}
theorem obj_ok {i : Nat} (r : HRel K s) (rv : Rep K s (.obj i) v) {o : Ao} (e : s.h[i]? = some o) : ∃ a, v = .ref a ∧ s.ρ[i]? = some a ∧ ORep K s a o := by
  obtain ⟨a, ea, rfl⟩ := rv
  exact ⟨a, rfl, ea, r.ob i a o ea e⟩
theorem lstT_ok (r : HRel K s) (rv : Rep K s d v) (e : lstT s.h d = some xs) : ∃ a vs, v = .ref a ∧ s.H a = some (.lst vs) ∧ Reps K s xs vs := by
  cases d with
  | lv ys =>
    cases e
    obtain ⟨a, vs, rfl, k, rs⟩ := rv
    exact ⟨a, vs, rfl, k.1, rs⟩
  | obj i =>
    simp only [lstT] at e
    cases q : s.h[i]? with
    | none => rw [q] at e; cases e
    | some o =>
      rw [q] at e
      cases o with
      | lst ys =>
        cases e
        obtain ⟨a, rfl, ea, vs, h1, h2⟩ := obj_ok r rv q
        exact ⟨a, vs, rfl, h1, h2⟩
      | _ => cases e
  | _ => cases e
theorem lstR_ok (r : HRel K s) (rv : Rep K s d v) (e : lstR s.h d = some xs) : ∃ a vs, v = .ref a ∧ SqL K s.H a vs ∧ Reps K s xs vs := by
  by_cases hw : ∃ ys, d = .wl ys
  · obtain ⟨ys, rfl⟩ := hw
    cases e
    obtain ⟨a, vs, rfl, k, rs⟩ := rv
    refine ⟨a, vs, rfl, ?_, rs⟩
    rcases k with k | k
    · exact .inl k.1
    · rcases k with (k | ⟨_, k⟩) | k
      · cases k
      · cases k
      · exact .inr k
  · have e' : lstT s.h d = some xs := by
      cases d with
      | wl ys => exact absurd ⟨ys, rfl⟩ hw
      | _ => exact e
    obtain ⟨a, vs, e1, e2, rs⟩ := lstT_ok r rv e'
    exact ⟨a, vs, e1, .of e2, rs⟩
theorem tupR_ok (rv : Rep K s d v) (e : tupR d = some xs) : ∃ a vs, v = .ref a ∧ SqT K s.H a vs ∧ Reps K s xs vs := by
  cases d with
  | tup ys =>
    cases e
    exact rv.tupV
  | wt ys =>
    cases e
    obtain ⟨a, vs, rfl, k, rs⟩ := rv
    refine ⟨a, vs, rfl, ?_, rs⟩
    rcases k with (k | ⟨_, k⟩) | k
    · cases k
    · cases k
    · exact .inr k
  | _ => cases e
/-- a new tuple, a new list as a value -/
theorem newT {k : Dt → Sx → Prop} {vs : List V} (r : HRel K s) (rs : Reps K s xs vs) (h : After K E s (.ok (.tup xs) s.h) k) {p : Addr} (hp : s.H p = none) : ∃ s', s'.H = upd s.H p (.tup vs) ∧ Rep K s' (.tup xs) (.ref p) ∧ HRel K s' ∧ Ext s s' ∧ k (.tup xs) s' :=
  ⟨s.new p (.tup vs), rfl, ⟨p, vs, rfl, ⟨upd_same, (new_fx r hp).2⟩, rs.ext (new_ext r hp)⟩, new_rel r hp, new_ext r hp, h.now (s.new p (.tup vs)) rfl (new_ext r hp) (new_rel r hp)⟩
theorem newL {k : Dt → Sx → Prop} {vs : List V} (r : HRel K s) (rs : Reps K s xs vs) (h : After K E s (.ok (.lv xs) s.h) k) {p : Addr} (hp : s.H p = none) : ∃ s', s'.H = upd s.H p (.lst vs) ∧ Rep K s' (.lv xs) (.ref p) ∧ HRel K s' ∧ Ext s s' ∧ k (.lv xs) s' :=
  ⟨s.new p (.lst vs), rfl, ⟨p, vs, rfl, ⟨upd_same, (new_fx r hp).2⟩, rs.ext (new_ext r hp)⟩, new_rel r hp, new_ext r hp, h.now (s.new p (.lst vs)) rfl (new_ext r hp) (new_rel r hp)⟩
theorem newLv {Q : VK} {vs : List V} (r : HRel K s) (rs : Reps K s xs vs) (h : After K E s (.ok (.lv xs) s.h) (fun z s' => ∀ v, Rep K s' z v → Q v s'.H)) : ∀ p, s.H p = none → Q (.ref p) (upd s.H p (.lst vs)) := fun p hp => by
  obtain ⟨s', e, rp, _, _, q⟩ := newL r rs h hp
  rw [← e]
  exact q _ rp
theorem newTv {Q : VK} {vs : List V} (r : HRel K s) (rs : Reps K s xs vs) (h : After K E s (.ok (.tup xs) s.h) (fun z s' => ∀ v, Rep K s' z v → Q v s'.H)) : ∀ p, s.H p = none → Q (.ref p) (upd s.H p (.tup vs)) := fun p hp => by
  obtain ⟨s', e, rp, _, _, q⟩ := newT r rs h hp
  rw [← e]
  exact q _ rp
/-- the end, the heap as it was -/
theorem fin {Q : VK} {z : Dt} (r : HRel K s) (h : After K E s (.ok z s.h) (fun z s' => ∀ v, Rep K s' z v → Q v s'.H)) {v : V} (rv : Rep K s z v) : Q v s.H := h s rfl (Ext.refl s) r v rv

/-! ### + -/
def opAdd : Dt → Dt → Mm Dt := fun x y h => match x, y with
  | .int i, .int j => .ok (.int (i + j)) h
  | .str a, .str b => if a.length + b.length ≤ sizeLine then .ok (.str (a ++ b)) h else .no
  | .tup a, .tup b => if a.length + b.length ≤ sizeLine then .ok (.tup (a ++ b)) h else .no
  | x, y => match lstT h x, lstT h y with
    | some a, some b => if a.length + b.length ≤ sizeLine then .ok (.lv (a ++ b)) h else .no
    | _, _ => .no
theorem o_add : OpR X (binaryOp .Add) (rM X.K E opAdd) := opR_mono (op_add.or (op_add_str.or (op_catA.or op_cat))) fun x y H Q ⟨s, d, e, eH, r, rx, ry, ha⟩ => by
  subst eH
  unfold opAdd at ha
  split at ha
  · cases rx; cases ry
    exact .inl ⟨_, _, rfl, rfl, fin r ha rfl⟩
  · cases rx; cases ry
    split at ha
    · rename_i hl
      exact .inr (.inl ⟨_, _, rfl, rfl, hl, fin r ha rfl⟩)
    · exact ha.elim
  · rename_i a b
    obtain ⟨pa, va, rfl, ka, ra⟩ := id rx
    obtain ⟨pb, vb, rfl, kb, rb⟩ := id ry
    split at ha
    · rename_i hl
      refine .inr (.inr (.inl ⟨pa, pb, va, vb, rfl, rfl, .of ka.1, .of kb.1, by rw [ra.length, rb.length]; exact hl, fun z => ?_, fun z1 z2 => ?_, fun _ _ => newTv r (ra.append rb) ha⟩))
      · subst z
        have : a = [] := List.length_eq_zero_iff.mp (by rw [← ra.length]; rfl)
        subst this
        exact fin r ha ry
      · subst z2
        have : b = [] := List.length_eq_zero_iff.mp (by rw [← rb.length]; rfl)
        subst this
        rw [List.append_nil] at ha
        exact fin r ha rx
    · exact ha.elim
  · split at ha
    · rename_i a b qa qb
      obtain ⟨pa, va, rfl, ka, ra⟩ := lstT_ok r rx qa
      obtain ⟨pb, vb, rfl, kb, rb⟩ := lstT_ok r ry qb
      split at ha
      · rename_i hl
        exact .inr (.inr (.inr ⟨pa, pb, va, vb, rfl, rfl, ka, kb, by rw [ra.length, rb.length]; exact hl, newLv r (ra.append rb) ha⟩))
      · exact ha.elim
    · exact ha.elim
/-! ### numbers -/
def opI2 (C : Int → Int → Bool) (g : Int → Int → Dt) : Dt → Dt → Mm Dt := fun x y h => match x, y with
  | .int i, .int j => if C i j then .ok (g i j) h else .no
  | _, _ => .no
theorem o_I2 {f : Value → Value → Sem Value} {C : Int → Int → Bool} {C' : Int → Int → Prop} {g : Int → Int → Dt} {g' : Int → Int → V} (ho : OpR X f (rI C' g')) (hC : ∀ i j, C i j = true → C' i j) (hg : ∀ s i j, C i j = true → Rep X.K s (g i j) (g' i j)) : OpR X f (rM X.K E (opI2 C g)) := opR_mono ho fun x y H Q ⟨s, d, e, eH, r, rx, ry, ha⟩ => by
  subst eH
  unfold opI2 at ha
  split at ha
  · cases rx; cases ry
    split at ha
    · rename_i hc
      exact ⟨_, _, rfl, rfl, hC _ _ hc, fin r ha (hg s _ _ hc)⟩
    · exact ha.elim
  · exact ha.elim
theorem o_I0 {f : Value → Value → Sem Value} {g : Int → Int → Dt} {g' : Int → Int → V} (ho : OpR X f (rI0 g')) (hg : ∀ s i j, Rep X.K s (g i j) (g' i j)) : OpR X f (rM X.K E (opI2 (fun _ _ => true) g)) := opR_mono ho fun x y H Q ⟨s, d, e, eH, r, rx, ry, ha⟩ => by
  subst eH
  unfold opI2 at ha
  split at ha
  · cases rx; cases ry
    exact ⟨_, _, rfl, rfl, fin r ha (hg s _ _)⟩
  · exact ha.elim
def opSub : Dt → Dt → Mm Dt := opI2 (fun _ _ => true) fun i j => .int (i - j)
theorem o_sub : OpR X (binaryOp .Sub) (rM X.K E opSub) := o_I0 op_sub fun _ _ _ => rfl
def opFdiv : Dt → Dt → Mm Dt := opI2 (fun _ j => decide (0 < j ∧ j < 1073741824)) fun i j => .int (i / j)
theorem o_fdiv : OpR X (binaryOp .FloorDiv) (rM X.K E opFdiv) := o_I2 op_fdiv (fun i j h => (of_decide_eq_true h : 0 < j ∧ j < 1073741824)) fun _ _ _ _ => rfl
def opMod : Dt → Dt → Mm Dt := opI2 (fun _ j => decide (0 < j)) fun i j => .int (i % j)
theorem o_mod : OpR X (binaryOp .Mod) (rM X.K E opMod) := o_I2 op_mod (fun i j h => of_decide_eq_true h) fun _ _ _ _ => rfl
def opPow : Dt → Dt → Mm Dt := opI2 (fun i j => decide (0 ≤ j ∧ j ≤ 1000000 ∧ i.natAbs < 2 ^ 64)) fun i j => .int (i ^ j.toNat)
theorem o_pow : OpR X (binaryOp .Pow) (rM X.K E opPow) := o_I2 op_pow (fun i j h => (of_decide_eq_true h : 0 ≤ j ∧ j ≤ 1000000 ∧ i.natAbs < 2 ^ 64)) fun _ _ _ _ => rfl
def opLt : Dt → Dt → Mm Dt := opI2 (fun _ _ => true) fun i j => .bl (decide (i < j))
def opLe : Dt → Dt → Mm Dt := opI2 (fun _ _ => true) fun i j => .bl (decide (i ≤ j))
def opGt : Dt → Dt → Mm Dt := opI2 (fun _ _ => true) fun i j => .bl (decide (j < i))
def opGe : Dt → Dt → Mm Dt := opI2 (fun _ _ => true) fun i j => .bl (decide (j ≤ i))
theorem o_lt : OpR X (compareOp .Lt) (rM X.K E opLt) := o_I0 op_lt fun _ _ _ => rfl
theorem o_le : OpR X (compareOp .LtE) (rM X.K E opLe) := o_I0 op_le fun _ _ _ => rfl
theorem o_gt : OpR X (compareOp .Gt) (rM X.K E opGt) := o_I0 op_gt fun _ _ _ => rfl
theorem o_ge : OpR X (compareOp .GtE) (rM X.K E opGe) := o_I0 op_ge fun _ _ _ => rfl
def opIAdd : Dt → Dt → Mm Dt := opI2 (fun _ _ => true) fun i j => .int (i + j)
theorem o_iadd : OpR X (inplaceOp .Add) (rM X.K E opIAdd) := o_I0 iop_add fun _ _ _ => rfl
def unNeg : Dt → Mm Dt := fun x h => match x with
  | .int i => .ok (.int (-i)) h
  | _ => .no
theorem u_neg : UnR X (unaryOp .USub) (uM X.K E unNeg) := unR_mono un_neg fun x H Q ⟨s, d, eH, r, rx, ha⟩ => by
  subst eH
  unfold unNeg at ha
  split at ha
  · cases rx
    exact ⟨_, rfl, fin r ha rfl⟩
  · exact ha.elim
/-! ### is None -/
def opIsN : Dt → Dt → Mm Dt := fun x y h => match x, y with
  | .non, .non => .ok (.bl true) h
  | _, .non => .ok (.bl false) h
  | _, _ => .no
def opNotN : Dt → Dt → Mm Dt := fun x y h => match x, y with
  | .non, .non => .ok (.bl false) h
  | _, .non => .ok (.bl true) h
  | _, _ => .no
theorem rep_non (rv : Rep K s d v) : decide (v = .non) = match d with | .non => true | _ => false := by
  cases d with
  | non => cases rv; rfl
  | bl _ => cases rv; rfl
  | int _ => cases rv; rfl
  | str _ => cases rv; rfl
  | ty _ => cases rv; rfl
  | adr _ => cases rv; rfl
  | cl _ => cases rv; rfl
  | tup _ => obtain ⟨_, _, rfl, _⟩ := rv; rfl
  | lv _ => obtain ⟨_, _, rfl, _⟩ := rv; rfl
  | wl _ => obtain ⟨_, _, rfl, _⟩ := rv; rfl
  | wt _ => obtain ⟨_, _, rfl, _⟩ := rv; rfl
  | dk _ _ => obtain ⟨_, _, rfl, _⟩ := rv; rfl
  | dt _ _ => obtain ⟨_, _, rfl, _⟩ := rv; rfl
  | obj _ => obtain ⟨_, _, rfl⟩ := rv; rfl
theorem o_isN : OpR X (compareOp .Is) (rM X.K E opIsN) := opR_mono op_isN fun x y H Q ⟨s, d, e, eH, r, rx, ry, ha⟩ => by
  subst eH
  have hd := rep_non rx
  cases e with
  | non =>
    cases ry
    refine ⟨rfl, ?_⟩
    rw [hd]
    cases d <;> exact fin r ha rfl
  | _ => cases d <;> exact ha.elim
theorem o_notN : OpR X (compareOp .IsNot) (rM X.K E opNotN) := opR_mono op_notN fun x y H Q ⟨s, d, e, eH, r, rx, ry, ha⟩ => by
  subst eH
  have hd := rep_non rx
  cases e with
  | non =>
    cases ry
    refine ⟨rfl, ?_⟩
    rw [hd]
    cases d <;> exact fin r ha rfl
  | _ => cases d <;> exact ha.elim
end
end Mo
set_option Elab.async false
set_option linter.all false
set_option maxRecDepth 100000
set_option maxHeartbeats 4000000
/-! Mo7: equality, in, items, slices, lengths, products. -/
namespace Mo
open PySem L2 PySem.Spec PyProof.Rows
/-! ### data -/
mutual
def toP : Dt → Option PyData
  | .non => some .none
  | .bl b => some (.bool b)
  | .int i => some (.int i)
  | .str x => some (.str x)
  | .tup ds => match toPs ds with
    | some ps => some (.tuple ps)
    | none => none
  | .wt ds => match toPs ds with
    | some ps => some (.tuple ps)
    | none => none
  | .lv ds => match toPs ds with
    | some ps => some (.list ps)
    | none => none
  | .wl ds => match toPs ds with
    | some ps => some (.list ps)
    | none => none
  | _ => none
def toPs : List Dt → Option (List PyData)
  | [] => some []
  | d :: ds => match toP d, toPs ds with
    | some p, some ps => some (p :: ps)
    | _, _ => none
end
/-- .. of a tracked list too -/
def toPH (h : Ah) : Dt → Option PyData
  | .obj i => match h[i]? with
    | some (.lst xs) => match toPs xs with
      | some ps => some (.list ps)
      | none => none
    | _ => none
  | d => toP d
section
variable {X : Cx} {E : XK} {K : PySem.W.Frag} {s : Sx} {d : Dt} {v : V} {xs : List Dt}
mutual
theorem toP_ok (r : HRel K s) : ∀ {d : Dt} {v : V} {p : PyData}, Rep K s d v → toP d = some p → Dp K s.H v p
  | .non, v, p, rv, e => by cases rv; cases e; exact .non
  | .bl b, v, p, rv, e => by cases rv; cases e; exact .bl b
  | .int i, v, p, rv, e => by cases rv; cases e; exact .int i
  | .str x, v, p, rv, e => by cases rv; cases e; exact .str x
  | .tup ds, v, p, rv, e => by
    simp only [toP] at e
    cases q : toPs ds with
    | none => rw [q] at e; cases e
    | some ps =>
      rw [q] at e; cases e
      obtain ⟨a, vs, rfl, sq, rs⟩ := tupR_ok rv (xs := ds) rfl
      exact .tup sq (toPs_ok r rs q)
  | .wt ds, v, p, rv, e => by
    simp only [toP] at e
    cases q : toPs ds with
    | none => rw [q] at e; cases e
    | some ps =>
      rw [q] at e; cases e
      obtain ⟨a, vs, rfl, sq, rs⟩ := tupR_ok rv (xs := ds) rfl
      exact .tup sq (toPs_ok r rs q)
  | .lv ds, v, p, rv, e => by
    simp only [toP] at e
    cases q : toPs ds with
    | none => rw [q] at e; cases e
    | some ps =>
      rw [q] at e; cases e
      obtain ⟨a, vs, rfl, sq, rs⟩ := lstR_ok r rv (xs := ds) rfl
      exact .lst sq (toPs_ok r rs q)
  | .wl ds, v, p, rv, e => by
    simp only [toP] at e
    cases q : toPs ds with
    | none => rw [q] at e; cases e
    | some ps =>
      rw [q] at e; cases e
      obtain ⟨a, vs, rfl, sq, rs⟩ := lstR_ok r rv (xs := ds) rfl
      exact .lst sq (toPs_ok r rs q)
  | .ty _, v, p, rv, e => by simp [toP] at e
  | .adr _, v, p, rv, e => by simp [toP] at e
  | .dk _ _, v, p, rv, e => by simp [toP] at e
  | .dt _ _, v, p, rv, e => by simp [toP] at e
  | .obj _, v, p, rv, e => by simp [toP] at e
theorem toPs_ok (r : HRel K s) : ∀ {ds : List Dt} {vs : List V} {ps : List PyData}, Reps K s ds vs → toPs ds = some ps → DpAll K s.H vs ps
  | [], vs, ps, rv, e => by cases rv; cases e; exact .nil
  | d :: ds, vs, ps, rv, e => by
    obtain ⟨v, w, rfl, h1, h2⟩ := rv
    simp only [toPs] at e
    cases q : toP d with
    | none => rw [q] at e; simp at e
    | some p =>
      cases q2 : toPs ds with
      | none => rw [q, q2] at e; simp at e
      | some ps' =>
        rw [q, q2] at e; cases e
        exact .cons (toP_ok r h1 q) (toPs_ok r h2 q2)
end
theorem toPH_ok (r : HRel K s) {p : PyData} (rv : Rep K s d v) (e : toPH s.h d = some p) : Dp K s.H v p := by
  by_cases ho : ∃ i, d = .obj i
  · obtain ⟨i, rfl⟩ := ho
    simp only [toPH] at e
    cases q : s.h[i]? with
    | none => rw [q] at e; cases e
    | some o =>
      rw [q] at e
      cases o with
      | lst ys =>
        simp only at e
        cases q2 : toPs ys with
        | none => rw [q2] at e; cases e
        | some ps =>
          rw [q2] at e; cases e
          obtain ⟨a, rfl, ea, vs, h1, h2⟩ := obj_ok r rv q
          exact .lst (.of h1) (toPs_ok r h2 q2)
      | _ => cases e
  · refine toP_ok r rv ?_
    cases d with
    | obj i => exact absurd ⟨i, rfl⟩ ho
    | _ => exact e
/-! ### ==, != -/
def eqR (h : Ah) (x y : Dt) : Option Bool := match x, y with
  | .int i, .int j => some (decide (i = j))
  | .str a, .str b => some (decide (a = b))
  | .bl a, .bl b => some (decide (a = b))
  | x, y => match toPH h x, toPH h y with
    | some p, some q => if SeqAt.shaped p && SeqAt.shaped q then some (PyData.eqv p q) else none
    | _, _ => none
def opEq : Dt → Dt → Mm Dt := fun x y h => match eqR h x y with
  | some b => .ok (.bl b) h
  | none => .no
def opNe : Dt → Dt → Mm Dt := fun x y h => match eqR h x y with
  | some b => .ok (.bl (!b)) h
  | none => .no
theorem eqR_ok (r : HRel K s) {x y : V} {d e : Dt} {b : Bool} (rx : Rep K s d x) (ry : Rep K s e y) (h : eqR s.h d e = some b) :
    (scal x y = true ∧ decide (x = y) = b) ∨ ∃ p q, Dp K s.H x p ∧ Dp K s.H y q ∧ SeqAt.shaped p = true ∧ SeqAt.shaped q = true ∧ PyData.eqv p q = b := by
  unfold eqR at h
  split at h
  · cases rx; cases ry; cases h; exact .inl ⟨rfl, by simp⟩
  · cases rx; cases ry; cases h; exact .inl ⟨rfl, by simp⟩
  · cases rx; cases ry; cases h; exact .inl ⟨rfl, by simp⟩
  · split at h
    · rename_i p q e1 e2
      split at h
      · rename_i hs
        rw [Bool.and_eq_true] at hs
        cases h
        exact .inr ⟨p, q, toPH_ok r rx e1, toPH_ok r ry e2, hs.1, hs.2, rfl⟩
      · cases h
    · cases h
theorem o_eq (hu : X.A.units + 64 < cLine) : OpR X (compareOp .Eq) (rM X.K E opEq) := opR_mono (op_eq.or (op_eqD hu)) fun x y H Q ⟨s, d, e, eH, r, rx, ry, ha⟩ => by
  subst eH
  unfold opEq at ha
  split at ha
  · rename_i b hb
    rcases eqR_ok r rx ry hb with ⟨h1, h2⟩ | ⟨p, q, h1, h2, h3, h4, h5⟩
    · exact .inl ⟨h1, by rw [h2]; exact fin r ha rfl⟩
    · exact .inr ⟨p, q, h1, h2, h3, h4, by rw [h5]; exact fin r ha rfl⟩
  · exact ha.elim
theorem o_ne (hu : X.A.units + 64 < cLine) : OpR X (compareOp .NotEq) (rM X.K E opNe) := opR_mono (op_ne.or (op_neD hu)) fun x y H Q ⟨s, d, e, eH, r, rx, ry, ha⟩ => by
  subst eH
  unfold opNe at ha
  split at ha
  · rename_i b hb
    rcases eqR_ok r rx ry hb with ⟨h1, h2⟩ | ⟨p, q, h1, h2, h3, h4, h5⟩
    · exact .inl ⟨h1, by rw [h2]; exact fin r ha rfl⟩
    · exact .inr ⟨p, q, h1, h2, h3, h4, by rw [h5]; exact fin r ha rfl⟩
  · exact ha.elim
/-! ### in, not in: a text in a text; flat values in a list or tuple; data in a list -/
def flatD : Dt → Option V
  | .non => some .non
  | .bl b => some (.bl b)
  | .int i => some (.int i)
  | .str x => some (.str x)
  | _ => none
def flatDs : List Dt → Option (List V)
  | [] => some []
  | d :: ds => match flatD d, flatDs ds with
    | some v, some vs => some (v :: vs)
    | _, _ => none
theorem flatD_ok {w : V} (rv : Rep K s d v) (e : flatD d = some w) : v = w ∧ flatV w = true := by
  cases d with
  | non => cases rv; cases e; exact ⟨rfl, rfl⟩
  | bl _ => cases rv; cases e; exact ⟨rfl, rfl⟩
  | int _ => cases rv; cases e; exact ⟨rfl, rfl⟩
  | str _ => cases rv; cases e; exact ⟨rfl, rfl⟩
  | _ => cases e
theorem flatDs_ok : ∀ {ds : List Dt} {vs ws : List V}, Reps K s ds vs → flatDs ds = some ws → vs = ws ∧ ws.all flatV = true
  | [], vs, ws, rv, e => by cases rv; cases e; exact ⟨rfl, rfl⟩
  | d :: ds, vs, ws, rv, e => by
    obtain ⟨v, w, rfl, h1, h2⟩ := rv
    simp only [flatDs] at e
    cases q : flatD d with
    | none => rw [q] at e; simp at e
    | some p =>
      cases q2 : flatDs ds with
      | none => rw [q, q2] at e; simp at e
      | some ps' =>
        rw [q, q2] at e; cases e
        obtain ⟨rfl, f1⟩ := flatD_ok h1 q
        obtain ⟨rfl, f2⟩ := flatDs_ok h2 q2
        exact ⟨rfl, by simp [f1, f2]⟩
/-- one sign -/
def sign? (x : Str) : Option Nat := match x.cps.toList with
  | [c] => some c
  | _ => none
theorem sign_ok {x : Str} {c : Nat} (h : sign? x = some c) : x = ⟨#[c]⟩ := by
  unfold sign? at h
  split at h
  · rename_i c' e
    cases h
    obtain ⟨a⟩ := x
    simp only at e
    congr
    apply Array.toList_inj.mp
    exact e
  · cases h
def seqR (h : Ah) (d : Dt) : Option (List Dt) := match tupR d with
  | some xs => some xs
  | none => lstR h d
theorem seqR_ok (r : HRel K s) (rv : Rep K s d v) (e : seqR s.h d = some xs) : ∃ a vs, v = .ref a ∧ (SqL K s.H a vs ∨ SqT K s.H a vs) ∧ Reps K s xs vs := by
  unfold seqR at e
  split at e
  · rename_i ys q
    cases e
    obtain ⟨a, vs, h1, h2, h3⟩ := tupR_ok rv q
    exact ⟨a, vs, h1, .inr h2, h3⟩
  · obtain ⟨a, vs, h1, h2, h3⟩ := lstR_ok r rv e
    exact ⟨a, vs, h1, .inl h2, h3⟩
def inR (h : Ah) (x y : Dt) : Option Bool := match y with
  | .str z => match x with
    | .str w => match sign? w with
      | some c => some (decide (c ∈ z.cps.toList))
      | none => some (!(Builtin.Str.occurrences z w 0 z.length 1).isEmpty)
    | _ => none
  | y => match flatD x, (seqR h y).bind flatDs with
    | some a, some bs => some (inV a bs)
    | _, _ => match toPH h x, toPH h y with
      | some p, some (.list qs) => if SeqAt.shaped p && SeqAt.shaped (.list qs) then some (qs.any fun z => PyData.eqv z p) else none
      | _, _ => none
def opIn : Dt → Dt → Mm Dt := fun x y h => match inR h x y with
  | some b => .ok (.bl b) h
  | none => .no
def opNotIn : Dt → Dt → Mm Dt := fun x y h => match inR h x y with
  | some b => .ok (.bl (!b)) h
  | none => .no
theorem inR_ok (r : HRel K s) {x y : V} {d e : Dt} {b : Bool} (rx : Rep K s d x) (ry : Rep K s e y) (h : inR s.h d e = some b) :
    (∃ (c : Nat) (z : Str), x = .str ⟨#[c]⟩ ∧ y = .str z ∧ decide (c ∈ z.cps.toList) = b) ∨ (∃ i j, x = .str i ∧ y = .str j ∧ (!(Builtin.Str.occurrences j i 0 j.length 1).isEmpty) = b) ∨
    (∃ p ws, y = .ref p ∧ (SqL K s.H p ws ∨ SqT K s.H p ws) ∧ flatV x = true ∧ ws.all flatV = true ∧ inV x ws = b) ∨
    ∃ p qs, Dp K s.H x p ∧ Dp K s.H y (.list qs) ∧ SeqAt.shaped p = true ∧ SeqAt.shaped (.list qs) = true ∧ (qs.any fun z => PyData.eqv z p) = b := by
  unfold inR at h
  split at h
  · rename_i z
    cases ry
    split at h
    · rename_i w
      cases rx
      split at h
      · rename_i c hc
        cases h
        exact .inl ⟨c, z, by rw [sign_ok hc], rfl, rfl⟩
      · cases h
        exact .inr (.inl ⟨w, z, rfl, rfl, rfl⟩)
    · cases h
  · split at h
    · rename_i a bs ea eb
      cases h
      cases q : seqR s.h e with
      | none => rw [q] at eb; cases eb
      | some ys =>
        rw [q] at eb
        obtain ⟨p, vs, h1, h2, h3⟩ := seqR_ok r ry q
        obtain ⟨rfl, f1⟩ := flatD_ok rx ea
        obtain ⟨rfl, f2⟩ := flatDs_ok h3 eb
        exact .inr (.inr (.inl ⟨p, _, h1, h2, f1, f2, rfl⟩))
    · split at h
      · rename_i p qs e1 e2
        split at h
        · rename_i hs
          rw [Bool.and_eq_true] at hs
          cases h
          exact .inr (.inr (.inr ⟨p, qs, toPH_ok r rx e1, toPH_ok r ry e2, hs.1, hs.2, rfl⟩))
        · cases h
      · cases h
theorem o_in (hu : X.A.units + 65 < cLine) : OpR X (compareOp .In) (rM X.K E opIn) := opR_mono (op_in_sign.or (op_in_str.or (op_in_seq.or (op_inD hu)))) fun x y H Q ⟨s, d, e, eH, r, rx, ry, ha⟩ => by
  subst eH
  unfold opIn at ha
  split at ha
  · rename_i b hb
    rcases inR_ok r rx ry hb with ⟨c, z, h1, h2, h3⟩ | ⟨i, j, h1, h2, h3⟩ | ⟨p, ws, h1, h2, h3, h4, h5⟩ | ⟨p, q, h1, h2, h3, h4, h5⟩
    · exact .inl ⟨c, z, h1, h2, by rw [h3]; exact fin r ha rfl⟩
    · exact .inr (.inl ⟨i, j, h1, h2, by rw [h3]; exact fin r ha rfl⟩)
    · exact .inr (.inr (.inl ⟨p, ws, h1, h2, h3, h4, by rw [if_neg (by decide), h5]; exact fin r ha rfl⟩))
    · exact .inr (.inr (.inr ⟨p, q, h1, h2, h3, h4, by rw [h5]; exact fin r ha rfl⟩))
  · exact ha.elim
theorem o_notin (hu : X.A.units + 65 < cLine) : OpR X (compareOp .NotIn) (rM X.K E opNotIn) := opR_mono (op_notIn_sign.or (op_notIn_str.or (op_notIn_seq.or (op_notInD hu)))) fun x y H Q ⟨s, d, e, eH, r, rx, ry, ha⟩ => by
  subst eH
  unfold opNotIn at ha
  split at ha
  · rename_i b hb
    rcases inR_ok r rx ry hb with ⟨c, z, h1, h2, h3⟩ | ⟨i, j, h1, h2, h3⟩ | ⟨p, ws, h1, h2, h3, h4, h5⟩ | ⟨p, q, h1, h2, h3, h4, h5⟩
    · exact .inl ⟨c, z, h1, h2, by rw [h3]; exact fin r ha rfl⟩
    · exact .inr (.inl ⟨i, j, h1, h2, by rw [h3]; exact fin r ha rfl⟩)
    · exact .inr (.inr (.inl ⟨p, ws, h1, h2, h3, h4, by rw [if_pos rfl, h5]; exact fin r ha rfl⟩))
    · exact .inr (.inr (.inr ⟨p, q, h1, h2, h3, h4, by rw [h5]; exact fin r ha rfl⟩))
  · exact ha.elim
/-! ### * -/
def strRep (x : Str) (n : Int) : Str := ⟨((List.replicate n.toNat x.cps.toList).flatten).toArray⟩
theorem foldl_cat : ∀ (l : List (Array Nat)) (acc : Array Nat), (l.foldl (· ++ ·) acc).toList = acc.toList ++ (l.map Array.toList).flatten
  | [], acc => by simp
  | a :: l, acc => by
    show (l.foldl (· ++ ·) (acc ++ a)).toList = _
    rw [foldl_cat l (acc ++ a)]
    simp
theorem str_ext {x y : Str} (h : x.cps.toList = y.cps.toList) : x = y := by
  obtain ⟨a⟩ := x
  obtain ⟨b⟩ := y
  congr
  exact Array.toList_inj.mp h
theorem strRep_many (x : Str) (n : Int) : (⟨(List.replicate n.toNat x.cps).foldl (· ++ ·) #[]⟩ : Str) = strRep x n := by
  apply str_ext
  show ((List.replicate n.toNat x.cps).foldl (· ++ ·) #[]).toList = _
  rw [foldl_cat]
  simp [strRep]
theorem strRep_none (x : Str) {n : Int} (h : n < 1) : Str.empty = strRep x n := by
  apply str_ext
  have : n.toNat = 0 := by omega
  simp [strRep, this, Str.empty]
theorem strRep_one (x : Str) {n : Int} (h : (n == 1 || x.length == 0) = true) (h1 : ¬ n < 1) : x = strRep x n := by
  apply str_ext
  rw [Bool.or_eq_true] at h
  rcases h with h | h
  · have : n = 1 := by simpa using h
    subst this
    simp [strRep]
  · have hl : x.cps.toList = [] := by
      have : x.cps.size = 0 := by
        have : x.length = 0 := by simpa using h
        exact this
      exact List.length_eq_zero_iff.mp (by simpa using this)
    simp only [strRep, hl]
    induction n.toNat with
    | zero => rfl
    | succ k ih => simp [List.replicate_succ] at ih ⊢
theorem flatten_len {α : Type} (l : List α) : ∀ k : Nat, ((List.replicate k l).flatten).length = k * l.length
  | 0 => by simp
  | k + 1 => by simp [List.replicate_succ, flatten_len l k, Nat.succ_mul, Nat.add_comm]
def rMulS : R2 := fun x y H Q => ∃ a n, x = .str a ∧ y = .int n ∧ -(2 ^ 63) ≤ n ∧ n < 2 ^ 63 ∧ a.length * n.toNat ≤ sizeLine ∧ Q (.str (strRep a n)) H
theorem op_mulS : OpR X (binaryOp .Mult) rMulS := by
  intro pins s σ H x y v u Q I rx ry h
  obtain ⟨a, n, rfl, rfl, h1, h2, h3, q⟩ := h
  obtain ⟨t, rfl⟩ := rx
  obtain ⟨t', rfl⟩ := ry
  have h3' : a.length * n.toNat ≤ 16777216 := by rw [sizeLine_eq] at h3; exact h3
  refine P.mul_str ?_ (fun hn hx => ?_) (fun hn hx => ?_) ?_
  · rw [decide_eq_false (by omega), decide_eq_false (by omega)]; rfl
  · have hn1 : (1 : Int) ≤ n := by omega
    have : (a.length : Int) * n ≤ 16777216 := by
      have e : n = (n.toNat : Int) := by omega
      have h4 : ((a.length * n.toNat : Nat) : Int) ≤ ((16777216 : Nat) : Int) := Int.ofNat_le.mpr h3'
      rw [Int.natCast_mul, ← e] at h4
      exact h4
    intro hgt
    have h9 : (a.length : Int) ≤ (2 ^ 63 - 1) / n := by
      rw [Int.le_ediv_iff_mul_le (by omega)]
      omega
    omega
  · have : ¬ (a.length * n.toNat > sizeLine) := by rw [sizeLine_eq]; omega
    exact decide_eq_false this
  · by_cases c1 : n < 1
    · rw [if_pos c1]
      rw [← strRep_none a c1] at q
      exact ⟨by decide, .str Str.empty, H, I.tok _, ⟨_, rfl⟩, q⟩
    · rw [if_neg c1]
      by_cases c2 : (n == 1 || a.length == 0) = true
      · rw [if_pos c2]
        rw [← strRep_one a c2 c1] at q
        exact ⟨.str a, H, I, ⟨_, rfl⟩, q⟩
      · rw [if_neg c2]
        rw [strRep_many]
        refine ⟨?_, .str _, H, I.tok _, ⟨_, rfl⟩, q⟩
        have : (strRep a n).length = n.toNat * a.length := by
          show ((List.replicate n.toNat a.cps.toList).flatten).toArray.size = _
          rw [List.size_toArray, flatten_len]
          rfl
        rw [this, Nat.mul_comm]
        exact h3
def opMul : Dt → Dt → Mm Dt := fun x y h => match x, y with
  | .int i, .int j => if i.natAbs.log2 + j.natAbs.log2 < 1000000 then .ok (.int (i * j)) h else .no
  | .str a, .int n => if -(2 ^ 63) ≤ n ∧ n < 2 ^ 63 ∧ a.length * n.toNat ≤ sizeLine then .ok (.str (strRep a n)) h else .no
  | x, .int n => match lstT h x with
    | some xs => if -(2 ^ 63) ≤ n ∧ n < 2 ^ 63 ∧ xs.length * n.toNat ≤ sizeLine then .ok (.lv (List.replicate n.toNat xs).flatten) h else .no
    | none => .no
  | _, _ => .no
theorem Reps.rep : ∀ {ds : List Dt} {vs : List V} (k : Nat), Reps K s ds vs → Reps K s (List.replicate k ds).flatten (List.replicate k vs).flatten
  | _, _, 0, _ => by simp; exact rfl
  | _, _, k + 1, h => by
    rw [List.replicate_succ, List.replicate_succ, List.flatten_cons, List.flatten_cons]
    exact h.append (Reps.rep k h)
theorem o_mul : OpR X (binaryOp .Mult) (rM X.K E opMul) := opR_mono (op_mulW.or (op_mulS.or op_rep)) fun x y H Q ⟨s, d, e, eH, r, rx, ry, ha⟩ => by
  subst eH
  unfold opMul at ha
  split at ha
  · cases rx; cases ry
    split at ha
    · rename_i hl
      exact .inl ⟨_, _, rfl, rfl, hl, fin r ha rfl⟩
    · exact ha.elim
  · cases rx; cases ry
    split at ha
    · rename_i hl
      exact .inr (.inl ⟨_, _, rfl, rfl, hl.1, hl.2.1, hl.2.2, fin r ha rfl⟩)
    · exact ha.elim
  · cases ry
    split at ha
    · rename_i xs q
      obtain ⟨pa, va, rfl, ka, ra⟩ := lstT_ok r rx q
      split at ha
      · rename_i hl
        exact .inr (.inr ⟨pa, _, va, rfl, rfl, ka, hl.1, hl.2.1, by rw [ra.length]; exact hl.2.2, newLv r (ra.rep _) ha⟩)
      · exact ha.elim
    · exact ha.elim
  · exact ha.elim
end
end Mo
set_option Elab.async false
set_option linter.all false
set_option maxRecDepth 100000
set_option maxHeartbeats 4000000
/-! Mo8: items, slices, built-in functions, methods of lists and texts. -/
namespace Mo
open PySem L2 PySem.Spec PyProof.Rows
section
variable {X : Cx} {E : XK} {K : PySem.W.Frag} {s : Sx} {d : Dt} {v : V} {xs : List Dt} {e a b c : Expr} {pos : Pos} {es : List Expr}
variable {ma mb mc mo : En → Mm Dt} {mr : En → Mm (List Dt)}
theorem ixR_mono {r r' : R2} (h : IxR X r) (k : ∀ x y H Q, r' x y H Q → r x y H Q) : IxR X r' := fun va sl pins s σ H x y v u Q I rx ry w => h va sl pins s σ H x y v u Q I rx ry (k x y H Q w)
theorem mtR_mono {id : String} {r r' : V → List V → Hp → VK → Prop} (h : MtR X id r) (k : ∀ x xs H Q, r' x xs H Q → r x xs H Q) : MtR X id r' := fun pins s σ H x xs v us Q I rx rxs w => h pins s σ H x xs v us Q I rx rxs (k x xs H Q w)
theorem slR_mono {r r' : V → Option Int → Option Int → Hp → VK → Prop} (h : SlR X r) (k : ∀ x lo hi H Q, r' x lo hi H Q → r x lo hi H Q) : SlR X r' := fun pins s σ H x v vl vu lo hi sl Q I rx hs pl pu w => h pins s σ H x v vl vu lo hi sl Q I rx hs pl pu (k x lo hi H Q w)
/-! ### o[i] -/
def ixM : Dt → Dt → Mm Dt := fun x y h => match y with
  | .int i => match x with
    | .str z => match atI z.cps.toList i with
      | some c => if z.length ≤ sizeLine then .ok (.str ⟨#[c]⟩) h else .no
      | none => .no
    | x => match (seqR h x).bind fun xs => atI xs i with
      | some d => .ok d h
      | none => .no
  | _ => .no
theorem atI_reps {ds : List Dt} {vs : List V} {i : Int} {d : Dt} (rs : Reps K s ds vs) (h : atI ds i = some d) : ∃ v, atI vs i = some v ∧ Rep K s d v := by
  unfold atI at h ⊢
  rw [rs.length]
  cases q : ixN ds.length i with
  | none => rw [q] at h; cases h
  | some j =>
    rw [q] at h
    obtain ⟨v, e, rv⟩ := rs.get h
    exact ⟨v, e, rv⟩
theorem i_seq : IxR X (rM X.K E ixM) := ixR_mono ix_seq fun x y H Q ⟨s, d, e, eH, r, rx, ry, ha⟩ => by
  subst eH
  unfold ixM at ha
  split at ha
  · rename_i i
    cases ry
    split at ha
    · rename_i z
      cases rx
      split at ha
      · rename_i c hc
        split at ha
        · rename_i hl
          exact .inr (.inr ⟨z, i, c, rfl, rfl, hl, hc, fin r ha rfl⟩)
        · exact ha.elim
      · exact ha.elim
    · split at ha
      · rename_i d' hd
        cases q : seqR s.h d with
        | none => rw [q] at hd; cases hd
        | some ys =>
          rw [q] at hd
          obtain ⟨p, vs, rfl, sq, rs⟩ := seqR_ok r rx q
          obtain ⟨w, hw, rw'⟩ := atI_reps rs hd
          rcases sq with sq | sq
          · exact .inl ⟨p, vs, i, w, rfl, rfl, sq, hw, fin r ha rw'⟩
          · exact .inr (.inl ⟨p, vs, i, w, rfl, rfl, sq, hw, fin r ha rw'⟩)
      · exact ha.elim
  · exact ha.elim
theorem me_ix {g : Dt → Dt → Mm Dt} (hr : IxR X (rM X.K E g)) (ha : PE X a (tE X.K E ma)) (hb : PE X b (tE X.K E mb)) (hs : PlainIx b) : PE X (.Subscript a b pos) (tE X.K E (op2 g ma mb)) := pe_mono (pe_ix hr ha hb hs) (op2_ok fun _ _ _ _ h => h)
/-! ### o[lo:hi] -/
def opN : En → Mm (Option Int) := fun _ => Mm.pure none
def isI : Dt → Mm (Option Int) := fun d => match d with
  | .int i => Mm.pure (some i)
  | _ => Mm.no
def opS (m : En → Mm Dt) : En → Mm (Option Int) := fun env => m env >>= isI
theorem mo_none : PO X none (tO X.K E opN) := po_mono po_none fun σ H Q ⟨s, env, e, r, he, ha⟩ => by
  subst e
  exact ha.ret r
theorem mo_some (h : PE X e (tE X.K E ma)) : PO X (some e) (tO X.K E (opS ma)) := po_mono (po_some h) fun σ H Q ⟨s, env, e, r, he, ha⟩ => by
  subst e
  refine tE_bind r he ha fun d s1 v x1 r1 e1 rv q => ?_
  cases d with
  | int i => cases rv; exact ⟨i, rfl, q.ret r1⟩
  | _ => exact q.elim
def slc (g : Dt → Option Int → Option Int → Mm Dt) (ma : En → Mm Dt) (ml mh : En → Mm (Option Int)) : En → Mm Dt := fun env => ma env >>= fun x => ml env >>= fun lo => mh env >>= fun hi => g x lo hi
theorem me_slice {g : Dt → Option Int → Option Int → Mm Dt} {ml mh : En → Mm (Option Int)} {lo hi : Option Expr} {p2 : Pos} (hr : SlR X (slM X.K E g)) (he : PE X e (tE X.K E ma)) (hl : PO X lo (tO X.K E ml)) (hu : PO X hi (tO X.K E mh)) : PE X (.Subscript e (.Slice lo hi none p2) pos) (tE X.K E (slc g ma ml mh)) :=
  pe_mono (pe_slice hr he hl hu) fun σ H Q ⟨s, env, e, r, he, ha⟩ => by
    subst e
    exact tE_bind r he ha fun d s1 v x1 r1 e1 rv q1 => tO_bind r1 e1 q1 fun lo s2 x2 r2 e2 q2 => tO_bind r2 e2 q2 fun hi s3 x3 r3 e3 q3 => ⟨s3, d, rfl, r3, (rv.ext x2).ext x3, q3⟩
def cutD (xs : List Dt) (lo hi : Option Int) : List Dt := (xs.drop (HT.sIx xs.length 0 lo)).take (HT.sIx xs.length xs.length hi - HT.sIx xs.length 0 lo)
def slD : Dt → Option Int → Option Int → Mm Dt := fun x lo hi h => match x with
  | .str z => if z.length ≤ sizeLine then .ok (.str (cutS z lo hi)) h else .no
  | .tup xs => .ok (.tup (cutD xs lo hi)) h
  | x => match lstR h x with
    | some xs => .ok (.lv (cutD xs lo hi)) h
    | none => .no
theorem cut_reps {ds : List Dt} {vs : List V} (lo hi : Option Int) (rs : Reps K s ds vs) : Reps K s (cutD ds lo hi) (cutV vs lo hi) := by
  unfold cutD cutV
  rw [rs.length]
  exact (rs.drop _).take _
theorem s_all : SlR X (slM X.K E slD) := slR_mono (sl_str.or (sl_tupA.or sl_list)) fun x lo hi H Q ⟨s, d, eH, r, rx, ha⟩ => by
  subst eH
  unfold slD at ha
  split at ha
  · rename_i z
    cases rx
    split at ha
    · rename_i hl
      exact .inl ⟨z, rfl, hl, fin r ha rfl⟩
    · exact ha.elim
  · rename_i xs
    obtain ⟨p, vs, rfl, k, rs⟩ := id rx
    refine .inr (.inl ⟨p, vs, rfl, .of k.1, fun hw => ?_, fun _ => newTv r (cut_reps lo hi rs) ha⟩)
    have : cutD xs lo hi = xs := by
      rw [rs.length] at hw
      unfold cutD
      rw [hw.1, hw.2]
      simp
    rw [this] at ha
    exact fin r ha rx
  · split at ha
    · rename_i xs q
      obtain ⟨p, vs, rfl, k, rs⟩ := lstR_ok r rx q
      exact .inr (.inr ⟨p, vs, rfl, k, newLv r (cut_reps lo hi rs) ha⟩)
    · exact ha.elim
/-! ### built-in functions -/
theorem me_B {id : String} {g : List Dt → Mm Dt} {x : Str} {p : Pos} (hc : CallR X (.builtin id) (cM X.K E g)) (hg : Gl X x) (hm : X.mg x = none) (hv : bootBuiltins x = some (.builtin id)) (ha : PA X (e :: es) (tA X.K E mr)) (hn : x ≠ "__name__" := by decide) (hdb : (x == ("__debug__" : Str)) = false := by decide)
    (he : starEach (e :: es) X.env = (false, eval e X.env) :: starEach es X.env := by rfl) (hpl : (backTo pos (starEach es X.env)).any (·.1) = false := by rfl) : PE X (.Call (.Name x p) (e :: es) [] pos) (tE X.K E (bi g mr)) := pe_mono (pe_callB hc hg hm hv ha hn hdb he hpl) bi_ok
theorem me_Ty {T : String} {g : List Dt → Mm Dt} {x : Str} {p : Pos} (hc : CallR X (.type T) (cM X.K E g)) (hg : Gl X x) (hm : X.mg x = none) (hv : bootBuiltins x = some (.type T)) (ha : PA X (e :: es) (tA X.K E mr)) (hn : x ≠ "__name__" := by decide) (hdb : (x == ("__debug__" : Str)) = false := by decide)
    (he : starEach (e :: es) X.env = (false, eval e X.env) :: starEach es X.env := by rfl) (hpl : (backTo pos (starEach es X.env)).any (·.1) = false := by rfl) : PE X (.Call (.Name x p) (e :: es) [] pos) (tE X.K E (bi g mr)) := pe_mono (pe_callTy hc hg hm hv ha hn hdb he hpl) bi_ok
theorem Reps.one {d : Dt} {vs : List V} (h : Reps K s [d] vs) : ∃ v, vs = [v] ∧ Rep K s d v := by
  obtain ⟨v, r, rfl, h1, h2⟩ := h
  cases h2
  exact ⟨v, rfl, h1⟩
theorem Reps.two {d e : Dt} {vs : List V} (h : Reps K s [d, e] vs) : ∃ v w, vs = [v, w] ∧ Rep K s d v ∧ Rep K s e w := by
  obtain ⟨v, r, rfl, h1, h2⟩ := h
  obtain ⟨w, rfl, h3⟩ := h2.one
  exact ⟨v, w, rfl, h1, h3⟩
/-- dicts: keys and values -/
def dkR (h : Ah) : Dt → Option (List Key × List Dt)
  | .dk ks vs => some (ks, vs)
  | .obj i => match h[i]? with
    | some (.dk ks vs) => some (ks, vs)
    | _ => none
  | _ => none
def dtR (h : Ah) : Dt → Option (List (List Key) × List Dt)
  | .dt ks vs => some (ks, vs)
  | .obj i => match h[i]? with
    | some (.dt ks vs) => some (ks, vs)
    | _ => none
  | _ => none
theorem dkR_ok (r : HRel K s) (rv : Rep K s d v) {ks : List Key} {ds : List Dt} (e : dkR s.h d = some (ks, ds)) : ∃ a vs, v = .ref a ∧ Rd s.H a (.dK (ks.zip vs)) ∧ ks.length = vs.length ∧ Reps K s ds vs := by
  cases d with
  | dk ks' ds' =>
    cases e
    obtain ⟨a, vs, rfl, k, l, rs⟩ := rv
    exact ⟨a, vs, rfl, k.1, l, rs⟩
  | obj i =>
    simp only [dkR] at e
    cases q : s.h[i]? with
    | none => rw [q] at e; cases e
    | some o =>
      rw [q] at e
      cases o with
      | dk ks' ds' =>
        cases e
        obtain ⟨a, rfl, ea, vs, h1, h2, h3⟩ := obj_ok r rv q
        exact ⟨a, vs, rfl, .of h1, h2, h3⟩
      | _ => cases e
  | _ => cases e
theorem dtR_ok (r : HRel K s) (rv : Rep K s d v) {ks : List (List Key)} {ds : List Dt} (e : dtR s.h d = some (ks, ds)) : ∃ a vs, v = .ref a ∧ Rd s.H a (.dT (ks.zip vs)) ∧ ks.length = vs.length ∧ Reps K s ds vs := by
  cases d with
  | dt ks' ds' =>
    cases e
    obtain ⟨a, vs, rfl, k, l, rs⟩ := rv
    exact ⟨a, vs, rfl, k.1, l, rs⟩
  | obj i =>
    simp only [dtR] at e
    cases q : s.h[i]? with
    | none => rw [q] at e; cases e
    | some o =>
      rw [q] at e
      cases o with
      | dt ks' ds' =>
        cases e
        obtain ⟨a, rfl, ea, vs, h1, h2, h3⟩ := obj_ok r rv q
        exact ⟨a, vs, rfl, .of h1, h2, h3⟩
      | _ => cases e
  | _ => cases e
def bLen : List Dt → Mm Dt := fun ds h => match ds with
  | [.str z] => if z.length ≤ sizeLine then .ok (.int z.length) h else .no
  | [d] => match seqR h d with
    | some xs => .ok (.int xs.length) h
    | none => .no
  | _ => .no
theorem b_len : CallR X (.builtin "len") (cM X.K E bLen) := callR_mono (call_len_str.or call_len_seq) fun xs H Q ⟨s, ds, eH, r, rs, ha⟩ => by
  subst eH
  unfold bLen at ha
  split at ha
  · obtain ⟨v, rfl, rv⟩ := rs.one
    cases rv
    split at ha
    · rename_i hl
      exact .inl ⟨_, rfl, hl, fin r ha rfl⟩
    · exact ha.elim
  · obtain ⟨v, rfl, rv⟩ := rs.one
    split at ha
    · rename_i ys q
      obtain ⟨p, vs, rfl, sq, rs'⟩ := seqR_ok r rv q
      exact .inr ⟨p, vs, rfl, sq, by rw [rs'.length]; exact fin r ha rfl⟩
    · exact ha.elim
  · exact ha.elim
def bAbs : List Dt → Mm Dt := fun ds h => match ds with
  | [.int i] => .ok (.int (if i < 0 then -i else i)) h
  | _ => .no
theorem b_abs : CallR X (.builtin "abs") (cM X.K E bAbs) := callR_mono call_abs fun xs H Q ⟨s, ds, eH, r, rs, ha⟩ => by
  subst eH
  unfold bAbs at ha
  split at ha
  · obtain ⟨v, rfl, rv⟩ := rs.one
    cases rv
    exact ⟨_, rfl, fin r ha rfl⟩
  · exact ha.elim
def bMax2 : List Dt → Mm Dt := fun ds h => match ds with
  | [.int i, .int j] => .ok (.int (if j > i then j else i)) h
  | _ => .no
def bMin2 : List Dt → Mm Dt := fun ds h => match ds with
  | [.int i, .int j] => .ok (.int (if j < i then j else i)) h
  | _ => .no
theorem b_max2 (hc : X.calm = true) : CallR X (.builtin "max") (cM X.K E bMax2) := callR_mono (call_max2 hc) fun xs H Q ⟨s, ds, eH, r, rs, ha⟩ => by
  subst eH
  unfold bMax2 at ha
  split at ha
  · obtain ⟨v, w, rfl, rv, rw'⟩ := rs.two
    cases rv; cases rw'
    exact ⟨_, _, rfl, fin r ha rfl⟩
  · exact ha.elim
theorem b_min2 (hc : X.calm = true) : CallR X (.builtin "min") (cM X.K E bMin2) := callR_mono (call_min2 hc) fun xs H Q ⟨s, ds, eH, r, rs, ha⟩ => by
  subst eH
  unfold bMin2 at ha
  split at ha
  · obtain ⟨v, w, rfl, rv, rw'⟩ := rs.two
    cases rv; cases rw'
    exact ⟨_, _, rfl, fin r ha rfl⟩
  · exact ha.elim
def bDivmod : List Dt → Mm Dt := fun ds h => match ds with
  | [.int i, .int j] => if 0 < j ∧ j < 1073741824 then .ok (.tup [.int (i / j), .int (i % j)]) h else .no
  | _ => .no
theorem b_divmod : CallR X (.builtin "divmod") (cM X.K E bDivmod) := callR_mono call_divmod fun xs H Q ⟨s, ds, eH, r, rs, ha⟩ => by
  subst eH
  unfold bDivmod at ha
  split at ha
  · obtain ⟨v, w, rfl, rv, rw'⟩ := rs.two
    cases rv; cases rw'
    split at ha
    · rename_i hj
      exact ⟨_, _, rfl, hj, newTv r (Reps.cons (d := .int _) rfl (Reps.cons (d := .int _) rfl Reps.nil)) ha⟩
    · exact ha.elim
  · exact ha.elim
def bInt : List Dt → Mm Dt := fun ds h => match ds with
  | [.int i] => .ok (.int i) h
  | [.bl k] => .ok (.int (if k then 1 else 0)) h
  | [.str a] => match PySem.intText? a with
    | some n => if a.length ≤ 640 then .ok (.int n) h else .no
    | none => .no
  | _ => .no
theorem b_int : CallR X (.type "int") (cM X.K E bInt) := callR_mono (call_int1.or call_int_str) fun xs H Q ⟨s, ds, eH, r, rs, ha⟩ => by
  subst eH
  unfold bInt at ha
  split at ha
  · obtain ⟨v, rfl, rv⟩ := rs.one
    cases rv
    exact .inl (.inl ⟨_, rfl, fin r ha rfl⟩)
  · obtain ⟨v, rfl, rv⟩ := rs.one
    cases rv
    exact .inl (.inr ⟨_, rfl, fin r ha rfl⟩)
  · obtain ⟨v, rfl, rv⟩ := rs.one
    cases rv
    split at ha
    · rename_i n hn
      split at ha
      · rename_i hl
        exact .inr ⟨_, n, rfl, hn, hl, fin r ha rfl⟩
      · exact ha.elim
    · exact ha.elim
  · exact ha.elim
def bStr : List Dt → Mm Dt := fun ds h => match ds with
  | [.int i] => if i.natAbs.log2 < 1920 then .ok (.str (toString i)) h else .no
  | _ => .no
theorem b_str : CallR X (.type "str") (cM X.K E bStr) := callR_mono call_str_int fun xs H Q ⟨s, ds, eH, r, rs, ha⟩ => by
  subst eH
  unfold bStr at ha
  split at ha
  · obtain ⟨v, rfl, rv⟩ := rs.one
    cases rv
    split at ha
    · rename_i hl
      exact ⟨_, rfl, hl, fin r ha rfl⟩
    · exact ha.elim
  · exact ha.elim
/-! all, any, sum of a list -/
def blsD : List Dt → Option (List Bool)
  | [] => some []
  | .bl b :: ds => match blsD ds with
    | some bs => some (b :: bs)
    | none => none
  | _ => none
theorem blsD_ok : ∀ {ds : List Dt} {vs : List V} {bs : List Bool}, Reps K s ds vs → blsD ds = some bs → vs = bs.map V.bl
  | [], vs, bs, rs, e => by cases rs; cases e; rfl
  | d :: ds, vs, bs, rs, e => by
    obtain ⟨v, w, rfl, h1, h2⟩ := rs
    cases d with
    | bl b =>
      cases h1
      simp only [blsD] at e
      cases q : blsD ds with
      | none => rw [q] at e; cases e
      | some bs' =>
        rw [q] at e; cases e
        rw [blsD_ok h2 q]; rfl
    | _ => cases e
def intsD : List Dt → Option (List Int)
  | [] => some []
  | .int b :: ds => match intsD ds with
    | some bs => some (b :: bs)
    | none => none
  | _ => none
theorem intsD_ok : ∀ {ds : List Dt} {vs : List V} {bs : List Int}, Reps K s ds vs → intsD ds = some bs → vs = bs.map V.int
  | [], vs, bs, rs, e => by cases rs; cases e; rfl
  | d :: ds, vs, bs, rs, e => by
    obtain ⟨v, w, rfl, h1, h2⟩ := rs
    cases d with
    | int b =>
      cases h1
      simp only [intsD] at e
      cases q : intsD ds with
      | none => rw [q] at e; cases e
      | some bs' =>
        rw [q] at e; cases e
        rw [intsD_ok h2 q]; rfl
    | _ => cases e
def strsD : List Dt → Option (List Str)
  | [] => some []
  | .str b :: ds => match strsD ds with
    | some bs => some (b :: bs)
    | none => none
  | _ => none
theorem strsD_ok : ∀ {ds : List Dt} {vs : List V} {bs : List Str}, Reps K s ds vs → strsD ds = some bs → vs = bs.map V.str
  | [], vs, bs, rs, e => by cases rs; cases e; rfl
  | d :: ds, vs, bs, rs, e => by
    obtain ⟨v, w, rfl, h1, h2⟩ := rs
    cases d with
    | str b =>
      cases h1
      simp only [strsD] at e
      cases q : strsD ds with
      | none => rw [q] at e; cases e
      | some bs' =>
        rw [q] at e; cases e
        rw [strsD_ok h2 q]; rfl
    | _ => cases e
def bFold {α : Type} (f : List Dt → Option α) (g : α → Dt) : List Dt → Mm Dt := fun ds h => match ds with
  | [d] => match (lstR h d).bind f with
    | some bs => .ok (g bs) h
    | none => .no
  | _ => .no
def bAll : List Dt → Mm Dt := bFold blsD fun bs => .bl (bs.all id)
def bAny : List Dt → Mm Dt := bFold blsD fun bs => .bl (bs.any id)
def bSum : List Dt → Mm Dt := bFold intsD fun ns => .int ns.sum
theorem bFold_ok {α : Type} {f : List Dt → Option α} {g : α → Dt} {ds : List Dt} {vs : List V} {Q : VK} (r : HRel K s) (rs : Reps K s ds vs) (ha : After K E s (bFold f g ds s.h) (fun z s' => ∀ v, Rep K s' z v → Q v s'.H)) :
    ∃ a ys bs ws, vs = [V.ref a] ∧ SqL K s.H a ws ∧ Reps K s ys ws ∧ f ys = some bs ∧ ∀ v, Rep K s (g bs) v → Q v s.H := by
  unfold bFold at ha
  split at ha
  · obtain ⟨v, rfl, rv⟩ := rs.one
    split at ha
    · rename_i bs hb
      rename_i d _
      cases q : lstR s.h d with
      | none => rw [q] at hb; cases hb
      | some ys =>
        rw [q] at hb
        obtain ⟨p, ws, rfl, sq, rs'⟩ := lstR_ok r rv q
        exact ⟨p, ys, bs, ws, rfl, sq, rs', hb, fun v rv => fin r ha rv⟩
    · exact ha.elim
  · exact ha.elim
theorem b_all (hc : X.calm = true) : CallR X (.builtin "all") (cM X.K E bAll) := callR_mono (cr_all hc) fun xs H Q ⟨s, ds, eH, r, rs, ha⟩ => by
  subst eH
  obtain ⟨a, ys, bs, ws, rfl, sq, rs', hb, q⟩ := bFold_ok r rs ha
  rw [blsD_ok rs' hb] at sq
  exact ⟨a, bs, rfl, sq, q _ rfl⟩
theorem b_any (hc : X.calm = true) : CallR X (.builtin "any") (cM X.K E bAny) := callR_mono (cr_any hc) fun xs H Q ⟨s, ds, eH, r, rs, ha⟩ => by
  subst eH
  obtain ⟨a, ys, bs, ws, rfl, sq, rs', hb, q⟩ := bFold_ok r rs ha
  rw [blsD_ok rs' hb] at sq
  exact ⟨a, bs, rfl, sq, q _ rfl⟩
theorem b_sum (hc : X.calm = true) : CallR X (.builtin "sum") (cM X.K E bSum) := callR_mono (cr_sum hc) fun xs H Q ⟨s, ds, eH, r, rs, ha⟩ => by
  subst eH
  obtain ⟨a, ys, bs, ws, rfl, sq, rs', hb, q⟩ := bFold_ok r rs ha
  rw [intsD_ok rs' hb] at sq
  exact ⟨a, bs, rfl, sq, q _ rfl⟩
/-! list(x), tuple(x) -/
def bList : List Dt → Mm Dt := fun ds h => match ds with
  | [d] => match seqR h d with
    | some xs => .ok (.lv xs) h
    | none => .no
  | _ => .no
theorem b_list : CallR X (.type "list") (cM X.K E bList) := callR_mono call_list_of fun xs H Q ⟨s, ds, eH, r, rs, ha⟩ => by
  subst eH
  unfold bList at ha
  split at ha
  · obtain ⟨v, rfl, rv⟩ := rs.one
    split at ha
    · rename_i ys q
      obtain ⟨p, vs, rfl, sq, rs'⟩ := seqR_ok r rv q
      exact ⟨p, vs, rfl, sq, newLv r rs' ha⟩
    · exact ha.elim
  · exact ha.elim
def bTuple : List Dt → Mm Dt := fun ds h => match ds with
  | [.tup xs] => .ok (.tup xs) h
  | [d] => match lstR h d with
    | some xs => .ok (.tup xs) h
    | none => .no
  | _ => .no
theorem b_tuple : CallR X (.type "tuple") (cM X.K E bTuple) := callR_mono call_tuple_of fun xs H Q ⟨s, ds, eH, r, rs, ha⟩ => by
  subst eH
  unfold bTuple at ha
  split at ha
  · obtain ⟨v, rfl, rv⟩ := rs.one
    obtain ⟨p, vs, rfl, sq, rs'⟩ := rv.tupV
    exact ⟨p, vs, rfl, .inr ⟨sq, fin r ha rv⟩⟩
  · obtain ⟨v, rfl, rv⟩ := rs.one
    split at ha
    · rename_i ys q
      obtain ⟨p, vs, rfl, sq, rs'⟩ := lstR_ok r rv q
      exact ⟨p, vs, rfl, .inl ⟨sq, newTv r rs' ha⟩⟩
    · exact ha.elim
  · exact ha.elim
/-! isinstance(x, T), T a built-in type -/
def tyD (h : Ah) : Dt → Option String
  | .non => some "NoneType"
  | .bl _ => some "bool"
  | .int _ => some "int"
  | .str _ => some "str"
  | .tup _ => some "tuple"
  | .lv _ => some "list"
  | .dk _ _ => some "dict"
  | .obj i => match h[i]? with
    | some (.lst _) => some "list"
    | some (.dk _ _) => some "dict"
    | some (.dt _ _) => some "dict"
    | _ => none
  | _ => none
def subTy (t c : String) : Bool := t == c || (t == "bool" && c == "int")
def kindsT : List String := ["NoneType", "bool", "int", "str", "tuple", "list", "dict"]
def bIsi : List Dt → Mm Dt := fun ds h => match ds with
  | [x, .ty c] => match tyD h x with
    | some t => if kindsT.contains t && kindsT.contains c then .ok (.bl (subTy t c)) h else .no
    | none => .no
  | _ => .no
theorem kit_all : ∀ t ∈ kindsT, ∀ c ∈ kindsT, kitB t c = some (subTy t c) := by decide +kernel
theorem tyD_ok (r : HRel K s) (rv : Rep K s d v) {t : String} (e : tyD s.h d = some t) : TyX K s.H v (.type t) := by
  cases d with
  | non => cases rv; cases e; exact .base .non
  | bl b => cases rv; cases e; exact .base (.bl b)
  | int i => cases rv; cases e; exact .base (.int i)
  | str x => cases rv; cases e; exact .base (.str x)
  | tup xs =>
    cases e
    obtain ⟨a, vs, rfl, k, _⟩ := rv
    exact .base (.tup k.1)
  | lv xs =>
    cases e
    obtain ⟨a, vs, rfl, k, _⟩ := rv
    exact .base (.lst k.1)
  | dk ks vs =>
    cases e
    obtain ⟨a, vs, rfl, k, _⟩ := rv
    rcases k.1 with k | ⟨o, k⟩
    · exact .base (.dK k)
    · exact .fDict k
  | obj i =>
    simp only [tyD] at e
    cases q : s.h[i]? with
    | none => rw [q] at e; cases e
    | some o =>
      rw [q] at e
      obtain ⟨a, rfl, ea, ho⟩ := obj_ok r rv q
      cases o with
      | lst ys => cases e; obtain ⟨vs, h1, _⟩ := ho; exact .base (.lst h1)
      | dk ks ys => cases e; obtain ⟨vs, h1, _⟩ := ho; exact .base (.dK h1)
      | dt ks ys => cases e; obtain ⟨vs, h1, _⟩ := ho; exact .base (.dT h1)
      | dead => cases e
      | ins c fs => cases e
  | _ => cases e
theorem b_isi : CallR X (.builtin "isinstance") (cM X.K E bIsi) := callR_mono call_isi fun xs H Q ⟨s, ds, eH, r, rs, ha⟩ => by
  subst eH
  unfold bIsi at ha
  split at ha
  · obtain ⟨v, w, rfl, rv, rw'⟩ := rs.two
    cases rw'
    split at ha
    · rename_i t ht
      split at ha
      · rename_i hk
        rw [Bool.and_eq_true] at hk
        exact ⟨v, _, .type t, .type _, _, rfl, .ty _, tyD_ok r rv ht, kit_ty (kit_all t (by simpa using hk.1) _ (by simpa using hk.2)), fin r ha rfl⟩
      · exact ha.elim
    · exact ha.elim
  · exact ha.elim
/-! ### methods -/
def bm (tk : Ah → Dt → Bool) (g : Dt → List Dt → Mm Dt) (mo : En → Mm Dt) (mr : En → Mm (List Dt)) : En → Mm Dt := fun env => mo env >>= fun o => (fun h => if tk h o then .ok () h else .no) >>= fun _ => mr env >>= fun ds => g o ds
def isL (h : Ah) (d : Dt) : Bool := (lstR h d).isSome
def isSt (h : Ah) (d : Dt) : Bool := match d with
  | .str _ => true
  | _ => false
theorem isL_ok (r : HRel K s) (rv : Rep K s d v) (h : isL s.h d = true) : tyV K "list" v s.H := by
  unfold isL at h
  cases q : lstR s.h d with
  | none => rw [q] at h; cases h
  | some ys =>
    obtain ⟨p, vs, rfl, sq, rs'⟩ := lstR_ok r rv q
    exact .inl ⟨rfl, vs, sq⟩
theorem isSt_ok (r : HRel K s) (rv : Rep K s d v) (h : isSt s.h d = true) : tyV K "str" v s.H := by
  cases d with
  | str z => cases rv; rfl
  | _ => cases h
theorem bm_ok {T : String} {tk : Ah → Dt → Bool} {g : Dt → List Dt → Mm Dt} (ht : ∀ (s : Sx) d v, HRel X.K s → Rep X.K s d v → tk s.h d = true → tyV X.K T v s.H) : ∀ σ H Q, tE X.K E (bm tk g mo mr) σ H Q → tBM X.K T (mM X.K E g) (tE X.K E mo) (tA X.K E mr) σ H Q := fun σ H Q ⟨s, env, e, r, he, ha⟩ => by
  subst e
  refine tE_bind r he ha fun d s1 v x1 r1 e1 rv q => ?_
  have q2 := q.bind
  by_cases hk : tk s1.h d = true
  · simp only [hk, if_true] at q2
    have q3 := After.ret (a := ()) r1 q2
    exact ⟨ht s1 d v r1 rv hk, tA_bind r1 e1 q3 fun ds s2 vs x2 r2 e2 rs q4 => ⟨s2, d, ds, rfl, r2, rv.ext x2, rs, q4⟩⟩
  · simp only [hk] at q2
    exact q2.elim
theorem me_bm {T : String} {tk : Ah → Dt → Bool} {g : Dt → List Dt → Mm Dt} {id : String} {name : Str} {o : Expr} {apos cpos : Pos} (ht : ∀ (s : Sx) d v, HRel X.K s → Rep X.K s d v → tk s.h d = true → tyV X.K T v s.H)
    (pa : PlainAttrs T) (slot : Slot T name id) (hty : typeOf (.builtin id) = pure (.type "method_descriptor")) (hm : MtR X id (mM X.K E g)) (ho : PE X o (tE X.K E mo)) (ha : PA X (e :: es) (tA X.K E mr))
    (hbase : attributeBase o name X.env (eval o X.env) = eval o X.env := by rfl)
    (hfew : ((backTo cpos (starEach (e :: es) X.env)).all (fun x => !x.1) && (backToKw cpos (keywordEach [] X.env)).all (fun x => x.1.isSome)
      && decide ((e :: es).length + ([] : List Keyword).length + (if ([] : List Keyword).isEmpty then 0 else 1) < 30)) = true := by rfl)
    (hline : (apos.endLine == cpos.line) = true := by rfl) (hs : starEach (e :: es) X.env = (false, eval e X.env) :: starEach es X.env := by rfl) (hplain : (backTo cpos (starEach es X.env)).any (·.1) = false := by rfl) :
    PE X (.Call (.Attribute o name apos) (e :: es) [] cpos) (tE X.K E (bm tk g mo mr)) := pe_mono (pe_bm pa slot hty hm ho ha hbase hfew hline hs hplain) (bm_ok ht)
def bm0 (tk : Ah → Dt → Bool) (g : Dt → List Dt → Mm Dt) (mo : En → Mm Dt) : En → Mm Dt := fun env => mo env >>= fun o => (fun h => if tk h o then .ok () h else .no) >>= fun _ => g o []
theorem me_bm0 {T : String} {tk : Ah → Dt → Bool} {g : Dt → List Dt → Mm Dt} {id : String} {name : Str} {o : Expr} {apos cpos : Pos} (ht : ∀ (s : Sx) d v, HRel X.K s → Rep X.K s d v → tk s.h d = true → tyV X.K T v s.H)
    (pa : PlainAttrs T) (slot : Slot T name id) (hty : typeOf (.builtin id) = pure (.type "method_descriptor")) (hm : MtR X id (mM X.K E g)) (ho : PE X o (tE X.K E mo))
    (hbase : attributeBase o name X.env (eval o X.env) = eval o X.env := by rfl) (hline : (apos.endLine == cpos.line) = true := by rfl) : PE X (.Call (.Attribute o name apos) [] [] cpos) (tE X.K E (bm0 tk g mo)) := pe_mono (pe_bm0 pa slot hty hm ho hbase hline) fun σ H Q ⟨s, env, e, r, he, ha⟩ => by
  subst e
  refine tE_bind r he ha fun d s1 v x1 r1 e1 rv q => ?_
  have q2 := q.bind
  by_cases hk : tk s1.h d = true
  · simp only [hk, if_true] at q2
    have q3 := After.ret (a := ()) r1 q2
    exact ⟨ht s1 d v r1 rv hk, s1, d, [], rfl, r1, rv, rfl, q3⟩
  · simp only [hk] at q2
    exact q2.elim
/-! append, pop -/
def mApp : Dt → List Dt → Mm Dt := fun o ds h => match o, ds with
  | .obj i, [y] => match h[i]? with
    | some (.lst xs) => if xs.length < sizeLine then .ok .non (h.set i (.lst (xs ++ [y]))) else .no
    | _ => .no
  | _, _ => .no
theorem m_app : MtR X "list.append" (mM X.K E mApp) := mtR_mono mt_append fun x vs H Q ⟨s, d, ds, eH, r, rx, rs, ha⟩ => by
  subst eH
  unfold mApp at ha
  split at ha
  · rename_i i y
    obtain ⟨v, rfl, rv⟩ := rs.one
    obtain ⟨a, ea, rfl⟩ := rx
    split at ha
    · rename_i ys q
      split at ha
      · rename_i hl
        obtain ⟨ws, h1, h2⟩ := r.ob i a _ ea q
        have x := put_ext (u := .lst (ws ++ [v])) (o' := .lst (ys ++ [y])) r ea q (by intro z; cases z)
        have r' := put_rel (u := .lst (ws ++ [v])) (o' := .lst (ys ++ [y])) r ea q (by intro z; cases z) ⟨_, upd_same, (h2.ext x).append (Reps.cons (rv.ext x) Reps.nil)⟩
        exact ⟨a, ws, v, rfl, rfl, h1, by rw [h2.length]; exact hl, ha.now _ rfl x r' _ rfl⟩
      · exact ha.elim
    · exact ha.elim
  · exact ha.elim
def mPop : Dt → List Dt → Mm Dt := fun o ds h => match o, ds with
  | .obj i, [] => match h[i]? with
    | some (.lst xs) => match xs[xs.length - 1]? with
      | some y => .ok y (h.set i (.lst xs.dropLast))
      | none => .no
    | _ => .no
  | _, _ => .no
theorem Reps.dropLast {ds : List Dt} {vs : List V} (h : Reps K s ds vs) : Reps K s ds.dropLast vs.dropLast := by
  rw [List.dropLast_eq_take, List.dropLast_eq_take, h.length]
  exact h.take _
theorem m_pop : MtR X "list.pop" (mM X.K E mPop) := mtR_mono mt_pop fun x vs H Q ⟨s, d, ds, eH, r, rx, rs, ha⟩ => by
  subst eH
  unfold mPop at ha
  split at ha
  · rename_i i
    cases rs
    obtain ⟨a, ea, rfl⟩ := rx
    split at ha
    · rename_i ys q
      split at ha
      · rename_i y hy
        obtain ⟨ws, h1, h2⟩ := r.ob i a _ ea q
        have x := put_ext (u := .lst ws.dropLast) (o' := .lst ys.dropLast) r ea q (by intro z; cases z)
        have r' := put_rel (u := .lst ws.dropLast) (o' := .lst ys.dropLast) r ea q (by intro z; cases z) ⟨_, upd_same, (h2.ext x).dropLast⟩
        obtain ⟨v, e1, rv⟩ := h2.get hy
        rw [← h2.length] at e1
        exact ⟨a, ws, v, rfl, rfl, h1, e1, ha.now _ rfl x r' _ (rv.ext x)⟩
      · exact ha.elim
    · exact ha.elim
  · exact ha.elim
/-! xs[i] = v -/
def setL : Dt → Dt → Dt → Mm Unit := fun o i y h => match o, i with
  | .obj n, .int k => match h[n]? with
    | some (.lst xs) => match ixN xs.length k with
      | some j => .ok () (h.set n (.lst (xs.set j y)))
      | none => .no
    | _ => .no
  | _, _ => .no
theorem st_list : PSet X (stM X.K E setL) := fun pins s σ H o i v ov iv u Q I ro ri rv ⟨s1, d, e, f, eH, r, rx, re, rf, ha⟩ => by
  subst eH
  refine set_list pins s σ _ o i v ov iv u Q I ro ri rv ?_
  unfold setL at ha
  split at ha
  · rename_i n k
    cases re
    obtain ⟨a, ea, rfl⟩ := rx
    split at ha
    · rename_i ys q
      split at ha
      · rename_i j hj
        obtain ⟨ws, h1, h2⟩ := r.ob n a _ ea q
        have x := put_ext (u := .lst (ws.set j v)) (o' := .lst (ys.set j f)) r ea q (by intro z; cases z)
        have r' := put_rel (u := .lst (ws.set j v)) (o' := .lst (ys.set j f)) r ea q (by intro z; cases z) ⟨_, upd_same, Reps.set (rf.ext x) j (h2.ext x)⟩
        exact ⟨a, ws, k, j, rfl, rfl, h1, by rw [h2.length]; exact hj, ha.now _ rfl x r'⟩
      · exact ha.elim
    · exact ha.elim
  · exact ha.elim
/-! texts -/
def mSplit : Dt → List Dt → Mm Dt := fun o ds h => match o, ds with
  | .str a, [.str b] => if (b.length == 0) = false ∧ a.length + 2 ≤ sizeLine then .ok (.lv ((Txt.split a b).map .str)) h else .no
  | _, _ => .no
theorem reps_strs : ∀ (l : List Str), Reps K s (l.map Dt.str) (l.map V.str)
  | [] => rfl
  | x :: l => ⟨.str x, _, rfl, rfl, reps_strs l⟩
theorem reps_ints : ∀ (l : List Int), Reps K s (l.map Dt.int) (l.map V.int)
  | [] => rfl
  | x :: l => ⟨.int x, _, rfl, rfl, reps_ints l⟩
theorem m_split : MtR X "str.split" (mM X.K E mSplit) := mtR_mono mt_split fun x vs H Q ⟨s, d, ds, eH, r, rx, rs, ha⟩ => by
  subst eH
  unfold mSplit at ha
  split at ha
  · rename_i a b
    obtain ⟨v, rfl, rv⟩ := rs.one
    cases rx; cases rv
    split at ha
    · rename_i hl
      exact ⟨a, b, rfl, rfl, hl.1, hl.2, newLv r (reps_strs _) ha⟩
    · exact ha.elim
  · exact ha.elim
def mJoin : Dt → List Dt → Mm Dt := fun o ds h => match o, ds with
  | .str a, [d] => match (seqR h d).bind strsD with
    | some ys => if (ys.map (·.length)).sum + ys.length * a.length ≤ 16777216 then .ok (.str (Txt.join a ys)) h else .no
    | none => .no
  | _, _ => .no
theorem m_join : MtR X "str.join" (mM X.K E mJoin) := mtR_mono mt_join fun x vs H Q ⟨s, d, ds, eH, r, rx, rs, ha⟩ => by
  subst eH
  unfold mJoin at ha
  split at ha
  · rename_i a d'
    obtain ⟨v, rfl, rv⟩ := rs.one
    cases rx
    split at ha
    · rename_i ys hy
      cases q : seqR s.h d' with
      | none => rw [q] at hy; cases hy
      | some zs =>
        rw [q] at hy
        obtain ⟨p, ws, rfl, sq, rs'⟩ := seqR_ok r rv q
        rw [strsD_ok rs' hy] at sq
        split at ha
        · rename_i hl
          exact ⟨a, p, ys, rfl, rfl, sq, hl, fin r ha rfl⟩
        · exact ha.elim
    · exact ha.elim
  · exact ha.elim
def mSIndex : Dt → List Dt → Mm Dt := fun o ds h => match o, ds with
  | .str a, [.str b] => match Builtin.Str.occurrences a b 0 a.length 1 with
    | i :: _ => .ok (.int (i : Nat)) h
    | [] => .no
  | _, _ => .no
theorem m_sindex : MtR X "str.index" (mM X.K E mSIndex) := mtR_mono mt_sindex fun x vs H Q ⟨s, d, ds, eH, r, rx, rs, ha⟩ => by
  subst eH
  unfold mSIndex at ha
  split at ha
  · rename_i a b
    obtain ⟨v, rfl, rv⟩ := rs.one
    cases rx; cases rv
    split at ha
    · rename_i i rest hi
      exact ⟨a, b, i, rest, rfl, rfl, hi, fin r ha rfl⟩
    · exact ha.elim
  · exact ha.elim
def mSCount : Dt → List Dt → Mm Dt := fun o ds h => match o, ds with
  | .str a, [.str b] => .ok (.int (Txt.count a b)) h
  | _, _ => .no
theorem m_scount : MtR X "str.count" (mM X.K E mSCount) := mtR_mono mt_count fun x vs H Q ⟨s, d, ds, eH, r, rx, rs, ha⟩ => by
  subst eH
  unfold mSCount at ha
  split at ha
  · rename_i a b
    obtain ⟨v, rfl, rv⟩ := rs.one
    cases rx; cases rv
    exact ⟨a, b, rfl, rfl, fin r ha rfl⟩
  · exact ha.elim
def mLCount : Dt → List Dt → Mm Dt := fun o ds h => match ds with
  | [.int k] => match (lstR h o).bind intsD with
    | some ns => .ok (.int (ns.count k : Nat)) h
    | none => .no
  | _ => .no
theorem m_lcount : MtR X "list.count" (mM X.K E mLCount) := mtR_mono mt_lcount fun x vs H Q ⟨s, d, ds, eH, r, rx, rs, ha⟩ => by
  subst eH
  unfold mLCount at ha
  split at ha
  · rename_i k
    obtain ⟨v, rfl, rv⟩ := rs.one
    cases rv
    split at ha
    · rename_i ns hn
      cases q : lstR s.h d with
      | none => rw [q] at hn; cases hn
      | some zs =>
        rw [q] at hn
        obtain ⟨p, ws, rfl, sq, rs'⟩ := lstR_ok r rx q
        rw [intsD_ok rs' hn] at sq
        exact ⟨p, ns, k, rfl, rfl, sq, fin r ha rfl⟩
    · exact ha.elim
  · exact ha.elim
end
end Mo
set_option Elab.async false
set_option linter.all false
set_option maxRecDepth 100000
set_option maxHeartbeats 4000000
/-! Mo9: what is walked: lists, tuples, texts, ranges, enumerate, zip. -/
namespace Mo
open PySem L2 PySem.Spec PyProof.Rows
section
variable {X : Cx} {E : XK} {K : PySem.W.Frag} {s s0 : Sx} {d : Dt} {v : V} {xs ds : List Dt} {e a b c tg : Expr} {pos p : Pos} {es : List Expr}
variable {ma mb mc mo : En → Mm Dt} {mr : En → Mm (List Dt)}
theorem itRep_of {J : It} {n : Nat} {G : Hp → Prop} {Y : Nat → Hp → V → Hp → Prop} (w : L2.Walk J n G Y) (hn : ds.length = n)
    (h : ∀ s, Ext s0 s → HRel K s → G s.H ∧ ∀ (i : Nat) d x H', ds[i]? = some d → Y i s.H x H' → ∃ s', s'.H = H' ∧ s'.h = s.h ∧ Ext s s' ∧ HRel K s' ∧ Rep K s' d x) : ItRep K s0 J ds := by
  subst hn
  refine ⟨fun s x r i d e => ?_, fun s x r => w.stops _ (h s x r).1⟩
  have hi := (List.getElem?_eq_some_iff.mp e).1
  exact ⟨w.goes i _ hi (h s x r).1, fun y H' hy => (h s x r).2 i d y H' e (w.yields i _ y H' hi (h s x r).1 hy)⟩
theorem same_end {d : Dt} {x : V} {H' : Hp} (r : HRel K s) (e : H' = s.H) (rv : Rep K s d x) : ∃ s', s'.H = H' ∧ s'.h = s.h ∧ Ext s s' ∧ HRel K s' ∧ Rep K s' d x := ⟨s, e.symm, rfl, Ext.refl s, r, rv⟩
theorem itRep_list {a : Addr} {vs : List V} (hq : ∀ s, Ext s0 s → HRel K s → SqL K s.H a vs) (rs : Reps K s0 ds vs) : ItRep K s0 (Itl K a) ds :=
  itRep_of (walk_list (K := K) (a := a) (xs := vs)) rs.length.symm fun s x r => ⟨hq s x r, fun i d y H' e ⟨e1, e2⟩ => by
    obtain ⟨w, e3, rw'⟩ := (rs.ext x).get e
    rw [e3] at e2; cases e2
    exact same_end r e1 rw'⟩
theorem itRep_tup {a : Addr} {vs : List V} (hq : ∀ s, Ext s0 s → HRel K s → SqT K s.H a vs) (rs : Reps K s0 ds vs) : ItRep K s0 (Itt K a) ds :=
  itRep_of (walk_tup (K := K) (a := a) (xs := vs)) rs.length.symm fun s x r => ⟨hq s x r, fun i d y H' e ⟨e1, e2⟩ => by
    obtain ⟨w, e3, rw'⟩ := (rs.ext x).get e
    rw [e3] at e2; cases e2
    exact same_end r e1 rw'⟩
/-- a list that stays (a tracked one is used up) -/
def itemsL : Dt → Mm (List Dt) := fun d h => match d with
  | .lv xs => .ok xs h
  | .wl xs => .ok xs h
  | .obj i => match h[i]? with
    | some (.lst xs) => .ok xs (h.set i .dead)
    | _ => .no
  | _ => .no
theorem itemsL_ok {k : List Dt → Sx → Prop} (r : HRel K s) (rv : Rep K s d v) (h : After K E s (itemsL d s.h) k) : ∃ a vs ds s', v = .ref a ∧ s'.H = s.H ∧ Ext s s' ∧ HRel K s' ∧ Reps K s' ds vs ∧ (∀ s2, Ext s' s2 → HRel K s2 → SqL K s2.H a vs) ∧ k ds s' := by
  unfold itemsL at h
  split at h
  · rename_i xs
    obtain ⟨a, vs, rfl, q, rs⟩ := rv
    exact ⟨a, vs, xs, s, rfl, rfl, Ext.refl s, r, rs, fun s2 x _ => .of (x.keep q rfl).1, h s rfl (Ext.refl s) r⟩
  · rename_i xs
    obtain ⟨a, vs, rfl, q, rs⟩ := rv
    refine ⟨a, vs, xs, s, rfl, rfl, Ext.refl s, r, rs, fun s2 x _ => ?_, h s rfl (Ext.refl s) r⟩
    rcases q with q | q
    · exact .inl (q.ext x).1
    · rcases q with (q | ⟨_, q⟩) | q
      · cases q
      · cases q
      · exact .inr q
  · rename_i i
    split at h
    · rename_i xs q
      obtain ⟨a, ea, rfl⟩ := rv
      obtain ⟨vs, h1, h2⟩ := r.ob i a _ ea q
      have x := die_ext r i
      have f := die_fx r ea h1
      exact ⟨a, vs, xs, s.die i, rfl, rfl, x, die_rel r i, h2.ext x, fun s2 y _ => .of (y.keep ⟨h1, f.2⟩ rfl).1, h.now (s.die i) rfl x (die_rel r i)⟩
    · exact h.elim
  · exact h.elim
def itL (ma : En → Mm Dt) : En → Mm (List Dt) := fun env => ma env >>= itemsL
theorem mi_list (h : PE X e (tE X.K E ma)) : PI X tg e (tI X.K E (itL ma)) := pi_mono (pi_list h) fun σ H R ⟨s, env, e, r, he, ha⟩ => by
  subst e
  refine tE_bind r he ha fun d s1 v x1 r1 e1 rv q => ?_
  obtain ⟨a, vs, ds, s2, rfl, eH, x2, r2, rs, hq, k⟩ := itemsL_ok r1 rv q
  refine ⟨a, rfl, ⟨vs, ?_⟩, ?_⟩
  · rw [← eH]; exact hq s2 (Ext.refl _) r2
  · rw [← eH]
    exact k _ (itRep_list hq rs)
def itemsT : Dt → Mm (List Dt) := fun d h => match d with
  | .tup xs => .ok xs h
  | _ => .no
def itT (ma : En → Mm Dt) : En → Mm (List Dt) := fun env => ma env >>= itemsT
theorem mi_tup (h : PE X e (tE X.K E ma)) : PI X tg e (tI X.K E (itT ma)) := pi_mono (pi_tup h) fun σ H R ⟨s, env, e, r, he, ha⟩ => by
  subst e
  refine tE_bind r he ha fun d s1 v x1 r1 e1 rv q => ?_
  unfold itemsT at q
  split at q
  · rename_i xs
    obtain ⟨a, vs, rfl, k, rs⟩ := rv
    exact ⟨a, rfl, ⟨vs, .of k.1⟩, q s1 rfl (Ext.refl _) r1 _ (itRep_tup (fun s2 x _ => .of (x.keep k rfl).1) rs)⟩
  · exact q.elim
def signs (z : Str) : List Dt := z.cps.toList.map fun c => .str ⟨#[c]⟩
def itemsS : Dt → Mm (List Dt) := fun d h => match d with
  | .str z => .ok (signs z) h
  | _ => .no
def itS (ma : En → Mm Dt) : En → Mm (List Dt) := fun env => ma env >>= itemsS
theorem itRep_str {z : Str} : ItRep K s0 (Its z) (signs z) := itRep_of (walk_str (z := z)) (by simp [signs]) fun s x r => ⟨trivial, fun i d y H' e ⟨e1, c, e2, e3⟩ => by
  have : d = .str ⟨#[c]⟩ := by
    unfold signs at e
    rw [List.getElem?_map] at e
    have e4 : z.cps.toList[i]? = some c := by rw [← e2]; simp
    rw [e4] at e
    cases e; rfl
  subst this e3
  exact same_end r e1 rfl⟩
theorem mi_str (h : PE X e (tE X.K E ma)) : PI X tg e (tI X.K E (itS ma)) := pi_mono (pi_str h) fun σ H R ⟨s, env, e, r, he, ha⟩ => by
  subst e
  refine tE_bind r he ha fun d s1 v x1 r1 e1 rv q => ?_
  unfold itemsS at q
  split at q
  · rename_i z
    cases rv
    exact ⟨z, rfl, q s1 rfl (Ext.refl _) r1 _ itRep_str⟩
  · exact q.elim
/-! ranges -/
def rng (lo : Int) (n : Nat) (c : Int) : List Dt := (List.range n).map fun i : Nat => .int (lo + (i : Int) * c)
theorem rng_get {lo c : Int} {n i : Nat} {d : Dt} (h : (rng lo n c)[i]? = some d) : d = .int (lo + (i : Int) * c) := by
  unfold rng at h
  rw [List.getElem?_map] at h
  by_cases hi : i < n
  · rw [List.getElem?_range hi] at h
    cases h; rfl
  · rw [List.getElem?_eq_none (by simpa using hi)] at h
    cases h
theorem itRep_range {lo : Int} {n : Nat} : ItRep K s0 (Itr lo n) (rng lo n 1) := itRep_of (walk_range (lo := lo) (n := n)) (by simp [rng]) fun s x r => ⟨trivial, fun i d y H' e ⟨e1, e2⟩ => by
  have := rng_get e
  subst this e2
  exact same_end r e1 (by show V.int _ = V.int _; rw [Int.mul_one])⟩
def itR1 (mr : En → Mm (List Dt)) : En → Mm (List Dt) := fun env => mr env >>= fun ds => match ds with
  | [.int j] => if -(2 ^ 62) ≤ j ∧ j < 2 ^ 62 then Mm.pure (rng 0 j.toNat 1) else Mm.no
  | _ => Mm.no
theorem mi_range1 (hg : Gl X "range") (hm : X.mg "range" = none) (ha : PA X [a] (tA X.K E mr)) (hs : starEach [a] X.env = [(false, eval a X.env)] := by rfl) : PI X tg (.Call (.Name "range" p) [a] [] pos) (tI X.K E (itR1 mr)) := pi_mono (pi_range1 hg hm ha hs) fun σ H R ⟨s, env, e, r, he, ha⟩ => by
  subst e
  refine tA_bind r he ha fun ds s1 vs x1 r1 e1 rs q => ?_
  split at q
  · obtain ⟨v, rfl, rv⟩ := rs.one
    cases rv
    split at q
    · rename_i hj
      exact ⟨_, rfl, hj.1, hj.2, q.ret r1 _ itRep_range⟩
    · exact q.elim
  · exact q.elim
def itR2 (mr : En → Mm (List Dt)) : En → Mm (List Dt) := fun env => mr env >>= fun ds => match ds with
  | [.int i, .int j] => if -(2 ^ 62) ≤ i ∧ i < 2 ^ 62 ∧ -(2 ^ 62) ≤ j ∧ j < 2 ^ 62 then Mm.pure (rng i (j - i).toNat 1) else Mm.no
  | _ => Mm.no
theorem mi_range2 (hg : Gl X "range") (hm : X.mg "range" = none) (ha : PA X [a, b] (tA X.K E mr)) (hs : starEach [a, b] X.env = [(false, eval a X.env), (false, eval b X.env)] := by rfl) (hs2 : starEach [b] X.env = [(false, eval b X.env)] := by rfl) :
    PI X tg (.Call (.Name "range" p) [a, b] [] pos) (tI X.K E (itR2 mr)) := pi_mono (pi_range2 hg hm ha hs hs2) fun σ H R ⟨s, env, e, r, he, ha⟩ => by
  subst e
  refine tA_bind r he ha fun ds s1 vs x1 r1 e1 rs q => ?_
  split at q
  · obtain ⟨v, w, rfl, rv, rw'⟩ := rs.two
    cases rv; cases rw'
    split at q
    · rename_i hj
      exact ⟨_, _, rfl, hj, q.ret r1 _ itRep_range⟩
    · exact q.elim
  · exact q.elim
/-! pairs that are laid on the way -/
theorem pair_end {d1 d2 : Dt} {x y : V} {T : Addr} {H' : Hp} (r : HRel K s) (hT : s.H T = none) (e : H' = upd s.H T (.tup [x, y])) (r1 : Rep K s d1 x) (r2 : Rep K s d2 y) : ∃ s', s'.H = H' ∧ s'.h = s.h ∧ Ext s s' ∧ HRel K s' ∧ Rep K s' (.tup [d1, d2]) (.ref T) := by
  subst e
  exact ⟨s.new T (.tup [x, y]), rfl, rfl, new_ext r hT, new_rel r hT, T, [x, y], rfl, ⟨upd_same, (new_fx r hT).2⟩, Reps.cons (r1.ext (new_ext r hT)) (Reps.cons (r2.ext (new_ext r hT)) Reps.nil)⟩
def enumD : Nat → List Dt → List Dt
  | _, [] => []
  | i, d :: ds => .tup [.int (i : Nat), d] :: enumD (i + 1) ds
theorem enumD_length : ∀ (n : Nat) (ds : List Dt), (enumD n ds).length = ds.length
  | _, [] => rfl
  | n, d :: ds => by simp [enumD, enumD_length (n + 1) ds]
theorem enumD_get : ∀ {n : Nat} {ds : List Dt} {i : Nat} {d : Dt}, (enumD n ds)[i]? = some d → ∃ d', ds[i]? = some d' ∧ d = .tup [.int ((n + i : Nat) : Int), d']
  | n, [], i, d, h => by simp [enumD] at h
  | n, x :: ds, 0, d, h => by simp [enumD] at h; exact ⟨x, rfl, h.symm⟩
  | n, x :: ds, i + 1, d, h => by
    obtain ⟨d', e1, e2⟩ := enumD_get (n := n + 1) (i := i) (by simpa [enumD] using h)
    exact ⟨d', by simpa using e1, by rw [e2, show n + 1 + i = n + (i + 1) by omega]⟩
theorem itRep_enum {a : Addr} {vs : List V} (hq : ∀ s, Ext s0 s → HRel K s → SqL K s.H a vs) (rs : Reps K s0 ds vs) : ItRep K s0 (Ite K a) (enumD 0 ds) :=
  itRep_of (walk_enum (K := K) (a := a) (xs := vs)) (by rw [enumD_length, rs.length]) fun s x r => ⟨hq s x r, fun i d y H' e ⟨T, x1, y1, e1, e2, e3, e4, e5⟩ => by
    obtain ⟨d', h1, rfl⟩ := enumD_get e
    obtain ⟨w, h2, rw'⟩ := (rs.ext x).get h1
    have e5 : vs[i]? = some y1 := e5
    rw [h2] at e5; cases e5
    have e4 : some (V.int (i : Nat)) = some x1 := e4
    cases e4
    subst e1
    exact pair_end r e2 e3 (by rw [Nat.zero_add]; exact rfl) rw'⟩
def itEL (mr : En → Mm (List Dt)) : En → Mm (List Dt) := fun env => mr env >>= fun ds => match ds with
  | [d] => itemsL d >>= fun xs => Mm.pure (enumD 0 xs)
  | _ => Mm.no
theorem mi_enum {tpos : Pos} {elts : List Expr} {kk : Nat} (hg : Gl X "enumerate") (hm : X.mg "enumerate" = none) (ha : PA X [e] (tA X.K E mr)) (hs : starEach [e] X.env = (false, eval e X.env) :: starEach [] X.env := by rfl) :
    PI X (.Tuple elts kk tpos) (.Call (.Name "enumerate" p) [e] [] pos) (tI X.K E (itEL mr)) := pi_mono (pi_enum hg hm ha hs) fun σ H R ⟨s, env, e, r, he, ha⟩ => by
  subst e
  refine tA_bind r he ha fun ds s1 vs x1 r1 e1 rs q => ?_
  split at q
  · obtain ⟨v, rfl, rv⟩ := rs.one
    obtain ⟨a, vs, ds, s2, rfl, eH, x2, r2, rs', hq, k⟩ := itemsL_ok r1 rv q.bind
    refine ⟨a, vs, rfl, ?_, ?_⟩
    · rw [← eH]; exact hq s2 (Ext.refl _) r2
    · rw [← eH]
      exact k.ret r2 _ (itRep_enum hq rs')
  · exact q.elim
/-! zip of two lists -/
def zipD (xs ys : List Dt) : List Dt := List.zipWith (fun x y => .tup [x, y]) xs ys
theorem zipD_get {xs ys : List Dt} {i : Nat} {d : Dt} (h : (zipD xs ys)[i]? = some d) : ∃ x y, xs[i]? = some x ∧ ys[i]? = some y ∧ d = .tup [x, y] := by
  unfold zipD at h
  rw [List.getElem?_zipWith] at h
  cases hx : xs[i]? with
  | none => rw [hx] at h; cases ys[i]? <;> cases h
  | some x =>
    cases hy : ys[i]? with
    | none => rw [hx, hy] at h; cases h
    | some y => rw [hx, hy] at h; cases h; exact ⟨x, y, rfl, rfl, rfl⟩
theorem itRep_zip {a b : Addr} {vs ws : List V} {es : List Dt} (hq : ∀ s, Ext s0 s → HRel K s → SqL K s.H a vs) (hq2 : ∀ s, Ext s0 s → HRel K s → SqL K s.H b ws) (rs : Reps K s0 ds vs) (rs2 : Reps K s0 es ws) : ItRep K s0 (Itz K a b) (zipD ds es) :=
  itRep_of (walk_zip (K := K) (a := a) (b := b) (xs := vs) (ys := ws) (n := min ds.length es.length) (by rw [rs.length, rs2.length])) (by simp [zipD]) fun s x r => ⟨⟨hq s x r, hq2 s x r⟩, fun i d y H' e ⟨T, x1, y1, e1, e2, e3, e4, e5⟩ => by
    obtain ⟨dx, dy, h1, h2, rfl⟩ := zipD_get e
    obtain ⟨w, h3, rw'⟩ := (rs.ext x).get h1
    obtain ⟨w2, h4, rw2⟩ := (rs2.ext x).get h2
    have e4 : vs[i]? = some x1 := e4
    have e5 : ws[i]? = some y1 := e5
    rw [h3] at e4; cases e4
    rw [h4] at e5; cases e5
    subst e1
    exact pair_end r e2 e3 rw' rw2⟩
def itZL (mr : En → Mm (List Dt)) : En → Mm (List Dt) := fun env => mr env >>= fun ds => match ds with
  | [.lv xs, .lv ys] => Mm.pure (zipD xs ys)
  | _ => Mm.no
theorem mi_zip {e2 : Expr} {tpos : Pos} {elts : List Expr} {kk : Nat} (h : PI X (.Tuple elts kk tpos) (.Call (.Name "zip" p) [e, e2] [] pos) (iZip X.K (tA X.K E mr))) :
    PI X (.Tuple elts kk tpos) (.Call (.Name "zip" p) [e, e2] [] pos) (tI X.K E (itZL mr)) := pi_mono h fun σ H R ⟨s, env, e, r, he, ha⟩ => by
  subst e
  refine tA_bind r he ha fun ds s1 vs x1 r1 e1 rs q => ?_
  split at q
  · obtain ⟨v, w, rfl, rv, rw'⟩ := rs.two
    obtain ⟨a, vs, rfl, k, rs1⟩ := rv
    obtain ⟨b, ws, rfl, k2, rs2⟩ := rw'
    exact ⟨a, b, vs, ws, rfl, .of k.1, .of k2.1, q.ret r1 _ (itRep_zip (fun s x _ => .of (x.keep k rfl).1) (fun s x _ => .of (x.keep k2 rfl).1) rs1 rs2)⟩
  · exact q.elim
end
end Mo
set_option Elab.async false
set_option linter.all false
set_option maxRecDepth 100000
set_option maxHeartbeats 4000000
/-! MoA: dicts. -/
namespace Mo
open PySem L2 PySem.Spec PyProof.Rows
def keyD : Dt → Option Key
  | .int i => some (.inl i)
  | .str x => some (.inr x)
  | _ => none
def keysD : List Dt → Option (List Key)
  | [] => some []
  | d :: ds => match keyD d, keysD ds with
    | some k, some ks => some (k :: ks)
    | _, _ => none
def keyT : Dt → Option (List Key)
  | .tup ds => keysD ds
  | _ => none
def valG {κ α : Type} [DecidableEq κ] (kvs : List (κ × α)) (k : κ) : Option α := (kvs.find? fun kv => decide (kv.1 = k)).map (·.2)
def putG {κ : Type} [DecidableEq κ] (ks : List κ) (vs : List Dt) (k : κ) (d : Dt) : List κ × List Dt :=
  if k ∈ ks then (ks, (ks.zip vs).map fun p => if p.1 = k then d else p.2) else (ks ++ [k], vs ++ [d])
section
variable {X : Cx} {E : XK} {K : PySem.W.Frag} {s s0 : Sx} {d : Dt} {v : V} {xs ds : List Dt} {e a b c f o i tg : Expr} {pos p : Pos} {es : List Expr}
variable {ma mb mc mo mk mx : En → Mm Dt} {mr : En → Mm (List Dt)}
theorem keyD_ok {k : Key} (rv : Rep K s d v) (e : keyD d = some k) : v = kV k := by
  cases d with
  | int i => cases rv; cases e; rfl
  | str i => cases rv; cases e; rfl
  | _ => cases e
theorem keysD_ok : ∀ {ds : List Dt} {vs : List V} {ks : List Key}, Reps K s ds vs → keysD ds = some ks → vs = ks.map kV
  | [], vs, ks, rs, e => by cases rs; cases e; rfl
  | d :: ds, vs, ks, rs, e => by
    obtain ⟨v, w, rfl, h1, h2⟩ := rs
    simp only [keysD] at e
    cases q : keyD d with
    | none => rw [q] at e; simp at e
    | some k =>
      cases q2 : keysD ds with
      | none => rw [q, q2] at e; simp at e
      | some ks' =>
        rw [q, q2] at e; cases e
        rw [keyD_ok h1 q, keysD_ok h2 q2]; rfl
theorem valG_eq {κ : Type} [DecidableEq κ] (kvs : List (κ × V)) (k : κ) : valV kvs k = valG kvs k := rfl
def RepO (K : PySem.W.Frag) (s : Sx) : Option Dt → Option V → Prop
  | some d, some v => Rep K s d v
  | none, none => True
  | _, _ => False
theorem RepO.some {z : Dt} {ov : Option V} (h : RepO K s (some z) ov) : ∃ w, ov = some w ∧ Rep K s z w := by
  cases ov with
  | none => exact h.elim
  | some w => exact ⟨w, rfl, h⟩
theorem RepO.none {ov : Option V} (h : RepO K s none ov) : ov = none := by
  cases ov with
  | none => rfl
  | some w => exact h.elim
theorem val_ok {κ : Type} [DecidableEq κ] {k : κ} : ∀ {ks : List κ} {ds : List Dt} {vs : List V}, ks.length = vs.length → Reps K s ds vs → RepO K s (valG (ks.zip ds) k) (valV (ks.zip vs) k)
  | [], ds, vs, hl, rs => by
    simp only [List.zip_nil_left]
    exact trivial
  | k' :: ks, ds, vs, hl, rs => by
    cases ds with
    | nil => cases rs; simp at hl
    | cons d ds =>
      obtain ⟨v, w, rfl, h1, h2⟩ := rs
      by_cases hk : k' = k
      · subst hk
        have e1 : valG ((k' :: ks).zip (d :: ds)) k' = some d := by simp [valG]
        have e2 : valV ((k' :: ks).zip (v :: w)) k' = some v := by simp [valV]
        rw [e1, e2]
        exact h1
      · have e1 : valG ((k' :: ks).zip (d :: ds)) k = valG (ks.zip ds) k := by simp [valG, hk]
        have e2 : valV ((k' :: ks).zip (v :: w)) k = valV (ks.zip w) k := by simp [valV, hk]
        rw [e1, e2]
        exact val_ok (by simpa using hl) h2
theorem any_key {κ : Type} [DecidableEq κ] {k : κ} : ∀ {ks : List κ} {vs : List V}, ks.length = vs.length → ((ks.zip vs).any fun kv => decide (kv.1 = k)) = decide (k ∈ ks)
  | [], vs, hl => by simp
  | k' :: ks, [], hl => by simp at hl
  | k' :: ks, v :: vs, hl => by
    rw [List.zip_cons_cons, List.any_cons, any_key (by simpa using hl)]
    by_cases hk : k' = k
    · simp [hk]
    · have : ¬ k = k' := fun z => hk z.symm
      simp [hk, this]
theorem put_same {κ : Type} [DecidableEq κ] {k : κ} {d : Dt} {w : V} (rv : Rep K s d w) : ∀ {ks : List κ} {ds : List Dt} {vs : List V}, ks.length = vs.length → Reps K s ds vs →
    ∃ ws, (ks.zip vs).map (fun kv => if kv.1 = k then (kv.1, w) else kv) = ks.zip ws ∧ ks.length = ws.length ∧ Reps K s ((ks.zip ds).map fun p => if p.1 = k then d else p.2) ws
  | [], ds, vs, hl, rs => by
    have : vs = [] := List.length_eq_zero_iff.mp (by simpa using hl.symm)
    subst this
    exact ⟨[], by simp, rfl, by simp; exact rfl⟩
  | k' :: ks, ds, vs, hl, rs => by
    cases ds with
    | nil => cases rs; simp at hl
    | cons d' ds =>
      obtain ⟨v, vs', rfl, h1, h2⟩ := rs
      obtain ⟨ws, e1, e2, e3⟩ := put_same rv (ks := ks) (by simpa using hl) h2
      by_cases hk : k' = k
      · refine ⟨w :: ws, ?_, by simp [e2], ?_⟩
        · simp only [List.zip_cons_cons, List.map_cons, hk, if_true]
          rw [e1]
        · simp only [List.zip_cons_cons, List.map_cons, hk, if_true]
          exact Reps.cons rv e3
      · refine ⟨v :: ws, ?_, by simp [e2], ?_⟩
        · simp only [List.zip_cons_cons, List.map_cons, hk, if_false]
          rw [e1]
        · simp only [List.zip_cons_cons, List.map_cons, hk, if_false]
          exact Reps.cons h1 e3
theorem put_ok {κ : Type} [DecidableEq κ] {k : κ} {d : Dt} {w : V} {ks : List κ} {ds : List Dt} {vs : List V} (hl : ks.length = vs.length) (rs : Reps K s ds vs) (rv : Rep K s d w) :
    ∃ ws, putK (ks.zip vs) k w = (putG ks ds k d).1.zip ws ∧ (putG ks ds k d).1.length = ws.length ∧ Reps K s (putG ks ds k d).2 ws := by
  unfold putK putG
  rw [any_key hl]
  by_cases hk : k ∈ ks
  · rw [if_pos (decide_eq_true hk), if_pos hk]
    exact put_same rv hl rs
  · rw [if_neg (by simp [hk]), if_neg hk]
    refine ⟨vs ++ [w], ?_, by simp [hl], rs.append (Reps.cons rv Reps.nil)⟩
    rw [List.zip_append hl]
    rfl
/-! ### reading -/
def getR (h : Ah) (d k : Dt) : Option (Option Dt) := match dkR h d, keyD k with
  | some kv, some kk => some (valG (kv.1.zip kv.2) kk)
  | _, _ => match dtR h d, keyT k with
    | some kv, some kk => some (valG (kv.1.zip kv.2) kk)
    | _, _ => none
theorem getR_ok (r : HRel K s) {k : Dt} {y : V} {z : Option Dt} (rd : Rep K s d v) (rk : Rep K s k y) (h : getR s.h d k = some z) : ∃ a ov, v = .ref a ∧ IsD s.H a ∧ DGet s.H a y ov ∧ RepO K s z ov := by
  unfold getR at h
  split at h
  · rename_i kv kk e1 e2
    obtain ⟨ks, vs⟩ := kv
    obtain ⟨a, ws, rfl, h1, h2, h3⟩ := dkR_ok r rd e1
    have := val_ok (k := kk) h2 h3
    cases h
    refine ⟨a, valV (ks.zip ws) kk, rfl, .inl ⟨_, h1⟩, .inl ⟨_, kk, h1, keyD_ok rk e2, rfl⟩, ?_⟩
    exact this
  · split at h
    · rename_i kv kk e1 e2
      obtain ⟨ks, vs⟩ := kv
      obtain ⟨a, ws, rfl, h1, h2, h3⟩ := dtR_ok r rd e1
      have := val_ok (k := kk) h2 h3
      cases h
      cases k with
      | tup ds =>
        obtain ⟨b, us, rfl, kb, rs⟩ := rk
        refine ⟨a, valV (ks.zip ws) kk, rfl, .inr ⟨_, h1⟩, .inr ⟨_, kk, b, h1, rfl, ?_, rfl⟩, this⟩
        rw [← keysD_ok rs e2]
        exact kb.1
      | _ => cases e2
    · cases h
def ixD : Dt → Dt → Mm Dt := fun x y h => match getR h x y with
  | some (some z) => .ok z h
  | _ => .no
theorem me_dix (hu : X.A.units + 1 < cLine) (ho : PE X o (tE X.K E mo)) (hi : PE X i (tE X.K E mk)) (hs : NoSl i) : PE X (.Subscript o i pos) (tE X.K E (op2 ixD mo mk)) := pe_mono (pe_dget hu ho hi hs) fun σ H Q ⟨s, env, e, r, he, ha⟩ => by
  subst e
  refine tE_bind r he ha fun d s1 x x1 r1 e1 rx q1 => tE_bind r1 e1 q1 fun k s2 y x2 r2 e2 ry q2 => ?_
  unfold ixD at q2
  split at q2
  · rename_i z hz
    obtain ⟨a, ov, rfl, h1, h2, h3⟩ := getR_ok r2 (rx.ext x2) ry hz
    obtain ⟨w, rfl, rw'⟩ := h3.some
    exact ⟨a, w, rfl, h2, fin r2 q2 rw'⟩
  · exact q2.elim
def inD (ng : Bool) : Dt → Dt → Mm Dt := fun x y h => match getR h y x with
  | some z => .ok (.bl (if ng then !z.isSome else z.isSome)) h
  | _ => .no
theorem mc_din (hu : X.A.units + 1 < cLine) (hi : PE X i (tE X.K E mk)) (ho : PE X o (tE X.K E mo)) : PC X .In i o (tE X.K E (op2 (inD false) mk mo)) := ⟨fun pins s σ H Q I ⟨s1, env, e, r, he, ha⟩ => (pc_din hu hi ho).run pins s σ H Q I (by
  subst e
  refine tE_bind r he ha fun d s1 x x1 r1 e1 rx q1 => tE_bind r1 e1 q1 fun k s2 y x2 r2 e2 ry q2 => ?_
  unfold inD at q2
  split at q2
  · rename_i z hz
    obtain ⟨a, ov, rfl, h1, h2, h3⟩ := getR_ok r2 ry (rx.ext x2) hz
    refine ⟨a, ov, rfl, h2, ?_⟩
    cases z with
    | none => have h3 := h3.none; subst h3; exact fin r2 q2 rfl
    | some z => obtain ⟨w, h3, _⟩ := h3.some; subst h3; exact fin r2 q2 rfl
  · exact q2.elim)⟩
theorem mc_dnotin (hu : X.A.units + 1 < cLine) (hi : PE X i (tE X.K E mk)) (ho : PE X o (tE X.K E mo)) : PC X .NotIn i o (tE X.K E (op2 (inD true) mk mo)) := ⟨fun pins s σ H Q I ⟨s1, env, e, r, he, ha⟩ => (pc_dnotin hu hi ho).run pins s σ H Q I (by
  subst e
  refine tE_bind r he ha fun d s1 x x1 r1 e1 rx q1 => tE_bind r1 e1 q1 fun k s2 y x2 r2 e2 ry q2 => ?_
  unfold inD at q2
  split at q2
  · rename_i z hz
    obtain ⟨a, ov, rfl, h1, h2, h3⟩ := getR_ok r2 ry (rx.ext x2) hz
    refine ⟨a, ov, rfl, h2, ?_⟩
    cases z with
    | none => have h3 := h3.none; subst h3; exact fin r2 q2 rfl
    | some z => obtain ⟨w, h3, _⟩ := h3.some; subst h3; exact fin r2 q2 rfl
  · exact q2.elim)⟩
theorem me_pc {op : CmpOp} {m : En → Mm Dt} (h : PC X op a b (tE X.K E m)) (h1 : behindInMarks op b = false := by first | exact nobehind _ (by decide) (by decide) | rfl) : PE X (.Compare a [op] [b] pos) (tE X.K E m) := pe_cmp h h1
theorem mt_pc {op : CmpOp} {m : En → Mm Dt} (h : PC X op a b (tE X.K E m)) (h1 : behindInMarks op b = false := by first | exact nobehind _ (by decide) (by decide) | rfl) : PT X (.Compare a [op] [b] pos) (tT X.K E (tst m)) := pt_mono (pt_cmp h h1) fun σ H Q ⟨s, env, e, r, he, ha⟩ => by
  subst e
  refine tE_bind r he ha fun d s1 x x1 r1 e1 rx q => ?_
  cases d with
  | bl k =>
    cases rx
    exact ⟨k, rfl, q.ret r1⟩
  | _ => exact q.elim
/-- d.get(k, x) -/
def get2 (mo mk mx : En → Mm Dt) : En → Mm Dt := fun env => mo env >>= fun d => (fun h => if (dkR h d).isSome || (dtR h d).isSome then .ok () h else .no) >>= fun _ => mk env >>= fun k => mx env >>= fun x => fun h => match getR h d k with
  | some (some z) => .ok z h
  | some none => .ok x h
  | none => .no
theorem isD_ok (r : HRel K s) (rv : Rep K s d v) (h : ((dkR s.h d).isSome || (dtR s.h d).isSome) = true) : ∃ a, v = .ref a ∧ IsD s.H a := by
  rw [Bool.or_eq_true] at h
  rcases h with h | h
  · obtain ⟨kv, e⟩ := Option.isSome_iff_exists.mp h
    obtain ⟨a, ws, rfl, h1, _⟩ := dkR_ok (ks := kv.1) (ds := kv.2) r rv e
    exact ⟨a, rfl, .inl ⟨_, h1⟩⟩
  · obtain ⟨kv, e⟩ := Option.isSome_iff_exists.mp h
    obtain ⟨a, ws, rfl, h1, _⟩ := dtR_ok (ks := kv.1) (ds := kv.2) r rv e
    exact ⟨a, rfl, .inr ⟨_, h1⟩⟩
theorem me_dget2 {apos cpos : Pos} (hu : X.A.units + 1 < cLine) (h : PE X (.Call (.Attribute o "get" apos) [e, f] [] cpos) (tDGet2 (tE X.K E mo) (tE X.K E mk) (tE X.K E mx))) : PE X (.Call (.Attribute o "get" apos) [e, f] [] cpos) (tE X.K E (get2 mo mk mx)) := pe_mono h fun σ H Q ⟨s, env, e, r, he, ha⟩ => by
  subst e
  refine tE_bind r he ha fun d s1 x x1 r1 e1 rx q1 => ?_
  have q2 := q1.bind
  by_cases hk : ((dkR s1.h d).isSome || (dtR s1.h d).isSome) = true
  · simp only [hk, if_true] at q2
    have q3 := After.ret (a := ()) r1 q2
    obtain ⟨a, rfl, hd⟩ := isD_ok r1 rx hk
    refine ⟨a, rfl, hd, tE_bind r1 e1 q3 fun k s2 y x2 r2 e2 ry q4 => tE_bind r2 e2 q4 fun z s3 w x3 r3 e3 rw' q5 => ?_⟩
    split at q5
    · rename_i z' hz
      obtain ⟨a', ov, e4, h1, h2, h3⟩ := getR_ok r3 ((rx.ext x2).ext x3) (ry.ext x3) hz
      obtain ⟨u, rfl, ru⟩ := h3.some
      cases e4
      exact ⟨_, h2, fin r3 q5 ru⟩
    · rename_i hz
      obtain ⟨a', ov, e4, h1, h2, h3⟩ := getR_ok r3 ((rx.ext x2).ext x3) (ry.ext x3) hz
      cases e4
      have h3 := h3.none
      subst h3
      exact ⟨_, h2, fin r3 q5 rw'⟩
    · exact q5.elim
  · simp only [hk] at q2
    exact q2.elim
/-! ### writing -/
def setD : Dt → Dt → Dt → Mm Unit := fun o k y h => match o with
  | .obj n => match h[n]? with
    | some (.dk ks vs) => match keyD k with
      | some kk => if vs.length < sizeLine then .ok () (h.set n (.dk (putG ks vs kk y).1 (putG ks vs kk y).2)) else .no
      | none => .no
    | some (.dt ks vs) => match keyT k with
      | some kk => if vs.length < sizeLine then .ok () (h.set n (.dt (putG ks vs kk y).1 (putG ks vs kk y).2)) else .no
      | none => .no
    | _ => .no
  | _ => .no
theorem st_dict (hu : X.A.units + 1 < cLine) : PSet X (stM X.K E setD) := fun pins s σ H o i v ov iv u Q I ro ri rv ⟨s1, d, e, f, eH, r, rx, re, rf, ha⟩ => by
  subst eH
  refine set_dict hu pins s σ _ o i v ov iv u Q I ro ri rv ?_
  unfold setD at ha
  split at ha
  · rename_i n
    obtain ⟨a, ea, rfl⟩ := rx
    split at ha
    · rename_i ks vs q
      split at ha
      · rename_i kk hk
        split at ha
        · rename_i hl
          obtain ⟨ws, h1, h2, h3⟩ := r.ob n a _ ea q
          obtain ⟨us, p1, p2, p3⟩ := put_ok (k := kk) h2 h3 rf
          have x := put_ext (u := .dK ((putG ks vs kk f).1.zip us)) (o' := .dk (putG ks vs kk f).1 (putG ks vs kk f).2) r ea q (by intro z; cases z)
          have r' := put_rel (u := .dK ((putG ks vs kk f).1.zip us)) (o' := .dk (putG ks vs kk f).1 (putG ks vs kk f).2) r ea q (by intro z; cases z) ⟨us, upd_same, p2, p3.ext x⟩
          refine ⟨a, _, rfl, .inl ⟨_, kk, h1, keyD_ok re hk, ?_, by rw [p1]; rfl⟩, ha.now _ rfl x r'⟩
          rw [List.length_zip, h2, Nat.min_self, h3.length]; exact hl
        · exact ha.elim
      · exact ha.elim
    · rename_i ks vs q
      split at ha
      · rename_i kk hk
        split at ha
        · rename_i hl
          obtain ⟨ws, h1, h2, h3⟩ := r.ob n a _ ea q
          obtain ⟨us, p1, p2, p3⟩ := put_ok (k := kk) h2 h3 rf
          have x := put_ext (u := .dT ((putG ks vs kk f).1.zip us)) (o' := .dt (putG ks vs kk f).1 (putG ks vs kk f).2) r ea q (by intro z; cases z)
          have r' := put_rel (u := .dT ((putG ks vs kk f).1.zip us)) (o' := .dt (putG ks vs kk f).1 (putG ks vs kk f).2) r ea q (by intro z; cases z) ⟨us, upd_same, p2, p3.ext x⟩
          cases e with
          | tup ds =>
            obtain ⟨b, bs, rfl, kb, rs⟩ := re
            refine ⟨a, _, rfl, .inr ⟨_, kk, b, h1, rfl, ?_, ?_, by rw [p1]; rfl⟩, ha.now _ rfl x r'⟩
            · rw [← keysD_ok rs hk]; exact kb.1
            · rw [List.length_zip, h2, Nat.min_self, h3.length]; exact hl
          | _ => cases hk
        · exact ha.elim
      · exact ha.elim
    · exact ha.elim
  · exact ha.elim
/-! ### {} -/
def dnewV : En → Mm Dt := fun _ => Mm.pure (.dk [] [])
theorem me_dnewV : PE X (.Dict [] [] pos) (tE X.K E dnewV) := pe_mono pe_dnewK fun σ H Q ⟨s, env, e, r, he, ha⟩ => by
  subst e
  intro p hp
  exact ha.now (s.new p (.dK [])) rfl (new_ext r hp) (new_rel r hp) _ ⟨p, [], rfl, new_fx r hp, rfl, rfl⟩
theorem me_dnewK : PE X (.Dict [] [] pos) (tE X.K E (fun _ => mkO (.dk [] []))) := pe_mono pe_dnewK fun σ H Q ⟨s, env, e, r, he, ha⟩ => by
  subst e
  intro p hp
  obtain ⟨_, x, rp, kq⟩ := mkO_ok (u := .dK []) (o := .dk [] []) r hp ⟨[], upd_same, rfl, rfl⟩ ha
  exact kq _ rp
theorem me_dnewT : PE X (.Dict [] [] pos) (tE X.K E (fun _ => mkO (.dt [] []))) := pe_mono pe_dnewT fun σ H Q ⟨s, env, e, r, he, ha⟩ => by
  subst e
  intro p hp
  obtain ⟨_, x, rp, kq⟩ := mkO_ok (u := .dT []) (o := .dt [] []) r hp ⟨[], upd_same, rfl, rfl⟩ ha
  exact kq _ rp
end
end Mo
set_option Elab.async false
set_option linter.all false
set_option maxRecDepth 100000
set_option maxHeartbeats 4000000
/-! MoC: defs under no repr guard: their promise, their calls, the law's end; repr. -/
namespace Mo
open PySem L2 PySem.Spec PyProof.Rows
structure FnG (P : Program) (w : World) (K : PySem.W.Frag) (mg : Str → Option Value) (base : Heap) (k : Nat) (f : Addr) (fd : FuncData) (ps : List Str) (fm : List Dt → Mm Dt) : Prop where
  run : ∀ (A : Around) (outer : List Env) (s : Shared) (H : Hp) (args : Args) (us : List Value) (vs : List V) (Q : VK), A.guards = some [] → Room k A → Env0 P w K mg base A outer s H → BindsTo s fd args (ps.zip us) → Vals vs us → spM K ps.length fm vs H Q E0 →
    codeAny (model P w) A (.call (.ref f) args) (CR CX0 outer P w H s Q E0) s
theorem spM_len {K : PySem.W.Frag} {n : Nat} {fm : List Dt → Mm Dt} {vs : List V} {H : Hp} {Q : VK} {E : XK} (h : spM K n fm vs H Q E) : vs.length = n := by
  obtain ⟨s, ds, _, hl, _, rv, _⟩ := h
  rw [rv.length, hl]
theorem FnG.mono {P : Program} {w : World} {K : PySem.W.Frag} {mg : Str → Option Value} {base : Heap} {k j : Nat} {f : Addr} {fd : FuncData} {ps : List Str} {fm : List Dt → Mm Dt} (F : FnG P w K mg base k f fd ps fm) (h : k ≤ j) : FnG P w K mg base j f fd ps fm :=
  ⟨fun A outer s H args us vs Q hg hr => F.run A outer s H args us vs Q hg (hr.mono h)⟩
/-- a def by its body -/
def CdV (K : PySem.W.Frag) (f : Addr) (cdv : Value) (q : Str) : Prop := ∃ oc od fd osl, K.lookup f = some ⟨oc, od, .func fd, osl⟩ ∧ fd.code = cdv ∧ PySem.W.codeIn K cdv q = true
theorem fnGc {P : Program} {w : World} {K : PySem.W.Frag} {mg : Str → Option Value} {base : Heap} {x qual : Str} {params : Arguments} {body : List Stmt} {scope : Scope} {dvs : List V} {kws : List (Str × V)} {f : Addr} {fd : FuncData} {N ps : List Str} {k : Nat} {ms : En → Mm Fl}
    (F : FunD K x qual params body scope dvs kws f fd) (S : FnScope N ps scope)
    (hbody : ∀ (cdv : Value) (A : Around) (outer : List Env) (s : Shared) (H : Hp) (E : XK), CdV K f cdv qual → A.guards = some [] → Room k (A.deeper (envOfC qual scope s.heap.objs.size f cdv)) → PSs (cxOf CX0 P w K mg base N qual scope f cdv A outer s H E).nox body (tS K E0 ms)) :
    FnG P w K mg base (k + 1) f fd ps (fnM N.length ms) := by
  obtain ⟨oc, od, dV, kV, doc, pm, an, cdv, ct, osl, rfl, lk, hcd, _, _⟩ := F.ex
  refine ⟨fun A outer s H args us vs Q hgd hr e0 hb r hsp => ?_⟩
  have hl := spM_len hsp
  have KX : K.In s.heap := e0.mod.kin.keeps fun b o e => (e0.bs b o e).1
  have lim : s.heap.NoLimit := e0.mod.nolimit.keeps fun b o e => (e0.bs b o e).1
  refine codeAny_call_function hr.depth (KX _ _ lk) rfl S.co S.gen rfl (PySem.W.codeRec_of KX hcd) (hb _ _ _ _ ?_)
  refine wpAny_newFunctionEnv_cells S.kind (fun ⟨n, v⟩ hy => ?_) fun env he s1 x => ?_
  · rcases S.par n (List.of_mem_zip hy).1 with q | q
    · exact .inl q
    · exact .inr ⟨q, PySem.W.cellsFrom_some _ _ _ (.inl q)⟩
  subst he
  refine ⟨lim.keeps x.toInCall.keep, codeAny_func ?_⟩
  have ht := PSs.nox (hbody cdv A outer s H E0 ⟨_, _, _, _, lk, rfl, hcd⟩ hgd (hr.deeper _))
  have I : Inv (cxOf CX0 P w K mg base N qual scope f cdv A outer s H E0) [] (L2.start N vs) H s1 := inv_start S hr.hd e0 hl r x
  have hq : tS K E0 ms { nx := fun _ H' => Q .non H', rt := Q } (L2.start N vs) H := by
    obtain ⟨s2, ds, rfl, hl2, r2, rv, ha⟩ := hsp
    refine tS_bind r2 (envs_start rv) ha fun fl s3 x3 r3 q => ?_
    cases fl with
    | nx e => exact fun σ' he' => q.ret r3 _ rfl
    | rt d => exact fun v rv => q.ret r3 v rv
    | bk e => exact q.elim
    | ct e => exact q.elim
  refine wpAny_mono (ht.run [] s1 (L2.start N vs) H _ I hq) (fun fl s' hs => ?_) fun e s' hs => hs
  cases fl with
  | ret u =>
    obtain ⟨v, σ', H', J, rv, q⟩ := hs
    exact ⟨v, H', J.os, J.bare, J.base, J.hok, rv, q⟩
  | next =>
    obtain ⟨σ', H', J, q⟩ := hs
    exact ⟨V.non, H', J.os, J.bare, J.base, J.hok, rfl, q⟩
  | brk => obtain ⟨_, _, _, q⟩ := hs; exact q.elim
  | cont => obtain ⟨_, _, _, q⟩ := hs; exact q.elim
theorem fnG {P : Program} {w : World} {K : PySem.W.Frag} {mg : Str → Option Value} {base : Heap} {x qual : Str} {params : Arguments} {body : List Stmt} {scope : Scope} {dvs : List V} {kws : List (Str × V)} {f : Addr} {fd : FuncData} {N ps : List Str} {k : Nat} {ms : En → Mm Fl}
    (F : FunD K x qual params body scope dvs kws f fd) (S : FnScope N ps scope)
    (hbody : ∀ (cdv : Value) (A : Around) (outer : List Env) (s : Shared) (H : Hp) (E : XK), A.guards = some [] → Room k (A.deeper (envOfC qual scope s.heap.objs.size f cdv)) → PSs (cxOf CX0 P w K mg base N qual scope f cdv A outer s H E).nox body (tS K E0 ms)) :
    FnG P w K mg base (k + 1) f fd ps (fnM N.length ms) := fnGc F S fun cdv A outer s H E _ => hbody cdv A outer s H E
section
variable {X : Cx} {k : Nat} {f : Addr} {fd : FuncData} {ps ks : List Str} {fm : List Dt → Mm Dt} {x : Str} {p pos kpos : Pos} {e : Expr} {es : List Expr} {mr mk : En → Mm (List Dt)}
theorem run_G {pins : List (Addr × Obj)} {σ : L2.St} {H : Hp} {s : Shared} {Q : VK} {us : List Value} {kw : List (Str × Value)} {ws : List Value} {vs : List V} (F : FnG X.prog X.w X.K X.mg X.base k f fd ps fm) (hgd : X.A.guards = some []) (hr : Room k X.A)
    (hb : BindsTo s fd ⟨us, kw⟩ (ps.zip ws)) (I : Inv X pins σ H s) (r : Vals vs ws) (h : spM X.K ps.length fm vs H Q E0) : wpAny (model X.prog X.w) X.A (call (.ref f) us kw) (EP X pins σ Q) X.xe s := by
  refine wpAny_call (codeAny_mono (F.run X.A X.stack s H ⟨us, kw⟩ ws vs Q hgd hr I.env0 hb r h) fun r s' hq => ?_)
  cases r with
  | error e => exact False.elim hq
  | ok fl =>
    cases fl with
    | ret u => exact I.after hq
    | next => exact False.elim hq
    | brk => exact False.elim hq
    | cont => exact False.elim hq
/-- f(e, ..) -/
theorem me_callG (F : FnG X.prog X.w X.K X.mg X.base k f fd ps fm) (hgd : X.A.guards = some []) (hr : Room k X.A) (hg : Gl X x) (hm : X.mg x = some (.ref f)) (hk : PySem.W.keepIn X.K (.ref f) = true) (hb : Binds X.K fd ps [])
    (ha : PA X (e :: es) (tA X.K E0 mr)) (hdb : (x == ("__debug__" : Str)) = false := by decide) (he : starEach (e :: es) X.env = (false, eval e X.env) :: starEach es X.env := by rfl) (hpl : (backTo pos (starEach es X.env)).any (·.1) = false := by rfl) :
    PE X (.Call (.Name x p) (e :: es) [] pos) (tE X.K E0 (callM ps.length fm mr)) := by
  refine ⟨fun pins s σ H Q I h => ?_⟩
  refine wpAny_Call_Name_kw (ld_glob I hg hm ?_ hdb)
  have h2 : tA X.K E0 mr σ H fun vs H1 => spM X.K ps.length fm vs H1 Q E0 := by
    obtain ⟨s1, env, rfl, r, he, ha⟩ := h
    refine tA_bind r he ha fun ds s2 vs x2 r2 e2 rv q => ?_
    split at q
    · rename_i hl
      exact ⟨s2, ds, rfl, hl, r2, rv, q⟩
    · exact q.elim
  refine PySem.W.callWith_K (h₀ := X.base) I.ok.mod.kin hk (thn (ha.run pos pins s σ H _ I h2) fun us s1 ⟨vs, H1, I1, r, q⟩ => ⟨I1.kIn, ?_⟩) he hpl
  refine run_G F hgd hr ?_ I1 r q
  have := hb s1 us I1.kIn (by rw [List.append_nil, ← r.length]; exact spM_len q)
  rw [List.append_nil] at this
  exact this
theorem me_callG0 (F : FnG X.prog X.w X.K X.mg X.base k f fd [] fm) (hgd : X.A.guards = some []) (hr : Room k X.A) (hg : Gl X x) (hm : X.mg x = some (.ref f)) (hk : PySem.W.keepIn X.K (.ref f) = true) (hb : Binds X.K fd [] [])
    (hdb : (x == ("__debug__" : Str)) = false := by decide) : PE X (.Call (.Name x p) [] [] pos) (tE X.K E0 (fun _ => fm [])) := by
  refine ⟨fun pins s σ H Q I h => ?_⟩
  refine wpAny_Call_Name_kw (ld_glob I hg hm ?_ hdb)
  have h2 : spM X.K 0 fm [] H Q E0 := by
    obtain ⟨s1, env, rfl, r, he, ha⟩ := h
    exact ⟨s1, [], rfl, rfl, r, rfl, ha⟩
  exact PySem.W.callWith_K0 I.kIn hk (run_G (us := []) (ws := []) (ps := []) F hgd hr (hb s [] I.kIn rfl) I .nil h2)
/-- keywords alone: f(a = .., b = ..), all parameters given; perm puts them in order -/
def kwN : En → Mm (List Dt) := fun _ => Mm.pure []
theorem mk_nil : PK X [] (tA X.K E0 argN) := ⟨fun pos pins s σ H Q I ⟨s1, env, e, r, he, ha⟩ => by
  subst e
  exact pk_nil.run pos pins s σ _ Q I (ha.ret r [] rfl)⟩
theorem mk_cons {ma : En → Mm Dt} {nm : Option Str} {kws : List Keyword} (ha : PE X e (tE X.K E0 ma)) (hr : PK X kws (tA X.K E0 mr)) : PK X (⟨nm, e, kpos⟩ :: kws) (tA X.K E0 (argC ma mr)) := ⟨fun pos pins s σ H Q I ⟨s1, env, e, r, he, q⟩ => by
  subst e
  refine (pk_cons ha hr).run pos pins s σ _ Q I ?_
  exact tE_bind r he q fun d s1 v x1 r1 e1 rv q => tA_bind r1 e1 q fun ds s2 vs x2 r2 e2 rvs q2 => q2.ret r2 _ (Reps.cons (rv.ext x2) rvs)⟩
def permL {α : Type} (pm : List Nat) (xs : List α) : List α := pm.filterMap fun i => xs[i]?
theorem perm_vals (pm : List Nat) {vs : List V} {us : List Value} (r : Vals vs us) : Vals (permL pm vs) (permL pm us) := by
  unfold permL
  induction pm with
  | nil => exact .nil
  | cons i pm ih =>
    simp only [List.filterMap_cons]
    cases q : vs[i]? with
    | none =>
      rw [r.none_of q]
      exact ih
    | some v =>
      obtain ⟨u, e, rv⟩ := r.get q
      rw [e]
      exact .cons rv ih
theorem perm_reps {K : PySem.W.Frag} {s : Sx} (pm : List Nat) {ds : List Dt} {vs : List V} (r : Reps K s ds vs) : Reps K s (permL pm ds) (permL pm vs) := by
  unfold permL
  induction pm with
  | nil => exact rfl
  | cons i pm ih =>
    simp only [List.filterMap_cons]
    cases q : ds[i]? with
    | none =>
      have : vs[i]? = none := List.getElem?_eq_none (by rw [r.length]; exact List.getElem?_eq_none_iff.mp q)
      rw [this]
      exact ih
    | some d =>
      obtain ⟨u, e, rv⟩ := r.get q
      rw [e]
      exact Reps.cons rv ih
def callK (n : Nat) (pm : List Nat) (fm : List Dt → Mm Dt) (mr : En → Mm (List Dt)) : En → Mm Dt := fun env => mr env >>= fun ds => if ds.length = n ∧ (permL pm ds).length = n then fm (permL pm ds) else Mm.no
theorem me_callGK {pm : List Nat} {kws : List Keyword} (F : FnG X.prog X.w X.K X.mg X.base k f fd ps fm) (hgd : X.A.guards = some []) (hr : Room k X.A) (hg : Gl X x) (hm : X.mg x = some (.ref f)) (hk : PySem.W.keepIn X.K (.ref f) = true)
    (hb : ∀ (s : Shared) (ws : List Value), ws.length = ps.length → BindsTo s fd ⟨[], ks.zip ws⟩ (ps.zip (permL pm ws)))
    (hkw : PK X kws (tA X.K E0 mr)) (hall : (backToKw pos (keywordEach kws X.env)).all (·.1.isSome) = true := by rfl) (hks : (backToKw pos (keywordEach kws X.env)).filterMap (·.1) = ks := by rfl)
    (hdb : (x == ("__debug__" : Str)) = false := by decide) (hpl : ((backTo pos (starEach [] X.env)).any (·.1) || (backToKw pos (keywordEach kws X.env)).any (·.1.isNone)) = false := by rfl) :
    PE X (.Call (.Name x p) [] kws pos) (tE X.K E0 (callK ps.length pm fm mr)) := by
  refine ⟨fun pins s σ H Q I h => ?_⟩
  refine wpAny_Call_Name_kw (ld_glob I hg hm ?_ hdb)
  have h2 : tA X.K E0 mr σ H fun vs H1 => vs.length = ps.length ∧ spM X.K ps.length fm (permL pm vs) H1 Q E0 := by
    obtain ⟨s1, env, rfl, r, he, ha⟩ := h
    refine tA_bind r he ha fun ds s2 vs x2 r2 e2 rv q => ?_
    split at q
    · rename_i hl
      exact ⟨by rw [rv.length]; exact hl.1, s2, permL pm ds, rfl, hl.2, r2, perm_reps pm rv, q⟩
    · exact q.elim
  refine PySem.W.callWith_KW0 (h₀ := X.base) I.ok.mod.kin hk hall (thn (hkw.run pos pins s σ H _ I h2) fun ws s2 ⟨zs, H2, I2, rz, hl, q2⟩ => ⟨I2.kIn, ?_⟩) hpl
  rw [hks]
  exact run_G (us := []) F hgd hr (hb s2 ws (by rw [← rz.length]; exact hl)) I2 (perm_vals pm rz) q2
end
/-! ### repr -/
def showOk (p : PyData) : Bool := p.showable && !p.hasDict && decide (p.depth ≤ 60) && decide (p.shown.length ≤ sizeLine)
def bRepr : List Dt → Mm Dt := fun ds h => match ds with
  | [d] => match toPH h d with
    | some (.list ps) => if showOk (.list ps) then .ok (.str (PyData.shown (.list ps))) h else .no
    | some (.tuple ps) => if showOk (.tuple ps) then .ok (.str (PyData.shown (.tuple ps))) h else .no
    | _ => .no
  | _ => .no
section
variable {X : Cx} {E : XK}
theorem repr_run {pins : List (Addr × Obj)} {s : Shared} {σ : L2.St} {H : Hp} {a : Addr} {d : PyData} {Q : VK} (hgd : X.A.guards = some []) (hu : X.A.units + 64 < cLine) (I : Inv X pins σ H s) (hd : Dp X.K H (.ref a) d) (hs : showOk d = true) (q : Q (.str d.shown) H) :
    wpAny (model X.prog X.w) X.A (call (.builtin "repr") [.ref a]) (EP X pins σ Q) X.xe s := by
  unfold showOk at hs
  simp only [Bool.and_eq_true, decide_eq_true_eq, Bool.not_eq_true'] at hs
  obtain ⟨⟨⟨h1, h2⟩, h3⟩, h4⟩ := hs
  obtain ⟨as, rd⟩ := Dp.reads I d (.ref a) (.ref a) hd rfl
  refine repr_of_reads' rd h1 (PyData.noDict_hsm h2) hgd (by omega) (fun _ _ e => e) (fun h' u tk hk => ?_) h4
  exact ⟨.str d.shown, H, I.kept hk, ⟨u, rfl⟩, q⟩
theorem b_repr (hgd : X.A.guards = some []) (hu : X.A.units + 64 < cLine) : CallR X (.builtin "repr") (cM X.K E bRepr) := fun pins s σ H xs us Q I rx ⟨s1, ds, eH, r, rs, ha⟩ => by
  subst eH
  unfold bRepr at ha
  split at ha
  · obtain ⟨v, rfl, rv⟩ := rs.one
    split at ha
    · rename_i ps hp
      split at ha
      · rename_i hs
        have hd := toPH_ok r rv hp
        cases hd with
        | lst sq al =>
          obtain ⟨u, rfl, ru⟩ := L2.vals1 rx
          cases ru
          exact repr_run hgd hu I (.lst sq al) hs (fin r ha rfl)
      · exact ha.elim
    · rename_i ps hp
      split at ha
      · rename_i hs
        have hd := toPH_ok r rv hp
        cases hd with
        | tup sq al =>
          obtain ⟨u, rfl, ru⟩ := L2.vals1 rx
          cases ru
          exact repr_run hgd hu I (.tup sq al) hs (fin r ha rfl)
      · exact ha.elim
    · exact ha.elim
  · exact ha.elim
end
/-! ### the law's end -/
/-- a lambda's maker: its code object, its table -/
abbrev lamC (K : PySem.W.Frag) (n : Str) : Addr := (He.cT K (n, none)).1
abbrev lamP (K : PySem.W.Frag) (n : Str) : Addr := (He.cT K (n, none)).2
structure LamAt (K : PySem.W.Frag) (h : Heap) : Prop where
  hd : ∀ n ∈ lamDefs, PySem.W.codeHdIn K (lamC K n) (lamP K n) = true
  out : ∀ n ∈ lamDefs, K.lookup (lamP K n) = none
  empty : ∀ n ∈ lamDefs, h.get? (lamP K n) = some { cls := .none, data := .fields #[] }
theorem law_G {P : Program} {w : World} {K : PySem.W.Frag} {mg mb : Str → Option Value} {k : Nat} {fa a : Addr} {fd : FuncData} {x : Str} {fm : List Dt → Mm Dt} {s₁ : Shared} {vs : List Value} {ns : List Int}
    (KX : K.In s₁.heap) (hns : s₁.heap.Ns mainGlobals mg) (hb : s₁.heap.Ns builtinsNs mb) (hbb : ∀ x : Str, x ≠ "__name__" → mb x = bootBuiltins x) (hlim : s₁.heap.NoLimit) (hg : s₁.gens = #[]) (L : LamAt K s₁.heap)
    (hbm : ∃ (bm : Addr) (ob : Obj), mg "__builtins__" = some (.ref bm) ∧ bm ≠ builtinsNs ∧ s₁.heap.get? bm = some ob ∧ ob.cls = .type "module" ∧ ob.dict = some builtinsNs ∧ ob.data = .plain)
    (ha : s₁.heap.get? a = some { cls := .type "list", data := .seq vs.toArray }) (hi : IntsAre vs ns) (hl : ns.length ≤ sizeLine) (hr : Room k callerA)
    (F : ∀ base : Heap, K.In base → base.Ns mainGlobals mg → (∀ n ∈ lamDefs, LamX.TabB base mg (lamC K n) (lamP K n)) → FnG P w K mg base k fa fd [x] fm) (hbind : ∀ (s : Shared) (u : Value), BindsTo s fd ⟨[u], []⟩ [(x, u)])
    (hfm : ∃ h', fm [.wl (ns.map Dt.int)] [] = .ok (.bl true) h') :
    codeAny (model P w) callerA (.call (.ref fa) ⟨[.ref a], []⟩) (fun r s' => r = .ok (.ret (.bool true)) ∧ OldK s₁.heap s'.heap ∧ s'.os = s₁.os ∧ AllBare s'.gens) s₁ := by
  have key : ∀ (base : Heap) (H : Hp), K.In base → base.Ns mainGlobals mg → (∀ n ∈ lamDefs, LamX.TabB base mg (lamC K n) (lamP K n)) → Env0 P w K mg base callerA [] s₁ H → (∀ n ∈ lamDefs, H (lamP K n) = some (.tbl #[])) → SqL K H a (ns.map V.int) →
      codeAny (model P w) callerA (.call (.ref fa) ⟨[.ref a], []⟩) (CR CX0 [] P w H s₁ (fun v _ => v = .bl true) E0) s₁ := by
    intro base H kb nb tb e0 hT hS
    refine (F base kb nb tb).run callerA [] s₁ H ⟨[.ref a], []⟩ [.ref a] [.ref a] _ rfl hr e0 (hbind s₁ (.ref a)) (.cons rfl .nil) ?_
    obtain ⟨h', hh⟩ := hfm
    have r0 : HRel K ⟨[], [], H⟩ := ⟨rfl, List.nodup_nil, fun i b o e => by simp at e, fun p hp => by
      obtain ⟨n, hn, rfl⟩ := List.mem_map.mp hp
      exact LamX.TabS.nil (hT n hn)⟩
    refine ⟨⟨[], [], H⟩, [.wl (ns.map Dt.int)], rfl, rfl, r0, Reps.cons ⟨a, ns.map V.int, rfl, ?_, reps_ints ns⟩ Reps.nil, ?_⟩
    · rcases hS with hS | hS
      · exact .inl ⟨hS, fun ⟨i, o, e, _⟩ => by simp at e⟩
      · exact .inr (.inr hS)
    · show After K E0 ⟨[], [], H⟩ (fm [.wl (ns.map Dt.int)] []) _
      rw [hh]
      intro s' e1 x1 r1 v rv
      exact rv
  have rv := vals_ints hi
  have lenV := hi.length
  have C : ∀ n ∈ lamDefs, PySem.W.CodeHd s₁.heap (lamC K n) (lamP K n) := fun n hn => PySem.W.codeHd_of_K KX (L.hd n hn)
  -- the heap without what is tracked is the base
  have core : ∀ H : Hp, (∀ n ∈ lamDefs, H (lamP K n) = some (.tbl #[])) → SqL K H a (ns.map V.int) → HOk P w H s₁.heap →
      (∀ b u, H b = some u → (b = a ∧ K.lookup a = none ∧ ∃ o xs, u = .frz o (.lst xs)) ∨ ∃ n ∈ lamDefs, b = lamP K n) →
      codeAny (model P w) callerA (.call (.ref fa) ⟨[.ref a], []⟩) (fun r s' => r = .ok (.ret (.bool true)) ∧ OldK s₁.heap s'.heap ∧ s'.os = s₁.os ∧ AllBare s'.gens) s₁ := by
    intro H hT hS hok hA
    have none_of : ∀ {b : Addr} {o : Obj}, s₁.heap.get? b = some o → (∀ vs n, o.data ≠ .seq vs n) → o.data ≠ .fields #[] → H b = none := fun {b o} e h1 h2 => by
      cases q : H b with
      | none => rfl
      | some u =>
        rcases hA b u q with ⟨z, _, _⟩ | ⟨n, hn, z⟩
        · rw [z, ha] at e; cases e
          exact (h1 _ _ rfl).elim
        · rw [z, L.empty n hn] at e; cases e
          exact (h2 rfl).elim
    have nsK : ∀ {b : Addr} {m : Str → Option Value}, s₁.heap.Ns b m → (hidT s₁.heap H).Ns b m := fun {b m} ⟨o, es, ep, e, d, r⟩ => ⟨o, es, ep, hidT_get e (none_of e (fun vs n z => by rw [d] at z; cases z) fun z => by rw [d] at z; cases z), d, r⟩
    have kb : K.In (hidT s₁.heap H) := fun b o e => hidT_get (KX b o e) (by
      cases q : H b with
      | none => rfl
      | some u =>
        rcases hA b u q with ⟨z, zk, _⟩ | ⟨n, hn, z⟩
        · rw [z, zk] at e; cases e
        · rw [z, L.out n hn] at e; cases e)
    have tb : ∀ n ∈ lamDefs, LamX.TabB (hidT s₁.heap H) mg (lamC K n) (lamP K n) := fun n hn => by
      refine ⟨PySem.W.codeHd_of_K kb (L.hd n hn), ?_, fun z => ?_⟩
      · obtain ⟨bm, ob, b1, b2, b3, b4, b5, b6⟩ := hbm
        refine ⟨bm, ob, b1, b2, fun q => ?_, fun q => ?_, hidT_get b3 (none_of b3 (fun vs n z => by rw [b6] at z; cases z) fun z => by rw [b6] at z; cases z), b4, b5, b6⟩
        · obtain ⟨o, es, ep, e, hd, _⟩ := hns
          rw [q, e] at b3; cases b3
          rw [hd] at b6; cases b6
        · rw [q, L.empty n hn] at b3; cases b3
          cases b6
      · obtain ⟨o, es, ep, e, hd, _⟩ := hns
        rw [z, L.empty n hn] at e; cases e
        cases hd
    have e0 : Env0 P w K mg (hidT s₁.heap H) callerA [] s₁ H := ⟨rfl, ⟨kb, nsK hns, ⟨mb, nsK hb, hbb⟩, let ⟨mc, h1, h2⟩ := hlim; ⟨mc, nsK h1, h2⟩⟩, fun b o e => of_hidT e, Nat.le_of_eq (hidT_size _ _), trivial,
      fun b hb => absurd (show b ∈ ([] : List Addr) from hb) (by simp), hok, .of_eq hg⟩
    refine codeAny_mono (key _ H kb (nsK hns) tb e0 hT hS) fun r s' h => ?_
    match r, h with
    | .error e, h => exact False.elim h
    | .ok .next, h => exact False.elim h
    | .ok .brk, h => exact False.elim h
    | .ok .cont, h => exact False.elim h
    | .ok (.ret u), ⟨v, H', os, bare, un, hok', r', q⟩ =>
      have q' : v = .bl true := q
      subst q'
      obtain rfl : u = Value.bool true := r'
      have keep : ∀ b o, (∀ n ∈ lamDefs, b ≠ lamP K n) → s₁.heap.get? b = some o → s'.heap.get? b = some o := fun b o nb e => by
        cases q : H b with
        | none => exact un.keep b o e q (by intro z; exact absurd (show b ∈ ([] : List Addr) from z) (by simp)) (by simp)
        | some u =>
          rcases hA b u q with ⟨_, _, ob, xs, rfl⟩ | ⟨n, hn, z⟩
          · obtain ⟨e1, _⟩ := hok b _ q
            obtain ⟨e2, _⟩ := hok' b _ (un.frzs b ob _ q)
            rw [e] at e1; cases e1
            exact e2
          · exact (nb n hn z).elim
      have grown : ∀ n ∈ lamDefs, ∃ more : Array Value, s'.heap.get? (lamP K n) = some { cls := .none, data := .fields more } := fun n hn => by
        obtain ⟨more, z⟩ := un.tbls _ #[] (hT n hn)
        exact ⟨_, hok' _ _ z⟩
      refine ⟨rfl, ⟨fun b o e => ?_, fun b o e => ?_⟩, os, bare⟩
      · by_cases hb : ∃ n ∈ lamDefs, b = lamP K n
        · obtain ⟨n, hn, rfl⟩ := hb
          obtain ⟨more, hm⟩ := grown n hn
          rw [L.empty n hn] at e
          cases e
          exact .inr (.inl ⟨((C n hn).tab (L.empty n hn)).isCodeTable, rfl, #[], more, rfl, by rw [Array.empty_append]; exact hm⟩)
        · exact .inl (keep b o (fun n hn z => hb ⟨n, hn, z⟩) e)
      · by_cases hb : ∃ n ∈ lamDefs, b = lamP K n
        · obtain ⟨n, hn, rfl⟩ := hb
          obtain ⟨more, hm⟩ := grown n hn
          exact ⟨_, hm⟩
        · exact ⟨o, keep b o (fun n hn z => hb ⟨n, hn, z⟩) e⟩
  have aT : ∀ n ∈ lamDefs, lamP K n ≠ a := fun n hn z => by
    have q := L.empty n hn
    rw [z, ha] at q
    cases q
  cases hk : K.lookup a with
  | some o =>
    have e := KX a o hk
    rw [ha] at e
    cases e
    refine core (fun b => if b ∈ lamDefs.map (lamP K) then some (.tbl #[]) else none) (fun n hn => if_pos (List.mem_map.mpr ⟨n, hn, rfl⟩)) (.inr ⟨_, vs.toArray, _, hk, rfl, rfl, rfl, by rw [List.size_toArray, lenV]; exact hl, by simpa using rv⟩) (fun b u z => ?_) (fun b u z => ?_)
    · try dsimp only at z
      split at z
      · rename_i hm
        obtain ⟨n, hn, rfl⟩ := List.mem_map.mp hm
        cases z
        exact L.empty n hn
      · cases z
    · try dsimp only at z
      split at z
      · rename_i hm
        obtain ⟨n, hn, rfl⟩ := List.mem_map.mp hm
        exact .inr ⟨n, hn, rfl⟩
      · cases z
  | none =>
    refine core (fun b => if b = a then some (.frz { cls := .type "list", data := .seq vs.toArray } (.lst (ns.map V.int))) else if b ∈ lamDefs.map (lamP K) then some (.tbl #[]) else none)
      (fun n hn => (if_neg (aT n hn)).trans (if_pos (List.mem_map.mpr ⟨n, hn, rfl⟩))) (.inl (.inr ⟨{ cls := .type "list", data := .seq vs.toArray }, if_pos rfl⟩)) (fun b u z => ?_) (fun b u z => ?_)
    · try dsimp only at z
      split at z
      · rename_i hb; subst hb
        cases z
        exact ⟨ha, by rw [List.length_map]; exact hl, vs, _, rv, ha⟩
      · split at z
        · rename_i hm
          obtain ⟨n, hn, rfl⟩ := List.mem_map.mp hm
          cases z
          exact L.empty n hn
        · cases z
    · try dsimp only at z
      split at z
      · rename_i hb
        cases z
        exact .inl ⟨hb, hk, _, _, rfl⟩
      · split at z
        · rename_i hm
          obtain ⟨n, hn, rfl⟩ := List.mem_map.mp hm
          exact .inr ⟨n, hn, rfl⟩
        · cases z
theorem walk_G {l : PySem.W.OpenLaw} {n k : Nat} {q : Program} {loose : List Str} {XP : (Str → Option Value) → Heap → Prop} {YP : World → Heap → Prop} {d : DefRec} {x : Str}
    (hn : l.most = some n) (hn2 : n ≤ sizeLine) (hdf : d.params.defaults = []) (hr : Room k callerA)
    (F : ∀ (w : World) (mg : Str → Option Value) (fa : Addr) (h : Heap), YP w h → h.Ns mainGlobals mg → mg d.name = some (.ref fa) →
      ∃ (K : PySem.W.Frag) (fd : FuncData) (fm : List Dt → Mm Dt), K.In h ∧ LamAt K h ∧ (∀ (s : Shared) (u : Value), BindsTo s fd ⟨[u], []⟩ [(x, u)]) ∧
        (∀ ns : List Int, ns.length ≤ n → ∃ h', fm [.wl (ns.map Dt.int)] [] = .ok (.bl true) h') ∧
        ∀ base : Heap, K.In base → base.Ns mainGlobals mg → (∀ n ∈ lamDefs, LamX.TabB base mg (lamC K n) (lamP K n)) → FnG l.prog w K mg base k fa fd [x] fm) :
    PySem.W.WalkO q loose XP YP l.row.toRowW d [] (fun f vs => PySem.call f vs) := by
  refine Att.attach_call hn hdf fun w s₀ s₁ mg mb fa o pm cd doc a vs ns G Y ho hd hcd hmg hobj hints hlen hg => ?_
  obtain ⟨K, fd, fm, KX, L, hb, hfm, hF⟩ := F w mg fa _ Y G.T.g hmg
  exact law_G KX G.T.g G.T.b G.T.builtins G.T.nolimit hg L G.T.bmain hobj hints (Nat.le_trans hlen hn2) hr hF hb (hfm ns hlen)
end Mo
set_option Elab.async false
set_option linter.all false
set_option maxRecDepth 100000
set_option maxHeartbeats 4000000
/-! MoB: dict displays, walks over dicts. -/
namespace Mo
open PySem L2 PySem.Spec PyProof.Rows
section
variable {X : Cx} {E : XK} {K : PySem.W.Frag} {s s0 : Sx} {d : Dt} {v : V} {xs ds : List Dt} {e a b c f o i tg : Expr} {pos p : Pos} {es : List Expr}
variable {ma mb mc mo mk mx : En → Mm Dt} {mr : En → Mm (List Dt)}
/-! ### {k: v, ..} -/
def pairsM : List ((En → Mm Dt) × (En → Mm Dt)) → En → Mm (List (Dt × Dt))
  | [], _ => Mm.pure []
  | p :: r, env => p.1 env >>= fun x => p.2 env >>= fun y => pairsM r env >>= fun ps => Mm.pure ((x, y) :: ps)
def tP2 (K : PySem.W.Frag) (E : XK) (p : (En → Mm Dt) × (En → Mm Dt)) : TE × TE := (tE K E p.1, tE K E p.2)
theorem mps_nil : PPs X pos [] [] (([] : List ((En → Mm Dt) × (En → Mm Dt))).map (tP2 X.K E)) := pps_nil
theorem mps_cons {k v : Expr} {ks : List (Option Expr)} {vs : List Expr} {l : List ((En → Mm Dt) × (En → Mm Dt))} (hk : PE X k (tE X.K E mk)) (hv : PE X v (tE X.K E mx)) (hr : PPs X pos ks vs (l.map (tP2 X.K E))) : PPs X pos (some k :: ks) (v :: vs) (((mk, mx) :: l).map (tP2 X.K E)) := pps_cons hk hv hr
theorem pairs_ok {env : En} {σ : L2.St} {β : Type} {k : β → Sx → Prop} : ∀ {l : List ((En → Mm Dt) × (En → Mm Dt))} {s : Sx} {fm : List (Dt × Dt) → Mm β} {Q : List (V × V) → Hp → Prop}, HRel K s → Envs K s env σ → After K E s ((pairsM l env >>= fm) s.h) k →
    (∀ ps vps s1, Ext s s1 → HRel K s1 → Reps K s1 (ps.map (·.1)) (vps.map (·.1)) → Reps K s1 (ps.map (·.2)) (vps.map (·.2)) → After K E s1 (fm ps s1.h) k → Q vps s1.H) → tPairs (l.map (tP2 K E)) σ s.H Q
  | [], s, fm, Q, r, he, ha, h => h [] [] s (Ext.refl s) r rfl rfl (ha.bind.ret r)
  | p :: l, s, fm, Q, r, he, ha, h => by
    have as : ∀ h, (pairsM (p :: l) env >>= fm) h = (p.1 env >>= fun x => p.2 env >>= fun y => pairsM l env >>= fun ps => fm ((x, y) :: ps)) h := by
      intro h
      show Mm.bind (Mm.bind (p.1 env) _) _ h = Mm.bind (p.1 env) _ h
      simp only [Mm.bind]
      cases p.1 env h with
      | ok x h1 =>
        show Mm.bind (Mm.bind (p.2 env) _) _ h1 = Mm.bind (p.2 env) _ h1
        simp only [Mm.bind]
        cases p.2 env h1 with
        | ok y h2 =>
          show Mm.bind (Mm.bind (pairsM l env) _) _ h2 = Mm.bind (pairsM l env) _ h2
          simp only [Mm.bind]
          cases pairsM l env h2 <;> rfl
        | exn _ _ => rfl
        | no => rfl
      | exn _ _ => rfl
      | no => rfl
    rw [as] at ha
    refine tE_bind r he ha fun dx s1 x x1 r1 e1 rx q1 => tE_bind r1 e1 q1 fun dy s2 y x2 r2 e2 ry q2 => ?_
    refine pairs_ok r2 e2 q2 fun ps vps s3 x3 r3 h1 h2 q3 => ?_
    exact h ((dx, dy) :: ps) ((x, y) :: vps) s3 ((x1.trans x2).trans x3) r3 (Reps.cons ((rx.ext x2).ext x3) h1) (Reps.cons (ry.ext x3) h2) q3
def finD (n : Nat) (ps : List (Dt × Dt)) : Mm Dt := fun h => match h[n]? with
  | some (.dk [] []) => match keysD (ps.map (·.1)) with
    | some ks => if ks.Nodup ∧ ps.length ≤ 15 then .ok (.dk ks (ps.map (·.2))) (h.set n .dead) else .no
    | none => .no
  | _ => .no
def dispM (l : List ((En → Mm Dt) × (En → Mm Dt))) : En → Mm Dt := fun env => newO (.dk [] []) >>= fun n => pairsM l env >>= fun ps => finD n ps
theorem merge_nd : ∀ (more acc : List (Key × V)), ((acc ++ more).map (·.1)).Nodup → mergeK acc more = acc ++ more
  | [], acc, _ => by simp [mergeK]
  | p :: r, acc, h => by
    have hv : valV acc p.1 = none := by
      unfold valV
      rw [Option.map_eq_none_iff, List.find?_eq_none]
      intro q hq
      have h2 : (acc.map (·.1) ++ (p :: r).map (·.1)).Nodup := by simpa using h
      have := (List.nodup_append.mp h2).2.2 q.1 (List.mem_map_of_mem hq) p.1 (by simp)
      simpa using this
    show mergeK (putK acc p.1 p.2) r = _
    rw [putK_new _ hv, merge_nd r (acc ++ [(p.1, p.2)]) (by simpa using h)]
    simp
theorem zip_back : ∀ {ks : List Key} {vps : List (V × V)}, vps.map (·.1) = ks.map kV → vps = (ks.zip (vps.map (·.2))).map (fun kv => (kV kv.1, kv.2))
  | [], vps, h => by
    have : vps = [] := by simpa using h
    subst this; rfl
  | k :: ks, [], h => by simp at h
  | k :: ks, (x, y) :: vps, h => by
    simp only [List.map_cons, List.cons.injEq] at h
    simp only [List.map_cons, List.zip_cons_cons, h.1]
    rw [← zip_back h.2]
theorem zip_fst {α β : Type} : ∀ {ks : List α} {vs : List β}, ks.length = vs.length → (ks.zip vs).map (·.1) = ks
  | [], _, _ => by simp
  | _ :: _, [], h => by simp at h
  | k :: ks, v :: vs, h => by simp [zip_fst (ks := ks) (vs := vs) (by simpa using h)]
theorem me_disp {keys : List (Option Expr)} {values : List Expr} {l : List ((En → Mm Dt) × (En → Mm Dt))} (h : PPs X pos keys values (l.map (tP2 X.K E))) (hall : keys.all (·.isSome) = true) (hl : keys.length = values.length) (h0 : keys ≠ [])
    (h15 : keys.length ≤ 15) : PE X (.Dict keys values pos) (tE X.K E (dispM l)) := pe_mono (pe_disp h hall hl h0 h15) fun σ H Q ⟨s, env, e, r, he, ha⟩ => by
  subst e
  intro p hp
  have x1 := add_ext (u := .dK []) (o := .dk [] []) r hp
  have r1 := add_rel (u := .dK []) (o := .dk [] []) r hp ⟨[], upd_same, rfl, rfl⟩
  have q1 := ha.bind.now (s.add p (.dK []) (.dk [] [])) rfl x1 r1
  have ep : (s.add p (.dK []) (.dk [] [])).ρ[s.h.length]? = some p := add_at r
  refine pairs_ok r1 (he.ext x1) q1 fun ps vps s2 x2 r2 rk rv q2 => ?_
  have ep2 := x2.pre _ _ ep
  unfold finD at q2
  split at q2
  · rename_i hn
    split at q2
    · rename_i ks hk
      split at q2
      · rename_i hc
        obtain ⟨ws, w1, w2, w3⟩ := r2.ob _ p _ ep2 hn
        have hks := keysD_ok rk hk
        have lk : ks.length = vps.length := by
          have := congrArg List.length hks
          simpa using this.symm
        have lp : vps.length = ps.length := by
          have := rk.length
          simpa using this
        refine ⟨by rw [w1, List.zip_nil_left], ks.zip (vps.map (·.2)), ?_, ?_, ?_⟩
        · exact zip_back hks
        · rw [List.length_zip, List.length_map, lk, Nat.min_self, lp]; exact hc.2
        · rw [merge_nd _ [] (by rw [List.nil_append, zip_fst (by simp [lk])]; exact hc.1), List.nil_append]
          have rv' : Reps X.K s2 (ps.map (·.2)) (vps.map (·.2)) := rv
          have xa := put_ext (u := .dK (ks.zip (vps.map (·.2)))) (o' := .dk ks (ps.map (·.2))) r2 ep2 hn (by intro z; cases z)
          have ra := put_rel (u := .dK (ks.zip (vps.map (·.2)))) (o' := .dk ks (ps.map (·.2))) r2 ep2 hn (by intro z; cases z) ⟨_, upd_same, by simp [lk], rv'.ext xa⟩
          have xb := die_ext ra s.h.length
          have rb := die_rel ra s.h.length
          have fx : Fx ((s2.put s.h.length p (.dK (ks.zip (vps.map (·.2)))) (.dk ks (ps.map (·.2)))).die s.h.length) p (.dK (ks.zip (vps.map (·.2)))) := die_fx ra ep2 upd_same
          refine q2.now ((s2.put s.h.length p (.dK (ks.zip (vps.map (·.2)))) (.dk ks (ps.map (·.2)))).die s.h.length) ?_ (xa.trans xb) rb _ ⟨p, _, rfl, fx, by simp [lk], (rv'.ext xa).ext xb⟩
          show (s2.h.set s.h.length _).set s.h.length .dead = s2.h.set s.h.length .dead
          rw [List.set_set]
      · exact q2.elim
    · exact q2.elim
  · exact q2.elim
/-! ### a dict that is walked is locked for good -/
def tLk (K : PySem.W.Frag) (E : XK) (m : En → Mm Dt) : TE := fun σ H Q => tE K E m σ H fun x H1 => ∃ (a : Addr) (u : HO), x = .ref a ∧ ((H1 a = some u ∧ ((∃ kvs, u = .dK kvs) ∨ ∃ kvs, u = .dT kvs) ∧ ∀ od, Q x (upd H1 a (.frz od u))) ∨ ((∃ od, H1 a = some (.frz od u)) ∧ Q x H1))
theorem pe_lk (h : PE X e (tE X.K E ma)) : PE X e (tLk X.K E ma) := by
  refine ⟨fun pins s σ H Q I hw => thn (h.run pins s σ H _ I hw) fun v s1 ⟨x, H1, I1, r1, a, u, ex, hh⟩ => ?_⟩
  subst ex
  rcases hh with ⟨h1, h2, h3⟩ | ⟨_, h3⟩
  · have mu : Mut (some u) := by
      rcases h2 with ⟨kvs, rfl⟩ | ⟨kvs, rfl⟩ <;> exact True.intro
    obtain ⟨od, I2⟩ := I1.lock h1 mu
    exact ⟨.ref a, _, I2, r1, h3 od⟩
  · exact ⟨.ref a, H1, I1, r1, h3⟩
/-- what is walked of a dict: k its keys and values -/
def dkF : Dt → Mm (List Key × List Dt) := fun d h => match d with
  | .dk ks vs => .ok (ks, vs) h
  | .obj i => match h[i]? with
    | some (.dk ks vs) => .ok (ks, vs) (h.set i .dead)
    | _ => .no
  | _ => .no
def dtF : Dt → Mm (List (List Key) × List Dt) := fun d h => match d with
  | .dt ks vs => .ok (ks, vs) h
  | .obj i => match h[i]? with
    | some (.dt ks vs) => .ok (ks, vs) (h.set i .dead)
    | _ => .no
  | _ => .no
theorem dkF_ok {k : List Key × List Dt → Sx → Prop} (r : HRel K s) (rv : Rep K s d v) (h : After K E s (dkF d s.h) k) : ∃ a ks ds ws s', v = .ref a ∧ s'.H = s.H ∧ Ext s s' ∧ HRel K s' ∧ Fx s' a (.dK (ks.zip ws)) ∧ ks.length = ws.length ∧ Reps K s' ds ws ∧ After K E s' (.ok (ks, ds) s'.h) k := by
  unfold dkF at h
  split at h
  · rename_i ks vs
    obtain ⟨a, ws, rfl, q, hl, rs⟩ := rv
    exact ⟨a, ks, vs, ws, s, rfl, rfl, Ext.refl s, r, q, hl, rs, h⟩
  · rename_i i
    split at h
    · rename_i ks vs q
      obtain ⟨a, ea, rfl⟩ := rv
      obtain ⟨ws, h1, h2, h3⟩ := r.ob i a _ ea q
      have x := die_ext r i
      exact ⟨a, ks, vs, ws, s.die i, rfl, rfl, x, die_rel r i, die_fx r ea h1, h2, h3.ext x, After.ext x h⟩
    · exact h.elim
  · exact h.elim
theorem dtF_ok {k : List (List Key) × List Dt → Sx → Prop} (r : HRel K s) (rv : Rep K s d v) (h : After K E s (dtF d s.h) k) : ∃ a ks ds ws s', v = .ref a ∧ s'.H = s.H ∧ Ext s s' ∧ HRel K s' ∧ Fx s' a (.dT (ks.zip ws)) ∧ ks.length = ws.length ∧ Reps K s' ds ws ∧ After K E s' (.ok (ks, ds) s'.h) k := by
  unfold dtF at h
  split at h
  · rename_i ks vs
    obtain ⟨a, ws, rfl, q, hl, rs⟩ := rv
    exact ⟨a, ks, vs, ws, s, rfl, rfl, Ext.refl s, r, q, hl, rs, h⟩
  · rename_i i
    split at h
    · rename_i ks vs q
      obtain ⟨a, ea, rfl⟩ := rv
      obtain ⟨ws, h1, h2, h3⟩ := r.ob i a _ ea q
      have x := die_ext r i
      exact ⟨a, ks, vs, ws, s.die i, rfl, rfl, x, die_rel r i, die_fx r ea h1, h2, h3.ext x, After.ext x h⟩
    · exact h.elim
  · exact h.elim
/-- the lock, then R of a walk of the locked dict -/
theorem locked {u : HO} {a : Addr} {R : V → Hp → Prop} (r : HRel K s) (hd : (∃ kvs, u = .dK kvs) ∨ ∃ kvs, u = .dT kvs) (fx : Fx s a u) (h : ∀ od s', s'.h = s.h → Ext s s' → HRel K s' → s'.H a = some (.frz od u) → ¬ s'.mut a → R (.ref a) s'.H) :
    ∃ (b : Addr) (u' : HO), V.ref a = .ref b ∧ ((s.H b = some u' ∧ ((∃ kvs, u' = .dK kvs) ∨ ∃ kvs, u' = .dT kvs) ∧ ∀ od, R (.ref a) (upd s.H b (.frz od u'))) ∨ ((∃ od, s.H b = some (.frz od u')) ∧ R (.ref a) s.H)) := by
  obtain ⟨q | ⟨od, q⟩, nm⟩ := fx
  · refine ⟨a, u, rfl, .inl ⟨q, hd, fun od => ?_⟩⟩
    exact h od (s.new a (.frz od u)) rfl (lock_ext q hd) (lock_rel r q nm hd) upd_same nm
  · exact ⟨a, u, rfl, .inr ⟨⟨od, q⟩, h od s rfl (Ext.refl s) r q nm⟩⟩
def kD : Key → Dt
  | .inl i => .int i
  | .inr x => .str x
theorem kD_ok (k : Key) : Rep K s (kD k) (kV k) := by
  cases k <;> rfl
theorem zip_get {α β : Type} {ks : List α} {vs : List β} {i : Nat} {k : α} {v : β} (h : (ks.zip vs)[i]? = some (k, v)) : ks[i]? = some k ∧ vs[i]? = some v := by
  rw [List.getElem?_zip_eq_some] at h
  exact h
theorem zip_len {α β : Type} {ks : List α} {vs : List β} (h : ks.length = vs.length) : (ks.zip vs).length = ks.length := by
  rw [List.length_zip, h, Nat.min_self]
/-! for k in d -/
def itK (ma : En → Mm Dt) : En → Mm (List Dt) := fun env => ma env >>= fun d => dkF d >>= fun kv => Mm.pure (kv.1.map kD)
theorem mi_keys (h : PE X e (tE X.K E ma)) : PI X tg e (tI X.K E (itK ma)) := pi_mono (pi_keys (pe_lk h)) fun σ H R ⟨s, env, e, r, he, ha⟩ => by
  subst e
  unfold iKeys tLk
  refine tE_bind r he ha fun d s1 v x1 r1 e1 rv q => ?_
  obtain ⟨a, ks, ds, ws, s2, rfl, eH, x2, r2, fx, hl, rs, k⟩ := dkF_ok r1 rv q.bind
  rw [← eH]
  refine locked (R := fun x H1 => ∃ d o, x = V.ref d ∧ ((∃ kvs, H1 d = some (HO.frz o (HO.dK kvs)) ∧ R (Itk d o kvs) H1) ∨ ∃ kvs, H1 d = some (HO.frz o (HO.dT kvs)) ∧ R (Itkt d o kvs) H1)) r2 (.inl ⟨_, rfl⟩) fx fun od s3 eh x3 r3 hf nm => ⟨a, od, rfl, .inl ⟨_, hf, ?_⟩⟩
  refine (k.now s3 eh x3 r3).ret r3 _ (itRep_of (walk_keys (d := a) (o := od) (kvs := ks.zip ws)) (by rw [List.length_map, zip_len hl]) fun s4 x4 r4 => ⟨(x4.keep ⟨hf, nm⟩ rfl).1, fun i dd y H' ed ⟨e1, kk, vv, e2, e3⟩ => ?_⟩)
  rw [List.getElem?_map, (zip_get e2).1] at ed
  cases ed
  subst e3
  exact same_end r4 e1 (kD_ok kk)
/-! for k, v in d.items() -/
def itI (ma : En → Mm Dt) : En → Mm (List Dt) := fun env => ma env >>= fun d => dkF d >>= fun kv => Mm.pure (List.zipWith (fun k v => .tup [kD k, v]) kv.1 kv.2)
theorem mi_items {elts : List Expr} {kk : Nat} {tpos apos cpos : Pos} (h : PE X e (tE X.K E ma)) (hbase : attributeBase e "items" X.env (eval e X.env) = eval e X.env := by rfl) (hline : (apos.endLine == cpos.line) = true := by rfl) :
    PI X (.Tuple elts kk tpos) (.Call (.Attribute e "items" apos) [] [] cpos) (tI X.K E (itI ma)) := pi_mono (pi_items (pe_lk h) hbase hline) fun σ H R ⟨s, env, e, r, he, ha⟩ => by
  subst e
  unfold iItems tLk
  refine tE_bind r he ha fun d s1 v x1 r1 e1 rv q => ?_
  obtain ⟨a, ks, ds, ws, s2, rfl, eH, x2, r2, fx, hl, rs, k⟩ := dkF_ok r1 rv q.bind
  rw [← eH]
  refine locked (R := fun x H1 => ∃ d o kvs, x = V.ref d ∧ H1 d = some (HO.frz o (HO.dK kvs)) ∧ R (Iti d o kvs) H1) r2 (.inl ⟨_, rfl⟩) fx fun od s3 eh x3 r3 hf nm => ⟨a, od, _, rfl, hf, ?_⟩
  have hl2 : ks.length = ds.length := by rw [hl, rs.length]
  refine (k.now s3 eh x3 r3).ret r3 _ (itRep_of (walk_items (d := a) (o := od) (kvs := ks.zip ws)) (by rw [List.length_zipWith, zip_len hl, ← hl2, Nat.min_self]) fun s4 x4 r4 => ⟨(x4.keep ⟨hf, nm⟩ rfl).1, fun i dd y H' ed ⟨T, x1, y1, e1, e2, e3, e4, e5⟩ => ?_⟩)
  rw [List.getElem?_zipWith] at ed
  have e4 : ((ks.zip ws)[i]?).map (fun kv => kV kv.1) = some x1 := e4
  have e5 : ((ks.zip ws)[i]?).map Prod.snd = some y1 := e5
  cases qz : (ks.zip ws)[i]? with
  | none => rw [qz] at e4; cases e4
  | some kv =>
    obtain ⟨kk, vv⟩ := kv
    rw [qz] at e4 e5
    cases e4; cases e5
    obtain ⟨z1, z2⟩ := zip_get qz
    obtain ⟨d2, z3, rd⟩ := ((rs.ext x3).ext x4).getV z2
    rw [z1, z3] at ed
    cases ed
    subst e1
    exact pair_end r4 e2 e3 (kD_ok kk) rd
/-! for v in d.values(), keys ints and texts -/
def itV (ma : En → Mm Dt) : En → Mm (List Dt) := fun env => ma env >>= fun d => dkF d >>= fun kv => Mm.pure kv.2
theorem mi_values {apos cpos : Pos} (h : PE X e (tE X.K E ma)) (hbase : attributeBase e "values" X.env (eval e X.env) = eval e X.env := by rfl) (hline : (apos.endLine == cpos.line) = true := by rfl) :
    PI X tg (.Call (.Attribute e "values" apos) [] [] cpos) (tI X.K E (itV ma)) := pi_mono (pi_values (pe_lk h) hbase hline) fun σ H R ⟨s, env, e, r, he, ha⟩ => by
  subst e
  unfold iVals tLk
  refine tE_bind r he ha fun d s1 v x1 r1 e1 rv q => ?_
  obtain ⟨a, ks, ds, ws, s2, rfl, eH, x2, r2, fx, hl, rs, k⟩ := dkF_ok r1 rv q.bind
  rw [← eH]
  refine locked (R := fun x H1 => ∃ d o kvs, x = V.ref d ∧ H1 d = some (HO.frz o (HO.dK kvs)) ∧ R (Itd d o kvs) H1) r2 (.inl ⟨_, rfl⟩) fx fun od s3 eh x3 r3 hf nm => ⟨a, od, _, rfl, hf, ?_⟩
  refine (k.now s3 eh x3 r3).ret r3 _ (itRep_of (walk_values (d := a) (o := od) (kvs := ks.zip ws)) (by rw [zip_len hl, hl, rs.length]) fun s4 x4 r4 => ⟨(x4.keep ⟨hf, nm⟩ rfl).1, fun i dd y H' ed ⟨e1, kk, e2⟩ => ?_⟩)
  obtain ⟨w, z3, rd⟩ := ((rs.ext x3).ext x4).get ed
  have z4 := (zip_get e2).2
  rw [z3] at z4; cases z4
  exact same_end r4 e1 rd
end
end Mo
set_option Elab.async false
set_option linter.all false
set_option maxRecDepth 100000
set_option maxHeartbeats 4000000
/-! MoD: walks over the values of a dict with tuple keys, setdefault there. -/
namespace Mo
open PySem L2 PySem.Spec PyProof.Rows
section
variable {prog : Program} {w : World} {A : Around} {E : Value → Shared → Prop} {s : Shared} {it d v : Addr} {i n ep : Nat} {od : Obj} {es : Array DictEntry}
/-- a view of values begins its walk, whatever the keys are -/
theorem viter {Q : Value → Shared → Prop} (hv : s.heap.IsValuesView v d) (ho : s.heap.get? d = some od) (hD : od.data = .dict es ep)
    (k : Q (.ref s.heap.objs.size) { s with heap := s.heap.push { cls := .type "dict_valueiterator", data := .fields #[.ref d, .int 0 0, .int es.size 0, .int ep 0] } }) : wpAny (model prog w) A (pyIter (.ref v)) Q E s := by
  obtain ⟨o1, g1, -, f1⟩ := id hv
  refine wpAny_pyIter_slot hv.typeIs F.slot_dict_values_iter (wpAny_call_entry F.slot_dict_values_iter hv.typeIs F.entry_dict_values_iter ?_ (F.args_dict_values_iter_1 _))
  unfold Builtin.«dict_values.__iter__» Builtin.Dict_items.dictOf Builtin.Dict_items.newIterator
  have no : Builtin.Dict_items.ownsTuple "dict_valueiterator" = false := by decide
  refine wpAny_bind (wpAny_pure (wpAny_bind (wpAny_bind (wpAny_field g1 f1 (x := .ref d) rfl (wpAny_pure (wpAny_bind (wpAny_bind (wpAny_dictEntries ho hD (wpAny_bind (wpAny_dictEpoch ho hD ?_))))))))))
  simp only [no, Bool.false_eq_true, if_false]
  refine wpAny_newObj_type (wpAny_pure ⟨_, rfl, "dict_valueiterator", _, ⟨_, Heap.get?_push_size _ rfl, rfl⟩, F.slot_dict_valueiterator_next.lookup, ?_⟩)
  simpa [rawInt] using k
theorem vnext {en : DictEntry} {Q : Option Value → Shared → Prop} (hi : s.heap.IsValIter it d i n ep) (ho : s.heap.get? d = some od) (hD : od.data = .dict es ep) (hn : es.size = n) (hx : es[i]? = some en)
    (k : ∀ h', h'.IsValIter it d (i + 1) n ep → Heap.SameBut it s.heap h' → Q (some en.val) { s with heap := h' }) : wpAny (model prog w) A (pyNext (.ref it)) Q E s := by
  obtain ⟨o, g1, c1, f1⟩ := id hi
  have no : Builtin.Dict_items.ownsTuple "dict_valueiterator" = false := by decide
  obtain ⟨lt, ev⟩ := Array.getElem?_eq_some_iff.mp hx
  unfold pyNext
  refine wpAny_bind (wpAny_attempt (wpAny_callSpecial?_slot (name := Str.ofString "__next__") hi.typeIs F.slot_dict_valueiterator_next (wpAny_call_entry F.slot_dict_valueiterator_next hi.typeIs F.entry_dict_valueiterator_next ?_ (F.args_dict_valueiterator_next_1 _))))
  refine wpAny_bind (wpAny_pure (wpAny_bind (wpAny_bind (wpAny_bind (wpAny_typeNameOfWhole_valiter hi.typeIs (wpAny_pure (wpAny_bind (wpAny_fieldsOf g1 f1 ?_))))))))
  simp only [no, Bool.false_eq_true, if_false]
  show wpAny _ _ (if (Value.ref d == Value.none) = true then _ else _) _ _ s
  rw [if_neg (show ¬ ((Value.ref d == Value.none) = true) from Bool.false_ne_true)]
  refine wpAny_bind (wpAny_pure (wpAny_bind (wpAny_dictEntries ho hD ?_)))
  rw [if_neg (by rw [hn]; simp)]
  refine wpAny_bind (wpAny_pure (wpAny_bind (wpAny_dictEpoch ho hD ?_)))
  rw [if_neg (by simp)]
  refine wpAny_pure ?_
  simp only [show ¬ ((i : Int) < 0) from by omega, if_false, Int.toNat_natCast, Array.getElem?_eq_getElem lt]
  refine wpAny_bind (wpAny_bind (wpAny_typeNameOfWhole_valiter hi.typeIs (wpAny_pure (wpAny_bind (wpAny_isOneOf_valiter hi.typeIs ?_)))))
  show wpAny _ _ (setField (.ref it) 1 (rawInt ((i : Int) + 1)) >>= _) _ _ s
  refine wpAny_bind (wpAny_setField g1 f1 (by simp) ?_)
  have hi2 : (s.heap.update it (Obj.mapFields (·.setIfInBounds 1 (rawInt ((i : Int) + 1))))).IsValIter it d (i + 1) n ep :=
    ⟨_, Heap.get?_update_self _ g1 (Obj.isFreed_of_fields (Obj.data_mapFields f1 _)), (Obj.cls_mapFields ..).trans c1, by rw [Obj.data_mapFields f1]; simp [rawInt]⟩
  have ty : ({ s with heap := s.heap.update it (Obj.mapFields (·.setIfInBounds 1 (rawInt ((i : Int) + 1)))) } : Shared).TypeIs (.ref it) "dict_valueiterator" := Heap.IsValIter.typeIs (s := { s with heap := s.heap.update it (Obj.mapFields (·.setIfInBounds 1 (rawInt ((i : Int) + 1)))) }) hi2
  refine wpAny_bind (wpAny_holding (wpAny_bind (wpAny_isOneOf_valiter ty ?_)))
  refine wpAny_bind (wpAny_isOneOf_valiter ty ?_)
  show wpAny _ _ (pure es[i].val) _ _ _
  rw [ev]
  exact wpAny_pure (wpAny_pure ⟨_, rfl, wpAny_pure (k _ hi2 (Heap.SameBut.update ..))⟩)
theorem vend {Q : Option Value → Shared → Prop} (hh : A.handled = none) (hi : s.heap.IsValIter it d i n ep) (ho : s.heap.get? d = some od) (hD : od.data = .dict es ep) (hn : es.size = n) (hx : n ≤ i)
    (k : ∀ h', Heap.ExtBut it s.heap h' → Q none { s with heap := h' }) : wpAny (model prog w) A (pyNext (.ref it)) Q E s := by
  obtain ⟨o, g1, c1, f1⟩ := id hi
  have no : Builtin.Dict_items.ownsTuple "dict_valueiterator" = false := by decide
  have ge : es.size ≤ i := by rw [hn]; exact hx
  unfold pyNext
  refine wpAny_bind (wpAny_attempt (wpAny_callSpecial?_slot (name := Str.ofString "__next__") hi.typeIs F.slot_dict_valueiterator_next (wpAny_call_entry F.slot_dict_valueiterator_next hi.typeIs F.entry_dict_valueiterator_next ?_ (F.args_dict_valueiterator_next_1 _))))
  refine wpAny_bind (wpAny_pure (wpAny_bind (wpAny_bind (wpAny_bind (wpAny_typeNameOfWhole_valiter hi.typeIs (wpAny_pure (wpAny_bind (wpAny_fieldsOf g1 f1 ?_))))))))
  simp only [no, Bool.false_eq_true, if_false]
  show wpAny _ _ (if (Value.ref d == Value.none) = true then _ else _) _ _ s
  rw [if_neg (show ¬ ((Value.ref d == Value.none) = true) from Bool.false_ne_true)]
  refine wpAny_bind (wpAny_pure (wpAny_bind (wpAny_dictEntries ho hD ?_)))
  rw [if_neg (by rw [hn]; simp)]
  refine wpAny_bind (wpAny_pure (wpAny_bind (wpAny_dictEpoch ho hD ?_)))
  rw [if_neg (by simp)]
  refine wpAny_pure ?_
  simp only [show ¬ ((i : Int) < 0) from by omega, if_false, Int.toNat_natCast, Array.getElem?_eq_none ge]
  refine wpAny_bind (wpAny_bind (wpAny_typeNameOfWhole_valiter hi.typeIs (wpAny_pure ?_)))
  show wpAny _ _ (setField (.ref it) 0 .none >>= _) _ _ s
  refine wpAny_bind (wpAny_setField g1 f1 (by simp) ?_)
  show wpAny _ _ (newExc (.type "StopIteration") [] >>= _) _ _ _
  refine wpAny_bind ?_
  simp only [newExc, newTuple]
  refine wpAny_bind (wpAny_newObj_type ?_ (by size_fits))
  refine wpAny_bind (m := firstArgMember _ _) (wpAny_of_eq (a := Value.none) (by first | rfl | (simp only [firstArgMember]; rfl)) ?_)
  refine wpAny_newObj_type ?_ (by size_fits)
  simp only [raiseNew]
  refine wpAny_bind (wpAny_handled ?_)
  rw [show A.in1.handled = none from hh]
  refine wpAny_bind (wpAny_pure (wpAny_throw ?_))
  refine wpAny_bind (wpAny_isInstance (T := "StopIteration") (b := true) ⟨_, Heap.get?_push_size _ rfl, rfl⟩ isSubtype_stop ?_)
  exact wpAny_pure (k _ (((Heap.SameBut.update ..).extBut.push _).push _))
end
section
variable {X : Cx} {pins : List (Addr × Obj)} {σ : L2.St} {H : Hp} {s : Shared} {d : Addr} {o : Obj}
theorem frzV {kvs : List (List Key × V)} (I : Inv X pins σ H s) (h : H d = some (.frz o (.dT kvs))) :
    (d == sysModules) = false ∧ s.heap.get? d = some o ∧ o.ExactDict ∧ ∃ (es : Array DictEntry) (ep : Nat), o.data = .dict es ep ∧ es.size = kvs.length ∧
      ∀ (i : Nat) (k : List Key) (v : V), kvs[i]? = some (k, v) → ∃ (en : DictEntry), es[i]? = some en ∧ RelV v en.val := by
  obtain ⟨hd, z, hs, xs, pr, o', es, ep, ho, hx, hdt, he, _⟩ := I.hok d _ h
  rw [hd] at ho
  cases ho
  refine ⟨hs, hd, hx, es, ep, hdt, ?_, fun i k v e => ?_⟩
  · have l1 : es.size = xs.length := size_of_entries he
    have l2 : kvs.length = xs.length := Paired.length pr
    omega
  · obtain ⟨b, hb, e1, e2, e3⟩ := paired_get pr e
    have q := entry_at he i
    rw [hb] at q
    exact ⟨_, q, e3⟩
/-- the values of the locked dict at d, tuple keys -/
def Itdt (d : Addr) (o : Obj) (kvs : List (List Key × V)) : It :=
  ⟨fun i H => H d = some (.frz o (.dT kvs)) ∧ i < kvs.length, fun i H x H' => H' = H ∧ ∃ k, kvs[i]? = some (k, x), fun i H => H d = some (.frz o (.dT kvs)) ∧ kvs.length ≤ i⟩
theorem walk_valuesT {kvs : List (List Key × V)} : Walk (Itdt d o kvs) kvs.length (fun H => H d = some (.frz o (.dT kvs))) (fun i H x H' => H' = H ∧ ∃ k, kvs[i]? = some (k, x)) :=
  ⟨fun _ _ hi q => ⟨q, hi⟩, fun _ q => ⟨q, Nat.le_refl _⟩, fun _ _ _ _ _ _ y => y⟩
theorem turn_valsT {P : Program} {w : World} {K : PySem.W.Frag} {tg : Expr} {es : Array DictEntry} {ep : Nat} {kvs : List (List Key × V)} (it : Addr) (hod : o.data = .dict es ep) : Turn P w K tg (Itdt d o kvs) [it] it (fun i h => h.IsValIter it d i kvs.length ep) where
  mem := by simp
  obj := fun i h st b hb => by
    obtain ⟨oi, e, c, dd⟩ := st
    rw [show b = it by simpa using hb]
    exact ⟨oi, e, fun v z => by rw [dd] at z; cases z⟩
  keep := fun i h h' st k => st.at fun oi e => k it (by simp) oi e
  item := fun {X} hP hw hK hc i pins s σ H E I hf st hg => by
    subst hP hw hK
    obtain ⟨f0, f1, f2, f3, f4, f5⟩ := hf it (by simp)
    obtain ⟨hs, hgd, hx, es', ep', hdt, hsz, ent⟩ := frzV I hg.1
    obtain ⟨rfl, rfl⟩ := dict_ep hod hdt
    obtain ⟨⟨k0, v0⟩, hkv⟩ : ∃ p, kvs[i]? = some p := ⟨_, List.getElem?_eq_getElem hg.2⟩
    obtain ⟨en, hen, ru⟩ := ent i _ _ hkv
    refine vnext st hgd hdt hsz hen fun h' st' sb => ?_
    obtain ⟨oi, e, c, dd⟩ := id st'
    exact ⟨en.val, rfl, go_of (s := { s with heap := h' }) e c dd (by decide) ⟨_, H, I.turned (t' := s.toks) (fun b ob hb e => (sb.2 b hb).trans e) f0 f1 f3 f4 f5, ru, ⟨rfl, _, hkv⟩, st', fun b hb => (hf b hb).1⟩⟩
  done := fun {X} hP hw hK hc i pins s σ H E I hf st hg => by
    subst hP hw hK
    obtain ⟨f0, f1, f2, f3, f4, f5⟩ := hf it (by simp)
    obtain ⟨hs, hgd, hx, es', ep', hdt, hsz, ent⟩ := frzV I hg.1
    obtain ⟨rfl, rfl⟩ := dict_ep hod hdt
    exact vend (I.ok.hd hc) st hgd hdt hsz hg.2 fun h' eb => ⟨rfl, I.turned (t' := s.toks) (fun b ob hb e => eb b ob hb e) f0 f1 f3 f4 f5⟩
  self := fun A i s Q E st h => wpAny_pyIter_valiter st h
def iValsT (td : TE) : TI := fun σ H R => td σ H fun x H1 => ∃ d o kvs, x = .ref d ∧ H1 d = some (.frz o (.dT kvs)) ∧ R (Itdt d o kvs) H1
theorem meets_values (dd : Addr) (hd : (dd == sysModules) = false) {prog : Program} {w : World} :
    MeetsIn prog w (Builtin.«dict.values» ⟨[.ref dd], []⟩) (fun _ R s => s.TypeIs (.ref dd) "dict" ∧
      R (.ok (.ret (.ref s.heap.objs.size))) { s with heap := s.heap.push { cls := .type "dict_values", data := .fields #[.ref dd] } }) :=
  .of_wp fun A R s ⟨ty, h⟩ => by
    refine wpAny_bind ?_
    unfold Builtin.Dict.noArgs
    refine wpAny_bind (wpAny_notOrdered_dict ty ?_)
    show wpAny _ _ (pure dd) _ _ s
    refine wpAny_pure ?_
    show wpAny _ _ (Builtin.Dict.showsAll dd >>= _) _ _ s
    unfold Builtin.Dict.showsAll
    rw [if_neg (by rw [hd]; exact Bool.false_ne_true)]
    exact wpAny_bind (wpAny_pure (wpAny_bind (wpAny_newObj_type (wpAny_pure ⟨_, rfl, h⟩))))
theorem pi_valuesT {tg e : Expr} {td : TE} {apos cpos : Pos} (he : PE X e td) (hbase : attributeBase e "values" X.env (eval e X.env) = eval e X.env := by rfl) (hline : (apos.endLine == cpos.line) = true := by rfl) : PI X tg (.Call (.Attribute e "values" apos) [] [] cpos) (iValsT td) := by
  refine ⟨fun pins s σ H R I h => ?_⟩
  refine wpAny_Call_method (T := "dict") (id := "dict.values") hbase rfl hline F.plainAttrs_dict F.slot_dict_values F.type_dict_values (thn (he.run pins s σ H _ I h) fun u s1 ⟨x, H1, I1, rx, d, o, kvs, ex, hd, q⟩ => ?_)
  subst ex
  obtain rfl : u = Value.ref d := rx
  obtain ⟨hs, hgd, hx, es, ep, hdt, hsz, ent⟩ := frzV I1 hd
  have ty : s1.TypeIs (.ref d) "dict" := ⟨o, hgd, hx.1⟩
  refine ⟨ty, fun b e => by injection e with e; subst e; exact ⟨o, hgd, hx.2.1⟩, ?_⟩
  have I2 : Inv X pins σ H1 { s1 with heap := s1.heap.push { cls := .type "dict_values", data := .fields #[.ref d] } } := I1.kept (t' := s1.toks) fun b ob q => Heap.get?_push_of_some _ q
  have fin : wpAny (model X.prog X.w) X.A (pyIter (.ref s1.heap.objs.size)) (PIE X pins σ tg R) X.xe { s1 with heap := s1.heap.push { cls := .type "dict_values", data := .fields #[.ref d] } } := by
    refine viter (d := d) ⟨_, Heap.get?_push_size _ rfl, rfl, rfl⟩ (Heap.get?_push_of_some _ hgd) hdt (pi_one (tk := s1.toks) I2 _ (turn_valsT _ hdt) ⟨_, Heap.get?_push_size _ rfl, rfl, ?_⟩ q)
    rw [hsz] <;> rfl
  show wpAny _ _ (callWith cpos (.builtin "dict.values") [.ref d] [] []) _ X.xe s1
  exact method_meetsIn F.slot_dict_values F.entry_dict_values rfl (PySem.evalArgs_none ⟨rfl, ty, F.args_dict_values_1 _, _, meets_values d hs, ty, fin⟩)
end
section
variable {X : Cx} {E : XK} {K : PySem.W.Frag} {s s0 : Sx} {d : Dt} {v : V} {xs ds : List Dt} {e a b c f o i tg : Expr} {pos p : Pos} {es : List Expr}
variable {ma mb mc mo mk mx : En → Mm Dt} {mr : En → Mm (List Dt)}
def itVT (ma : En → Mm Dt) : En → Mm (List Dt) := fun env => ma env >>= fun d => dtF d >>= fun kv => Mm.pure kv.2
theorem mi_valuesT {apos cpos : Pos} (h : PE X e (tE X.K E ma)) (hbase : attributeBase e "values" X.env (eval e X.env) = eval e X.env := by rfl) (hline : (apos.endLine == cpos.line) = true := by rfl) :
    PI X tg (.Call (.Attribute e "values" apos) [] [] cpos) (tI X.K E (itVT ma)) := pi_mono (pi_valuesT (pe_lk h) hbase hline) fun σ H R ⟨s, env, e, r, he, ha⟩ => by
  subst e
  unfold iValsT tLk
  refine tE_bind r he ha fun d s1 v x1 r1 e1 rv q => ?_
  obtain ⟨a, ks, ds, ws, s2, rfl, eH, x2, r2, fx, hl, rs, k⟩ := dtF_ok r1 rv q.bind
  rw [← eH]
  refine locked (R := fun x H1 => ∃ d o kvs, x = V.ref d ∧ H1 d = some (HO.frz o (HO.dT kvs)) ∧ R (Itdt d o kvs) H1) r2 (.inr ⟨_, rfl⟩) fx fun od s3 eh x3 r3 hf nm => ⟨a, od, _, rfl, hf, ?_⟩
  refine (k.now s3 eh x3 r3).ret r3 _ (itRep_of (walk_valuesT (d := a) (o := od) (kvs := ks.zip ws)) (by rw [zip_len hl, hl, rs.length]) fun s4 x4 r4 => ⟨(x4.keep ⟨hf, nm⟩ rfl).1, fun i dd y H' ed ⟨e1, kk, e2⟩ => ?_⟩)
  obtain ⟨w, z3, rd⟩ := ((rs.ext x3).ext x4).get ed
  have z4 := (zip_get e2).2
  rw [z3] at z4; cases z4
  exact same_end r4 e1 rd
end
end Mo
set_option Elab.async false
set_option linter.all false
set_option maxRecDepth 100000
set_option maxHeartbeats 4000000
/-! MoE: setdefault, unpacking lists, the module's names and dicts, the hook. -/
namespace Mo
open PySem L2 PySem.Spec PyProof.Rows
/-! ### d.setdefault(k, x), tuple keys -/
section
variable {X : Cx} {pins : List (Addr × Obj)} {σ : L2.St} {H : Hp} {s : Shared} {a b : Addr} {r : Value} {d : V} {k : List Key} {A : Around} {E : Value → Shared → Prop}
theorem setdT {kvs : List (List Key × V)} {Q : Value → Shared → Prop} (hu : A.units + 1 < cLine) (I : Inv X pins σ H s) (e : H a = some (.dT kvs)) (eb : H b = some (.tup (k.map kV))) (rd : RelV d r) (hl : kvs.length < sizeLine)
    (h1 : ∀ v, valV kvs k = some v → ∀ (w' : Value) (s' : Shared), Inv X pins σ H s' → RelV v w' → Q w' s') (h2 : valV kvs k = none → ∀ (w' : Value) (s' : Shared), Inv X pins σ (upd H a (.dT (putK kvs k d))) s' → RelV d w' → Q w' s') :
    wpAny (model X.prog X.w) A (call (.builtin "dict.setdefault") [.ref a, .ref b, r]) Q E s := by
  obtain ⟨z, hd, xs, rel, dd⟩ := dt_of I.hok e
  have hz : xs.length ≤ sizeLine := by rw [← Paired.length rel]; exact z
  have hl2 : (putK kvs k d).length ≤ sizeLine := by have := length_putK kvs k d; omega
  have q := rel.val k
  refine call_meetsIn PySem.F.slot_dict_setdefault dd.typeIs PySem.F.entry_dict_setdefault (PySem.F.args_dict_setdefault_3 _ _ _) (meetsH_dict_setdefault (tupleKind (mixKind X.prog X.w)) a b hd r) ⟨tupleKind_room_in1 hu, k, xs, key_of I.hok eb, dd, hz, fun p hp => ?_, fun hn h' dd' hs => ?_⟩
  · rw [hp] at q
    cases q0 : valV kvs k with
    | none => rw [q0] at q; exact (show False from q).elim
    | some v0 => rw [q0] at q; exact h1 v0 q0 _ _ (I.tok _) q
  · rw [hn] at q
    cases q0 : valV kvs k with
    | some v0 => rw [q0] at q; exact (show False from q).elim
    | none =>
      obtain ⟨o, es, ep, hq, y2, y3, y4, _, y5⟩ := dd'
      refine h2 q0 _ _ (d_write I (by rw [e]; exact True.intro) hs ⟨o, hq⟩ ⟨hl2, hd, _, (rel.put k eb rd).keeps fun c ys ec => ?_, o, es, ep, hq, y2, y3, y4, y5⟩) rd
      rw [upd_ne (ne_of ec e (fun z => nomatch z))]
      exact ec
end
def tSetdT (td ty tx : TE) : TE := fun σ H Q => td σ H fun x H1 => ∃ a, x = .ref a ∧ IsD H1 a ∧ ty σ H1 fun y H2 => tx σ H2 fun z H3 => ∃ (kvs : List (List Key × V)) (k : List Key) (b : Addr), H3 a = some (.dT kvs) ∧ y = .ref b ∧ H3 b = some (.tup (k.map kV)) ∧ kvs.length < sizeLine ∧
  (∀ v, valV kvs k = some v → Q v H3) ∧ (valV kvs k = none → Q z (upd H3 a (.dT (putK kvs k z))))
section
variable {X : Cx} {E : XK} {K : PySem.W.Frag} {s s0 : Sx} {d : Dt} {v : V} {xs ds : List Dt} {e a b c f o i tg : Expr} {pos p p1 apos cpos : Pos} {es : List Expr}
variable {ma mb mc mo mk mx : En → Mm Dt} {mr : En → Mm (List Dt)} {td ty tx : TE}
theorem pe_setdT (hu : X.A.units + 1 < cLine) (ho : PE X o td) (he : PE X e ty) (hf : PE X f tx) (m : M2 X o "setdefault" apos e f cpos) : PE X (.Call (.Attribute o "setdefault" apos) [e, f] [] cpos) (tSetdT td ty tx) := by
  refine ⟨fun pins s σ H Q I h => ?_⟩
  refine wpAny_Call_method m.base m.few m.line PySem.F.plainAttrs_dict PySem.F.slot_dict_setdefault PySem.F.type_dict_setdefault (thn (ho.run pins s σ H _ I h) fun u s1 ⟨x, H1, I1, rx, a, ex, d, q1⟩ => ?_)
  subst ex
  obtain rfl : u = Value.ref a := rx
  obtain ⟨t1, t2, _⟩ := isD_at I1 d
  refine ⟨t1, t2, ?_⟩
  rw [m.trees]
  refine Calls.callWith_builtin rfl (Calls.evalArgs_plain (Calls.spliced_cons (thn (he.run pins s1 σ H1 _ I1 q1) fun iv s2 ⟨y, H2, I2, ry, q2⟩ =>
    Calls.spliced_cons (thn (hf.run pins s2 σ H2 _ I2 q2) fun fv s3 ⟨z, H3, I3, rz, kvs, k, b, ea, ey, eb, hl, q3, q4⟩ => Calls.spliced_nil ?_))))
  subst ey
  cases (show iv = Value.ref b from ry)
  exact setdT hu I3 ea eb rz hl (fun v hv w' s4 I4 rw' => ⟨v, _, I4, rw', q3 v hv⟩) fun hn w' s4 I4 rw' => ⟨z, _, I4, rw', q4 hn⟩
def dtO : Dt → Mm Unit := fun o h => match o with
  | .obj n => match h[n]? with
    | some (.dt _ _) => .ok () h
    | _ => .no
  | _ => .no
def setdR : Dt → Dt → Dt → Mm Dt := fun o k y h => match o with
  | .obj n => match h[n]? with
    | some (.dt ks vs) => match keyT k with
      | some kk => if vs.length < sizeLine then (match valG (ks.zip vs) kk with
        | some z => .ok z h
        | none => .ok y (h.set n (.dt (putG ks vs kk y).1 (putG ks vs kk y).2))) else .no
      | none => .no
    | _ => .no
  | _ => .no
def setdM (mo mk mx : En → Mm Dt) : En → Mm Dt := fun env => mo env >>= fun o => dtO o >>= fun _ => mk env >>= fun k => mx env >>= fun x => setdR o k x
theorem me_setd (hu : X.A.units + 1 < cLine) (h : PE X (.Call (.Attribute o "setdefault" apos) [e, f] [] cpos) (tSetdT (tE X.K E mo) (tE X.K E mk) (tE X.K E mx))) : PE X (.Call (.Attribute o "setdefault" apos) [e, f] [] cpos) (tE X.K E (setdM mo mk mx)) := pe_mono h fun σ H Q ⟨s, env, e, r, he, ha⟩ => by
  subst e
  refine tE_bind r he ha fun d s1 x x1 r1 e1 rx q1 => ?_
  replace q1 := q1.bind
  unfold dtO at q1
  split at q1
  · rename_i n
    split at q1
    · rename_i ks vs hn
      obtain ⟨a, ea, rfl⟩ := rx
      obtain ⟨ws, h1, h2, h3⟩ := r1.ob n a _ ea hn
      refine ⟨a, rfl, .inr ⟨_, .inl h1⟩, tE_bind r1 e1 (q1.ret r1) fun k s2 y x2 r2 e2 ry q2 => tE_bind r2 e2 q2 fun z s3 w x3 r3 e3 rw' q3 => ?_⟩
      have ea3 := x3.pre _ _ (x2.pre _ _ ea)
      unfold setdR at q3
      simp only at q3
      split at q3
      · rename_i ks3 vs3 hn3
        split at q3
        · rename_i kk hk
          split at q3
          · rename_i hl
            obtain ⟨ws3, g1, g2, g3⟩ := r3.ob n a _ ea3 hn3
            have hv := val_ok (k := kk) g2 g3
            have rk := ry.ext x3
            cases k with
            | tup kds =>
              obtain ⟨bb, bs, rfl, kb, rs⟩ := rk
              refine ⟨_, kk, bb, g1, rfl, ?_, ?_, fun v hvv => ?_, fun hvn => ?_⟩
              · rw [← keysD_ok rs hk]; exact kb.1
              · rw [List.length_zip, g2, Nat.min_self, g3.length]; exact hl
              · rw [hvv] at hv
                cases qv : valG (ks3.zip vs3) kk with
                | none => rw [qv] at hv; exact hv.elim
                | some z0 =>
                  rw [qv] at hv q3
                  exact fin r3 q3 hv
              · rw [hvn] at hv
                cases qv : valG (ks3.zip vs3) kk with
                | some z0 => rw [qv] at hv; exact hv.elim
                | none =>
                  rw [qv] at q3
                  obtain ⟨us, p1, p2, p3⟩ := put_ok (k := kk) g2 g3 rw'
                  have x := put_ext (u := .dT ((putG ks3 vs3 kk z).1.zip us)) (o' := .dt (putG ks3 vs3 kk z).1 (putG ks3 vs3 kk z).2) r3 ea3 hn3 (by intro z; cases z)
                  have r' := put_rel (u := .dT ((putG ks3 vs3 kk z).1.zip us)) (o' := .dt (putG ks3 vs3 kk z).1 (putG ks3 vs3 kk z).2) r3 ea3 hn3 (by intro z; cases z) ⟨us, upd_same, p2, p3.ext x⟩
                  rw [show putK (ks3.zip ws3) kk w = _ from p1]
                  exact q3.now _ rfl x r' _ (rw'.ext x)
            | _ => cases hk
          · exact q3.elim
        · exact q3.elim
      · exact q3.elim
    · exact q1.elim
  · exact q1.elim
/-! ### a, b = a list -/
def gL (n : Nat) (gs : List Dt → En → Mm En) : Dt → En → Mm En := fun d env h => match lstR h d with
  | some ds => if ds.length = n then gs ds env h else .no
  | none => .no
theorem mg_unl {k : Nat} {gs : List Dt → En → Mm En} {n : Nat} (hc : X.calm = true) (h : PGs X es (tGs X.K E gs))
    (hn : (assignEach es X.env).length = n := by rfl) (hst : (assignEach es X.env).findIdx? (·.1) = none := by rfl) : PG X (.Tuple es k pos) (tG X.K E (gL n gs)) := pg_mono (pg_unl hc h hn hst) fun v σ H Q ⟨s, env, d, e, r, he, rv, ha⟩ => by
  subst e
  unfold gL at ha
  split at ha
  · rename_i ds hd
    split at ha
    · rename_i hl
      obtain ⟨a, vs, rfl, sq, rs⟩ := lstR_ok r rv hd
      exact ⟨a, vs, rfl, sq, by rw [rs.length]; exact hl, s, env, ds, rfl, r, he, rs, ha⟩
    · exact ha.elim
  · exact ha.elim
/-! ### the module's names -/
theorem me_gint {x : Str} {n : Int} (hg : Gl X x) (hm : ∃ t, X.mg x = some (.int n t)) (hd : (x == ("__debug__" : Str)) = false := by decide) : PE X (.Name x pos) (tE X.K E (con (.int n))) := by
  obtain ⟨t, hm⟩ := hm
  exact me_con (t := tC (.int n)) (pe_glob (v := .int n) hg hm ⟨t, rfl⟩ hd) fun _ => rfl
theorem me_gstr {x z : Str} (hg : Gl X x) (hm : ∃ t, X.mg x = some (.str z t)) (hd : (x == ("__debug__" : Str)) = false := by decide) : PE X (.Name x pos) (tE X.K E (con (.str z))) := by
  obtain ⟨t, hm⟩ := hm
  exact me_con (t := tC (.str z)) (pe_glob (v := .str z) hg hm ⟨t, rfl⟩ hd) fun _ => rfl
/-- a written value, by looking -/
def atomV : Dt → Option V
  | .non => some .non
  | .bl b => some (.bl b)
  | .int i => some (.int i)
  | .str x => some (.str x)
  | _ => none
def atomVs : List Dt → Option (List V)
  | [] => some []
  | d :: ds => match atomV d, atomVs ds with
    | some v, some vs => some (v :: vs)
    | _, _ => none
theorem atomV_ok (h : atomV d = some v) : Rep K s d v := by
  cases d with
  | non => cases h; rfl
  | bl => cases h; rfl
  | int => cases h; rfl
  | str => cases h; rfl
  | _ => cases h
theorem atomVs_ok : ∀ {ds : List Dt} {vs : List V}, atomVs ds = some vs → Reps K s ds vs
  | [], vs, h => by cases h; rfl
  | d :: ds, vs, h => by
    simp only [atomVs] at h
    cases q : atomV d with
    | none => rw [q] at h; simp at h
    | some v =>
      cases q2 : atomVs ds with
      | none => rw [q, q2] at h; simp at h
      | some ws =>
        rw [q, q2] at h; cases h
        exact Reps.cons (atomV_ok q) (atomVs_ok q2)
def seenB (K : PySem.W.Frag) (d : Dt) (u : Value) : Bool := match d with
  | .wt ds => match u, atomVs ds with
    | .ref a, some vs => (match K.lookup a with
      | some ⟨.type c, _, .seq its _, _⟩ => decide (c = "tuple") && (decide (its.size ≤ sizeLine) && He.relAll vs its.toList)
      | _ => false)
    | _, _ => false
  | d => match atomV d with
    | some v => He.relB v u
    | none => false
theorem seenB_ok {u : Value} (h : seenB K d u = true) : ∃ v, RelV v u ∧ ∀ s, Rep K s d v := by
  have flat : (match atomV d with | some v => He.relB v u | none => false) = true → ∃ v, RelV v u ∧ ∀ s, Rep K s d v := by
    intro h
    cases q : atomV d with
    | none => rw [q] at h; cases h
    | some v =>
      rw [q] at h
      exact ⟨v, He.relB_ok h, fun s => atomV_ok q⟩
  cases d with
  | wt ds =>
    cases u with
    | ref a =>
      simp only [seenB] at h
      cases q : atomVs ds with
      | none => rw [q] at h; cases h
      | some vs =>
        rw [q] at h
        simp only at h
        cases q2 : K.lookup a with
        | none => rw [q2] at h; cases h
        | some o =>
          obtain ⟨oc, od, dt, osl⟩ := o
          rw [q2] at h
          cases oc with
          | type c =>
            cases dt with
            | seq its n =>
              obtain ⟨h1, h2⟩ := He.ba h
              obtain ⟨h3, h4⟩ := He.ba h2
              refine ⟨.ref a, rfl, fun s => ⟨a, vs, rfl, ?_, atomVs_ok q⟩⟩
              exact .inr ⟨_, its, n, q2, congrArg Value.type (of_decide_eq_true h1), rfl, of_decide_eq_true h3, He.relAll_ok h4⟩
            | _ => cases h
          | _ => cases dt <;> cases h
    | _ => simp [seenB] at h
  | _ => exact flat h
/-- a written dict with text keys: what it holds at some texts, or that it holds nothing there -/
abbrev Tb : Type := List (Str × Option Dt)
def tabB (K : PySem.W.Frag) (a : Addr) (tb : Tb) : Bool := tb.all fun q => match q.2, PySem.W.nsIn K a q.1 with
  | some d, some (some u) => seenB K d u
  | none, some none => true
  | _, _ => false
structure KTab (K : PySem.W.Frag) (w : World) (a : Addr) (tb : Tb) : Prop where
  kd : ∃ es n, KDict K w a es n
  tb : tabB K a tb = true
theorem lookup_mem {α β : Type} [BEq α] [LawfulBEq α] {x : α} {y : β} : ∀ {l : List (α × β)}, l.lookup x = some y → (x, y) ∈ l
  | [], h => by cases h
  | (a, b) :: l, h => by
    rw [List.lookup_cons] at h
    cases q : x == a with
    | true =>
      rw [q] at h; cases h
      rw [eq_of_beq q]; exact List.mem_cons_self
    | false =>
      rw [q] at h
      exact List.mem_cons_of_mem _ (lookup_mem h)
theorem KTab.hit {w : World} {p : Addr} {tb : Tb} {z : Str} (k : KTab K w p tb) (h : tb.lookup z = some (some d)) : ∃ u v, PySem.W.nsIn K p z = some (some u) ∧ RelV v u ∧ ∀ s, Rep K s d v := by
  have h1 := List.all_eq_true.mp k.tb _ (lookup_mem h)
  simp only at h1
  cases q : PySem.W.nsIn K p z with
  | none => rw [q] at h1; cases h1
  | some r =>
    rw [q] at h1
    cases r with
    | none => cases h1
    | some u =>
      obtain ⟨v, r1, r2⟩ := seenB_ok h1
      exact ⟨u, v, rfl, r1, r2⟩
theorem KTab.miss {w : World} {p : Addr} {tb : Tb} {z : Str} (k : KTab K w p tb) (h : tb.lookup z = some none) : PySem.W.nsIn K p z = some none := by
  have h1 := List.all_eq_true.mp k.tb _ (lookup_mem h)
  simp only at h1
  cases q : PySem.W.nsIn K p z with
  | none => rw [q] at h1; cases h1
  | some r =>
    rw [q] at h1
    cases r with
    | none => rfl
    | some u => cases h1
def kix (tb : Tb) (mb : En → Mm Dt) : En → Mm Dt := fun env => mb env >>= fun d => match d with
  | .str z => (match tb.lookup z with
    | some (some y) => Mm.pure y
    | _ => Mm.no)
  | _ => Mm.no
theorem me_kix {x : Str} {q : Addr} {tb : Tb} (kt : KTab X.K X.w q tb) (hg : Gl X x) (hm : X.mg x = some (.ref q)) (hb : PE X b (tE X.K E mb)) (hs : PlainIx b) (hd : (x == ("__debug__" : Str)) = false := by decide) :
    PE X (.Subscript (.Name x p1) b pos) (tE X.K E (kix tb mb)) := by
  obtain ⟨es, n, D⟩ := kt.kd
  refine pe_mono (pe_ix ix_kdict (pe_glob hg hm (v := .ref q) rfl hd) hb hs) fun σ H Q ⟨s, env, e, r, he, ha⟩ => ?_
  subst e
  unfold tOp tC
  refine tE_bind r he ha fun d s1 x x1 r1 e1 rx q1 => ?_
  cases d with
  | str z =>
    cases rx
    simp only at q1
    cases ql : tb.lookup z with
    | none => rw [ql] at q1; exact q1.elim
    | some o =>
      rw [ql] at q1
      cases o with
      | none => exact q1.elim
      | some y =>
        obtain ⟨u, v, h1, h2, h3⟩ := kt.hit ql
        exact ⟨_, z, v, rfl, rfl, ⟨es, n, u, D.at_, D.lit, h1, h2⟩, q1.ret r1 v (h3 s1)⟩
  | _ => exact q1.elim
def tKGet (X : Cx) (q : Addr) (ty tx : TE) : TE := fun σ H Q => ty σ H fun y H2 => tx σ H2 fun z H3 => ∃ (k : Str) (r : Option Value), y = .str k ∧ PySem.W.nsIn X.K q k = some r ∧ (r = none → Q z H3) ∧ (∀ u, r = some u → ∃ v, RelV v u ∧ Q v H3)
theorem pe_kget {x : Str} {q : Addr} {des : Array DictEntry} {n : Nat} (D : KDict X.K X.w q des n) (hg : Gl X x) (hm : X.mg x = some (.ref q)) (he : PE X e ty) (hf : PE X f tx) (m : M2 X (.Name x p1) "get" apos e f cpos) (hd : (x == ("__debug__" : Str)) = false := by decide) :
    PE X (.Call (.Attribute (.Name x p1) "get" apos) [e, f] [] cpos) (tKGet X q ty tx) := by
  have ho : PE X (.Name x p1) (tC (.ref q)) := pe_glob hg hm (v := .ref q) rfl hd
  refine ⟨fun pins s σ H Q I h => ?_⟩
  refine wpAny_Call_method m.base m.few m.line PySem.F.plainAttrs_dict PySem.F.slot_dict_get PySem.F.type_dict_get (thn (ho.run pins s σ H (fun x H1 => x = .ref q ∧ H1 = H) I ⟨rfl, rfl⟩) fun u s1 ⟨x, H1, I1, rx, ex, eH⟩ => ?_)
  subst ex eH
  obtain rfl : u = Value.ref q := rx
  have mp := PySem.W.mapOf_K (prog := X.prog) (w := X.w) I1.kIn D.at_ D.lit
  refine ⟨mp.typeIs, mp.noDict, ?_⟩
  rw [m.trees]
  refine Calls.callWith_builtin rfl (Calls.evalArgs_plain (Calls.spliced_cons (thn (he.run pins s1 σ H1 _ I1 h) fun iv s2 ⟨y, H2, I2, ry, q2⟩ =>
    Calls.spliced_cons (thn (hf.run pins s2 σ H2 _ I2 q2) fun fv s3 ⟨z, H3, I3, rz, k, ro, ey, en, q3, q4⟩ => Calls.spliced_nil ?_))))
  subst ey
  obtain ⟨t, rfl⟩ := (show ∃ t, iv = Value.str k t from ry)
  have mp3 := PySem.W.mapOf_K (prog := X.prog) (w := X.w) I3.kIn D.at_ D.lit
  refine call_meetsIn PySem.F.slot_dict_get mp3.typeIs PySem.F.entry_dict_get (PySem.F.args_dict_get_3 _ _ _) (meets_dict_get_default (strKind X.prog X.w) q (strKind_is X.prog X.w k t) D.low fv) ⟨_, mp3, ?_⟩
  rw [PySem.W.find_K D.at_ en]
  cases ro with
  | none => exact ⟨z, H3, I3.tok _, rz, q3 rfl⟩
  | some u =>
    obtain ⟨v, rv, qv⟩ := q4 u rfl
    exact ⟨v, H3, I3.tok _, rv, qv⟩
def kget (tb : Tb) (mk mx : En → Mm Dt) : En → Mm Dt := fun env => mk env >>= fun k => mx env >>= fun y => match k with
  | .str z => (match tb.lookup z with
    | some (some d) => Mm.pure d
    | some none => Mm.pure y
    | none => Mm.no)
  | _ => Mm.no
theorem me_kget {x : Str} {q : Addr} {tb : Tb} (kt : KTab X.K X.w q tb) (hg : Gl X x) (hm : X.mg x = some (.ref q)) (he : PE X e (tE X.K E mk)) (hf : PE X f (tE X.K E mx)) (m : M2 X (.Name x p1) "get" apos e f cpos) (hd : (x == ("__debug__" : Str)) = false := by decide) :
    PE X (.Call (.Attribute (.Name x p1) "get" apos) [e, f] [] cpos) (tE X.K E (kget tb mk mx)) := by
  obtain ⟨des, n, D⟩ := kt.kd
  refine pe_mono (pe_kget D hg hm he hf m hd) fun σ H Q ⟨s, env, e, r, he, ha⟩ => ?_
  subst e
  refine tE_bind r he ha fun k s1 x x1 r1 e1 rx q1 => tE_bind r1 e1 q1 fun y s2 zv x2 r2 e2 ry q2 => ?_
  cases k with
  | str z =>
    cases rx
    simp only at q2
    cases ql : tb.lookup z with
    | none => rw [ql] at q2; exact q2.elim
    | some o =>
      rw [ql] at q2
      cases o with
      | none => exact ⟨z, none, rfl, kt.miss ql, fun _ => q2.ret r2 _ ry, fun u hu => by cases hu⟩
      | some d =>
        obtain ⟨u, v, h1, h2, h3⟩ := kt.hit ql
        refine ⟨z, some u, rfl, h1, ⟨(fun hu => nomatch hu), fun u' hu => ?_⟩⟩
        cases hu
        exact ⟨v, h2, q2.ret r2 v (h3 s2)⟩
  | _ => exact q2.elim
end
/-! ### what is never reached -/
section
variable {X : Cx} {E : XK} {e : Expr} {st : Stmt}
def noE : En → Mm Dt := fun _ => Mm.no
def noS : En → Mm Fl := fun _ => Mm.no
theorem me_never : PE X e (tE X.K E noE) := ⟨fun pins s σ H Q I ⟨_, _, _, _, _, ha⟩ => ha.elim⟩
theorem mss_never {l : List Stmt} : PSs X l (tS X.K E noS) := ⟨fun pins s σ H Q I ⟨_, _, _, _, _, ha⟩ => ha.elim⟩
end
/-! ### the hook: facts, defs, tables, looks of one's own -/
section
open He
abbrev AlM : Type := AlT × Bool
def obsM (fa : List Fa) (fn : List DefD) (ts : List Tab) (b : PySem.W.Frag → Bool) (K : PySem.W.Frag) : AlM := (obsT fa fn ts K, b K)
def valM (fn : List DefD) (ts : List Tab) (w : World) : AlM := (valT fn ts w, true)
def obsMG (n : Nat) (fa : List Fa) (fn : List DefD) (ts : List Tab) (b : PySem.W.Frag → Bool) (g : Addr → Option Obj) : AlM := obsM fa fn ts b (frG g (asD g n))
def SaysM (fa : List Fa) (fn : List DefD) (ts : List Tab) (b : PySem.W.Frag → Bool) (w : World) (K : PySem.W.Frag) : Prop := obsM fa fn ts b K = valM fn ts w
def hookM (n : Nat) (fa : List Fa) (fn : List DefD) (ts : List Tab) (b : PySem.W.Frag → Bool) : PySem.W.Hook where
  α := AlM
  obs := fun s => obsMG n fa fn ts b s.heap.get?
  val := fun w => valM fn ts w
  says := fun w h => ∃ K : PySem.W.Frag, K.In h ∧ SaysM fa fn ts b w K
  of := fun _ _ e => ⟨_, frG_in, e⟩
  keeps := fun _ _ _ ⟨K, hK, c⟩ k => ⟨K, PySem.W.Frag.In.keeps hK k, c⟩
theorem obsMG_eq {n : Nat} {fa : List Fa} {fn : List DefD} {ts : List Tab} {b : PySem.W.Frag → Bool} {g : Addr → Option Obj} {s : Shared} (h : ∀ a, g a = s.heap.get? a) : obsMG n fa fn ts b g = (hookM n fa fn ts b).obs s := by
  have e : g = s.heap.get? := funext h
  rw [e] <;> rfl
theorem SaysM.t {fa : List Fa} {fn : List DefD} {ts : List Tab} {b : PySem.W.Frag → Bool} {w : World} {K : PySem.W.Frag} (c : SaysM fa fn ts b w K) : SaysT fa fn ts w K := congrArg (fun z : AlM => z.1) c
theorem SaysM.b {fa : List Fa} {fn : List DefD} {ts : List Tab} {b : PySem.W.Frag → Bool} {w : World} {K : PySem.W.Frag} (c : SaysM fa fn ts b w K) : b K = true := congrArg (fun z : AlM => z.2) c
end
end Mo
set_option Elab.async false
set_option linter.all false
set_option maxRecDepth 100000
set_option maxHeartbeats 4000000
/-! MoF: texts turned round, enumerate and zip of texts, a, b, c = x, y, z. -/
namespace Mo
open PySem L2 PySem.Spec PyProof.Rows
/-! ### a text's iterator -/
abbrev SI (it : Addr) (x : Str) (t : Tok) (i : Nat) (h : Heap) : Prop := h.IsStrIter it (strIterType x) x t i
theorem drawS {prog : Program} {w : World} {A : Around} (hh : A.handled = none) (it : Addr) (x : Str) (t : Tok) :
    Draws prog w A it [it] x.cps.size (fun i v => ∃ c u, x.cps[i]? = some c ∧ v = .str ⟨#[c]⟩ u) (fun i h => SI it x t i h) := by
  cases ha : x.cps.all (· < 128) with
  | true =>
    have e : strIterType x = "str_ascii_iterator" := by simp only [strIterType, ha, if_true]
    rw [show (fun i h => SI it x t i h) = fun i h => h.IsStrIter it "str_ascii_iterator" x t i by funext i h; rw [← e]]
    exact Draws.strAscii hh it x t
  | false =>
    have e : strIterType x = "str_iterator" := by simp [strIterType, ha]
    rw [show (fun i h => SI it x t i h) = fun i h => h.IsStrIter it "str_iterator" x t i by funext i h; rw [← e]]
    exact Draws.strWide hh it x t
theorem SI.at {it : Addr} {x : Str} {t : Tok} {i : Nat} {h h' : Heap} (st : SI it x t i h) (k : ∀ o, h.get? it = some o → h'.get? it = some o) : SI it x t i h' := let ⟨o, ho, r⟩ := st; ⟨o, k o ho, r⟩
theorem SI.lt {it : Addr} {x : Str} {t : Tok} {i : Nat} {h : Heap} (st : SI it x t i h) : it < h.objs.size := let ⟨_, ho, _⟩ := st; Heap.lt_size ho
/-! ### enumerate(text) -/
/-- pairs of what f, g tell, n of them -/
def Itp (n : Nat) (f g : Nat → Option V) : It := ⟨fun i _ => i < n, fun i H v H' => YPair f g i H v H', fun i _ => n ≤ i⟩
theorem walk_p {n : Nat} {f g : Nat → Option V} : Walk (Itp n f g) n (fun _ => True) (YPair f g) := ⟨fun _ _ hi _ => hi, fun _ _ => Nat.le_refl _, fun _ _ _ _ _ _ y => y⟩
def sgV (x : Str) (i : Nat) : Option V := x.cps[i]?.map fun c => .str ⟨#[c]⟩
theorem turn_enumS {P : Program} {w : World} {K : PySem.W.Frag} {elts : List Expr} {kk : Nat} {tpos : Pos} (x : Str) (t : Tok) (e it : Addr) (hne : e ≠ it) :
    Turn P w K (.Tuple elts kk tpos) (Itp x.cps.size (fun i => some (.int (i : Nat))) (sgV x)) [e, it] e (fun i h => (∃ old, IsEnum h e it ((i : Nat) : Int) old) ∧ SI it x t i h ∧ i ≤ x.cps.size) where
  mem := by simp
  obj := fun i h st b hb => by
    obtain ⟨⟨old, he⟩, ⟨o, ho, hc, hd⟩, _⟩ := st
    rcases List.mem_cons.mp hb with z | z
    · rw [z]; exact ⟨_, he, fun v q => nomatch q⟩
    · rw [List.mem_singleton.mp z]; exact ⟨o, ho, fun v q => by rw [hd] at q; cases q⟩
  keep := fun i h h' st k => let ⟨⟨old, he⟩, hi, hl⟩ := st; ⟨⟨old, k e (by simp) _ he⟩, hi.at fun o q => k it (by simp) o q, hl⟩
  item := fun X hP hw hK hc i pins s σ H E I hf st hg => by
    subst hP hw hK
    obtain ⟨⟨old, he⟩, hit, _⟩ := st
    have hg : i < x.cps.size := hg
    have hel : e < s.heap.objs.size := Heap.lt_size he
    refine wpAny_pyNext_enum_itemD (drawS (show X.A.in1.handled = none from I.ok.hd hc) it x t) he hit hg hne (by simp [hne]) fun y h' tk hP ho hit' hT hsz hk => ?_
    obtain ⟨c, u, hx, rfl⟩ := hP
    refine ⟨_, rfl, wpAny_letOwnedTupleGo_enum (s := { s with heap := h', toks := tk + 1 }) ho fun h'' he' sb => ?_⟩
    have hT2 : h''.get? s.heap.objs.size = some { cls := .type "tuple", data := .seq #[.int i tk, .str ⟨#[c]⟩ u] } := (sb.2 _ (Nat.ne_of_gt hel)).trans hT
    have new : ObjOk X.prog X.w (upd H s.heap.objs.size (.tup [.int (i : Nat), .str ⟨#[c]⟩])) h'' s.heap.objs.size (.tup [.int (i : Nat), .str ⟨#[c]⟩]) :=
      ⟨by show 2 ≤ sizeLine; decide, [.int i tk, .str ⟨#[c]⟩ u], .cons ⟨_, rfl⟩ (.cons ⟨_, rfl⟩ .nil), ⟨_, hT2, rfl, _, rfl⟩⟩
    have I1 : Inv X pins σ (upd H s.heap.objs.size (.tup [.int (i : Nat), .str ⟨#[c]⟩])) { s with heap := h'', toks := tk + 1 } :=
      I.turnedNew (ch := [e, it]) (fun b ob hb q => (sb.2 b (fun z => hb (by simp [z]))).trans (hk b ob (fun z => hb (by simp [z])) (fun z => hb (by simp [z])) q)) hf (Nat.le_refl _) new
    refine ⟨.ref s.heap.objs.size, _, I1, rfl, ⟨s.heap.objs.size, .int (i : Nat), .str ⟨#[c]⟩, rfl, I.hok.fresh (Nat.le_refl _), rfl, rfl, by simp [sgV, hx]⟩, ⟨⟨.str ⟨#[c]⟩ u, ?_⟩, SI.at hit' fun o q => (sb.2 it (Ne.symm hne)).trans q, hg⟩, fun b hb => ?_⟩
    · have e1 : ((i + 1 : Nat) : Int) = (i : Int) + 1 := by omega
      rw [e1]; exact he'
    · have hb' : b < s.heap.objs.size := by
        rcases List.mem_cons.mp hb with z | z
        · rw [z]; exact hel
        · rw [List.mem_singleton.mp z]; exact hit.lt
      rw [upd_ne (Nat.ne_of_lt hb')]
      exact (hf b hb).1
  done := fun X hP hw hK hc i pins s σ H E I hf st hg => by
    subst hP hw hK
    obtain ⟨⟨old, he⟩, hit, hl⟩ := st
    obtain rfl : i = x.cps.size := Nat.le_antisymm hl hg
    obtain ⟨f0, f1, f2, f3, f4, f5⟩ := hf it (by simp)
    exact wpAny_pyNext_enum_endD (drawS (show X.A.in1.handled = none from I.ok.hd hc) it x t) he hit fun h' eb => ⟨rfl, I.turned (t' := s.toks) (fun b o hb q => eb b o hb q) f0 f1 f3 f4 f5⟩
  self := fun A i s Q E st h => let ⟨⟨_, he⟩, _⟩ := st; wpAny_pyIter_enum he h
def iEnumS (ta : TA) : TI := fun σ H R => ta σ H fun vs H1 => ∃ x, vs = [.str x] ∧ R (Itp x.cps.size (fun i => some (.int (i : Nat))) (sgV x)) H1
theorem pi_enumS {X : Cx} {e : Expr} {ta : TA} {p pos tpos : Pos} {elts : List Expr} {kk : Nat} (hg : Gl X "enumerate") (hm : X.mg "enumerate" = none) (ha : PA X [e] ta) (hs : starEach [e] X.env = [(false, eval e X.env)] := by rfl) :
    PI X (.Tuple elts kk tpos) (.Call (.Name "enumerate" p) [e] [] pos) (iEnumS ta) := by
  refine ⟨fun pins s σ H R I h => ?_⟩
  refine Call_ (ld_blt I hg hm boot_enumerate (PyProof.Rows.callWith_type1 (thn (ha.run pos pins s σ H _ I h) fun us s1 ⟨vs, H1, I1, r1, q1⟩ => ?_) hs rfl))
  obtain ⟨x, ex, q⟩ := q1
  subst ex
  obtain ⟨u, rfl, t, rfl⟩ := vals1 r1
  refine call_enumerate_str fun h' he hit hsz hk => wpAny_pyIter_enum he ?_
  refine ⟨s1.heap.objs.size + 1, [s1.heap.objs.size + 1, s1.heap.objs.size], _, _, H1, rfl, I1.kept (t' := s1.toks) hk, turn_enumS x t (s1.heap.objs.size + 1) s1.heap.objs.size (Nat.succ_ne_self _), ⟨⟨.none, he⟩, hit, Nat.zero_le _⟩, fun b hb => ?_, q⟩
  have hle : s1.heap.objs.size ≤ b := by
    rcases List.mem_cons.mp hb with z | z
    · rw [z]; exact Nat.le_add_right _ _
    · rw [List.mem_singleton.mp z]; exact Nat.le_refl _
  exact I1.fpOk hle (I1.hok.fresh hle)
/-! ### zip(text, text) -/
abbrev siO (x : Str) (t : Tok) : Obj := { cls := .type (strIterType x), data := .fields #[.str x t, .int 0 0] }
abbrev zs2 (h : Heap) (x y : Str) (t u : Tok) : Heap := (h.push (siO x t)).push (siO y u)
abbrev zs5 (h : Heap) (x y : Str) (t u : Tok) : Heap := (((zs2 h x y t u).push { cls := .type "tuple", data := .seq #[.ref h.objs.size, .ref (h.push (siO x t)).objs.size] }).push { cls := .type "tuple", data := .seq #[.none, .none] }).push
  { cls := .type "zip", data := .fields #[.none, .bool false, .bool false, .ref (zs2 h x y t u).objs.size, .ref ((zs2 h x y t u).push { cls := .type "tuple", data := .seq #[.ref h.objs.size, .ref (h.push (siO x t)).objs.size] }).objs.size] }
theorem meets_zipS (x y : Str) (t u : Tok) :
    Meets (Builtin.«zip.__new__» ⟨[.type "zip", .str x t, .str y u], []⟩) (fun _ R s =>
      R (.ok (.ret (.ref (((zs2 s.heap x y t u).push { cls := .type "tuple", data := .seq #[.ref s.heap.objs.size, .ref (s.heap.push (siO x t)).objs.size] }).push { cls := .type "tuple", data := .seq #[.none, .none] }).objs.size))) { s with heap := zs5 s.heap x y t u }) :=
  .of_wp fun prog w A R s h => by
    obtain ⟨hp, g, d, tk, os⟩ := s
    have hsub := sub_zip
    wp_walk using wpAny_pyIter_strU
    exact ⟨_, rfl, h⟩
section
variable {prog : Program} {w : World} {A : Around} {E : Value → Shared → Prop} {s : Shared} {x y : Str} {t u : Tok}
theorem call_zipS {Q : Value → Shared → Prop} (h : ∀ h', IsZip h' (s.heap.objs.size + 4) (s.heap.objs.size + 2) (s.heap.objs.size + 3) .none → IsPair h' (s.heap.objs.size + 2) (.ref s.heap.objs.size) (.ref (s.heap.objs.size + 1)) →
      IsPair h' (s.heap.objs.size + 3) .none .none → SI s.heap.objs.size x t 0 h' → SI (s.heap.objs.size + 1) y u 0 h' →
      (∀ c o, s.heap.get? c = some o → h'.get? c = some o) → Q (.ref (s.heap.objs.size + 4)) { s with heap := h' }) :
    wpAny (model prog w) A (call (.type "zip") [.str x t, .str y u]) Q E s := by
  refine callType_new F.called_zip (by decide) (F.typeCall_zip_2 _ _) (F.newCall_zip_2 _ _) (fun obj => F.args_object_init_3 obj _ _) F.entry_zip_new (meets_zipS x y t u) ?_
  have z1 : (s.heap.push (siO x t)).objs.size = s.heap.objs.size + 1 := Heap.size_push ..
  have z2 : (zs2 s.heap x y t u).objs.size = s.heap.objs.size + 2 := by rw [Heap.size_push, z1]
  have z3 : ((zs2 s.heap x y t u).push { cls := .type "tuple", data := .seq #[.ref s.heap.objs.size, .ref (s.heap.push (siO x t)).objs.size] }).objs.size = s.heap.objs.size + 3 := by rw [Heap.size_push, z2]
  have z4 : (((zs2 s.heap x y t u).push { cls := .type "tuple", data := .seq #[.ref s.heap.objs.size, .ref (s.heap.push (siO x t)).objs.size] }).push { cls := .type "tuple", data := .seq #[.none, .none] }).objs.size = s.heap.objs.size + 4 := by rw [Heap.size_push, z3]
  have g5 : (zs5 s.heap x y t u).get? (((zs2 s.heap x y t u).push { cls := .type "tuple", data := .seq #[.ref s.heap.objs.size, .ref (s.heap.push (siO x t)).objs.size] }).push { cls := .type "tuple", data := .seq #[.none, .none] }).objs.size = some _ := Heap.get?_push_size _ rfl
  have g4 : (zs5 s.heap x y t u).get? ((zs2 s.heap x y t u).push { cls := .type "tuple", data := .seq #[.ref s.heap.objs.size, .ref (s.heap.push (siO x t)).objs.size] }).objs.size = some _ := Heap.get?_push_of_some _ (Heap.get?_push_size _ rfl)
  have g3 : (zs5 s.heap x y t u).get? (zs2 s.heap x y t u).objs.size = some _ := Heap.get?_push_of_some _ (Heap.get?_push_of_some _ (Heap.get?_push_size _ rfl))
  have g2 : (zs5 s.heap x y t u).get? (s.heap.push (siO x t)).objs.size = some _ := Heap.get?_push_of_some _ (Heap.get?_push_of_some _ (Heap.get?_push_of_some _ (Heap.get?_push_size _ rfl)))
  have g1 : (zs5 s.heap x y t u).get? s.heap.objs.size = some _ := Heap.get?_push_of_some _ (Heap.get?_push_of_some _ (Heap.get?_push_of_some _ (Heap.get?_push_of_some _ (Heap.get?_push_size _ rfl))))
  show _ ∧ _
  rw [z2, z3, z4] at g5
  rw [z1, z2] at g3
  rw [z3] at g4
  rw [z1] at g2
  rw [z4]
  exact ⟨⟨_, g5, rfl⟩, h _ g5 g3 g4 ⟨_, g1, rfl, rfl⟩ ⟨_, g2, rfl, rfl⟩ fun c o e => Heap.get?_push_of_some _ (Heap.get?_push_of_some _ (Heap.get?_push_of_some _ (Heap.get?_push_of_some _ (Heap.get?_push_of_some _ e))))⟩
end
end Mo
set_option Elab.async false
set_option linter.all false
set_option maxRecDepth 100000
set_option maxHeartbeats 4000000
/-! MoG: the turns of zip(text, text). -/
namespace Mo
open PySem L2 PySem.Spec PyProof.Rows
structure Apart (z TI TO i1 i2 : Addr) : Prop where
  a : TI ≠ z
  b : TO ≠ z
  c : i1 ≠ z
  d : i2 ≠ z
  e : TI ≠ TO
  f : TI ≠ i1
  g : TI ≠ i2
  h : TO ≠ i1
  i : TO ≠ i2
  j : i1 ≠ i2
section
variable {prog : Program} {w : World} {A : Around} {E : Value → Shared → Prop} {s : Shared} {x y : Str} {t u : Tok} {z TI TO i1 i2 : Addr} {k : Nat} {a b : Value}
theorem zipS_item {c1 c2 : Nat} {Q : Value → Shared → Prop} (hh : A.handled = none) (D : Apart z TI TO i1 i2) (hz : IsZip s.heap z TI TO .none) (hTI : IsPair s.heap TI (.ref i1) (.ref i2)) (hTO : IsPair s.heap TO a b)
    (h1 : SI i1 x t k s.heap) (h2 : SI i2 y u k s.heap) (hx : x.cps[k]? = some c1) (hy : y.cps[k]? = some c2)
    (hQ : ∀ h' t1 t2 tk, IsZip h' z TI TO (rawInt s.heap.objs.size) → IsPair h' TI (.ref i1) (.ref i2) → IsPair h' TO (.str ⟨#[c1]⟩ t1) (.str ⟨#[c2]⟩ t2) → SI i1 x t (k + 1) h' → SI i2 y u (k + 1) h' → IsPair h' s.heap.objs.size (.str ⟨#[c1]⟩ t1) (.str ⟨#[c2]⟩ t2) →
      (∀ c o, c ≠ z → c ≠ TO → c ≠ i1 → c ≠ i2 → s.heap.get? c = some o → h'.get? c = some o) → Q (.ref s.heap.objs.size) { s with heap := h', toks := tk }) :
    wpAny (model prog w) A (Builtin.«zip.__next__» ⟨[.ref z], []⟩) (fun fin s' => ∃ v, fin = .done (.ret v) ∧ Q v s') E s := by
  have lx : k < x.cps.size := by
    obtain ⟨q, _⟩ := Array.getElem?_eq_some_iff.mp hx
    exact q
  have ly : k < y.cps.size := by
    obtain ⟨q, _⟩ := Array.getElem?_eq_some_iff.mp hy
    exact q
  show wpAny _ _ (field (.ref z) 2 >>= _) _ _ _
  refine wpAny_bind (wpAny_field hz rfl (x := .bool false) rfl ?_)
  show wpAny _ _ (field (.ref z) 3 >>= _) _ _ _
  refine wpAny_bind (wpAny_field hz rfl (x := .ref TI) rfl (wpAny_bind (wpAny_seqItems hTI rfl ?_)))
  show wpAny _ _ (Builtin.SmallTypes.ownedTupleIsFree (.ref z) >>= _) _ _ _
  unfold Builtin.SmallTypes.ownedTupleIsFree
  refine wpAny_bind (wpAny_bind (wpAny_field hz rfl (x := .none) rfl (wpAny_pure ?_)))
  simp only [if_true]
  refine wpAny_bind (wpAny_rule (wpAny_bind (wpAny_field hz rfl (x := .ref TO) rfl (wpAny_bind (wpAny_setField_rec hz (by simp) fun p1 z1 s1 => ?_)))))
  replace z1 : IsZip p1 z TI TO .ellipsis := z1
  refine wpAny_bind ?_
  simp only [List.zipIdx_cons, List.zipIdx_nil, List.forIn_cons, List.forIn_nil]
  refine wpAny_bind (wpAny_bind (wpAny_onRaise ?_))
  show wpAny _ _ (Builtin.SmallTypes.nextOf (.ref i1) >>= _) _ _ _
  refine wpAny_bind ((drawS (A := A.in1) hh i1 x t).of_in1.item k _ _ _ lx (h1.extBut s1.extBut D.c) fun v1 p2 tk2 ⟨c, t1, e1, e2⟩ h12 s2 => wpAny_pure ?_)
  rw [hx] at e1
  cases e1
  subst e2
  have o2 : IsPair p2 TO a b := s2.extBut _ _ D.h (s1.extBut _ _ D.b hTO)
  refine wpAny_bind (wpAny_seqItems (s := { heap := p2, gens := s.gens, drawn := s.drawn, toks := tk2, os := s.os }) o2 rfl ?_)
  refine wpAny_bind (wpAny_updateSeq_pair (s := { heap := p2, gens := s.gens, drawn := s.drawn, toks := tk2, os := s.os }) o2 fun p3 o3 s3 => ?_)
  replace o3 : IsPair p3 TO (.str ⟨#[c1]⟩ t1) b := o3
  refine wpAny_bind (wpAny_letGo (wpAny_pure ?_))
  refine wpAny_bind (wpAny_bind (wpAny_onRaise ?_))
  show wpAny _ _ (Builtin.SmallTypes.nextOf (.ref i2) >>= _) _ _ _
  refine wpAny_bind ((drawS (A := A.in1) hh i2 y u).of_in1.item k _ _ _ ly (((h2.extBut s1.extBut D.d).extBut s2.extBut D.j.symm).extBut s3.extBut D.i.symm) fun v2 p4 tk4 ⟨c, t2, e1, e2⟩ h24 s4 => wpAny_pure ?_)
  rw [hy] at e1
  cases e1
  subst e2
  have o4 : IsPair p4 TO (.str ⟨#[c1]⟩ t1) b := s4.extBut _ _ D.i o3
  refine wpAny_bind (wpAny_seqItems (s := { heap := p4, gens := s.gens, drawn := s.drawn, toks := tk4, os := s.os }) o4 rfl ?_)
  refine wpAny_bind (wpAny_updateSeq_pair (s := { heap := p4, gens := s.gens, drawn := s.drawn, toks := tk4, os := s.os }) o4 fun p5 o5 s5 => ?_)
  replace o5 : IsPair p5 TO (.str ⟨#[c1]⟩ t1) (.str ⟨#[c2]⟩ t2) := o5
  refine wpAny_bind (wpAny_letGo (wpAny_pure (wpAny_pure ?_)))
  refine wpAny_bind (wpAny_seqItems (s := { heap := p5, gens := s.gens, drawn := s.drawn, toks := tk4, os := s.os }) o5 rfl (wpAny_bind (wpAny_newTuple ?_)))
  have hsz : p5.objs.size = s.heap.objs.size := by rw [s5.1, s4.1, s3.1, s2.1, s1.1]
  have z5 : IsZip p5 z TI TO .ellipsis := s5.extBut _ _ D.b.symm (s4.extBut _ _ D.d.symm (s3.extBut _ _ D.b.symm (s2.extBut _ _ D.c.symm z1)))
  have kp : ∀ c o, c ≠ z → c ≠ TO → c ≠ i1 → c ≠ i2 → s.heap.get? c = some o → p5.get? c = some o := fun c o q1 q2 q3 q4 e =>
    s5.extBut _ _ q2 (s4.extBut _ _ q4 (s3.extBut _ _ q2 (s2.extBut _ _ q3 (s1.extBut _ _ q1 e))))
  have h15 : SI i1 x t (k + 1) p5 := ((Heap.IsStrIter.extBut h12 s3.extBut D.h.symm).extBut s4.extBut D.j).extBut s5.extBut D.h.symm
  have h25 : SI i2 y u (k + 1) p5 := Heap.IsStrIter.extBut h24 s5.extBut D.i.symm
  have zl : z < p5.objs.size := Heap.lt_size z5
  show wpAny _ _ (Builtin.SmallTypes.ownedTupleHandOut (.ref z) (.ref p5.objs.size) >>= _) _ _ _
  unfold Builtin.SmallTypes.ownedTupleHandOut
  have z6 : IsZip (p5.push { cls := .type "tuple", data := .seq #[.str ⟨#[c1]⟩ t1, .str ⟨#[c2]⟩ t2] }) z TI TO .ellipsis := Heap.get?_push_of_some _ z5
  refine wpAny_bind (wpAny_bind (wpAny_setField_rec z6 (by simp) fun p7 z7 s7 => ?_))
  replace z7 : IsZip p7 z TI TO (rawInt p5.objs.size) := z7
  refine wpAny_setField_rec (s := { heap := p7, gens := s.gens, drawn := s.drawn, toks := tk4, os := s.os }) z7 (by simp) fun p8 z8 s8 => ?_
  replace z8 : IsZip p8 z TI TO (rawInt p5.objs.size) := z8
  have up : ∀ c o, c ≠ z → p5.get? c = some o → p8.get? c = some o := fun c o q e => s8.extBut _ _ q (s7.extBut _ _ q (Heap.get?_push_of_some _ e))
  have T8 : IsPair p8 p5.objs.size (.str ⟨#[c1]⟩ t1) (.str ⟨#[c2]⟩ t2) := s8.extBut _ _ (Nat.ne_of_gt zl) (s7.extBut _ _ (Nat.ne_of_gt zl) (Heap.get?_push_size _ rfl))
  rw [hsz] at z8 T8
  refine wpAny_pure ⟨_, rfl, ?_⟩
  show Q (.ref p5.objs.size) _
  rw [hsz]
  exact hQ p8 t1 t2 tk4 z8 (up _ _ D.a (kp _ _ D.a D.e D.f D.g hTI)) (up _ _ D.b o5) (SI.at h15 fun o e => up _ o D.c e) (SI.at h25 fun o e => up _ o D.d e) T8 fun c o q1 q2 q3 q4 e => up c o q1 (kp c o q1 q2 q3 q4 e)
theorem zipS_end {Q : Fin → Shared → Prop} (hh : A.handled = none) (D : Apart z TI TO i1 i2) (hz : IsZip s.heap z TI TO .none) (hTI : IsPair s.heap TI (.ref i1) (.ref i2)) (hTO : IsPair s.heap TO a b)
    (h1 : SI i1 x t k s.heap) (h2 : SI i2 y u k s.heap) (hk : k = min x.cps.size y.cps.size)
    (hE : ∀ h' e tk, (∀ c o, c ≠ z → c ≠ TO → c ≠ i1 → c ≠ i2 → s.heap.get? c = some o → h'.get? c = some o) → (∃ o, h'.get? e = some o ∧ o.cls = .type "StopIteration") → E (.ref e) { s with heap := h', toks := tk }) :
    wpAny (model prog w) A (Builtin.«zip.__next__» ⟨[.ref z], []⟩) Q E s := by
  show wpAny _ _ (field (.ref z) 2 >>= _) _ _ _
  refine wpAny_bind (wpAny_field hz rfl (x := .bool false) rfl ?_)
  show wpAny _ _ (field (.ref z) 3 >>= _) _ _ _
  refine wpAny_bind (wpAny_field hz rfl (x := .ref TI) rfl (wpAny_bind (wpAny_seqItems hTI rfl ?_)))
  show wpAny _ _ (Builtin.SmallTypes.ownedTupleIsFree (.ref z) >>= _) _ _ _
  unfold Builtin.SmallTypes.ownedTupleIsFree
  refine wpAny_bind (wpAny_bind (wpAny_field hz rfl (x := .none) rfl (wpAny_pure ?_)))
  simp only [if_true]
  refine wpAny_bind (wpAny_rule (wpAny_bind (wpAny_field hz rfl (x := .ref TO) rfl (wpAny_bind (wpAny_setField_rec hz (by simp) fun p1 z1 s1 => ?_)))))
  replace z1 : IsZip p1 z TI TO .ellipsis := z1
  refine wpAny_bind ?_
  simp only [List.zipIdx_cons, List.zipIdx_nil, List.forIn_cons, List.forIn_nil]
  refine wpAny_bind (wpAny_bind (wpAny_onRaise ?_))
  show wpAny _ _ (Builtin.SmallTypes.nextOf (.ref i1) >>= _) _ _ _
  by_cases lx : k < x.cps.size
  · have ey : k = y.cps.size := by omega
    refine wpAny_bind ((drawS (A := A.in1) hh i1 x t).of_in1.item k _ _ _ lx (h1.extBut s1.extBut D.c) fun v1 p2 tk2 _ h12 s2 => wpAny_pure ?_)
    have o2 : IsPair p2 TO a b := s2.extBut _ _ D.h (s1.extBut _ _ D.b hTO)
    refine wpAny_bind (wpAny_seqItems (s := { heap := p2, gens := s.gens, drawn := s.drawn, toks := tk2, os := s.os }) o2 rfl ?_)
    refine wpAny_bind (wpAny_updateSeq_pair (s := { heap := p2, gens := s.gens, drawn := s.drawn, toks := tk2, os := s.os }) o2 fun p3 o3 s3 => ?_)
    refine wpAny_bind (wpAny_letGo (wpAny_pure ?_))
    refine wpAny_bind (wpAny_bind (wpAny_onRaise ?_))
    show wpAny _ _ (Builtin.SmallTypes.nextOf (.ref i2) >>= _) _ _ _
    refine wpAny_bind ((drawS (A := A.in1) hh i2 y u).of_in1.done _ _ _ (ey ▸ (((h2.extBut s1.extBut D.d).extBut s2.extBut D.j.symm).extBut s3.extBut D.i.symm)) fun p4 e s4 he => ?_)
    obtain ⟨oe, hoe, hce⟩ := he
    have z4 : IsZip p4 z TI TO .ellipsis := s4 _ _ D.d.symm (s3.extBut _ _ D.b.symm (s2.extBut _ _ D.c.symm z1))
    have ez : e ≠ z := fun q => by subst q; rw [z4] at hoe; cases hoe; simp at hce
    refine wpAny_setField_rec (s := { heap := p4, gens := s.gens, drawn := s.drawn, toks := tk2, os := s.os }) z4 (by simp) fun p5 _ s5 => hE p5 e tk2 (fun c o q1 q2 q3 q4 g => s5.extBut _ _ q1 (s4 _ _ q4 (s3.extBut _ _ q2 (s2.extBut _ _ q3 (s1.extBut _ _ q1 g))))) ⟨oe, s5.extBut _ _ ez hoe, hce⟩
  · have ex : k = x.cps.size := by omega
    refine wpAny_bind ((drawS (A := A.in1) hh i1 x t).of_in1.done _ _ _ (ex ▸ (h1.extBut s1.extBut D.c)) fun p2 e s2 he => ?_)
    obtain ⟨oe, hoe, hce⟩ := he
    have z2 : IsZip p2 z TI TO .ellipsis := s2 _ _ D.c.symm z1
    have ez : e ≠ z := fun q => by subst q; rw [z2] at hoe; cases hoe; simp at hce
    refine wpAny_setField_rec (s := { heap := p2, gens := s.gens, drawn := s.drawn, toks := s.toks, os := s.os }) z2 (by simp) fun p3 _ s3 => hE p3 e s.toks (fun c o q1 _ q3 _ g => s3.extBut _ _ q1 (s2 _ _ q3 (s1.extBut _ _ q1 g))) ⟨oe, s3.extBut _ _ ez hoe, hce⟩
end
theorem turn_zipS {P : Program} {w : World} {K : PySem.W.Frag} {elts : List Expr} {kk : Nat} {tpos : Pos} {z TI TO i1 i2 : Addr} (x y : Str) (t u : Tok) (D : Apart z TI TO i1 i2) :
    Turn P w K (.Tuple elts kk tpos) (Itp (min x.cps.size y.cps.size) (sgV x) (sgV y)) [z, TI, TO, i1, i2] z
      (fun i h => IsZip h z TI TO .none ∧ IsPair h TI (.ref i1) (.ref i2) ∧ (∃ a b, IsPair h TO a b) ∧ SI i1 x t i h ∧ SI i2 y u i h ∧ i ≤ min x.cps.size y.cps.size) where
  mem := by simp
  obj := fun i h st c hc => by
    obtain ⟨hz, hTI, ⟨a, b, hTO⟩, ⟨o1, e1, _, d1⟩, ⟨o2, e2, _, d2⟩, _⟩ := st
    have e' : c = z ∨ c = TI ∨ c = TO ∨ c = i1 ∨ c = i2 := by simpa using hc
    rcases e' with q | q | q | q | q
    · rw [q]; exact ⟨_, hz, fun v q => nomatch q⟩
    · rw [q]; exact ⟨_, hTI, fun v q => nomatch q⟩
    · rw [q]; exact ⟨_, hTO, fun v q => nomatch q⟩
    · rw [q]; exact ⟨o1, e1, fun v q => by rw [d1] at q; cases q⟩
    · rw [q]; exact ⟨o2, e2, fun v q => by rw [d2] at q; cases q⟩
  keep := fun i h h' st k => by
    obtain ⟨hz, hTI, ⟨a, b, hTO⟩, h1, h2, hl⟩ := st
    exact ⟨k z (by simp) _ hz, k TI (by simp) _ hTI, ⟨a, b, k TO (by simp) _ hTO⟩, SI.at h1 fun o q => k i1 (by simp) o q, SI.at h2 fun o q => k i2 (by simp) o q, hl⟩
  item := fun X hP hw hK hc i pins s σ H E I hf st hg => by
    subst hP hw hK
    obtain ⟨hz, hTI, ⟨a, b, hTO⟩, h1, h2, _⟩ := st
    have hg : i < min x.cps.size y.cps.size := hg
    have zl : z < s.heap.objs.size := Heap.lt_size hz
    have hx : x.cps[i]? = some x.cps[i] := Array.getElem?_eq_getElem (by omega)
    have hy : y.cps[i]? = some y.cps[i] := Array.getElem?_eq_getElem (by omega)
    have hT : s.TypeIs (.ref z) "zip" := ⟨_, hz, rfl⟩
    unfold pyNext
    refine wpAny_bind (wpAny_attempt (wpAny_callSpecial?_slot (name := Str.ofString "__next__") hT F.slot_zip_next (wpAny_call_entry F.slot_zip_next hT F.entry_zip_next
      (zipS_item (show X.A.in1.handled = none from I.ok.hd hc) D hz hTI hTO h1 h2 hx hy fun h' t1 t2 tk z' TI' TO' h1' h2' T' hk => wpAny_pure ?_) (F.args_zip_next_1 _))))
    refine ⟨_, rfl, wpAny_letOwnedTupleGo_zip (s := { s with heap := h', toks := tk }) z' fun h'' z'' sb => ?_⟩
    have hT2 : h''.get? s.heap.objs.size = some { cls := .type "tuple", data := .seq #[.str ⟨#[x.cps[i]]⟩ t1, .str ⟨#[y.cps[i]]⟩ t2] } := (sb.2 _ (Nat.ne_of_gt zl)).trans T'
    have new : ObjOk X.prog X.w (upd H s.heap.objs.size (.tup [.str ⟨#[x.cps[i]]⟩, .str ⟨#[y.cps[i]]⟩])) h'' s.heap.objs.size (.tup [.str ⟨#[x.cps[i]]⟩, .str ⟨#[y.cps[i]]⟩]) :=
      ⟨by show 2 ≤ sizeLine; decide, [.str ⟨#[x.cps[i]]⟩ t1, .str ⟨#[y.cps[i]]⟩ t2], .cons ⟨_, rfl⟩ (.cons ⟨_, rfl⟩ .nil), ⟨_, hT2, rfl, _, rfl⟩⟩
    have I1 : Inv X pins σ (upd H s.heap.objs.size (.tup [.str ⟨#[x.cps[i]]⟩, .str ⟨#[y.cps[i]]⟩])) { s with heap := h'', toks := tk } :=
      I.turnedNew (t' := tk) (ch := [z, TI, TO, i1, i2]) (fun c o hb q => (sb.2 c (fun q' => hb (by simp [q']))).trans (hk c o (fun q' => hb (by simp [q'])) (fun q' => hb (by simp [q'])) (fun q' => hb (by simp [q'])) (fun q' => hb (by simp [q'])) q)) hf (Nat.le_refl _) new
    refine ⟨.ref s.heap.objs.size, _, I1, rfl, ⟨s.heap.objs.size, _, _, rfl, I.hok.fresh (Nat.le_refl _), rfl, by simp [sgV, hx], by simp [sgV, hy]⟩, ⟨z'', (sb.2 _ D.a).trans TI', ⟨_, _, (sb.2 _ D.b).trans TO'⟩, SI.at h1' fun o q => (sb.2 _ D.c).trans q, SI.at h2' fun o q => (sb.2 _ D.d).trans q, hg⟩, fun c hcm => ?_⟩
    have hlt : c < s.heap.objs.size := by
      have e' : c = z ∨ c = TI ∨ c = TO ∨ c = i1 ∨ c = i2 := by simpa using hcm
      rcases e' with q | q | q | q | q
      · rw [q]; exact zl
      · rw [q]; exact Heap.lt_size hTI
      · rw [q]; exact Heap.lt_size hTO
      · rw [q]; exact SI.lt h1
      · rw [q]; exact SI.lt h2
    rw [upd_ne (Nat.ne_of_lt hlt)]
    exact (hf c hcm).1
  done := fun X hP hw hK hc i pins s σ H E I hf st hg => by
    subst hP hw hK
    obtain ⟨hz, hTI, ⟨a, b, hTO⟩, h1, h2, hl⟩ := st
    have hT : s.TypeIs (.ref z) "zip" := ⟨_, hz, rfl⟩
    unfold pyNext
    refine wpAny_bind (wpAny_attempt (wpAny_callSpecial?_slot (name := Str.ofString "__next__") hT F.slot_zip_next (wpAny_call_entry F.slot_zip_next hT F.entry_zip_next
      (zipS_end (show X.A.in1.handled = none from I.ok.hd hc) D hz hTI hTO h1 h2 (Nat.le_antisymm hl hg) fun h' e tk hk he => ?_) (F.args_zip_next_1 _))))
    obtain ⟨o, ho, hce⟩ := he
    refine wpAny_bind (wpAny_isInstance (T := "StopIteration") (b := true) ⟨o, ho, hce⟩ isSubtype_stop (wpAny_pure ⟨rfl, ?_⟩))
    exact I.turnedL (t' := tk) (ch := [z, TI, TO, i1, i2]) (fun c o hb q => hk c o (fun q' => hb (by simp [q'])) (fun q' => hb (by simp [q'])) (fun q' => hb (by simp [q'])) (fun q' => hb (by simp [q'])) q) hf
  self := fun A i s Q E st h => wpAny_pyIter_zip st.1 h
def iZipS (ta : TA) : TI := fun σ H R => ta σ H fun vs H1 => ∃ x y, vs = [.str x, .str y] ∧ R (Itp (min x.cps.size y.cps.size) (sgV x) (sgV y)) H1
theorem apart5 (n : Nat) : Apart (n + 4) (n + 2) (n + 3) n (n + 1) := by
  have ne : ∀ a b : Nat, a ≠ b → (a : Addr) ≠ b := fun _ _ h => h
  exact ⟨ne _ _ (by omega), ne _ _ (by omega), ne _ _ (by omega), ne _ _ (by omega), ne _ _ (by omega), ne _ _ (by omega), ne _ _ (by omega), ne _ _ (by omega), ne _ _ (by omega), ne _ _ (by omega)⟩
theorem pi_zipS {X : Cx} {e e2 : Expr} {ta : TA} {p pos tpos : Pos} {elts : List Expr} {kk : Nat} (hg : Gl X "zip") (hm : X.mg "zip" = none) (ha : PA X [e, e2] ta)
    (hs : starEach [e, e2] X.env = (false, eval e X.env) :: starEach [e2] X.env := by rfl) (hpl : (backTo pos (starEach [e2] X.env)).any (·.1) = false := by rfl) :
    PI X (.Tuple elts kk tpos) (.Call (.Name "zip" p) [e, e2] [] pos) (iZipS ta) := by
  refine ⟨fun pins s σ H R I h => ?_⟩
  refine Call_ (ld_blt I hg hm PyProof.Rows.boot_zip (PyProof.Rows.callWith_type1 (thn (ha.run pos pins s σ H _ I h) fun us s1 ⟨vs, H1, I1, r1, q1⟩ => ?_) hs hpl))
  obtain ⟨x, y, ex, q⟩ := q1
  subst ex
  cases r1 with
  | cons r rr =>
    cases rr with
    | cons r' rr =>
      cases rr
      obtain ⟨t, rfl⟩ := r
      obtain ⟨u, rfl⟩ := r'
      refine call_zipS fun h' hz hTI hTO h1 h2 hk => wpAny_pyIter_zip hz ?_
      refine ⟨s1.heap.objs.size + 4, [s1.heap.objs.size + 4, s1.heap.objs.size + 2, s1.heap.objs.size + 3, s1.heap.objs.size, s1.heap.objs.size + 1], _, _, H1, rfl, I1.kept (t' := s1.toks) hk, turn_zipS x y t u (apart5 _), ⟨hz, hTI, ⟨_, _, hTO⟩, h1, h2, Nat.zero_le _⟩, fun c hcm => ?_, q⟩
      have hle : s1.heap.objs.size ≤ c := by
        have e' : c = s1.heap.objs.size + 4 ∨ c = s1.heap.objs.size + 2 ∨ c = s1.heap.objs.size + 3 ∨ c = s1.heap.objs.size ∨ c = s1.heap.objs.size + 1 := by simpa using hcm
        rcases e' with q | q | q | q | q <;> rw [q] <;> first | exact Nat.le_refl _ | exact Nat.le_add_right _ _
      exact I1.fpOk hle (I1.hok.fresh hle)
/-! ### in the layer -/
section
variable {X : Cx} {E : XK} {K : PySem.W.Frag} {s s0 : Sx} {d : Dt} {v : V} {xs ds : List Dt} {e a b c f o i tg : Expr} {pos p p1 apos cpos : Pos} {es : List Expr}
variable {ma mb mc mo mk mx : En → Mm Dt} {mr : En → Mm (List Dt)} {td ty tx : TE}
theorem signs_get {x : Str} {i : Nat} {d : Dt} (h : (signs x)[i]? = some d) : ∃ w, sgV x i = some w ∧ Rep K s d w := by
  unfold signs at h
  rw [List.getElem?_map] at h
  unfold sgV
  rw [Array.getElem?_toList] at h
  cases q : x.cps[i]? with
  | none => rw [q] at h; cases h
  | some c =>
    rw [q] at h
    cases h
    exact ⟨_, rfl, rfl⟩
def itES (mr : En → Mm (List Dt)) : En → Mm (List Dt) := fun env => mr env >>= fun ds => match ds with
  | [.str x] => Mm.pure (enumD 0 (signs x))
  | _ => Mm.no
theorem mi_enumS {tpos : Pos} {elts : List Expr} {kk : Nat} (hg : Gl X "enumerate") (hm : X.mg "enumerate" = none) (ha : PA X [e] (tA X.K E mr)) (hs : starEach [e] X.env = (false, eval e X.env) :: starEach [] X.env := by rfl) :
    PI X (.Tuple elts kk tpos) (.Call (.Name "enumerate" p) [e] [] pos) (tI X.K E (itES mr)) := pi_mono (pi_enumS hg hm ha hs) fun σ H R ⟨s, env, e, r, he, ha⟩ => by
  subst e
  refine tA_bind r he ha fun ds s1 vs x1 r1 e1 rs q => ?_
  split at q
  · rename_i x
    obtain ⟨v, rfl, rv⟩ := rs.one
    cases rv
    refine ⟨x, rfl, q.ret r1 _ (itRep_of walk_p (by rw [enumD_length]; simp [signs]) fun s2 x2 r2 => ⟨trivial, fun i d y H' e ⟨T, x1, y1, e1, e2, e3, e4, e5⟩ => ?_⟩)⟩
    obtain ⟨d', h1, rfl⟩ := enumD_get e
    obtain ⟨w, h2, h3⟩ := signs_get (K := X.K) (s := s2) h1
    have e5 : sgV x i = some y1 := e5
    rw [h2] at e5; cases e5
    have e4 : some (V.int (i : Nat)) = some x1 := e4
    cases e4
    subst e1
    exact pair_end r2 e2 e3 (by rw [Nat.zero_add]; exact rfl) h3
  · exact q.elim
def itZS (mr : En → Mm (List Dt)) : En → Mm (List Dt) := fun env => mr env >>= fun ds => match ds with
  | [.str x, .str y] => Mm.pure (zipD (signs x) (signs y))
  | _ => Mm.no
theorem mi_zipS {e2 : Expr} {tpos : Pos} {elts : List Expr} {kk : Nat} (h : PI X (.Tuple elts kk tpos) (.Call (.Name "zip" p) [e, e2] [] pos) (iZipS (tA X.K E mr))) :
    PI X (.Tuple elts kk tpos) (.Call (.Name "zip" p) [e, e2] [] pos) (tI X.K E (itZS mr)) := pi_mono h fun σ H R ⟨s, env, e, r, he, ha⟩ => by
  subst e
  refine tA_bind r he ha fun ds s1 vs x1 r1 e1 rs q => ?_
  split at q
  · rename_i x y
    obtain ⟨v, vr, rfl, rv, rr⟩ := rs
    obtain ⟨v2, rfl, rv2⟩ := rr.one
    cases rv; cases rv2
    refine ⟨x, y, rfl, q.ret r1 _ (itRep_of walk_p (by simp [zipD, signs]) fun s2 x2 r2 => ⟨trivial, fun i d y' H' e ⟨T, x1, y1, e1, e2, e3, e4, e5⟩ => ?_⟩)⟩
    obtain ⟨dx, dy, h1, h2, rfl⟩ := zipD_get e
    obtain ⟨w, g1, g2⟩ := signs_get (K := X.K) (s := s2) h1
    obtain ⟨w2, g3, g4⟩ := signs_get (K := X.K) (s := s2) h2
    rw [g1] at e4; cases e4
    rw [g3] at e5; cases e5
    subst e1
    exact pair_end r2 e2 e3 g2 g4
  · exact q.elim
/-! text[::-1] -/
def tRevS (te : TE) : TE := fun σ H Q => te σ H fun x H1 => ∃ z : Str, x = .str z ∧ z.cps.size ≤ sizeLine ∧ Q (.str ⟨z.cps.toList.reverse.toArray⟩) H1
theorem rev_pick (z : Str) : ((Builtin.Str.strSliceIndices none none (-1) z.length).filterMap (z.cps[·]?)).toArray = z.cps.toList.reverse.toArray := by
  have e : Builtin.Str.strSliceIndices none none (-1) z.length = sliceRange ((z.cps.size : Int) - 1) (-1) (-1) := by
    unfold Builtin.Str.strSliceIndices
    simp [Str.length]
  rw [e, PySem.W.krv_sliceRange, PySem.W.krv_range, List.filterMap_reverse, PySem.W.krv_all]
theorem pe_revS {te : TE} {k : Nat} {p1 p2 p3 pos : Pos} (he : PE X e te) : PE X (.Subscript e (.Slice none none (some (.UnaryOp .USub (.Constant (.int 1) k p1) p2)) p3) pos) (tRevS te) := by
  refine ⟨fun pins s σ H Q I h => ?_⟩
  refine Subscript_ (thn (he.run pins s σ H _ I h) fun v s1 ⟨x, H1, I1, r1, q1⟩ => ?_)
  obtain ⟨z, ex, hz, q⟩ := q1
  subst ex
  obtain ⟨t, rfl⟩ := r1
  have hst : PO X (some (.UnaryOp .USub (.Constant (.int 1) k p1) p2)) (tPart (tUn (rU fun i => .int (-i)) (tC (.int 1)))) := po_some (pe_un un_neg pe_int)
  refine wpAny_Slice (thn (po_none.run pins s1 σ H1 (fun o H2 => o = none ∧ H2 = H1) I1 ⟨rfl, rfl⟩) fun vl s2 ⟨l, H2, I2, pl, el, e2⟩ => ?_)
  subst el e2
  refine thn (po_none.run pins s2 σ H2 (fun o H3 => o = none ∧ H3 = H2) I2 ⟨rfl, rfl⟩) fun vu s3 ⟨u, H3, I3, pu, eu, e3⟩ => ?_
  subst eu e3
  refine thn (hst.run pins s3 σ H3 (fun o H4 => o = some (-1) ∧ H4 = H3) I3 ⟨1, rfl, -1, rfl, rfl, rfl⟩) fun vs s4 ⟨o, H4, I4, ps, eo, e4⟩ => ?_
  subst eo e4
  have I5 : Inv X pins σ H4 { s4 with heap := s4.heap.push { cls := .type "slice", data := .fields #[vl, vu, vs] } } := I4.kept (t' := s4.toks) fun b ob q => Heap.get?_push_of_some _ q
  obtain ⟨l', rfl, el'⟩ := IsPart.raw pl
  obtain ⟨u', rfl, eu'⟩ := IsPart.raw pu
  obtain ⟨st, rfl, est⟩ := IsPart.raw ps
  show wpAny (model X.prog X.w) X.A (subscriptTail e (.Slice none none (some (.UnaryOp .USub (.Constant (.int 1) k p1) p2)) p3) (.str z t) (.ref s4.heap.objs.size)) (EP X pins σ Q) X.xe _
  refine tail_any (ops := [.str z t, .ref s4.heap.objs.size]) (typeIs_str _ z t) F.slot_str_getitem.lookup ?_ (by with_unfolding_all rfl)
  refine wpAny_getItem_str_slice (l := l') (u := u') (st := st) ⟨_, Heap.get?_push_size _ rfl, rfl, rfl⟩ (by rw [est]; rfl) ?_
  unfold sliceMade slicePicked
  rw [el', eu', est]
  show Made.post (if (((-1 : Int) == 1) && _) = true then _ else _) _ _
  rw [if_neg (by simp)]
  rw [show (Option.some (-1 : Int)).getD 1 = -1 from rfl, rev_pick]
  refine ⟨?_, .str _, H4, I5.tok _, ⟨_, rfl⟩, q⟩
  show z.cps.toList.reverse.toArray.size ≤ sizeLine
  simpa using hz
def revS : Dt → Mm Dt := fun d => match d with
  | .str z => if z.cps.size ≤ sizeLine then Mm.pure (.str ⟨z.cps.toList.reverse.toArray⟩) else Mm.no
  | _ => Mm.no
def op1' (g : Dt → Mm Dt) (m : En → Mm Dt) : En → Mm Dt := fun env => m env >>= g
theorem me_revS {k : Nat} {p1 p2 p3 pos : Pos} (h : PE X e (tE X.K E ma)) : PE X (.Subscript e (.Slice none none (some (.UnaryOp .USub (.Constant (.int 1) k p1) p2)) p3) pos) (tE X.K E (op1' revS ma)) := pe_mono (pe_revS h) fun σ H Q ⟨s, env, e, r, he, ha⟩ => by
  subst e
  refine tE_bind r he ha fun d s1 x x1 r1 e1 rx q1 => ?_
  unfold revS at q1
  split at q1
  · rename_i z
    cases rx
    split at q1
    · rename_i hz
      exact ⟨z, rfl, hz, q1.ret r1 _ rfl⟩
    · exact q1.elim
  · exact q1.elim
/-! a, b, c = x, y, z -/
def par3 (i j l : Nat) (m : En → Mm (List Dt)) : En → Mm Fl := fun env => m env >>= fun ds => match ds with
  | [x, y, z] => Mm.pure (.nx (((env.set i (some x)).set j (some y)).set l (some z)))
  | _ => Mm.no
theorem ms_par3 {i j l : Nat} {x y z : Str} {px py pz pt : Pos} {kt k2 pt2} (hc : X.calm = true) (hN : X.N.Nodup) (hi : X.N[i]? = some x) (hj : X.N[j]? = some y) (hl : X.N[l]? = some z) (hij : i ≠ j) (hil : i ≠ l) (hjl : j ≠ l)
    (hx : X.env.scope.names.lookup x = some .local) (hy : X.env.scope.names.lookup y = some .local) (hz : X.env.scope.names.lookup z = some .local) (ha : PA X [a, b, c] (tA X.K E mr))
    (hw : swappedStores [.Tuple [.Name x px, .Name y py, .Name z pz] kt pt] (.Tuple [a, b, c] k2 pt2) X.env = pure (some [x, y, z]))
    (hs : swapsWithSole [.Tuple [.Name x px, .Name y py, .Name z pz] kt pt] (.Tuple [a, b, c] k2 pt2) pos.line X.env = pure false := by rfl) :
    PS X (.Assign [.Tuple [.Name x px, .Name y py, .Name z pz] kt pt] (.Tuple [a, b, c] k2 pt2) pos) (tS X.K E (par3 i j l mr)) := ps_mono (ps_par3 hc hN hi hj hl hij hil hjl hx hy hz ha hw hs) fun D σ H ⟨s, env, e, r, he, ha⟩ => by
  subst e
  refine tA_bind r he ha fun ds s1 vs x1 r1 e1 rv q => ?_
  match ds, rv, q with
  | [d1, d2, d3], ⟨v, _, e2, rv1, w, _, e3, rv2, w3, _, e5, rv3, e6⟩, q =>
    subst e2 e3 e5 e6
    exact ⟨v, w, w3, rfl, q.ret r1 _ (((e1.set rv1 i).set rv2 j).set rv3 l)⟩
  | [], _, q => exact q.elim
  | [_], _, q => exact q.elim
  | [_, _], _, q => exact q.elim
  | _ :: _ :: _ :: _ :: _, _, q => exact q.elim
end
end Mo
set_option Elab.async false
set_option linter.all false
set_option maxRecDepth 100000
set_option maxHeartbeats 4000000
/-! MoH: the truth of a value; defs by their names. -/
namespace Mo
open PySem L2 PySem.Spec PyProof.Rows
section
variable {X : Cx} {E : XK} {K : PySem.W.Frag} {s s0 : Sx} {d : Dt} {v : V} {e a b : Expr} {pos p kpos : Pos} {es : List Expr} {ma : En → Mm Dt} {mr : En → Mm (List Dt)}
def truR (h : Ah) : Dt → Option Bool
  | .non => some false
  | .bl b => some b
  | .int i => some (i != 0)
  | .str x => if x.length ≤ sizeLine then some ((x.length : Int) != 0) else none
  | .tup xs => some !xs.isEmpty
  | .wt xs => some !xs.isEmpty
  | d => match lstR h d with
    | some xs => some !xs.isEmpty
    | none => none
theorem reps_empty {ds : List Dt} {vs : List V} (h : Reps K s ds vs) : ds.isEmpty = vs.isEmpty := by
  have := h.length
  cases ds with
  | nil => cases vs with
    | nil => rfl
    | cons _ _ => simp at this
  | cons _ _ => cases vs with
    | nil => simp at this
    | cons _ _ => rfl
theorem truR_ok {k : Bool} (r : HRel K s) (rv : Rep K s d v) (e : truR s.h d = some k) : TruV K v s.H k := by
  have lst : ∀ xs, lstR s.h d = some xs → k = !xs.isEmpty → TruV K v s.H k := fun xs q ek => by
    obtain ⟨a, vs, rfl, sq, rs⟩ := lstR_ok r rv q
    exact .inl ⟨vs, sq, by rw [ek, reps_empty rs]⟩
  have tup : ∀ xs, tupR d = some xs → k = !xs.isEmpty → TruV K v s.H k := fun xs q ek => by
    obtain ⟨a, vs, rfl, sq, rs⟩ := tupR_ok rv q
    exact .inr (.inl ⟨vs, sq, by rw [ek, reps_empty rs]⟩)
  have gen : (match lstR s.h d with | some xs => some !xs.isEmpty | none => none) = some k → TruV K v s.H k := by
    intro e
    cases q : lstR s.h d with
    | none => rw [q] at e; cases e
    | some xs => rw [q] at e; exact lst xs q (Option.some.inj e).symm
  cases d with
  | non => cases rv; cases e; rfl
  | bl => cases rv; cases e; rfl
  | int => cases rv; cases e; rfl
  | str x =>
    cases rv
    simp only [truR] at e
    split at e
    · rename_i hl
      cases e
      exact ⟨hl, rfl⟩
    · cases e
  | tup xs => exact tup xs rfl (Option.some.inj e).symm
  | wt xs => exact tup xs rfl (Option.some.inj e).symm
  | _ => exact gen e
def tru (m : En → Mm Dt) : En → Mm Bool := fun env => m env >>= fun d h => match truR h d with
  | some k => .ok k h
  | none => .no
theorem mt_tru (h : PE X e (tE X.K E ma)) (he : ∀ whole, isTrue e X.env whole = (do let v ← whole; standAt e.pos; holding [v] (truthy v)) := by intro _; rfl) : PT X e (tT X.K E (tru ma)) :=
  pt_mono (pt_truth h he) fun σ H Q ⟨s, env, e, r, he, ha⟩ => by
    subst e
    refine tE_bind r he ha fun d s1 x x1 r1 e1 rx q => ?_
    cases qt : truR s1.h d with
    | none => rw [qt] at q; exact q.elim
    | some k =>
      rw [qt] at q
      exact ⟨k, truR_ok r1 rx qt, q.ret r1⟩
end
/-! ### a def by its name -/
structure FnH (P : Program) (w : World) (K : PySem.W.Frag) (mg : Str → Option Value) (base : Heap) (k : Nat) (x : Str) (ps : List Str) (fm : List Dt → Mm Dt) : Prop where
  ex : ∃ fd, FnG P w K mg base k (He.ga K x) fd ps fm ∧ Binds K fd ps []
  kp : PySem.W.keepIn K (.ref (He.ga K x)) = true
  gl : mg x = some (.ref (He.ga K x))
/-- .. called by keywords alone, told as ks, put into the parameters' order by pm -/
structure FnKw (P : Program) (w : World) (K : PySem.W.Frag) (mg : Str → Option Value) (base : Heap) (k : Nat) (x : Str) (ps ks : List Str) (pm : List Nat) (fm : List Dt → Mm Dt) : Prop where
  ex : ∃ fd, FnG P w K mg base k (He.ga K x) fd ps fm ∧ ∀ (s : Shared) (ws : List Value), ws.length = ps.length → BindsTo s fd ⟨[], ks.zip ws⟩ (ps.zip (permL pm ws))
  kp : PySem.W.keepIn K (.ref (He.ga K x)) = true
  gl : mg x = some (.ref (He.ga K x))
abbrev FnP (K : PySem.W.Frag) (x : Str) (st : Stmt) (fd : FuncData) : Prop := FunD K x x (defArgs st) (defBody st) (defScope st) [] [] (He.ga K x) fd
theorem kwBinds {K : PySem.W.Frag} {x qual : Str} {params : Arguments} {body : List Stmt} {scope : Scope} {kws : List (Str × V)} {f : Addr} {fd : FuncData} {ps ks : List Str} {pm : List Nat} (F : FunD K x qual params body scope [] kws f fd)
    (h : ∀ (kV doc pm' : Value) (an : Option Addr) (cdv ct : Value) (us : List Value), us.length = ps.length → bindArgs (PySem.W.fnOf x qual params body scope .none kV doc pm' an cdv ct) ⟨[], ks.zip us⟩ = pure (ps.zip (permL pm us))) (s : Shared) (us : List Value) (hl : us.length = ps.length) : BindsTo s fd ⟨[], ks.zip us⟩ (ps.zip (permL pm us)) := by
  obtain ⟨oc, od, dV, kV, doc, pm, an, cdv, ct, osl, rfl, lk, hcd, hD, hK⟩ := F.ex
  rcases hD with ⟨_, rfl⟩ | ⟨e, _⟩
  · exact .of_eq (h kV doc pm an cdv ct us hl)
  · exact absurd rfl e
section
variable {X : Cx} {k j : Nat} {ps ks : List Str} {pm : List Nat} {fm : List Dt → Mm Dt} {x : Str} {p pos kpos : Pos} {e : Expr} {es : List Expr} {kws : List Keyword} {mr mk : En → Mm (List Dt)}
theorem me_callH {n : Nat} (F : FnH X.prog X.w X.K X.mg X.base k x ps fm) (hgd : X.A.guards = some []) (hr : Room j X.A) (ha : PA X (e :: es) (tA X.K E0 mr)) (hn : ps.length = n := by rfl) (hg : Gl X x := by rfl) (hkj : k ≤ j := by decide) (hdb : (x == ("__debug__" : Str)) = false := by decide) (he : starEach (e :: es) X.env = (false, eval e X.env) :: starEach es X.env := by rfl) (hpl : (backTo pos (starEach es X.env)).any (·.1) = false := by rfl) :
    PE X (.Call (.Name x p) (e :: es) [] pos) (tE X.K E0 (callM n fm mr)) := by
  subst hn
  obtain ⟨fd, G, B⟩ := F.ex
  exact me_callG G hgd (hr.mono hkj) hg F.gl F.kp B ha hdb he hpl
theorem me_callH0 (F : FnH X.prog X.w X.K X.mg X.base k x [] fm) (hgd : X.A.guards = some []) (hr : Room j X.A) (hg : Gl X x := by rfl) (hkj : k ≤ j := by decide) (hdb : (x == ("__debug__" : Str)) = false := by decide) : PE X (.Call (.Name x p) [] [] pos) (tE X.K E0 (fun _ => fm [])) := by
  obtain ⟨fd, G, B⟩ := F.ex
  exact me_callG0 G hgd (hr.mono hkj) hg F.gl F.kp B hdb
theorem me_callKw {n : Nat} (F : FnKw X.prog X.w X.K X.mg X.base k x ps ks pm fm) (hgd : X.A.guards = some []) (hr : Room j X.A) (hkw : PK X kws (tA X.K E0 mr)) (hn : ps.length = n := by rfl) (hg : Gl X x := by rfl) (hkj : k ≤ j := by decide) (hall : (backToKw pos (keywordEach kws X.env)).all (·.1.isSome) = true := by rfl) (hks : (backToKw pos (keywordEach kws X.env)).filterMap (·.1) = ks := by rfl)
    (hdb : (x == ("__debug__" : Str)) = false := by decide) (hpl : ((backTo pos (starEach [] X.env)).any (·.1) || (backToKw pos (keywordEach kws X.env)).any (·.1.isNone)) = false := by rfl) :
    PE X (.Call (.Name x p) [] kws pos) (tE X.K E0 (callK n pm fm mr)) := by
  subst hn
  obtain ⟨fd, G, B⟩ := F.ex
  exact me_callGK G hgd (hr.mono hkj) hg F.gl F.kp B hkw hall hks hdb hpl
theorem un65 {k : Nat} {A : Around} (r : Room k A) : A.units + 65 < cLine := by have := r.un; omega
theorem un64 {k : Nat} {A : Around} (r : Room k A) : A.units + 64 < cLine := by have := r.un; omega
theorem un1 {k : Nat} {A : Around} (r : Room k A) : A.units + 1 < cLine := by have := r.un; omega
end
end Mo
set_option Elab.async false
set_option linter.all false
set_option maxRecDepth 100000
set_option maxHeartbeats 4000000
/-! MoI: dict comprehensions whose store is any rule (keys that are tuples). -/
namespace Mo
open PySem L2 PySem.Spec PyProof.Rows
/-- d[k] = v as a comprehension does it, k a tuple -/
theorem setT {Y : Cx} {pins : List (Addr × Obj)} {σ : L2.St} {G : Hp} {t : Shared} {E : Value → Shared → Prop} {D b : Addr} {kvs : List (List Key × V)} {k : List Key} {v : V} {r : Value} {Q : Unit → Shared → Prop} (hu : Y.A.units + 1 < cLine) (I : Inv Y pins σ G t)
    (eD : G D = some (.dT kvs)) (eb : G b = some (.tup (k.map kV))) (l : kvs.length < sizeLine) (rv : RelV v r) (h : ∀ t', Inv Y pins σ (upd G D (.dT (putK kvs k v))) t' → Q () t') : wpAny (model Y.prog Y.w) Y.A (dictSet D (.ref b) r) Q E t := by
  obtain ⟨z, low, xs, rel, dd⟩ := dt_of I.hok eD
  have lx : xs.length ≤ sizeLine := by rw [← Paired.length rel]; exact z
  have lp : (putK kvs k v).length ≤ sizeLine := by
    have := length_putK kvs k v
    omega
  refine wpAny_dictSet_heap (hsz := lx) (show (tupleKind (mixKind Y.prog Y.w)).room Y.A from (by show Y.A.units < cLine; omega)) (key_of I.hok eb) dd fun h' dd' same => h _ ?_
  obtain ⟨q, es, ep, hq, c2, c3, c4, _, c5⟩ := dd'
  refine d_write I (by rw [eD]; exact True.intro) same ⟨q, hq⟩ ⟨lp, low, _, (rel.put k eb rv).keeps fun c ys ec => ?_, q, es, ep, hq, c2, c3, c4, c5⟩
  rw [upd_ne (ne_of ec eD (fun z => nomatch z))]
  exact ec
section
variable {X : Cx}
/-- what a dict comprehension asks: u0 the empty dict, Put the store -/
def tDg (u0 : HO) (Put : Hp → Addr → V → V → Hp → Prop) (wi : TI) (g : TG) (tt : TT) (tk tv : TE) (vs : List Nat) : TE := fun σ H Q => wi σ H fun J H1 => ∀ D, H1 D = none → ∃ W : Nat → Nat → Hp → Prop, (∃ m, W 0 m (upd H1 D u0)) ∧ ∀ i m G, W i m G →
  (J.stop i G ∧ Q (.ref D) G) ∨ (J.go i G ∧ ∃ Nx : Hp → Prop, (∀ G', Nx G' → ∃ m', m' < m ∧ W (i + 1) m' G') ∧ ∀ x G', J.yld i G x G' → g x (L2.wipe σ vs) G' fun σ2 G2 => L2.wipe σ2 vs = L2.wipe σ vs ∧ tt σ2 G2 fun c G3 =>
    if c = true then tk σ2 G3 fun y G4 => tv σ2 G4 fun z G5 => ∃ G6, Put G5 D y z G6 ∧ Nx G6 else Nx G3)
theorem dg_core {u0 : HO} {Put : Hp → Addr → V → V → Hp → Prop} {pins : List (Addr × Obj)} {s : Shared} {σ : L2.St} {H : Hp} {Q : VK} {kx vx tg iter : Expr} {ifs : List Expr} {scope : Scope} {own : List (Str × Nat)} {pos pos' : Pos} {wi : TI} {g : TG} {tt : TT} {tk tv : TE} {use : Option (Value → Sem Unit)} {Qf : Value → Shared → Prop}
    (hu0 : ∀ (G : Hp) (h : Heap), sysModules < h.objs.size → ObjOk X.prog X.w G (h.push { cls := .type "dict", data := .dict #[] }) h.objs.size u0)
    (hput : ∀ (Y : Cx), Y.prog = X.prog → Y.w = X.w → Y.A = X.A → Y.K = X.K → ∀ (pn : List (Addr × Obj)) (τ : L2.St) (G G' : Hp) (t : Shared) (E : Value → Shared → Prop) (D : Addr) (y v : V) (u r : Value) (R : Unit → Shared → Prop), Inv Y pn τ G t → Put G D y v G' → RelV y u → RelV v r → (∀ t', Inv Y pn τ G' t' → R () t') → wpAny (model Y.prog Y.w) Y.A (dictSet D u r) R E t)
    (hc : X.calm = true) (hN : X.N.Nodup) (I : Inv X pins σ H s) (hi : PI X tg iter wi) (ok : BlkOk X.N X.env.scope scope own)
    (hg : ∀ (t : Shared) (G : Hp) (C : Addr) (cl : List (Str × Addr)) (fp : List Addr), PG (X.blk t G scope (compEnvC scope cl C X.env) fp) tg g) (ht : ∀ (t : Shared) (G : Hp) (C : Addr) (cl : List (Str × Addr)) (fp : List Addr), PTs (X.blk t G scope (compEnvC scope cl C X.env) fp) ifs tt)
    (hk : ∀ (t : Shared) (G : Hp) (C : Addr) (cl : List (Str × Addr)) (fp : List Addr), PE (X.blk t G scope (compEnvC scope cl C X.env) fp) kx tk)
    (he : ∀ (t : Shared) (G : Hp) (C : Addr) (cl : List (Str × Addr)) (fp : List Addr), PE (X.blk t G scope (compEnvC scope cl C X.env) fp) vx tv) (hs : ∀ x, foldedSetIterable iter X.env x = pure x)
    (h : tDg u0 Put wi g tt tk tv (own.map (·.2)) σ H Q)
    (fine : ∀ D C s' m H', Inv X pins σ H' s' → Q (.ref D) H' → s'.heap.Ns C m → FpOk X pins H' C → compPost (model X.prog X.w) X.A X.xe use Qf (.ref D) C (.ok .next) s') :
    wpAny (model X.prog X.w) X.A (comprehension (.DictComp kx vx [⟨tg, iter, ifs, 0⟩] scope pos) scope X.env pos' newDict false (eval iter X.env) use) Qf X.xe s := by
  have clo : ∀ y ∈ scope.names, y.2 = .free → ∃ c, X.env.cells.lookup y.1 = some c := fun y hy e => (ok.free y hy e).elim (fun k => I.ok.has _ (.inl k)) fun k => I.ok.has _ (.inr k)
  refine wpAny_comprehension_free (use := use) rfl hs (closure_ok clo) ok.kind (fun y hy e => by rw [ok.uniq y hy, e]) (thn (hi.run pins s σ H _ I h) fun xv sa hx => thn hx fun itv sb hb => ?_)
  obtain ⟨it, fp, tn, J, Hb, e, Ib, T, stb, fb, q⟩ := hb
  subst e
  refine wpAny_newObj_type (newEnv_comp ?_)
  generalize hD : sb.heap.objs.size = D
  have nD : Hb D = none := Ib.hok.fresh (Nat.le_of_eq hD)
  obtain ⟨W, ⟨m0, w0⟩, turn⟩ := q D nD
  generalize hsc : ({ sb with heap := sb.heap.push { cls := .type "dict", data := .dict #[] } } : Shared) = sc
  have Ic : Inv X pins σ (upd Hb D u0) sc := by
    rw [← hsc]
    refine Ib.laid (t' := sb.toks) (fun b o e => Heap.get?_push_of_some _ e) (Nat.le_of_eq hD) ?_
    rw [← hD]
    exact hu0 _ _ Ib.big
  have hpc : sc.heap = sb.heap.push { cls := .type "dict", data := .dict #[] } := by rw [← hsc]
  have fc : ∀ b ∈ fp, FpOk X pins (upd Hb D u0) b ∧ b < sc.heap.objs.size := fun b hb => by
    obtain ⟨o, eo, _⟩ := T.obj _ _ stb b hb
    have lt := Heap.lt_size eo
    refine ⟨⟨?_, (fb b hb).2⟩, by rw [hpc, Heap.size_push]; exact Nat.lt_succ_of_lt lt⟩
    rw [upd_ne (by rw [← hD]; exact Nat.ne_of_lt lt)]
    exact (fb b hb).1
  have stc : tn 0 sc.heap := T.keep _ _ _ stb fun b _ o e => by rw [hpc]; exact Heap.get?_push_of_some _ e
  have Id := block_start Ic ok hN fc
  have pg := hg sc (upd Hb D u0) sc.heap.objs.size (cellsFrom (sc.heap.objs.size + 1) scope.names (cloFrom X.env.cells scope.names [])) fp
  have pt := ht sc (upd Hb D u0) sc.heap.objs.size (cellsFrom (sc.heap.objs.size + 1) scope.names (cloFrom X.env.cells scope.names [])) fp
  have pk := hk sc (upd Hb D u0) sc.heap.objs.size (cellsFrom (sc.heap.objs.size + 1) scope.names (cloFrom X.env.cells scope.names [])) fp
  have pe := he sc (upd Hb D u0) sc.heap.objs.size (cellsFrom (sc.heap.objs.size + 1) scope.names (cloFrom X.env.cells scope.names [])) fp
  show codeAny _ _ (.compStart (.DictComp kx vx [⟨tg, iter, ifs, 0⟩] scope pos) 0 (.ref it) (.ref D) (compEnvC scope (cellsFrom (sc.heap.objs.size + 1) scope.names (cloFrom X.env.cells scope.names [])) sc.heap.objs.size X.env)) (compPost (model X.prog X.w) X.A X.xe use Qf (.ref D) sc.heap.objs.size) { sc with heap := pushCells (sc.heap.push { cls := .type "dict", data := .dict #[] }) scope.names }
  have nofp : ∀ b ∈ fp, (upd Hb D u0) b = none := fun b hb => (fc b hb).1.1
  generalize hce : compEnvC scope (cellsFrom (sc.heap.objs.size + 1) scope.names (cloFrom X.env.cells scope.names [])) sc.heap.objs.size X.env = ce at Id pg pt pk pe ⊢
  have ceL : ce.locals = sc.heap.objs.size := by subst hce; rfl
  generalize hHc : upd Hb D u0 = Hc at Ic Id pg pt pk pe w0 nofp fc
  generalize hsd : ({ sc with heap := pushCells (sc.heap.push { cls := .type "dict", data := .dict #[] }) scope.names } : Shared) = sd at Id ⊢
  have std : tn 0 sd.heap := T.keep _ _ _ stc fun b _ o e => by rw [← hsd]; exact pushCells_keeps _ _ _ _ (Heap.get?_push_of_some _ e)
  have stat : ∀ {τ : L2.St} {G : Hp} {t : Shared}, Inv (X.blk sc Hc scope ce fp) [] τ G t → (∀ b ∈ fp, G b = none) → ∀ b ∈ fp, FpOk (X.blk sc Hc scope ce fp) [] G b := fun {τ G t} IG hn b hb =>
    ⟨hn b hb, (IG.ok.exf b hb).1, IG.ok.exfs b hb, .inl hb, fun x c e => (IG.ok.exf b hb).2 x c e, fun p hp => absurd (show p ∈ ([] : List (Addr × Obj)) ++ [] from hp) (by simp)⟩
  have loop : codeAny (model X.prog X.w) X.A (.compLoop (.DictComp kx vx [⟨tg, iter, ifs, 0⟩] scope pos) 0 (.ref it) (.ref D) ce) (compPost (model X.prog X.w) X.A X.xe use Qf (.ref D) sc.heap.objs.size) sd := by
    refine compLoop_anyD (fun n t => ∃ i G, Inv (X.blk sc Hc scope ce fp) [] (L2.wipe σ (own.map (·.2))) G t ∧ tn i t.heap ∧ (∀ b ∈ fp, G b = none) ∧ W i n G) ?_ m0 ⟨0, Hc, Id, std, nofp, w0⟩
    rintro n se ⟨i, Ge, Ie, ste, ne, we⟩
    rcases turn i n Ge we with ⟨stop, qq⟩ | ⟨go, Nx, hNx, step⟩
    · refine thnF (T.done (X.blk sc Hc scope ce fp) rfl rfl rfl hc i [] se _ Ge (fun _ _ => False) Ie (stat Ie ne) ste stop) fun r sf ⟨hr, If⟩ => ?_
      subst hr
      have Ig : Inv X pins σ Ge sf := Ic.call' (ch := fp) If.os If.base If.hok If.bare fun b hb => ⟨(fc b hb).1.2.2.2.1, (fc b hb).1.2.1, (fc b hb).1.2.2.2.2.1, (fc b hb).1.2.2.2.2.2⟩
      have nC : Ge sc.heap.objs.size = none := by
        have z : Ge ce.locals = none := If.free
        rwa [ceL] at z
      obtain ⟨m, hn, _⟩ := If.loc
      have hn : sf.heap.Ns ce.locals m := hn
      rw [ceL] at hn
      exact fine D sc.heap.objs.size sf m Ge Ig qq hn (Ic.fpOk (Nat.le_refl _) nC)
    · refine thnF (T.item (X.blk sc Hc scope ce fp) rfl rfl rfl hc i [] se _ Ge (fun _ _ => False) Ie (stat Ie ne) ste go) fun r sf ⟨u, hr, hf⟩ => ?_
      subst hr
      refine thnF hf fun _ sg ⟨x, Gg, Ig, rg, yg, stg, ng⟩ => ?_
      have Ig' := Ig.pinned (stat Ig ng) (T.obj _ _ stg)
      refine thnF (pg.run _ sg _ Gg x u _ Ig' rg (step x Gg yg)) fun _ sh ⟨σh, Gh, Ih, wh, qh⟩ => ?_
      refine thnF (pt.run _ sh σh Gh _ Ih qh) fun c si ⟨Gi, Ii, qi⟩ => ?_
      have turned : ∀ {t : Shared} {G : Hp}, Inv (X.blk sc Hc scope ce fp) ([] ++ pinsAt fp sg.heap) σh G t → Nx G → ∃ m, m < n ∧ ∃ i G, Inv (X.blk sc Hc scope ce fp) [] (L2.wipe σ (own.map (·.2))) G t ∧ tn i t.heap ∧ (∀ b ∈ fp, G b = none) ∧ W i m G := fun {t G} IG nx => by
        obtain ⟨m', hm, w'⟩ := hNx G nx
        have kept : ∀ b ∈ fp, ∀ o, sg.heap.get? b = some o → t.heap.get? b = some o ∧ G b = none := fun b hb o e => by
          have z := IG.pin (b, o) (List.mem_append_right _ (List.mem_append_right _ (mem_pinsAt hb e)))
          exact ⟨z.1, z.2.1⟩
        have hl : (L2.wipe σ (own.map (·.2))).length = σh.length := by rw [← wh, L2.wipe_length]
        refine ⟨m', hm, i + 1, G, (IG.unpinned (pins := [])).weak hl (fun j v e => ?_), T.keep _ _ _ stg fun b hb o e => (kept b hb o e).1, fun b hb => ?_, w'⟩
        · rw [← wh] at e
          exact (wipe_some e).1
        · obtain ⟨o, e, _⟩ := T.obj _ _ stg b hb
          exact (kept b hb o e).2
      cases c with
      | false =>
        simp only [Bool.false_eq_true, if_false] at qi ⊢
        exact turned Ii qi
      | true =>
        simp only [if_true] at qi ⊢
        refine thnF (pk.run _ si σh Gi _ Ii qi) fun z sj ⟨yk, Gj, Ij, rj, qj⟩ => ?_
        refine thnF (pe.run _ sj σh Gj _ Ij qj) fun z2 sk ⟨yv, Gk, Ik, rk, Gl, put, nx⟩ => ?_
        obtain ⟨rk', nx'⟩ := (show (∃ G6, Put Gk D yk yv G6 ∧ Nx G6) → (∃ G6, Put Gk D yk yv G6 ∧ Nx G6) from id) ⟨Gl, put, nx⟩
        exact hput (X.blk sc Hc scope ce fp) rfl rfl rfl rfl _ _ _ _ _ _ _ _ _ _ _ _ Ik put rj rk fun st It => turned It nx
  exact codeAny_compStart_dict loop (T.self X.A 0 _ _ _ std loop)
/-- name = {..} on one line, the name a local -/
theorem ps_setDg {u0 : HO} {Put : Hp → Addr → V → V → Hp → Prop} {i : Nat} {y : Str} {py spos : Pos} {kx vx tg iter : Expr} {ifs : List Expr} {scope : Scope} {own : List (Str × Nat)} {pos : Pos} {wi : TI} {g : TG} {tt : TT} {tk tv : TE}
    (hu0 : ∀ (G : Hp) (h : Heap), sysModules < h.objs.size → ObjOk X.prog X.w G (h.push { cls := .type "dict", data := .dict #[] }) h.objs.size u0)
    (hput : ∀ (Y : Cx), Y.prog = X.prog → Y.w = X.w → Y.A = X.A → Y.K = X.K → ∀ (pn : List (Addr × Obj)) (τ : L2.St) (G G' : Hp) (t : Shared) (E : Value → Shared → Prop) (D : Addr) (y v : V) (u r : Value) (R : Unit → Shared → Prop), Inv Y pn τ G t → Put G D y v G' → RelV y u → RelV v r → (∀ t', Inv Y pn τ G' t' → R () t') → wpAny (model Y.prog Y.w) Y.A (dictSet D u r) R E t)
    (hc : X.calm = true) (hN : X.N.Nodup) (hy : X.N[i]? = some y) (hyl : X.env.scope.names.lookup y = some .local)
    (hsw : swapsWith (.DictComp kx vx [⟨tg, iter, ifs, 0⟩] scope pos) (some (.Name y py)) spos.line X.env = pure true) (hi : PI X tg iter wi) (ok : BlkOk X.N X.env.scope scope own)
    (hg : ∀ (t : Shared) (G : Hp) (C : Addr) (cl : List (Str × Addr)) (fp : List Addr), PG (X.blk t G scope (compEnvC scope cl C X.env) fp) tg g) (ht : ∀ (t : Shared) (G : Hp) (C : Addr) (cl : List (Str × Addr)) (fp : List Addr), PTs (X.blk t G scope (compEnvC scope cl C X.env) fp) ifs tt)
    (hk : ∀ (t : Shared) (G : Hp) (C : Addr) (cl : List (Str × Addr)) (fp : List Addr), PE (X.blk t G scope (compEnvC scope cl C X.env) fp) kx tk)
    (he : ∀ (t : Shared) (G : Hp) (C : Addr) (cl : List (Str × Addr)) (fp : List Addr), PE (X.blk t G scope (compEnvC scope cl C X.env) fp) vx tv) (hs : ∀ x, foldedSetIterable iter X.env x = pure x := by intro _; rfl) :
    PS X (.Assign [.Name y py] (.DictComp kx vx [⟨tg, iter, ifs, 0⟩] scope pos) spos) (tAsg (tDg u0 Put wi g tt tk tv (own.map (·.2))) (gName i)) := by
  refine ⟨fun pins s σ H D I h => ?_⟩
  rw [exec_Assign_Name_used _ _ _ _ hsw]
  refine wpAny_bind (wpAny_standAt (wpAny_bind ?_))
  show wpAny _ X.A (do let _ ← comprehension (.DictComp kx vx [⟨tg, iter, ifs, 0⟩] scope pos) scope X.env (firstIterPos [⟨tg, iter, ifs, 0⟩] pos) newDict false (eval iter X.env) (some (assign (.Name y py) X.env))) _ _ s
  have h : tDg u0 Put wi g tt tk tv (own.map (·.2)) σ H (fun x H1 => gName i x σ H1 D.nx) := h
  refine wpAny_bind (thn (dg_core (Qf := fun _ s' => SP X pins D .next s') hu0 hput hc hN I hi ok hg ht hk he hs h fun L C t m G IG q hn f => ?_) fun _ s' hq => wpAny_pure (wpAny_pure hq))
  show wpAny _ _ (assign (.Name y py) X.env (.ref L)) _ _ _
  refine wpAny_assign_Name (store_ok2 (v := V.ref L) IG hN hy (.inl hyl) rfl (fun t2 I2 ⟨a, sb, ha⟩ => ?_) (.inr hyl))
  obtain ⟨k0, k1, k2, k3, k4, k5⟩ := f
  have apart : C ≠ a := ha.elim (fun z => by rw [z]; exact k1) fun z e => k4 y a z e.symm
  exact ⟨m, hn.sameBut sb apart, fun h3 sb3 => ⟨_, G, I2.turned (t' := t2.toks) (fun b o hb e => (sb3.2 b hb).trans e) k0 k1 k3 k4 k5, q⟩⟩
theorem swd_true {kx vx : Expr} {gs : List Comprehension} {scope : Scope} {pos py : Pos} {y : Str} {l : Nat} {env : Env} (hk : env.scope.kind = .function) (hy : env.scope.names.lookup y = some .local) (hl : (py.line == pos.line) = true)
    (ha : (scope.names.any fun (n, k) => n == y && (k == .local || k == .cell)) = false) : swapsWith (.DictComp kx vx gs scope pos) (some (.Name y py)) l env = pure true := by
  have ky : env.kindOf y = some .local := hy
  have hb : env.blockKind = .function := by unfold Env.blockKind; rw [hk]; rfl
  unfold swapsWith
  simp only [hb, ky, ha, Expr.pos, hl]
  rfl
end
end Mo
set_option Elab.async false
set_option linter.all false
set_option maxRecDepth 100000
set_option maxHeartbeats 4000000
/-! MoJ: {(a, b): v for ..} as a tracked dict. -/
namespace Mo
open PySem L2 PySem.Spec PyProof.Rows
section
variable {X : Cx} {E : XK} {mk mv : En → Mm Dt} {mt : En → Mm Bool}
def PutT (G : Hp) (D : Addr) (y v : V) (G' : Hp) : Prop := ∃ (kvs : List (List Key × V)) (k : List Key) (b : Addr), G D = some (.dT kvs) ∧ y = .ref b ∧ G b = some (.tup (k.map kV)) ∧ kvs.length < sizeLine ∧ G' = upd G D (.dT (putK kvs k v))
def putO (n : Nat) (k y : Dt) : Mm Unit := fun h => match h[n]? with
  | some (.dt ks vs) => match keyT k with
    | some kk => if vs.length < sizeLine then .ok () (h.set n (.dt (putG ks vs kk y).1 (putG ks vs kk y).2)) else .no
    | none => .no
  | _ => .no
theorem putO_ok {K : PySem.W.Frag} {s : Sx} {n : Nat} {a : Addr} {k y : Dt} {kv yv : V} {c : Unit → Sx → Prop} (r : HRel K s) (ea : s.ρ[n]? = some a) (rk : Rep K s k kv) (ry : Rep K s y yv) (h : After K E s (putO n k y s.h) c) :
    ∃ G6, PutT s.H a kv yv G6 ∧ ∃ s', s'.H = G6 ∧ Ext s s' ∧ HRel K s' ∧ s'.ρ[n]? = some a ∧ c () s' := by
  unfold putO at h
  split at h
  · rename_i ks vs q
    split at h
    · rename_i kk hk
      split at h
      · rename_i hl
        obtain ⟨ws, h1, h2, h3⟩ := r.ob n a _ ea q
        obtain ⟨us, p1, p2, p3⟩ := put_ok (k := kk) h2 h3 ry
        have x := put_ext (u := .dT ((putG ks vs kk y).1.zip us)) (o' := .dt (putG ks vs kk y).1 (putG ks vs kk y).2) r ea q (by intro z; cases z)
        have r' := put_rel (u := .dT ((putG ks vs kk y).1.zip us)) (o' := .dt (putG ks vs kk y).1 (putG ks vs kk y).2) r ea q (by intro z; cases z) ⟨us, upd_same, p2, p3.ext x⟩
        cases k with
        | tup ds =>
          obtain ⟨b, bs, rfl, kb, rs⟩ := rk
          refine ⟨_, ⟨_, kk, b, h1, rfl, ?_, ?_, rfl⟩, _, ?_, x, r', ea, h.now _ rfl x r'⟩
          · rw [← keysD_ok rs hk]; exact kb.1
          · rw [List.length_zip, h2, Nat.min_self, h3.length]; exact hl
          · show upd s.H a (.dT ((putG ks vs kk y).1.zip us)) = _
            rw [p1]
        | _ => cases hk
      · exact h.elim
    · exact h.elim
  · exact h.elim
def dcL (p : Pat) (mt : En → Mm Bool) (mk mv : En → Mm Dt) (n : Nat) : List Dt → En → Mm Unit
  | [], _ => Mm.pure ()
  | d :: ds, env => gP p d env >>= fun e1 => mt e1 >>= fun c => match c with
    | true => mk e1 >>= fun k => mv e1 >>= fun y => putO n k y >>= fun _ => dcL p mt mk mv n ds env
    | false => dcL p mt mk mv n ds env
def dcM (mi : En → Mm (List Dt)) (p : Pat) (mt : En → Mm Bool) (mk mv : En → Mm Dt) (vs : List Nat) : En → Mm Dt := fun env => mi env >>= fun ds => newO (.dt [] []) >>= fun n => dcL p mt mk mv n ds (wipeE env vs) >>= fun _ => Mm.pure (.obj n)
theorem tDg_ok {K : PySem.W.Frag} {mi : En → Mm (List Dt)} {p : Pat} {vs : List Nat} (hp : ∀ i ∈ p.sl, i ∈ vs) : ∀ σ H Q, tE K E (dcM mi p mt mk mv vs) σ H Q → tDg (.dT []) PutT (tI K E mi) (p.tg K) (tT K E mt) (tE K E mk) (tE K E mv) vs σ H Q := fun σ H Q ⟨s, env, e, r, he, ha⟩ => by
  subst e
  refine ⟨s, env, rfl, r, he, ha.bind.mono fun ds s1 x1 r1 q J hJ D hD => ?_⟩
  have q1 := q.bind
  have x2 := add_ext (u := .dT []) (o := .dt [] []) r1 hD
  have r2 := add_rel (u := .dT []) (o := .dt [] []) r1 hD ⟨[], upd_same, rfl, Reps.nil⟩
  have q2 := q1.now (s1.add D (.dT []) (.dt [] [])) rfl x2 r2
  have eD : (s1.add D (.dT []) (.dt [] [])).ρ[s1.h.length]? = some D := add_at r1
  have e2 := ((he.ext x1).ext x2).wipe vs
  refine ⟨fun i m H => ∃ s3, s3.H = H ∧ Ext s1 s3 ∧ HRel K s3 ∧ s3.ρ[s1.h.length]? = some D ∧ Envs K s3 (wipeE env vs) (L2.wipe σ vs) ∧ m = ds.length - i ∧ i ≤ ds.length ∧
      After K E s3 ((dcL p mt mk mv s1.h.length (ds.drop i) (wipeE env vs) >>= fun _ => Mm.pure (.obj s1.h.length)) s3.h) (fun d s' => ∀ v, Rep K s' d v → Q v s'.H),
    ⟨ds.length, _, rfl, x2, r2, eD, e2, by simp, Nat.zero_le _, by simpa using q2⟩, ?_⟩
  rintro i m H ⟨s3, rfl, x3, r3, eD3, e3, rfl, hi, q3⟩
  by_cases hlt : i < ds.length
  · have hd : ds.drop i = ds[i] :: ds.drop (i + 1) := by rw [List.drop_eq_getElem_cons hlt]
    rw [hd] at q3
    obtain ⟨go, yl⟩ := hJ.go s3 x3 r3 i ds[i] (by simp [hlt])
    have as : ∀ h, (dcL p mt mk mv s1.h.length (ds[i] :: ds.drop (i + 1)) (wipeE env vs) >>= fun _ => Mm.pure (.obj s1.h.length)) h = (gP p ds[i] (wipeE env vs) >>= fun e1 => mt e1 >>= fun c => match c with
        | true => mk e1 >>= fun k => mv e1 >>= fun y => putO s1.h.length k y >>= fun _ => dcL p mt mk mv s1.h.length (ds.drop (i + 1)) (wipeE env vs) >>= fun _ => Mm.pure (.obj s1.h.length)
        | false => dcL p mt mk mv s1.h.length (ds.drop (i + 1)) (wipeE env vs) >>= fun _ => Mm.pure (Dt.obj s1.h.length)) h := by
      intro h
      show Mm.bind (Mm.bind (gP p ds[i] (wipeE env vs)) _) _ h = Mm.bind (gP p ds[i] (wipeE env vs)) _ h
      simp only [Mm.bind]
      cases gP p ds[i] (wipeE env vs) h with
      | ok e1 h1 =>
        show Mm.bind (Mm.bind (mt e1) _) _ h1 = Mm.bind (mt e1) _ h1
        simp only [Mm.bind]
        cases mt e1 h1 with
        | ok c h2 =>
          cases c with
          | false => rfl
          | true =>
            show Mm.bind (Mm.bind (mk e1) _) _ h2 = Mm.bind (mk e1) _ h2
            simp only [Mm.bind]
            cases mk e1 h2 with
            | ok k h3 =>
              show Mm.bind (Mm.bind (mv e1) _) _ h3 = Mm.bind (mv e1) _ h3
              simp only [Mm.bind]
              cases mv e1 h3 with
              | ok y h4 =>
                show Mm.bind (Mm.bind (putO s1.h.length k y) _) _ h4 = Mm.bind (putO s1.h.length k y) _ h4
                simp only [Mm.bind]
                cases putO s1.h.length k y h4 <;> rfl
              | exn _ _ => rfl
              | no => rfl
            | exn _ _ => rfl
            | no => rfl
        | exn _ _ => rfl
        | no => rfl
      | exn _ _ => rfl
      | no => rfl
    rw [as] at q3
    refine .inr ⟨go, fun H' => ∃ s4, s4.H = H' ∧ Ext s1 s4 ∧ HRel K s4 ∧ s4.ρ[s1.h.length]? = some D ∧ Envs K s4 (wipeE env vs) (L2.wipe σ vs) ∧
        After K E s4 ((dcL p mt mk mv s1.h.length (ds.drop (i + 1)) (wipeE env vs) >>= fun _ => Mm.pure (.obj s1.h.length)) s4.h) (fun d s' => ∀ v, Rep K s' d v → Q v s'.H), ?_, fun x H' y => ?_⟩
    · rintro H' ⟨s4, rfl, x4, r4, eD4, e4, q4⟩
      exact ⟨ds.length - (i + 1), by omega, s4, rfl, x4, r4, eD4, e4, rfl, by omega, q4⟩
    · obtain ⟨s4, rfl, eh, x4, r4, rx⟩ := yl x H' y
      have e4 := e3.ext x4
      have q4 := After.ext x4 q3
      rw [← eh] at q4
      have eD4 := x4.pre _ _ eD3
      have q4' := q4.bind
      unfold gP at q4'
      cases qb : p.bd ds[i] (wipeE env vs) with
      | none => rw [qb] at q4'; exact q4'.elim
      | some e1 =>
        rw [qb] at q4'
        have q5 := q4'.ret r4
        refine p.ok rx qb e4 fun τ hτ bτ => ⟨by rw [bτ.wipe hp]; exact But.wipe (σ := σ) (τ := L2.wipe σ vs) (l := vs) ⟨wipe_length σ vs, fun j hj => wipe_out hj⟩ (fun i h => h), ?_⟩
        refine tT_bind r4 hτ q5 fun cb s6 x6 r6 e6 q6 => ?_
        cases cb with
        | false =>
          rw [if_neg (by decide)]
          exact ⟨s6, rfl, (x3.trans x4).trans x6, r6, x6.pre _ _ eD4, e4.ext x6, q6⟩
        | true =>
          rw [if_pos rfl]
          refine tE_bind r6 e6 q6 fun kd s7 kv x7 r7 e7 rk q7 => ?_
          refine tE_bind r7 e7 q7 fun yd s8 yv x8 r8 e8 ry q8 => ?_
          obtain ⟨G6, hp6, s9, es9, x9, r9, eD9, q9⟩ := putO_ok r8 (x8.pre _ _ (x7.pre _ _ (x6.pre _ _ eD4))) (rk.ext x8) ry q8.bind
          exact ⟨G6, hp6, s9, es9, ((x3.trans x4).trans ((x6.trans x7).trans x8)).trans x9, r9, eD9, (((e4.ext x6).ext x7).ext x8).ext x9, q9⟩
  · have hi' : i = ds.length := by omega
    subst hi'
    refine .inl ⟨hJ.stop s3 x3 r3, ?_⟩
    rw [List.drop_length] at q3
    exact (q3.bind.ret r3).ret r3 _ ⟨D, eD3, rfl⟩
theorem ms_setDcT {i : Nat} {y : Str} {py spos pos : Pos} {kx vx tg iter : Expr} {ifs : List Expr} {scope : Scope} {own : List (Str × Nat)} {mi : En → Mm (List Dt)} {p : Pat} (hu : X.A.units + 1 < cLine) (hc : X.calm = true) (hN : X.N.Nodup) (hp : ∀ i ∈ p.sl, i ∈ own.map (·.2)) (hy : X.N[i]? = some y) (hyl : X.env.scope.names.lookup y = some .local)
    (hsw : swapsWith (.DictComp kx vx [⟨tg, iter, ifs, 0⟩] scope pos) (some (.Name y py)) spos.line X.env = pure true) (hi : PI X tg iter (tI X.K E mi)) (ok : BlkOk X.N X.env.scope scope own)
    (hg : ∀ (s : Shared) (H : Hp) (C : Addr) (cl : List (Str × Addr)) (fp : List Addr), PG (X.blk s H scope (compEnvC scope cl C X.env) fp) tg (p.tg X.K)) (ht : ∀ (s : Shared) (H : Hp) (C : Addr) (cl : List (Str × Addr)) (fp : List Addr), PTs (X.blk s H scope (compEnvC scope cl C X.env) fp) ifs (tT X.K E mt))
    (hk : ∀ (s : Shared) (H : Hp) (C : Addr) (cl : List (Str × Addr)) (fp : List Addr), PE (X.blk s H scope (compEnvC scope cl C X.env) fp) kx (tE X.K E mk))
    (he : ∀ (s : Shared) (H : Hp) (C : Addr) (cl : List (Str × Addr)) (fp : List Addr), PE (X.blk s H scope (compEnvC scope cl C X.env) fp) vx (tE X.K E mv)) (hs : ∀ x, foldedSetIterable iter X.env x = pure x := by intro _; rfl) :
    PS X (.Assign [.Name y py] (.DictComp kx vx [⟨tg, iter, ifs, 0⟩] scope pos) spos) (tS X.K E (sto i (dcM mi p mt mk mv (own.map (·.2))))) :=
  ps_mono (ps_setDg (u0 := .dT []) (Put := PutT) (fun G h hb => dt_empty h hb) (fun Y e1 e2 e3 e4 pn τ G G' t EE D y v u r R I put ry rv hR => by
    obtain ⟨kvs, k, b, hD, rfl, hb, hl, rfl⟩ := put
    cases (show u = Value.ref b from ry)
    exact setT (by rw [e3]; exact hu) I hD hb hl rv hR) hc hN hy hyl hsw hi ok hg ht hk he hs) fun D σ H ⟨s, env, e, r, he, ha⟩ => by
  subst e
  exact tDg_ok hp _ _ _ (tE_bind r he ha fun d s1 v x1 r1 e1 rv q => q.ret r1 _ (e1.set rv i))
end
end Mo
set_option Elab.async false
set_option linter.all false
set_option maxRecDepth 100000
set_option maxHeartbeats 4000000
/-! MoK: x.replace(y, z, 1), upper, split as a tracked list. -/
namespace Mo
open PySem L2 PySem.Spec PyProof.Rows
open Builtin Builtin.Str in
def repl1 (x y z : Str) : Str := if (occurrences x y 0 x.length 1).isEmpty || (y.length == 0 && z.length == 0) then x else glued z (partsBetween x (occurrences x y 0 x.length 1) y.length)
open Builtin Builtin.Str in
theorem gives_repl1 (x y z : Str) (t u v k : Tok) (h0 : (u == 0 || v == 0) = false) (huv : (u == v) = false) (hyz : (y == z) = false) (hl : tooLong (x.length + (occurrences x y 0 x.length 1).length * z.length) = false) :
    Gives («str.replace» ⟨[.str x t, .str y u, .str z v, .int 1 k], []⟩) (if ((occurrences x y 0 x.length 1).isEmpty || (y.length == 0 && z.length == 0)) = true then .val (.str x t) else .str (glued z (partsBetween x (occurrences x y 0 x.length 1) y.length))) := by
  show Gives (if ((occurrences x y 0 x.length 1).isEmpty || (y.length == 0 && z.length == 0)) = true then (do rule "str.replace.nothing"; PySem.ret (.str x t)) else
          (do let alike ← isSame (.str y u) (.str z v)
              if alike = true then (do rule "str.replace.old-is-new"; PySem.ret (.str x t)) else
              if tooLong (x.length + (occurrences x y 0 x.length 1).length * z.length) = true then unsupported "str.replace:memory" else
              retStr (glued z (partsBetween x (occurrences x y 0 x.length 1) y.length)))) _
  cases hc : ((occurrences x y 0 x.length 1).isEmpty || (y.length == 0 && z.length == 0))
  · rw [isSame_str_other y z u v h0 huv hyz, hl]
    exact .of_eq rfl
  · exact .rule (.of_eq rfl)
open Builtin Builtin.Str in
theorem len_repl1 (x y z : Str) : (repl1 x y z).length ≤ x.length + z.length := by
  unfold repl1
  split
  · omega
  · have h1 := StrLaws.occ_length_le x y 0 x.length 1
    have hy : (glued y (partsBetween x (occurrences x y 0 x.length 1) y.length)).length = x.length := by rw [StrLaws.glued_between_self]
    rw [size_glued, length_partsBetween, Nat.add_sub_cancel] at hy
    rw [size_glued, length_partsBetween, Nat.add_sub_cancel]
    have h2 : (occurrences x y 0 x.length 1).length * z.length ≤ 1 * z.length := Nat.mul_le_mul_right _ h1
    omega
section
variable {X : Cx} {E : XK} {o e f : Expr} {te tf : TE} {to : TE} {y z : Str} {j k l : Nat} {c0 c1 c2 apos pos p p' : Pos} {es : List Expr} {ta : TA} {mo mx : En → Mm Dt} {mr : En → Mm (List Dt)}
def tRepl1 (to : TE) (y z : Str) : TE := fun σ H Q => to σ H fun v H1 => ∃ x, v = .str x ∧ x.length + z.length ≤ 16777216 ∧ Q (.str (repl1 x y z)) H1
open Builtin Builtin.Str in
theorem pet_repl1 (ho : PE X o to) (hyz : (y == z) = false)
    (hst : starEach [.Constant (.str y) j c0, .Constant (.str z) k c1, .Constant (.int 1) l c2] X.env = [(false, eval (.Constant (.str y) j c0) X.env), (false, eval (.Constant (.str z) k c1) X.env), (false, eval (.Constant (.int 1) l c2) X.env)] := by rfl)
    (hbase : attributeBase o "replace" X.env (eval o X.env) = eval o X.env := by rfl) (hline : (apos.endLine == pos.line) = true := by rfl) :
    PET X (.Call (.Attribute o "replace" apos) [.Constant (.str y) j c0, .Constant (.str z) k c1, .Constant (.int 1) l c2] [] pos) (tRepl1 to y z) := by
  intro pins s σ H Q h0 I h
  refine wpAny_Call_method_lateS hbase (by rw [hst]; rfl) hline ?_
  rw [hst]
  refine wpAny_mono (wpAny_toks (ho.run pins s σ H _ I h)) (fun v s1 q => ?_) fun _ _ z => z.2
  obtain ⟨hk, v', H1, I1, r1, x, e1, hb, q⟩ := q
  subst e1
  obtain ⟨tx, e2⟩ := r1
  subst e2
  refine ⟨"str", _, PySem.F.plainAttrs_str, PySem.F.slot_str_replace, PySem.F.type_str_replace, typeIs_str _ _ _, (fun _ e => nomatch e), Calls.callWith_builtin rfl (Calls.evalArgs_plain (Calls.spliced_cons ?_))⟩
  refine Calls.Constant_str (k := j) (pos := c0) (Calls.spliced_cons (Calls.Constant_str (k := k) (pos := c1) (Calls.spliced_cons (wpAny_Constant_int (k := l) (pos := c2) (Calls.spliced_nil ?_)))))
  have t1 : s1.toks ≠ 0 := by omega
  have t2 : s1.toks + 1 ≠ 0 := by omega
  have h1 := StrLaws.occ_length_le x y 0 x.length 1
  have h2 : (occurrences x y 0 x.length 1).length * z.length ≤ 1 * z.length := Nat.mul_le_mul_right _ h1
  have lz := len_repl1 x y z
  refine call_gives PySem.F.slot_str_replace (typeIs_str _ _ _) PySem.F.entry_str_replace (PySem.F.args_str_replace_4 _ _ _ _)
    (gives_repl1 x y z tx s1.toks (s1.toks + 1) _ (by simp [t1, t2]) (by simp) hyz (by unfold tooLong; rw [sizeLine_eq]; exact decide_eq_false (by omega))) ?_
  have q' : ∀ t' n, EP X pins σ Q (.str (repl1 x y z) t') { s1 with toks := n } := fun t' n => ⟨.str (repl1 x y z), H1, I1.tok n, ⟨t', rfl⟩, q⟩
  unfold repl1 at q' lz
  cases hc : ((occurrences x y 0 x.length 1).isEmpty || (y.length == 0 && z.length == 0))
  · rw [hc] at q' lz
    simp only [Bool.false_eq_true, if_false] at q' lz ⊢
    exact ⟨by rw [sizeLine_eq]; omega, q' _ _⟩
  · rw [hc] at q'
    simp only [if_true] at q' ⊢
    exact q' _ _
/-- arguments of which the first is a written text: behind it a token is out -/
theorem pa_strT {x : Str} (hr : PAT X es ta) (hs : starEach (.Constant (.str x) j p :: es) X.env = (false, eval (.Constant (.str x) j p) X.env) :: starEach es X.env := by rfl) : PA X (.Constant (.str x) j p :: es) (tCons (tC (.str x)) ta) := by
  refine ⟨fun pos pins s σ H Q I h => ?_⟩
  rw [hs]
  show wpAny _ _ (spliced ((false, eval (.Constant (.str x) j p) X.env) :: backTo pos (starEach es X.env))) _ _ s
  refine Calls.spliced_cons (Calls.Constant_str ?_)
  exact thn (hr pos pins { s with toks := s.toks + 1 } σ H _ (by show 1 ≤ s.toks + 1; omega) (I.tok _) h) fun us s2 ⟨xs, H2, I2, r2, q2⟩ => ⟨.str x :: xs, H2, I2, .cons ⟨_, rfl⟩ r2, q2⟩
theorem pat_cons (ha : PE X e te) (hr : PAT X es ta) (hs : starEach (e :: es) X.env = (false, eval e X.env) :: starEach es X.env := by rfl) : PAT X (e :: es) (tCons te ta) := by
  intro pos pins s σ H Q h0 I h
  rw [hs]
  show wpAny _ _ (spliced ((false, eval e X.env) :: backTo pos (starEach es X.env))) _ _ s
  refine Calls.spliced_cons (wpAny_mono (wpAny_toks (ha.run pins s σ H _ I h)) (fun u s1 q => ?_) fun _ _ z => z.2)
  obtain ⟨hk, x, H1, I1, r1, q1⟩ := q
  exact thn (hr pos pins s1 σ H1 _ (Nat.le_trans h0 hk) I1 q1) fun us s2 ⟨xs, H2, I2, r2, q2⟩ => ⟨x :: xs, H2, I2, .cons r1 r2, q2⟩
theorem pat_consT (ha : PET X e te) (hr : PA X es ta) (hs : starEach (e :: es) X.env = (false, eval e X.env) :: starEach es X.env := by rfl) : PAT X (e :: es) (tCons te ta) := by
  intro pos pins s σ H Q h0 I h
  rw [hs]
  show wpAny _ _ (spliced ((false, eval e X.env) :: backTo pos (starEach es X.env))) _ _ s
  refine Calls.spliced_cons (thn (ha pins s σ H _ h0 I h) fun u s1 ⟨x, H1, I1, r1, q1⟩ => ?_)
  exact thn (hr.run pos pins s1 σ H1 _ I1 q1) fun us s2 ⟨xs, H2, I2, r2, q2⟩ => ⟨x :: xs, H2, I2, .cons r1 r2, q2⟩
theorem pat_mono {t u : TA} (h : PAT X es t) (k : ∀ σ H Q, u σ H Q → t σ H Q) : PAT X es u := fun pos pins s σ H Q h0 I q => h pos pins s σ H Q h0 I (k _ _ _ q)
theorem pet_mono {t u : TE} (h : PET X e t) (k : ∀ σ H Q, u σ H Q → t σ H Q) : PET X e u := fun pins s σ H Q h0 I q => h pins s σ H Q h0 I (k _ _ _ q)
/-! the readings -/
def rpl1 (y z : Str) (mo : En → Mm Dt) : En → Mm Dt := fun env => mo env >>= fun d => match d with
  | .str x => if x.length + z.length ≤ 16777216 then Mm.pure (.str (repl1 x y z)) else Mm.no
  | _ => Mm.no
theorem met_repl1 (ho : PE X o (tE X.K E mo)) (hyz : (y == z) = false := by decide)
    (hst : starEach [.Constant (.str y) j c0, .Constant (.str z) k c1, .Constant (.int 1) l c2] X.env = [(false, eval (.Constant (.str y) j c0) X.env), (false, eval (.Constant (.str z) k c1) X.env), (false, eval (.Constant (.int 1) l c2) X.env)] := by rfl)
    (hbase : attributeBase o "replace" X.env (eval o X.env) = eval o X.env := by rfl) (hline : (apos.endLine == pos.line) = true := by rfl) :
    PET X (.Call (.Attribute o "replace" apos) [.Constant (.str y) j c0, .Constant (.str z) k c1, .Constant (.int 1) l c2] [] pos) (tE X.K E (rpl1 y z mo)) := pet_mono (pet_repl1 ho hyz hst hbase hline) fun σ H Q ⟨s, env, e, r, he, ha⟩ => by
  subst e
  refine tE_bind r he ha fun d s1 v x1 r1 e1 rv q => ?_
  cases d with
  | str x =>
    cases rv
    by_cases hl : x.length + z.length ≤ 16777216
    · simp only [hl, if_true] at q
      exact ⟨x, rfl, hl, q.ret r1 _ rfl⟩
    · simp only [hl, if_false] at q
      exact q.elim
  | _ => exact q.elim
theorem ma_strT {x : Str} (hr : PAT X es (tA X.K E mr)) (hs : starEach (.Constant (.str x) j p :: es) X.env = (false, eval (.Constant (.str x) j p) X.env) :: starEach es X.env := by rfl) : PA X (.Constant (.str x) j p :: es) (tA X.K E (argC (con (.str x)) mr)) := pa_mono (pa_strT hr hs) fun σ H Q ⟨s, env, e, r, he, ha⟩ => by
  subst e
  have q := ha.bind
  have q1 := After.ret (a := Dt.str x) r q
  exact tA_bind r he q1 fun ds s2 vs x2 r2 e2 rvs q2 => q2.ret r2 _ (Reps.cons rfl rvs)
theorem mat_cons (ha : PE X e (tE X.K E mo)) (hr : PAT X es (tA X.K E mr)) (hs : starEach (e :: es) X.env = (false, eval e X.env) :: starEach es X.env := by rfl) : PAT X (e :: es) (tA X.K E (argC mo mr)) := pat_mono (pat_cons ha hr hs) fun σ H Q ⟨s, env, e, r, he, ha⟩ => by
  subst e
  exact tE_bind r he ha fun d s1 v x1 r1 e1 rv q => tA_bind r1 e1 q fun ds s2 vs x2 r2 e2 rvs q2 => q2.ret r2 _ (Reps.cons (rv.ext x2) rvs)
theorem mat_consT (ha : PET X e (tE X.K E mo)) (hr : PA X es (tA X.K E mr)) (hs : starEach (e :: es) X.env = (false, eval e X.env) :: starEach es X.env := by rfl) : PAT X (e :: es) (tA X.K E (argC mo mr)) := pat_mono (pat_consT ha hr hs) fun σ H Q ⟨s, env, e, r, he, ha⟩ => by
  subst e
  exact tE_bind r he ha fun d s1 v x1 r1 e1 rv q => tA_bind r1 e1 q fun ds s2 vs x2 r2 e2 rvs q2 => q2.ret r2 _ (Reps.cons (rv.ext x2) rvs)
/-! upper, split -/
def mUpper : Dt → List Dt → Mm Dt := fun o ds h => match o, ds with
  | .str a, [] => if a.length ≤ 5592405 then .ok (.str (Txt.upper a)) h else .no
  | _, _ => .no
theorem m_upper : MtR X "str.upper" (mM X.K E mUpper) := mtR_mono mt_upper fun x vs H Q ⟨s, d, ds, eH, r, rx, rs, ha⟩ => by
  subst eH
  unfold mUpper at ha
  split at ha
  · rename_i a
    cases rx; cases rs
    split at ha
    · rename_i hl
      exact ⟨a, rfl, rfl, hl, fin r ha rfl⟩
    · exact ha.elim
  · exact ha.elim
def mSplitO : Dt → List Dt → Mm Dt := fun o ds h => match o, ds with
  | .str a, [.str b] => if (b.length == 0) = false ∧ a.length + 2 ≤ sizeLine then mkO (.lst ((Txt.split a b).map .str)) h else .no
  | _, _ => .no
theorem m_splitO : MtR X "str.split" (mM X.K E mSplitO) := mtR_mono mt_split fun x vs H Q ⟨s, d, ds, eH, r, rx, rs, ha⟩ => by
  subst eH
  unfold mSplitO at ha
  split at ha
  · rename_i a b
    obtain ⟨v, rfl, rv⟩ := rs.one
    cases rx; cases rv
    split at ha
    · rename_i hl
      refine ⟨a, b, rfl, rfl, hl.1, hl.2, fun p hp => ?_⟩
      obtain ⟨_, x, rp, kq⟩ := mkO_ok (u := .lst ((Txt.split a b).map V.str)) (o := .lst ((Txt.split a b).map .str)) r hp ⟨_, upd_same, reps_strs _⟩ ha
      exact kq _ rp
    · exact ha.elim
  · exact ha.elim
end
end Mo
set_option Elab.async false
set_option linter.all false
set_option maxRecDepth 100000
set_option maxHeartbeats 4000000
/-! MoL: x == (). -/
namespace Mo
open PySem L2 PySem.Spec PyProof.Rows
section
variable {X : Cx} {E : XK}
def rEqE (K : PySem.W.Frag) : R2 := fun x y H Q => ∃ (a b : Addr) (xs : List V), x = .ref a ∧ y = .ref b ∧ SqT K H a xs ∧ SqT K H b [] ∧ Q (.bl xs.isEmpty) H
theorem op_eqE (hu : X.A.units < cLine) : OpR X (compareOp .Eq) (rEqE X.K) := by
  intro pins s σ H x y v u Q I rx ry h
  obtain ⟨a, b, xs, rfl, rfl, ha, hb, q⟩ := h
  obtain rfl : v = Value.ref a := rx
  obtain rfl : u = Value.ref b := ry
  obtain ⟨its, rv, ht, _⟩ := I.tuple ha
  obtain ⟨itb, rb, hb', _⟩ := I.tuple hb
  cases rb
  refine SeqAt.eq_tupleAt (e := fun _ => true) (show s.heap.IsTuple a its.toArray from ht) (show s.heap.IsTuple b ([] : List Value).toArray from hb') hu (fun j h1 h2 => absurd h2 (by simp)) ?_
  refine ⟨.bl xs.isEmpty, H, I, ?_, q⟩
  cases rv <;> rfl
def opEqE : Dt → Dt → Mm Dt := fun x y h => match x, y with
  | .tup xs, .tup [] => .ok (.bl xs.isEmpty) h
  | _, _ => .no
theorem o_eqE (hu : X.A.units + 64 < cLine) : OpR X (compareOp .Eq) (rM X.K E opEqE) := opR_mono (op_eqE (by omega)) fun x y H Q ⟨s, d, e, eH, r, rx, ry, ha⟩ => by
  subst eH
  unfold opEqE at ha
  split at ha
  · rename_i xs
    obtain ⟨a, vs, rfl, sq, rs⟩ := tupR_ok rx (xs := xs) rfl
    obtain ⟨b, ws, rfl, sqb, rsb⟩ := tupR_ok ry (xs := []) rfl
    cases rsb
    refine ⟨a, b, vs, rfl, rfl, sq, sqb, ?_⟩
    have e : vs.isEmpty = xs.isEmpty := by
      have := rs.length
      cases vs <;> cases xs <;> simp at this ⊢
    rw [e]
    exact fin r ha rfl
  · exact ha.elim
end
end Mo
set_option Elab.async false
set_option linter.all false
set_option maxRecDepth 100000
set_option maxHeartbeats 4000000
/-! MoM: xs != [] of a list of anything. -/
namespace Mo
open PySem L2 PySem.Spec PyProof.Rows
section
variable {X : Cx} {E : XK}
def rNeL (K : PySem.W.Frag) : R2 := fun x y H Q => ∃ (a b : Addr) (xs : List V), x = .ref a ∧ y = .ref b ∧ SqL K H a xs ∧ SqL K H b [] ∧ Q (.bl (!xs.isEmpty)) H
theorem op_neL (hu : X.A.units < cLine) : OpR X (compareOp .NotEq) (rNeL X.K) := by
  intro pins s σ H x y v u Q I rx ry h
  obtain ⟨a, b, xs, rfl, rfl, ha, hb, q⟩ := h
  obtain rfl : v = Value.ref a := rx
  obtain rfl : u = Value.ref b := ry
  obtain ⟨its, rv, ht, _⟩ := I.list ha
  obtain ⟨itb, rb, hb', _⟩ := I.list hb
  cases rb
  have la : s.heap.IsList a its.toArray := ht.isList
  have lb : s.heap.IsList b ([] : List Value).toArray := hb'.isList
  cases rv with
  | nil => exact SeqAt.RcNeAt.lists (e := fun _ => true) la lb rfl hu (fun j h1 h2 => absurd h2 (by simp)) X.prog X.w _ _ ⟨.bl false, H, I, rfl, q⟩
  | cons r1 r2 => exact SeqAt.RcNeAt.lists_lengths la lb (by simp) hu X.prog X.w _ _ ⟨.bl true, H, I, rfl, q⟩
def opNeL : Dt → Dt → Mm Dt := fun x y h => match lstR h x, y with
  | some xs, .lv [] => .ok (.bl (!xs.isEmpty)) h
  | _, _ => .no
theorem o_neL (hu : X.A.units + 64 < cLine) : OpR X (compareOp .NotEq) (rM X.K E opNeL) := opR_mono (op_neL (by omega)) fun x y H Q ⟨s, d, e, eH, r, rx, ry, ha⟩ => by
  subst eH
  unfold opNeL at ha
  split at ha
  · rename_i xs hx
    obtain ⟨a, vs, rfl, sq, rs⟩ := lstR_ok r rx hx
    obtain ⟨b, ws, rfl, sqb, rsb⟩ := lstR_ok r ry (xs := []) rfl
    cases rsb
    refine ⟨a, b, vs, rfl, rfl, sq, sqb, ?_⟩
    have e : vs.isEmpty = xs.isEmpty := by
      have := rs.length
      cases vs <;> cases xs <;> simp at this ⊢
    rw [e]
    exact fin r ha rfl
  · exact ha.elim
end
end Mo
set_option Elab.async false
set_option linter.all false
set_option maxRecDepth 100000
set_option maxHeartbeats 4000000
/-! MoN: instances of own classes: attributes, properties, making, methods. -/
namespace Mo
open PySem L2 PySem.Spec PyProof.Rows
section
variable {X : Cx} {E : XK} {K : PySem.W.Frag} {s : Sx} {e o : Expr} {c f m : Str} {pos p apos : Pos} {mo ma : En → Mm Dt} {mr : En → Mm (List Dt)} {fm : List Dt → Mm Dt} {k : Nat} {fa g pa C : Addr} {fd : FuncData} {ps : List Str} {es : List Expr}
/-- the instance of class c at d -/
def insR (c : Str) (h : Ah) : Dt → Option (List (Str × Dt))
  | .obj i => match h[i]? with
    | some (.ins c' fs) => if c' = c then some fs else none
    | _ => none
  | _ => none
theorem insR_ok {d : Dt} {v : V} {fs : List (Str × Dt)} (r : HRel K s) (rv : Rep K s d v) (h : insR c s.h d = some fs) : ∃ i a dx vs, d = .obj i ∧ v = .ref a ∧ s.ρ[i]? = some a ∧ s.h[i]? = some (.ins c fs) ∧ s.H a = some (.ins (He.ga K c) dx vs) ∧ (s.H dx = some (.own a) ∧ ¬ s.mut dx) ∧ RepF K s fs vs := by
  unfold insR at h
  split at h
  · rename_i i
    split at h
    · rename_i c' fs' hh
      split at h
      · rename_i hc
        cases h
        subst hc
        obtain ⟨a, ea, rfl⟩ := rv
        obtain ⟨dx, vs, h1, h2, h3⟩ := r.ob i a _ ea hh
        exact ⟨i, a, dx, vs, rfl, rfl, ea, hh, h1, h2, h3⟩
      · cases h
    · cases h
  · cases h
/-! e.f -/
def fldR (c f : Str) : Dt → Mm Dt := fun d h => match (insR c h d).bind (fun fs => fs.lookup f) with
  | some y => .ok y h
  | none => .no
def fld (c f : Str) (mo : En → Mm Dt) : En → Mm Dt := fun env => mo env >>= fldR c f
theorem me_fld (hc : Cls X.K (He.ga X.K c)) (hn : NoAttr X.K (He.ga X.K c) f) (he : PE X e (tE X.K E mo)) (hb : attributeBase e f X.env (eval e X.env) = eval e X.env := by rfl) : PE X (.Attribute e f pos) (tE X.K E (fld c f mo)) := pe_mono (pe_fld he hb) fun σ H Q ⟨s, env, e, r, he, ha⟩ => by
  subst e
  refine tE_bind r he ha fun d s1 v x1 r1 e1 rv q => ?_
  unfold fldR at q
  cases qi : insR c s1.h d with
  | none => rw [qi] at q; exact q.elim
  | some fs =>
    obtain ⟨i, a, dx, vs, rfl, rfl, ea, hh, h1, h2, h3⟩ := insR_ok r1 rv qi
    rw [qi] at q
    rcases h3.lookup f with ⟨l1, l2⟩ | ⟨y, w, l1, l2, ry⟩
    · simp only [Option.bind_some, l1] at q; exact q.elim
    · simp only [Option.bind_some, l1] at q
      exact ⟨a, _, dx, vs, w, rfl, h1, hc, hn, l2, fin r1 q ry⟩
/-! e.f = v -/
def putD (f : Str) (v : Dt) : List (Str × Dt) → List (Str × Dt)
  | [] => [(f, v)]
  | (g, x) :: r => if g = f then (g, v) :: r else (g, x) :: putD f v r
theorem RepF.put {y : Dt} {w : V} (ry : Rep K s y w) : ∀ {fs : List (Str × Dt)} {vs : List (Str × V)}, RepF K s fs vs → RepF K s (putD f y fs) (putF f w vs)
  | [], _, h => by cases h; exact ⟨w, [], rfl, ry, rfl⟩
  | (n, d) :: fs, _, h => by
    obtain ⟨v, r, rfl, h1, h2⟩ := h
    unfold putD putF
    by_cases e : n = f
    · rw [if_pos e, if_pos e]; exact ⟨w, r, rfl, ry, h2⟩
    · rw [if_neg e, if_neg e]; exact ⟨v, _, rfl, h1, RepF.put ry h2⟩
theorem RepF.length : ∀ {fs : List (Str × Dt)} {vs : List (Str × V)}, RepF K s fs vs → vs.length = fs.length
  | [], _, h => by cases h; rfl
  | (n, d) :: fs, _, h => by
    obtain ⟨v, r, rfl, h1, h2⟩ := h
    simp [RepF.length h2]
def setF (c f : Str) (o y : Dt) : Mm Unit := fun h => match o with
  | .obj i => match insR c h (.obj i) with
    | some fs => if fs.length < 1000 then .ok () (h.set i (.ins c (putD f y fs))) else .no
    | none => .no
  | _ => .no
def gF (c f : Str) (mo : En → Mm Dt) : Dt → En → Mm En := fun d env => mo env >>= fun o => setF c f o d >>= fun _ => Mm.pure env
theorem mg_fld (hc : Cls X.K (He.ga X.K c)) (hn : NoAttr X.K (He.ga X.K c) f) (ho : PE X o (tE X.K E mo)) : PG X (.Attribute o f pos) (tG X.K E (gF c f mo)) := ⟨fun pins t σ H v u Q I ru ⟨s, env, d, eH, r, he, rd, ha⟩ => by
  subst eH
  refine PySem.W.kas_attr ?_
  have h2 : tE X.K E mo σ s.H fun x H2 => ∃ a dx fs, x = .ref a ∧ H2 a = some (.ins (He.ga X.K c) dx fs) ∧ fs.length < 1000 ∧ ∃ σ', Q σ' (upd H2 a (.ins (He.ga X.K c) dx (putF f v fs))) ∧ σ' = σ := by
    refine tE_bind r he ha fun ov s1 w x1 r1 e1 rv q => ?_
    have q1 := q.bind
    unfold setF at q1
    split at q1
    · rename_i i
      cases qi : insR c s1.h (.obj i) with
      | none => rw [qi] at q1; exact q1.elim
      | some fs =>
        obtain ⟨i', a, dx, vs, e0, rfl, ea, hh, h1, h3, h4⟩ := insR_ok r1 rv qi
        cases e0
        rw [qi] at q1
        dsimp only at q1
        split at q1
        · rename_i hl
          have x := put_ext (u := .ins (He.ga X.K c) dx (putF f v vs)) (o' := .ins c (putD f d fs)) r1 ea hh (by intro z; cases z)
          have r' := put_rel (u := .ins (He.ga X.K c) dx (putF f v vs)) (o' := .ins c (putD f d fs)) r1 ea hh (by intro z; cases z) ⟨dx, _, upd_same, x.keep h3 rfl, (RepF.put (rd.ext x1) h4).ext x⟩
          refine ⟨a, dx, vs, rfl, h1, by rw [h4.length]; exact hl, σ, ?_, rfl⟩
          exact (q1.now _ rfl x r').ret r' σ (e1.ext x)
        · exact q1.elim
    · exact q1.elim
  refine thn (ho.run pins t σ _ _ I h2) fun ov s2 ⟨x, H2, I2, rx, a, dx, fs, ex, ea, l, σ', q2, e2⟩ => ?_
  subst ex e2
  obtain rfl : ov = Value.ref a := rx
  exact setattr_ok I2 ea hc hn l ru fun s3 I3 => ⟨_, _, I3, q2⟩⟩
end
end Mo
set_option Elab.async false
set_option linter.all false
set_option maxRecDepth 100000
set_option maxHeartbeats 4000000
/-! MoO: making instances, properties, methods, isinstance of an own class. -/
namespace Mo
open PySem L2 PySem.Spec PyProof.Rows
theorem under_guards {A : Around} {C : Addr} {us : List Value} {kw : List (Str × Value)} : (A.under (.builtin "type.__call__" ⟨.ref C :: us, kw⟩)).guards = A.guards := by
  first | rfl | simp [Around.under, Code.isGuard, guardIds]
section
variable {X : Cx} {K : PySem.W.Frag} {s : Sx} {e o : Expr} {c f m x : Str} {pos p apos : Pos} {mo ma : En → Mm Dt} {mr : En → Mm (List Dt)} {fm : List Dt → Mm Dt} {k : Nat} {fa g pa C : Addr} {fd : FuncData} {ps : List Str} {es : List Expr}
theorem run_makeG {pins : List (Addr × Obj)} {σ : L2.St} {H : Hp} {t : Shared} {Q : VK} {us ws : List Value} {kw : List (Str × Value)} {vs : List V} (M : Mk X.K C fa) (F : FnG X.prog X.w X.K X.mg X.base k fa fd ps fm) (hgd : X.A.guards = some []) (hr : Room (k + 1) X.A)
    (hb : ∀ (t' : Shared) (self : Value), X.K.In t'.heap → BindsTo t' fd ⟨self :: us, kw⟩ (ps.zip (self :: ws))) (I : Inv X pins σ H t) (r : Vals vs ws)
    (h : ∀ y dx, H y = none → H dx = none → dx ≠ y → spM X.K ps.length fm (.ref y :: vs) (upd (upd H dx (.own y)) y (.ins C dx [])) (fun v H2 => v = .non ∧ Q (.ref y) H2) E0) :
    wpAny (model X.prog X.w) X.A (call (.ref C) us kw) (EP X pins σ Q) X.xe t := by
  have hq := h (t.heap.objs.size + 1) t.heap.objs.size (I.hok.fresh (Nat.le_succ _)) (I.hok.fresh (Nat.le_refl _)) (Nat.ne_of_lt (Nat.lt_succ_self _))
  have I2 := Inv.made (C := C) I
  have r2 : Vals (V.ref (t.heap.objs.size + 1) :: vs) (Value.ref (t.heap.objs.size + 1) :: ws) := .cons rfl r
  refine wpAny_call (make_map (f := fa) I.kIn M.makes M.init (beq_iff_eq.mp M.fn) (codeAny_mono (F.run _ X.stack _ _ ⟨Value.ref (t.heap.objs.size + 1) :: us, kw⟩ (Value.ref (t.heap.objs.size + 1) :: ws) _ _ (by rw [under_guards]; exact hgd) (hr.make C us kw)
    (I2.env0.make C us kw) (hb _ _ I2.kIn) r2 hq) fun r s' hq' => ?_))
  cases r with
  | error er => exact False.elim hq'
  | ok fl =>
    cases fl with
    | ret u =>
      obtain ⟨v, H', I3, rv, ev, q3⟩ := I2.after hq'
      subst ev
      exact ⟨rv, ⟨V.ref (t.heap.objs.size + 1), H', I3, rfl, q3⟩⟩
    | next => exact False.elim hq'
    | brk => exact False.elim hq'
    | cont => exact False.elim hq'
/-- C(..): the new instance, its __init__ -/
def mkI (c : Str) (n : Nat) (fm : List Dt → Mm Dt) (ds : List Dt) : Mm Dt := newO (.ins c []) >>= fun i => if ds.length + 1 = n then fm (.obj i :: ds) >>= fun v => (match v with
  | .non => Mm.pure (.obj i)
  | _ => Mm.no) else Mm.no
theorem mkI_ok {s1 : Sx} {ds : List Dt} {vs : List V} {Q : VK} {n : Nat} (r1 : HRel K s1) (rv : Reps K s1 ds vs) (q : After K E0 s1 (mkI c n fm ds s1.h) (fun d s' => ∀ v, Rep K s' d v → Q v s'.H)) :
    ∀ y dx, s1.H y = none → s1.H dx = none → dx ≠ y → spM K n fm (.ref y :: vs) (upd (upd s1.H dx (.own y)) y (.ins (He.ga K c) dx [])) (fun v H2 => v = .non ∧ Q (.ref y) H2) E0 := by
  intro y dx hy hdx ne
  have xa := new_ext (u := .own y) r1 hdx
  have ra : HRel K (s1.new dx (.own y)) := new_rel r1 hdx
  have hy' : (s1.new dx (.own y)).H y = none := by
    show upd s1.H dx (.own y) y = none
    rw [upd_ne (fun z => ne z.symm)]; exact hy
  have xb := add_ext (u := .ins (He.ga K c) dx []) (o := .ins c []) ra hy'
  have rb := add_rel (u := .ins (He.ga K c) dx []) (o := .ins c []) ra hy' ⟨dx, [], upd_same, xb.keep ⟨upd_same, fun ⟨i, o, e1, _, _⟩ => r1.fresh hdx e1⟩ rfl, rfl⟩
  have q1 := (After.ext xa q).bind
  have q2 := q1.now ((s1.new dx (.own y)).add y (.ins (He.ga K c) dx []) (.ins c [])) rfl xb rb
  have eo : ((s1.new dx (.own y)).add y (.ins (He.ga K c) dx []) (.ins c [])).ρ[s1.h.length]? = some y := add_at ra
  split at q2
  · rename_i hn
    refine ⟨_, .obj s1.h.length :: ds, rfl, by simpa using hn, rb, Reps.cons ⟨y, eo, rfl⟩ ((rv.ext xa).ext xb), ?_⟩
    refine q2.bind.mono fun d s3 x3 r3 q3 v rvd => ?_
    cases d with
    | non =>
      cases rvd
      exact ⟨rfl, q3.ret r3 _ ⟨y, x3.pre _ _ eo, rfl⟩⟩
    | _ => exact q3.elim
  · exact q2.elim
def make (c : Str) (n : Nat) (fm : List Dt → Mm Dt) (mr : En → Mm (List Dt)) : En → Mm Dt := fun env => mr env >>= mkI c n fm
theorem me_make (M : Mk X.K (He.ga X.K c) fa) (F : FnG X.prog X.w X.K X.mg X.base k fa fd ps fm) (hgd : X.A.guards = some []) (hr : Room (k + 1) X.A) (hg : Gl X c) (hm : X.mg c = some (.ref (He.ga X.K c))) (hb : Binds X.K fd ps [])
    (ha : PA X (e :: es) (tA X.K E0 mr)) (hdb : (c == ("__debug__" : Str)) = false := by decide) (he : starEach (e :: es) X.env = (false, eval e X.env) :: starEach es X.env := by rfl) (hpl : (backTo pos (starEach es X.env)).any (·.1) = false := by rfl) :
    PE X (.Call (.Name c p) (e :: es) [] pos) (tE X.K E0 (make c ps.length fm mr)) := by
  refine ⟨fun pins t σ H Q I h => ?_⟩
  refine wpAny_Call_Name_kw (ld_glob I hg hm ?_ hdb)
  have h2 : tA X.K E0 mr σ H fun vs H1 => ∀ y dx, H1 y = none → H1 dx = none → dx ≠ y → spM X.K ps.length fm (.ref y :: vs) (upd (upd H1 dx (.own y)) y (.ins (He.ga X.K c) dx [])) (fun v H2 => v = .non ∧ Q (.ref y) H2) E0 := by
    obtain ⟨s1, env, rfl, r, he, ha⟩ := h
    exact tA_bind r he ha fun ds s2 vs x2 r2 e2 rv q => mkI_ok r2 rv q
  refine PySem.W.callWith_K (h₀ := X.base) I.ok.mod.kin M.kp (thn (ha.run pos pins t σ H _ I h2) fun us s1 ⟨vs, H1, I1, r, q⟩ => ⟨I1.kIn, ?_⟩) he hpl
  refine run_makeG (ws := us) M F hgd hr (fun t' self ki => ?_) I1 r q
  have hl : (self :: us ++ []).length = ps.length := by
    have := spM_len (q (s1.heap.objs.size + 1) s1.heap.objs.size (I1.hok.fresh (Nat.le_succ _)) (I1.hok.fresh (Nat.le_refl _)) (Nat.ne_of_lt (Nat.lt_succ_self _)))
    rw [List.append_nil]
    simp only [List.length_cons] at this ⊢
    rw [← r.length]
    exact this
  have := hb t' (self :: us) ki hl
  rwa [List.append_nil] at this
/-! properties -/
def prp (c : Str) (fm : List Dt → Mm Dt) (mo : En → Mm Dt) : En → Mm Dt := fun env => mo env >>= fun d => (fun h => if (insR c h d).isSome then .ok () h else .no) >>= fun _ => fm [d]
theorem getpropG {pins : List (Addr × Obj)} {σ : L2.St} {H : Hp} {t : Shared} {Q : VK} {b : Bool} {E' : Value → Shared → Prop} {a dx : Addr} {fs : List (Str × V)} {x1 : Str} (I : Inv X pins σ H t) (ea : H a = some (.ins C dx fs)) (hc : Cls X.K C) (hp : PropOf X.K C f pa g)
    (F : FnG X.prog X.w X.K X.mg X.base k g fd [x1] fm) (hgd : X.A.guards = some []) (hr : Room (k + 1) X.A) (hb : Binds X.K fd [x1] []) (h : spM X.K 1 fm [.ref a] H Q E0) :
    wpAny (model X.prog X.w) X.A (getAttr (.ref a) f b) (EP X pins σ Q) E' t := by
  obtain ⟨mA, O, _, _, _, _⟩ := ins_get I.hok ea
  obtain ⟨od, J, _⟩ := O.look
  obtain ⟨rest, hrec⟩ := hp.rec_
  have I1 := I.tok (t.toks + 1)
  have hs : (PySem.W.clsIn X.K C).isSome = true := by
    obtain ⟨cd, hcd, _⟩ := PySem.W.any_some hc.hd
    rw [hcd]
    rfl
  refine PySem.W.get_bind I.kIn J (PySem.W.plainGet_of (hc.get f)).1 (PySem.W.findObj_data hs hp.at_ hp.get hp.tak) (PySem.W.plainGet_of (hc.get f)).2 (wpAny_call (PySem.W.prop_get (s := { t with toks := t.toks + 1 }) I.kIn hrec ?_))
  refine codeAny_mono (F.run X.A.in1 X.stack { t with toks := t.toks + 1 } H ⟨[.ref a], []⟩ [.ref a] [.ref a] Q hgd hr.in1 I1.env0.in1 (hb _ [.ref a] I1.kIn rfl) (.cons rfl .nil) h) fun r s' hq => ?_
  cases r with
  | error er => exact False.elim hq
  | ok fl =>
    cases fl with
    | ret u =>
      obtain ⟨v, H', I3, rv, q3⟩ := I1.after hq
      show wpAny _ _ (handedOut u) _ _ _
      rw [PySem.W.handedOut_of (handed_of rv)]
      exact wpAny_pure ⟨v, H', I3, rv, q3⟩
    | next => exact False.elim hq
    | brk => exact False.elim hq
    | cont => exact False.elim hq
theorem me_prop {x1 : Str} (hc : Cls X.K (He.ga X.K c)) (hp : PropOf X.K (He.ga X.K c) f pa g) (F : FnG X.prog X.w X.K X.mg X.base k g fd [x1] fm) (hgd : X.A.guards = some []) (hr : Room (k + 1) X.A) (hb : Binds X.K fd [x1] [])
    (he : PE X e (tE X.K E0 mo)) (hab : attributeBase e f X.env (eval e X.env) = eval e X.env := by rfl) : PE X (.Attribute e f pos) (tE X.K E0 (prp c fm mo)) := by
  refine ⟨fun pins t σ H Q I h => ?_⟩
  have h2 : tE X.K E0 mo σ H fun x H1 => ∃ a dx fs, x = .ref a ∧ H1 a = some (.ins (He.ga X.K c) dx fs) ∧ spM X.K 1 fm [.ref a] H1 Q E0 := by
    obtain ⟨s1, env, rfl, r, he, ha⟩ := h
    refine tE_bind r he ha fun d s2 v x2 r2 e2 rv q => ?_
    have q1 := q.bind
    cases qi : insR c s2.h d with
    | none => simp [qi] at q1; exact q1.elim
    | some fs =>
      obtain ⟨i, a, dx, vs, rfl, rfl, ea, hh, h1, h2, h3⟩ := insR_ok r2 rv qi
      simp only [qi, Option.isSome_some, if_true] at q1
      have q2 := After.ret (a := ()) r2 q1
      exact ⟨a, dx, vs, rfl, h1, s2, [.obj i], rfl, rfl, r2, Reps.cons ⟨a, ea, rfl⟩ Reps.nil, q2⟩
  refine attr_of hab (thn (he.run pins t σ H _ I h2) fun u s1 ⟨x, H1, I1, rx, a, dx, fs, ex, ea, q⟩ => ?_)
  subst ex
  obtain rfl : u = Value.ref a := rx
  exact getpropG I1 ea hc hp F hgd hr hb q
end
end Mo
set_option Elab.async false
set_option linter.all false
set_option maxRecDepth 100000
set_option maxHeartbeats 4000000
/-! MoP: classes as values, isinstance of an own class, a lambda without parameters handed to a def. -/
namespace Mo
open PySem L2 PySem.Spec PyProof.Rows
section
variable {X : Cx} {E : XK} {c : Str} {pos : Pos}
theorem me_cls (hg : Gl X c) (hm : X.mg c = some (.ref (He.ga X.K c))) (hd : (c == ("__debug__" : Str)) = false := by decide) : PE X (.Name c pos) (tE X.K E (con (.cl c))) :=
  me_con (t := tC (.ref (He.ga X.K c))) (pe_glob (v := .ref (He.ga X.K c)) hg hm rfl hd) fun _ => rfl
/-- what isinstance asks of an own class -/
structure IsC (K : PySem.W.Frag) (c : Str) : Prop where
  cl : Cls K (He.ga K c)
  ha : PySem.W.findIn K (.ref (He.ga K c)) "__class__" = some (some (.builtin "object.__class__"))
  hn : PySem.W.specialIn K (.builtin "object.__class__") "__get__" = some (some (.builtin "getset_descriptor.__get__"))
  ht : PySem.W.takesIn K (.builtin "object.__class__") = some true
  hm : PySem.W.mroIn K (He.ga K c) (.type "object") = some true
def isCB (K : PySem.W.Frag) (c : Str) : Bool := (He.Fa.cls c).ok K && (decide (PySem.W.findIn K (.ref (He.ga K c)) "__class__" = some (some (.builtin "object.__class__"))) &&
  (decide (PySem.W.specialIn K (.builtin "object.__class__") "__get__" = some (some (.builtin "getset_descriptor.__get__"))) && (decide (PySem.W.takesIn K (.builtin "object.__class__") = some true) && decide (PySem.W.mroIn K (He.ga K c) (.type "object") = some true))))
theorem isCB_ok {K : PySem.W.Frag} (h : isCB K c = true) : IsC K c := by
  unfold isCB at h
  simp only [Bool.and_eq_true, decide_eq_true_eq] at h
  exact ⟨He.cls_ok h.1, h.2.1, h.2.2.1, h.2.2.2.1, h.2.2.2.2⟩
def bIsC (c : Str) : List Dt → Mm Dt := fun ds h => match ds with
  | [d, .cl c'] => if c' = c ∧ (insR c h d).isSome = true then .ok (.bl true) h else .no
  | _ => .no
theorem b_isC (C : IsC X.K c) : CallR X (.builtin "isinstance") (cM X.K E (bIsC c)) := fun pins s σ H xs us Q I rx ⟨s1, ds, eH, r, rs, ha⟩ => by
  subst eH
  unfold bIsC at ha
  split at ha
  · rename_i d c'
    split at ha
    · rename_i hh
      obtain ⟨rfl, hi⟩ := hh
      obtain ⟨fs, hi⟩ := Option.isSome_iff_exists.mp hi
      obtain ⟨v1, r1, rfl, k1, v2, r2, rfl, k2, rfl⟩ := rs
      obtain ⟨i, a, dx, vs, rfl, rfl, ea, hh, h1, h2, h3⟩ := insR_ok r k1 hi
      cases k2
      refine call_isi pins s σ _ _ us Q I rx ⟨.ref a, .ref (He.ga X.K c'), .ref (He.ga X.K c'), .ref (He.ga X.K c'), true, rfl, .own _, .base (.ins h1 C.cl C.ha C.hn C.ht C.hm), ?_, fin r ha rfl⟩
      unfold PySem.W.kitOne
      rw [if_pos (by simp)]
    · exact ha.elim
  · exact ha.elim
end
/-! ### a lambda -/
section
variable {X : Cx} {pins : List (Addr × Obj)} {σ : L2.St} {H : Hp} {s : Shared}
/-- x(), in the def that got the lambda; no exception, no guard -/
theorem pe_actG {Ng : List Str} {qg : Str} {sg : Scope} {g f c' : Addr} {cdg pm ctv : Value} {params : Arguments} {body : Expr} {scope : Scope} {k i : Nat} {a : Str} {xe : Value → Shared → Prop} {tb : TE} {p1 p2 : Pos}
    (I : Inv X pins σ H s) (L : LamX.LamS X.env.scope scope) (hf : s.heap.get? f = some (PySem.W.kla_obj "<lambda>" (X.env.qual ++ "<lambda>") params body scope (cloFrom X.env.cells scope.names []) pm c' ctv)) (hfn : H f = none) (hfr : f ∉ frs X.stack)
    (hbind : bindArgs (PySem.W.kla_fn "<lambda>" (X.env.qual ++ "<lambda>") params body scope (cloFrom X.env.cells scope.names []) pm (.ref c') ctv) ⟨[], []⟩ = pure [])
    (hgd : X.A.guards = some []) (hr : Room (k + 1) (X.A.deeper (envOfC qg sg s.heap.objs.size g cdg)))
    (hbody : ∀ (A : Around) (outer : List Env) (s : Shared) (H : Hp), A.guards = some [] → Room k (A.deeper (LamX.lamEnv X scope s.heap.objs.size f c')) → PE (LamX.lamCx X A outer s H E0 scope f c') body tb)
    (hN : Ng[i]? = some a) (hv : Vis sg a) (hd : (a == ("__debug__" : Str)) = false := by decide) (hcd : (a == ("__classdict__" : Str)) = false := by decide) :
    PE ((cxOf CX0 X.prog X.w X.K X.mg X.base Ng qg sg g cdg X.A X.stack s H E0).wish xe) (.Call (.Name a p1) [] [] p2)
      (fun σZ HZ Q => σZ[i]? = some (some (.ref f)) ∧ HZ c' = some (LamX.CodeO c' (X.env.qual ++ "<lambda>")) ∧ tb σ HZ Q) := by
  refine ⟨fun pinsZ sZ σZ HZ Q IZ h => ?_⟩
  obtain ⟨hs, hc, ht⟩ := h
  refine wpAny_Call_Name_kw (thn ((pe_var (pos := p1) (i := i) hN hv hd hcd).run pinsZ sZ σZ HZ (fun v H1 => v = .ref f ∧ H1 = HZ) IZ ⟨.ref f, hs, rfl, rfl⟩) fun u s1 ⟨v, H1, I1, r1, q1⟩ => ?_)
  obtain ⟨ev, eH⟩ := q1
  subst ev
  rw [eH] at I1
  obtain rfl : u = Value.ref f := r1
  have of1 : s1.heap.get? f = some (PySem.W.kla_obj "<lambda>" (X.env.qual ++ "<lambda>") params body scope (cloFrom X.env.cells scope.names []) pm c' ctv) := I1.base.keep f _ hf hfn hfr (fun z => nomatch (show f ∈ ([] : List Addr) from z))
  refine PySem.W.callWith_F0 ⟨_, _, _, _, of1⟩ ?_
  have un : Un (frs X.stack) [] H HZ s.heap s1.heap := I1.base
  obtain ⟨⟨oc, vs, t, hoc, hdc, hvc⟩, _, _⟩ := I1.hok c' _ hc
  have rc : codeAny (model X.prog X.w) (X.A.deeper (envOfC qg sg s.heap.objs.size g cdg)) (.call (.ref f) ⟨[], []⟩) (CR (L2.CX X.prog X.w) (envOfC qg sg s.heap.objs.size g cdg :: X.stack) X.prog X.w HZ s1 Q E0) s1 := by
    refine PySem.W.kla_callFunE hr.depth of1 rfl L.co L.gen rfl ⟨c', oc, vs, t, rfl, hoc, hdc, hvc⟩ ?_
    rw [hbind]
    refine wpAny_pure (wpAny_newFunctionEnv (fun y hy => (L.own y hy).2) (fun y hy => absurd hy (by simp)) (fun h₁ hns hsb => ⟨I1.nolimit.fresh _ hsb, ?_⟩) L.kind)
    show codeAny _ _ (.expr body (LamX.lamEnv X scope s1.heap.objs.size f c')) _ _
    have kp : ∀ b o, s1.heap.get? b = some o → h₁.get? b = some o := fun b o e => hsb.extBut b o (Nat.ne_of_lt (Heap.lt_size e)) (Heap.get?_push_of_some _ e)
    have J : Inv (LamX.lamCx X (X.A.deeper (envOfC qg sg s.heap.objs.size g cdg)) (envOfC qg sg s.heap.objs.size g cdg :: X.stack) s1 HZ E0 scope f c') [] σ HZ { s1 with heap := h₁, toks := s1.toks + ([] : List (Str × Value)).length } :=
      LamX.lam_start2 I L I1.env0 hr.hd un hns kp
    refine PySem.W.kla_codeExpr (wpAny_mono ((hbody (X.A.deeper (envOfC qg sg s.heap.objs.size g cdg)) _ s1 HZ hgd (hr.deeper _)).run [] _ _ HZ Q J ht) (fun v s' hq => ?_) fun e s' hq => hq)
    obtain ⟨w', H', J', rv, q⟩ := hq
    exact ⟨w', H', J'.os, J'.bare, J'.base, J'.hok, rv, q⟩
  refine wpAny_call (codeAny_mono rc fun r s' hq => ?_)
  cases r with
  | error e => exact L2.passL (X := (cxOf CX0 X.prog X.w X.K X.mg X.base Ng qg sg g cdg X.A X.stack s H E0).wish xe) pinsZ σZ HZ s1 e s' I1 hq
  | ok fl =>
    cases fl with
    | ret u => exact I1.after hq
    | next => exact False.elim hq
    | brk => exact False.elim hq
    | cont => exact False.elim hq
end
end Mo
set_option Elab.async false
set_option linter.all false
set_option maxRecDepth 100000
set_option maxHeartbeats 4000000
/-! MoQ: got(lambda: e), got: try: b = a() / except ..: .. / return [w, b], where nothing is raised. -/
namespace Mo
open PySem L2 PySem.Spec PyProof.Rows
theorem lam_state {K : PySem.W.Frag} {s1 : Sx} {H1 : Hp} (r : HRel K s1) (eN : LamX.ExtN s1.H H1) (T1 : LamX.Tabs (LT K) H1) : Ext s1 ⟨s1.ρ, s1.h, H1⟩ ∧ HRel K ⟨s1.ρ, s1.h, H1⟩ := by
  have x : Ext s1 ⟨s1.ρ, s1.h, H1⟩ := ⟨fun _ _ h => h, fun a o h k n => ⟨⟨o, eN a o h n, .inl rfl⟩, k⟩⟩
  refine ⟨x, r.len, r.nd, fun i a o e k => (r.ob i a o e k).ext x ?_, T1⟩
  obtain ⟨u, q, n⟩ := r.live e k
  show H1 a = s1.H a
  rw [q]
  exact eN a u q n
def gotE (w : Str) (mb : En → Mm Dt) : En → Mm Dt := fun env => mb env >>= fun d => Mm.pure (.lv [.str w, d])
section
variable {X : Cx}
theorem me_got {x a b w : Str} {g c P : Addr} {k : Nat} {pg : Arguments} {bg : List Stmt} {sg : Scope} {fd : FuncData} {Ng : List Str} {params : Arguments} {body : Expr} {scope : Scope} {mb : En → Mm Dt} {p lpos pos p1 p2 p3 p4 p5 p6 p7 p8 p9 : Pos} {j : Nat} {h0 : ExceptHandler} {hs : List ExceptHandler}
    (hg : Gl X x) (hm : X.mg x = some (.ref g)) (hk : PySem.W.keepIn X.K (.ref g) = true) (F : FunD X.K x x pg bg sg [] [] g fd) (hb : Binds X.K fd [a] []) (Sg : FnScope Ng [a] sg)
    (hbg : bg = [.Try [.Assign [.Name b p1] (.Call (.Name a p2) [] [] p3) p4] (h0 :: hs) [] [] p5, .Return (some (.List [.Constant (.str w) j p6, .Name b p7] p8)) p9])
    (hN : Ng = [a, b]) (hn : a ≠ b) (hva : sg.names.lookup a = some .local) (hvb : sg.names.lookup b = some .local)
    (TB : LamX.TabB X.base X.mg c P) (hcode : X.env.code = .ref c) (hmT : (P, X.env.qual ++ "<lambda>") ∈ LT X.K) (hu : ∀ p ∈ LT X.K, p.1 = P → p.2 = X.env.qual ++ "<lambda>") (hgd : X.A.guards = some []) (hr : Room (k + 2) X.A) (L : LamX.LamS X.env.scope scope) (hdef : defaultsOf params X.env = ([], []))
    (hbind : ∀ (q : Str) (cl : List (Str × Addr)) (pm cv ctv : Value), bindArgs (PySem.W.kla_fn "<lambda>" q params body scope cl pm cv ctv) ⟨[], []⟩ = pure [])
    (hbody : ∀ (A : Around) (outer : List Env) (s : Shared) (H : Hp) (f c' : Addr), A.guards = some [] → Room k (A.deeper (LamX.lamEnv X scope s.heap.objs.size f c')) → PE (LamX.lamCx X A outer s H E0 scope f c') body (tE X.K E0 mb))
    (hdb : (x == ("__debug__" : Str)) = false := by decide) (hda : (a == ("__debug__" : Str)) = false := by decide) (hca : (a == ("__classdict__" : Str)) = false := by decide) (hdB : (b == ("__debug__" : Str)) = false := by decide) (hcB : (b == ("__classdict__" : Str)) = false := by decide) :
    PE X (.Call (.Name x p) [.Lambda params body scope lpos] [] pos) (tE X.K E0 (gotE w mb)) := by
  obtain ⟨oc, od, dV, kV, doc, pm, an, cdv, ct, osl, rfl, lk, hcd, _, _⟩ := F.ex
  subst hN hbg
  refine ⟨fun pins s σ H Q I h => ?_⟩
  obtain ⟨s1, env, rfl, r, he, ha⟩ := h
  refine wpAny_Call_Name_kw (ld_glob I hg hm ?_ hdb)
  refine PySem.W.callWith_K (h₀ := X.base) I.ok.mod.kin hk ?_ (by rfl) (by rfl)
  show wpAny _ _ (spliced ((false, eval (.Lambda params body scope lpos) X.env) :: backTo pos (starEach [] X.env))) _ _ s
  refine Calls.spliced_cons (LamX.lam_make2 I TB hcode hmT hu r.tb hdef (L.has I.ok) fun f c' pm' ctv H1 s' I1 eN T1 hf hfn hfr hco => ?_)
  refine Calls.spliced_nil ⟨I1.kIn, ?_⟩
  obtain ⟨x2, r2⟩ := lam_state r eN T1
  have e2 := he.ext x2
  have rc : codeAny (model X.prog X.w) X.A (.call (.ref g) ⟨[.ref f], []⟩) (CR CX0 X.stack X.prog X.w H1 s' Q E0) s' := by
    refine LamX.run_ofS (CX := CX0) (N := [a, b]) (ps := [a]) (us := [.ref f]) (vs := [.ref f]) lk hcd Sg hr I1.env0 (hb s' [.ref f] I1.kIn rfl) (.cons rfl .nil) rfl fun hr' => ?_
    have act := pe_actG (Ng := [a, b]) (qg := x) (sg := sg) (g := g) (cdg := cdv) (i := 0) (a := a) (xe := fun _ _ => False) (p1 := p2) (p2 := p3) I1 L hf hfn hfr (hbind _ _ _ _ _) hgd hr' (fun A outer s H hgA hr2 => hbody A outer s H f c' hgA hr2) rfl (.inl hva) hda hca
    have st1 : PS ((cxOf CX0 X.prog X.w X.K X.mg X.base [a, b] x sg g cdv X.A X.stack s' H1 E0).nox.nox) (.Assign [.Name b p1] (.Call (.Name a p2) [] [] p3) p4) _ := ps_set (i := 1) Sg.nd rfl (.inl hvb) act rfl (.inr hvb)
    refine ⟨_, PSs.nox (pss_cons (ps_try_thru0 (pss_one st1)) (pss_one (ps_ret (pe_lst (pa_cons pe_str (pa_cons (pe_var (i := 1) rfl (.inl hvb) hdB hcB) pa_nil)))))), ?_⟩
    refine ⟨rfl, hco, ?_⟩
    refine ⟨_, env, rfl, r2, e2, ?_⟩
    have ha2 : After X.K E0 ⟨s1.ρ, s1.h, H1⟩ ((mb env >>= fun d => Mm.pure (Dt.lv [Dt.str w, d])) s1.h) (fun d s' => ∀ v, Rep X.K s' d v → Q v s'.H) := After.ext x2 ha
    refine ha2.bind.mono fun d s3 x3 r3 q v rv => ?_
    show tLst (tCons (tC (V.str w)) (tCons (tVar 1) tNil)) ((L2.start [a, b] [V.ref f]).set 1 (some v)) s3.H Q
    refine ⟨v, rfl, ?_⟩
    refine ⟨(by decide : 2 ≤ sizeLine), fun p hp => ?_⟩
    exact newLv r3 (Reps.cons (d := .str w) (v := .str w) rfl (Reps.cons rv Reps.nil)) q p hp
  refine wpAny_call (codeAny_mono rc fun r s2 hq => ?_)
  cases r with
  | error e => exact (show False from hq).elim
  | ok fl =>
    cases fl with
    | ret u => exact I1.after hq
    | next => exact False.elim hq
    | brk => exact False.elim hq
    | cont => exact False.elim hq
end
end Mo
set_option Elab.async false
set_option linter.all false
set_option maxRecDepth 100000
set_option maxHeartbeats 4000000
/-! MoR: a def that holds lambdas; the head's facts with properties. -/
namespace Mo
open PySem L2 PySem.Spec PyProof.Rows
/-- a def by its body, its code object known -/
theorem fnGL {P : Program} {w : World} {K : PySem.W.Frag} {mg : Str → Option Value} {base : Heap} {x : Str} {params : Arguments} {body : List Stmt} {scope : Scope} {dvs : List V} {kws : List (Str × V)} {fd : FuncData} {N ps : List Str} {k : Nat} {ms : En → Mm Fl}
    (F : FunD K x x params body scope dvs kws (He.ga K x) fd) (S : FnScope N ps scope)
    (hbody : ∀ (A : Around) (outer : List Env) (s : Shared) (H : Hp) (E : XK), A.guards = some [] → Room k (A.deeper (envOfC x scope s.heap.objs.size (He.ga K x) (.ref (lamC K x)))) → PSs (cxOf CX0 P w K mg base N x scope (He.ga K x) (.ref (lamC K x)) A outer s H E).nox body (tS K E0 ms)) :
    FnG P w K mg base (k + 1) (He.ga K x) fd ps (fnM N.length ms) := by
  refine fnGc F S fun cdv A outer s H E hc hgd hr => ?_
  obtain ⟨oc, od, fd', osl, lk, e, hcd⟩ := hc
  obtain ⟨c, rfl⟩ := He.codeIn_ref hcd
  have ec : lamC K x = c := He.codeOf_eq (p := (x, none)) (c := c) lk e
  subst ec
  exact hbody A outer s H E hgd hr
/-! ### the hook: facts, defs, tables, lambdas' tables, properties -/
section
open He
/-- the property's object; its getter -/
def prO (K : PySem.W.Frag) (c f : Str) : Addr := ma K (ga K c) f
def prG (K : PySem.W.Frag) (c f : Str) : Addr := match PySem.W.recIn K (prO K c f) "property" with
  | some (.ref g :: _) => g
  | _ => 0
def fnWA (K : PySem.W.Frag) (a : Addr) : FnW := match K.lookup a with
  | some ⟨_, _, .func fd, _⟩ => some (fd.name, fd.qualname, fd.params, fd.body, fd.scope, fd.globals, fd.closure, fd.builtins)
  | _ => none
/-- a property: its class, its name, the getter's qualified name, parameters, body, scope -/
structure PrD where
  c : Str
  f : Str
  qual : Str
  params : Arguments
  body : List Stmt
  scope : Scope
def PrD.val (d : PrD) : FnW := some (d.f, d.qual, d.params, .stmts d.body, d.scope, mainGlobals, [], builtinsNs)
def PrD.ok (K : PySem.W.Frag) (d : PrD) : Bool := decide (PySem.W.findIn K (.ref (ga K d.c)) d.f = some (some (.ref (prO K d.c d.f)))) && (decide (PySem.W.specialIn K (.ref (prO K d.c d.f)) "__get__" = some (some (.builtin "property.__get__"))) &&
  (decide (PySem.W.takesIn K (.ref (prO K d.c d.f)) = some true) && ((match PySem.W.recIn K (prO K d.c d.f) "property" with
    | some (.ref _ :: _) => true
    | _ => false) && (PySem.W.keepIn K (.ref (prG K d.c d.f)) && (match K.lookup (prG K d.c d.f) with
  | some ⟨_, _, .func fd, _⟩ => PySem.W.codeIn K fd.code d.qual && (dflB K fd.defaults [] && kwdB K fd.kwdefaults [])
  | _ => false)))))
theorem PrD.prop {K : PySem.W.Frag} {d : PrD} (c : d.ok K = true) : PropOf K (ga K d.c) d.f (prO K d.c d.f) (prG K d.c d.f) := by
  unfold PrD.ok at c
  simp only [Bool.and_eq_true, decide_eq_true_eq] at c
  obtain ⟨h1, h2, h3, h4, _⟩ := c
  refine ⟨h1, h2, h3, ?_⟩
  unfold prG
  split at h4
  · rename_i g rest e
    rw [e]
    exact ⟨rest, rfl⟩
  · cases h4
theorem PrD.funD {K : PySem.W.Frag} {d : PrD} (e : fnWA K (prG K d.c d.f) = d.val) (c : d.ok K = true) : ∃ fd, FunD K d.f d.qual d.params d.body d.scope [] [] (prG K d.c d.f) fd := by
  unfold PrD.ok at c
  simp only [Bool.and_eq_true] at c
  obtain ⟨_, _, _, _, kp, c2⟩ := c
  unfold fnWA at e
  cases q : K.lookup (prG K d.c d.f) with
  | none =>
    rw [q] at c2
    cases c2
  | some o =>
    obtain ⟨oc, od, dt, osl⟩ := o
    rw [q] at c2 e
    cases dt with
    | func fd =>
      obtain ⟨n1, n2, n3, n4, n5, n6, n7, n8, n9, n10, n11, n12, n13, n14, n15⟩ := fd
      have e2 : (some (n1, n2, n3, n4, n5, n6, n7, n15) : FnW) = some (d.f, d.qual, d.params, .stmts d.body, d.scope, mainGlobals, [], builtinsNs) := e
      simp only [Option.some.injEq, Prod.mk.injEq] at e2
      obtain ⟨h1, h2, h3, h4, h5, h6, h7, h8⟩ := e2
      subst h1 h2 h3 h4 h5 h6 h7 h8
      have c3 : PySem.W.codeIn K n13 d.qual = true ∧ dflB K n8 [] = true ∧ kwdB K n9 [] = true := by simpa only [Bool.and_eq_true] using c2
      exact ⟨_, ⟨oc, od, n8, n9, n10, n11, n12, n13, n14, osl, rfl, q, c3.1, dflB_ok c3.2.1, kwdB_ok c3.2.2⟩, kp⟩
    | _ => cases c2
abbrev AlY : Type := AlX × (Bool × List FnW)
def obsP (pr : List PrD) (K : PySem.W.Frag) : Bool × List FnW := (pr.all fun d => d.ok K, pr.map fun d => fnWA K (prG K d.c d.f))
def obsY (n : Nat) (fa : List Fa) (fn : List DefD) (ts : List Tab) (tf : List Defn) (ex : PySem.W.Frag → Bool) (pr : List PrD) (g : Addr → Option Obj) : AlY := (obsX n fa fn ts tf ex g, obsP pr (frT g (asD g n)))
def valY (fn : List DefD) (ts : List Tab) (pr : List PrD) (w : World) : AlY := (valX fn ts w, (true, pr.map PrD.val))
structure SaysY (fa : List Fa) (fn : List DefD) (ts : List Tab) (tf : List Defn) (ex : PySem.W.Frag → Bool) (pr : List PrD) (w : World) (h : Heap) (K : PySem.W.Frag) : Prop where
  x : SaysX fa fn ts tf ex w h K
  p : obsP pr K = (true, pr.map PrD.val)
def hookY (n : Nat) (fa : List Fa) (fn : List DefD) (ts : List Tab) (tf : List Defn) (ex : PySem.W.Frag → Bool) (pr : List PrD) : PySem.W.Hook where
  α := AlY
  obs := fun s => obsY n fa fn ts tf ex pr s.heap.get?
  val := fun w => valY fn ts pr w
  says := fun w h => ∃ K : PySem.W.Frag, K.In h ∧ SaysY fa fn ts tf ex pr w h K
  of := fun _ _ e => ⟨_, frT_in, saysX_of (congrArg (fun z : AlY => z.1) e), congrArg (fun z : AlY => z.2) e⟩
  keeps := fun _ _ _ ⟨K, hK, c⟩ k => ⟨K, PySem.W.Frag.In.keeps hK k, ⟨c.x.t, c.x.more, c.x.hd, c.x.out, fun p hp => k _ _ (c.x.empty p hp)⟩, c.p⟩
theorem obsY_eq {n : Nat} {fa : List Fa} {fn : List DefD} {ts : List Tab} {tf : List Defn} {ex : PySem.W.Frag → Bool} {pr : List PrD} {g : Addr → Option Obj} {s : Shared} (h : ∀ a, g a = s.heap.get? a) : obsY n fa fn ts tf ex pr g = (hookY n fa fn ts tf ex pr).obs s := by
  have e : g = s.heap.get? := funext h
  rw [e] <;> rfl
section
variable {fa : List Fa} {fn : List DefD} {ts : List Tab} {tf : List Defn} {ex : PySem.W.Frag → Bool} {pr : List PrD} {w : World} {h : Heap} {K : PySem.W.Frag}
theorem SaysY.prop (c : SaysY fa fn ts tf ex pr w h K) (i : Nat) {d : PrD} (e : pr[i]? = some d := by rfl) : PropOf K (ga K d.c) d.f (prO K d.c d.f) (prG K d.c d.f) := by
  have c1 : (pr.all fun d => d.ok K) = true := congrArg (·.1) c.p
  exact PrD.prop (List.all_eq_true.mp c1 d (List.mem_of_getElem? e))
theorem SaysY.getter (c : SaysY fa fn ts tf ex pr w h K) (i : Nat) {d : PrD} (e : pr[i]? = some d := by rfl) : ∃ fd, FunD K d.f d.qual d.params d.body d.scope [] [] (prG K d.c d.f) fd := by
  have c1 : (pr.all fun d => d.ok K) = true := congrArg (·.1) c.p
  have c2 : pr.map (fun d => fnWA K (prG K d.c d.f)) = pr.map PrD.val := congrArg (·.2) c.p
  have e2 : (pr.map fun d => fnWA K (prG K d.c d.f))[i]? = (pr.map PrD.val)[i]? := by rw [c2]
  rw [List.getElem?_map, List.getElem?_map, e] at e2
  exact PrD.funD (Option.some.inj e2) (List.all_eq_true.mp c1 d (List.mem_of_getElem? e))
theorem SaysY.lam (c : SaysY fa fn ts tf ex pr w h K) (ht : lamDefs.map (fun n => ((n, none) : Defn)) = tf) : LamAt K h :=
  have m : ∀ n ∈ lamDefs, ((n, none) : Defn) ∈ tf := fun n hn => ht ▸ List.mem_map.mpr ⟨n, hn, rfl⟩
  ⟨fun n hn => c.x.hd _ (m n hn), fun n hn => c.x.out _ (m n hn), fun n hn => c.x.empty _ (m n hn)⟩
end
end
end Mo
set_option Elab.async false
set_option linter.all false
set_option maxRecDepth 100000
set_option maxHeartbeats 4000000
/-! MoS: classes, properties, lambdas by their names. -/
namespace Mo
open PySem L2 PySem.Spec PyProof.Rows
def clsBody : Stmt → List Stmt
  | .ClassDef _ _ _ b _ _ _ _ _ _ _ => b
  | _ => []
/-- the tables of the defs that hold lambdas -/
def Lams (base : Heap) (K : PySem.W.Frag) (mg : Str → Option Value) : Prop := ∀ n ∈ lamDefs, LamX.TabB base mg (lamC K n) (lamP K n)
structure MkH (P : Program) (w : World) (K : PySem.W.Frag) (mg : Str → Option Value) (base : Heap) (k : Nat) (c : Str) (ps : List Str) (fm : List Dt → Mm Dt) : Prop where
  ex : ∃ fd, FnG P w K mg base k (He.ma K (He.ga K c) "__init__") fd ps fm ∧ Binds K fd ps []
  mks : Mk K (He.ga K c) (He.ma K (He.ga K c) "__init__")
  gl : mg c = some (.ref (He.ga K c))
structure PrH (P : Program) (w : World) (K : PySem.W.Frag) (mg : Str → Option Value) (base : Heap) (k : Nat) (c f x1 : Str) (fm : List Dt → Mm Dt) : Prop where
  ex : ∃ fd, FnG P w K mg base k (prG K c f) fd [x1] fm ∧ Binds K fd [x1] []
  cl : Cls K (He.ga K c)
  pr : PropOf K (He.ga K c) f (prO K c f) (prG K c f)
abbrev FnPa (K : PySem.W.Frag) (g x : Str) (st : Stmt) (fd : FuncData) : Prop := FunD K x x (defArgs st) (defBody st) (defScope st) [] [] (He.ga K g) fd
abbrev FnM (K : PySem.W.Frag) (c x q : Str) (st : Stmt) (fd : FuncData) : Prop := FunD K x q (defArgs st) (defBody st) (defScope st) [] [] (He.ma K (He.ga K c) x) fd
abbrev FnR (K : PySem.W.Frag) (c x q : Str) (st : Stmt) (fd : FuncData) : Prop := FunD K x q (defArgs st) (defBody st) (defScope st) [] [] (prG K c x) fd
section
variable {X : Cx} {k j n : Nat} {ps : List Str} {fm : List Dt → Mm Dt} {c f x1 : Str} {p pos : Pos} {e : Expr} {es : List Expr} {mr : En → Mm (List Dt)} {mo : En → Mm Dt}
theorem me_makeH (F : MkH X.prog X.w X.K X.mg X.base k c ps fm) (hgd : X.A.guards = some []) (hr : Room j X.A) (ha : PA X (e :: es) (tA X.K E0 mr)) (hn : ps.length = n := by rfl) (hg : Gl X c := by rfl) (hkj : k + 1 ≤ j := by decide) (hdb : (c == ("__debug__" : Str)) = false := by decide)
    (he : starEach (e :: es) X.env = (false, eval e X.env) :: starEach es X.env := by rfl) (hpl : (backTo pos (starEach es X.env)).any (·.1) = false := by rfl) : PE X (.Call (.Name c p) (e :: es) [] pos) (tE X.K E0 (make c n fm mr)) := by
  subst hn
  obtain ⟨fd, G, B⟩ := F.ex
  exact me_make F.mks G hgd (hr.mono hkj) hg F.gl B ha hdb he hpl
theorem me_propH (F : PrH X.prog X.w X.K X.mg X.base k c f x1 fm) (hgd : X.A.guards = some []) (hr : Room j X.A) (he : PE X e (tE X.K E0 mo)) (hkj : k + 1 ≤ j := by decide) (hab : attributeBase e f X.env (eval e X.env) = eval e X.env := by rfl) :
    PE X (.Attribute e f pos) (tE X.K E0 (prp c fm mo)) := by
  obtain ⟨fd, G, B⟩ := F.ex
  exact me_prop F.cl F.pr G hgd (hr.mono hkj) B he hab
end
theorem lt_mem {K : PySem.W.Frag} {n : Str} (h : n ∈ lamDefs) : (lamP K n, n ++ ".<locals>." ++ "<lambda>") ∈ LT K := List.mem_map.mpr ⟨n, h, rfl⟩
theorem lt_one {K : PySem.W.Frag} {n : Str} (h : lamDefs = [n]) : ∀ p ∈ LT K, p.1 = lamP K n → p.2 = n ++ ".<locals>." ++ "<lambda>" := fun p hp _ => by
  obtain ⟨m, hm, rfl⟩ := List.mem_map.mp hp
  rw [h] at hm
  cases List.mem_singleton.mp hm
  rfl
/-! is True, of truth values -/
def opIsB : Dt → Dt → Mm Dt := fun x y h => match x, y with
  | .bl a, .bl b => .ok (.bl (decide (a = b))) h
  | _, _ => .no
theorem o_isB {X : Cx} {E : XK} : OpR X (compareOp .Is) (rM X.K E opIsB) := opR_mono op_is_bl fun x y H Q ⟨s, d, e, eH, r, rx, ry, ha⟩ => by
  subst eH
  unfold opIsB at ha
  split at ha
  · cases rx; cases ry
    exact ⟨_, _, rfl, rfl, fin r ha rfl⟩
  · exact ha.elim
end Mo
set_option Elab.async false
set_option linter.all false
set_option maxRecDepth 100000
set_option maxHeartbeats 4000000
/-! MoU: the head's facts over what some names reach. -/
namespace Mo
open PySem L2 PySem.Spec PyProof.Rows He
/-- what these names stand for -/
def near (nm : List Str) (g : Addr → Option Obj) : List Addr := match g mainGlobals with
  | some o => (match o.data with
    | .dict es _ => es.toList.flatMap fun e => match e.key with
      | .str x _ => if nm.contains x then refV e.val else []
      | _ => []
    | _ => [])
  | none => []
def nextZ (g : Addr → Option Obj) (l : List Addr) : List Addr := l.flatMap fun a => match g a with
  | some o => refsD o
  | none => []
def walkZ (g : Addr → Option Obj) : Nat → List Addr → List Addr
  | 0, l => l
  | n + 1, l => l ++ walkZ g n (nextZ g l)
def asZ (nm : List Str) (n : Nat) (g : Addr → Option Obj) : List Addr := mainGlobals :: walkZ g n (near nm g)
section
variable {nm : List Str} {n : Nat} {fa : List Fa} {fn : List DefD} {ts : List Tab} {tf : List Defn} {ex : PySem.W.Frag → Bool} {pr : List PrD} {w : World} {h : Heap}
def obsZ (nm : List Str) (n : Nat) (fa : List Fa) (fn : List DefD) (ts : List Tab) (tf : List Defn) (ex : PySem.W.Frag → Bool) (pr : List PrD) (g : Addr → Option Obj) : AlY :=
  ((obsT fa fn ts (frT g (asZ nm n g)), ex (frT g (asZ nm n g)) && tabsB g tf (frT g (asZ nm n g))), obsP pr (frT g (asZ nm n g)))
theorem saysZ_of {K : PySem.W.Frag} {l : List Addr} (hK : K = frT h.get? l) (e1 : obsT fa fn ts K = valT fn ts w) (e2 : (ex K && tabsB h.get? tf K) = true) : SaysX fa fn ts tf ex w h K := by
  have h1 := (Bool.and_eq_true_iff.mp e2).1
  have h2 := (Bool.and_eq_true_iff.mp e2).2
  have key : ∀ p ∈ tf, PySem.W.codeHdIn K (cT K p).1 (cT K p).2 = true ∧ ∃ o, h.get? (cT K p).2 = some o ∧ emptyTab o = true := fun p hp => by
    have z := Bool.and_eq_true_iff.mp (List.all_eq_true.mp h2 p hp)
    refine ⟨z.1, ?_⟩
    have z2 := z.2
    cases q : h.get? (cT K p).2 with
    | none => rw [q] at z2; cases z2
    | some o => rw [q] at z2; exact ⟨o, rfl, z2⟩
  refine ⟨e1, h1, fun p hp => (key p hp).1, fun p hp => ?_, fun p hp => ?_⟩
  · obtain ⟨-, o, q, z⟩ := key p hp
    subst hK
    exact frT_none q z
  · obtain ⟨-, o, q, z⟩ := key p hp
    rw [q, emptyTab_eq z]
def hookZ (nm : List Str) (n : Nat) (fa : List Fa) (fn : List DefD) (ts : List Tab) (tf : List Defn) (ex : PySem.W.Frag → Bool) (pr : List PrD) : PySem.W.Hook where
  α := AlY
  obs := fun s => obsZ nm n fa fn ts tf ex pr s.heap.get?
  val := fun w => valY fn ts pr w
  says := fun w h => ∃ K : PySem.W.Frag, K.In h ∧ SaysY fa fn ts tf ex pr w h K
  of := fun _ _ e => ⟨_, frT_in, saysZ_of rfl (congrArg (fun z : AlY => z.1.1) e) (congrArg (fun z : AlY => z.1.2) e), congrArg (fun z : AlY => z.2) e⟩
  keeps := fun _ _ _ ⟨K, hK, c⟩ k => ⟨K, PySem.W.Frag.In.keeps hK k, ⟨c.x.t, c.x.more, c.x.hd, c.x.out, fun p hp => k _ _ (c.x.empty p hp)⟩, c.p⟩
theorem obsZ_eq {g : Addr → Option Obj} {s : Shared} (h : ∀ a, g a = s.heap.get? a) : obsZ nm n fa fn ts tf ex pr g = (hookZ nm n fa fn ts tf ex pr).obs s := by
  have e : g = s.heap.get? := funext h
  rw [e] <;> rfl
end
end Mo
set_option Elab.async false
set_option linter.all false
set_option maxRecDepth 100000
set_option maxHeartbeats 4000000
namespace K51
open PySem L2 Mo
def tb_MORE_SIZES : Tb := [("none", some (.int 2)), ("unlike", some (.int 4)), ("leaf", some (.int 5)), ("apart", some (.int 6)), ("posts", some (.int 4)), ("e", none), ("n", none), ("w", none), ("s", none), ("turn", none), ("height", none), ("sheets", none), ("sheet", none), ("with", none)]
def tb_MOVES : Tb := [("e", some (.wt [.int 1, .int 0])), ("n", some (.wt [.int 0, .int 1])), ("w", some (.wt [.int (-1), .int 0])), ("s", some (.wt [.int 0, .int (-1)]))]
def tb_SHIFTS : Tb := [("e", some (.wt [.int 1, .int 0])), ("n", some (.wt [.int 0, .int 1])), ("w", some (.wt [.int (-1), .int 0])), ("s", some (.wt [.int 0, .int (-1)]))]
def tb_SIZES : Tb := [("turn", some (.int 3)), ("height", some (.int 4)), ("sheets", some (.int 3)), ("sheet", some (.int 3)), ("with", some (.int 4)), ("none", none), ("unlike", none), ("leaf", none), ("apart", none), ("posts", none), ("e", none), ("n", none), ("w", none), ("s", none)]
/-- _law_reel(_law_script, _law_turn_here): slots _law_script, _law_turn_here, _law_stirred, _law_size_here, _law_great -/
def m__law_reel : En → Mm Fl := (seq (sto 2 (op2 opAdd (con (.int 15485863)) (op2 opMul (con (.int 40)) (var 1))))
    (seq (forM (itL (slc slD (var 0) opN (opS (con (.int 50))))) (.nm 3) (sto 2 (op2 opMod (bi bInt (argC (op2 opAdd (op2 opAdd (op2 opMul (var 2) (con (.int 22543))) (op2 opMod (bi bInt (argC (var 3) argN)) (con (.int 999999937)))) (con (.int 5))) argN)) (con (.int 2147483249)))))
    (seq (sto 4 (ifE (andT (tst (op2 opLt (var 1) (bi bLen (argC (var 0) argN)))) (tst (op2 opGe (bi bAbs (argC (op2 ixM (var 0) (var 1)) argN)) (op2 opPow (con (.int 10)) (con (.int 18)))))) (bi bAbs (argC (op2 ixM (var 0) (var 1)) argN)) (con (.int 0))))
    (ret (lstO (argC (var 4) (argC (var 2) (argC (con (.int 0)) argN))))))))
def f__law_reel : List Dt → Mm Dt := fnM 5 m__law_reel
/-- _law_roll(_law_reel_here, _law_many): slots _law_reel_here, _law_many, _law_stirred, _law_by, _law_figure -/
def m__law_roll : En → Mm Fl := (seq (asg (op2 opAdd (op2 ixM (var 0) (con (.int 2))) (con (.int 1))) (gS (var 0) (con (.int 2)) setL))
    (seq (sto 2 (bi bInt (argC (op2 ixM (var 0) (con (.int 1))) argN)))
    (seq (sto 3 (op2 opAdd (op2 opMod (bi bInt (argC (var 2) argN)) (con (.int 21001))) (con (.int 33013))))
    (seq (asg (op2 opMod (bi bInt (argC (op2 opAdd (op2 opAdd (op2 opMul (var 2) (var 3)) (op2 opMul (con (.int 50021)) (op2 ixM (var 0) (con (.int 2))))) (con (.int 3))) argN)) (con (.int 2147483249))) (gS (var 0) (con (.int 1)) setL))
    (seq (ifS (tst (op2 opGt (op2 ixM (var 0) (con (.int 0))) (con (.int 0)))) (seq (asg (bi bDivmod (argC (op2 ixM (var 0) (con (.int 0))) (argC (var 1) argN))) (gT 2 (gsC (gS (var 0) (con (.int 0)) setL) (gsC (gN 4) gsN))))
    (ret (var 4))) nxt)
    (ret (op2 opMod (bi bInt (argC (op2 opFdiv (op2 ixM (var 0) (con (.int 1))) (con (.int 512))) argN)) (var 1))))))))
def f__law_roll : List Dt → Mm Dt := fnM 5 m__law_roll
/-- _law_long(_law_text_here): slots _law_text_here, _law_word -/
def m__law_long : En → Mm Fl := (ret (bm isSt mJoin (con (.str "")) (argC (lcM (itL (bm isSt mSplit (var 0) (argC (con (.str " ")) argN))) (.nm 1) yes (op2 opMul (op2 ixM (var 1) (con (.int 0))) (bi bInt (argC (slc slD (var 1) (opS (con (.int 1))) opN) argN))) [1]) argN)))
def f__law_long : List Dt → Mm Dt := fnM 2 m__law_long
/-- _law_side(_law_row): slots _law_row, _law_found, _law_here, _law_there, _law_bend -/
def m__law_side : En → Mm Fl := (seq (sto 1 (op2 ixM (var 0) (con (.int 0))))
    (seq (forM (itZS (argC (var 0) (argC (slc slD (var 0) (opS (con (.int 1))) opN) argN))) (.tp [(.nm 2), (.nm 3)]) (seq (sto 4 (op2 opMod (bi bInt (argC (op2 opSub (bm isSt mSIndex (con (.str "enws")) (argC (var 3) argN)) (bm isSt mSIndex (con (.str "enws")) (argC (var 2) argN))) argN)) (con (.int 4))))
    (sto 1 (op2 opAdd (var 1) (op2 ixM (lstE (argC (ifE (tst (op2 opEq (var 4) (con (.int 3)))) (con (.str "")) (op2 opAdd (var 2) (var 3))) (argC (var 3) argN))) (bi bInt (argC (op2 opEq (var 4) (con (.int 0))) argN)))))))
    (ret (op2 opAdd (var 1) (op2 ixM (var 0) (op1 unNeg (con (.int 1))))))))
def f__law_side : List Dt → Mm Dt := fnM 5 m__law_side
/-- _law_rim(_law_row): slots _law_row, _law_back, _law_way, _law_there -/
def m__law_rim : En → Mm Fl := (seq (sto 1 (bm isSt mJoin (con (.str "")) (argC (lcM (itS (op1' revS (var 0))) (.nm 2) yes (op2 ixM (con (.str "wsen")) (bm isSt mSIndex (con (.str "enws")) (argC (var 2) argN))) [2]) argN)))
    (seq (sto 3 (op2 opAdd (callM 1 f__law_side (argC (var 0) argN)) (op2 ixM (con (.str "nwse")) (bm isSt mSIndex (con (.str "enws")) (argC (op2 ixM (var 0) (op1 unNeg (con (.int 1)))) argN)))))
    (ret (op2 opAdd (op2 opAdd (var 3) (callM 1 f__law_side (argC (var 1) argN))) (op2 ixM (con (.str "nwse")) (bm isSt mSIndex (con (.str "enws")) (argC (op2 ixM (var 1) (op1 unNeg (con (.int 1)))) argN)))))))
def f__law_rim : List Dt → Mm Dt := fnM 4 m__law_rim
/-- _law_base(_law_reel_here): slots _law_reel_here, _law_way, _law_wide, _law_high, _law_over, _law_deep -/
def m__law_base : En → Mm Fl := (seq (sto 1 (callM 2 f__law_roll (argC (var 0) (argC (con (.int 5)) argN))))
    (seq (ifS (tst (op2 opEq (var 1) (con (.int 0)))) (seq (par 2 3 (argC (op2 opAdd (con (.int 1)) (callM 2 f__law_roll (argC (var 0) (argC (con (.int 4)) argN)))) (argC (op2 opAdd (con (.int 1)) (callM 2 f__law_roll (argC (var 0) (argC (con (.int 4)) argN)))) argN)))
    (ret (op2 opAdd (op2 opAdd (op2 opAdd (op2 opMul (con (.str "e")) (var 2)) (op2 opMul (con (.str "n")) (var 3))) (op2 opMul (con (.str "w")) (var 2))) (op2 opMul (con (.str "s")) (var 3))))) nxt)
    (seq (ifS (tst (op2 opEq (var 1) (con (.int 1)))) (ret (callM 1 f__law_long (argC (con (.str "e5 n3 w4 n1 e1 s5 e4 n7 w7 s4 e5 s1 w1 n4 w3 s5")) argN))) nxt)
    (seq (par 2 3 (argC (op2 opAdd (con (.int 3)) (callM 2 f__law_roll (argC (var 0) (argC (con (.int 3)) argN)))) (argC (op2 opAdd (con (.int 2)) (callM 2 f__law_roll (argC (var 0) (argC (con (.int 2)) argN)))) argN)))
    (seq (par 4 5 (argC (op2 opAdd (con (.int 2)) (callM 2 f__law_roll (argC (var 0) (argC (op2 opSub (var 2) (con (.int 2))) argN)))) (argC (op2 opAdd (op2 opAdd (var 3) (con (.int 1))) (callM 2 f__law_roll (argC (var 0) (argC (con (.int 2)) argN)))) argN)))
    (ret (callM 1 f__law_rim (argC (op2 opAdd (op2 opAdd (op2 opAdd (op2 opMul (con (.str "e")) (var 2)) (op2 opMul (con (.str "n")) (var 3))) (op2 opMul (con (.str "w")) (var 4))) (op2 opMul (con (.str "s")) (var 5))) argN))))))))
def f__law_base : List Dt → Mm Dt := fnM 6 m__law_base
/-- _law_spots(_law_ways): slots _law_ways, _law_found, _law_x, _law_y, _law_way -/
def m__law_spots : En → Mm Fl := (seq (par3 1 2 3 (argC (lstO (argC (tupE (argC (con (.int 0)) (argC (con (.int 0)) argN))) argN)) (argC (con (.int 0)) (argC (con (.int 0)) argN))))
    (seq (forM (itS (var 0)) (.nm 4) (seq (par 2 3 (argC (op2 opAdd (var 2) (get2 (dispM [((con (.str "e")), (con (.int 1))), ((con (.str "w")), (op1 unNeg (con (.int 1))))]) (var 4) (con (.int 0)))) (argC (op2 opAdd (var 3) (get2 (dispM [((con (.str "n")), (con (.int 1))), ((con (.str "s")), (op1 unNeg (con (.int 1))))]) (var 4) (con (.int 0)))) argN)))
    (drp (bm isL mApp (var 1) (argC (tupE (argC (var 2) (argC (var 3) argN))) argN)))))
    (ret (var 1))))
def f__law_spots : List Dt → Mm Dt := fnM 5 m__law_spots
/-- _law_is_line(_law_ways): slots _law_ways, _law_spots_here, _law_met, _law_at, _law_lot, _law_is_straight -/
def m__law_is_line : En → Mm Fl := (seq (par 1 2 (argC (callM 1 f__law_spots (argC (var 0) argN)) (argC (fun _ => mkO (.dt [] [])) argN)))
    (seq (ifS (tst (op2 opNe (op2 ixM (var 1) (op1 unNeg (con (.int 1)))) (tupE (argC (con (.int 0)) (argC (con (.int 0)) argN))))) (ret (con (.bl false))) nxt)
    (seq (forM (itR1 (argC (bi bLen (argC (var 0) argN)) argN)) (.nm 3) (asg (op2 opAdd (get2 (var 2) (op2 ixM (var 1) (var 3)) (lstE argN)) (lstE (argC (var 3) argN))) (gS (var 2) (op2 ixM (var 1) (var 3)) setD)))
    (seq (forM (itVT (var 2)) (.nm 4) (seq (sto 5 (bi bAll (argC (lcM (itL (var 4)) (.nm 3) yes (op2 opEq (op2 ixM (var 0) (op2 opSub (var 3) (con (.int 1)))) (op2 ixM (var 0) (var 3))) [3]) argN)))
    (ifS (orT (tst (op2 opGt (bi bLen (argC (var 4) argN)) (con (.int 2)))) (andT (tst (op2 opEq (bi bLen (argC (var 4) argN)) (con (.int 2)))) (notT (andT (tst (var 5)) (tst (op2 opNe (op2 opIn (op2 ixM (var 0) (op2 ixM (var 4) (con (.int 0)))) (con (.str "ew"))) (op2 opIn (op2 ixM (var 0) (op2 ixM (var 4) (con (.int 1)))) (con (.str "ew"))))))))) (ret (con (.bl false))) nxt)))
    (ret (con (.bl true)))))))
def f__law_is_line : List Dt → Mm Dt := fnM 6 m__law_is_line
/-- _law_turned(_law_ways): slots _law_ways, _law_way -/
def m__law_turned : En → Mm Fl := (ret (bm isSt mJoin (con (.str "")) (argC (lcM (itS (var 0)) (.nm 1) yes (op2 ixM (con (.str "nwse")) (bm isSt mSIndex (con (.str "enws")) (argC (var 1) argN))) [1]) argN)))
def f__law_turned : List Dt → Mm Dt := fnM 2 m__law_turned
/-- _law_begun(_law_ways, _law_turn_here): slots _law_ways, _law_turn_here, _law_spots_here, _law_at -/
def m__law_begun : En → Mm Fl := (seq (sto 2 (lcM (itR1 (argC (bi bLen (argC (var 0) argN)) argN)) (.nm 3) (tst (op2 opNe (op2 ixM (var 0) (op2 opSub (var 3) (con (.int 1)))) (op2 ixM (var 0) (var 3)))) (var 3) [3]))
    (seq (sto 3 (op2 ixM (var 2) (op2 opMod (bi bInt (argC (var 1) argN)) (bi bLen (argC (var 2) argN)))))
    (ret (op2 opAdd (slc slD (var 0) (opS (var 3)) opN) (slc slD (var 0) opN (opS (var 3)))))))
def f__law_begun : List Dt → Mm Dt := fnM 4 m__law_begun
/-- _law_drawn(_law_reel_here, _law_most): slots _law_reel_here, _law_most, _law_ways, _law_turn_here, _law_at, _law_round_it, _law_later, _law_way -/
def m__law_drawn : En → Mm Fl := (seq (sto 2 (callM 1 f__law_base (argC (var 0) argN)))
    (seq (forM (itR1 (argC (callM 2 f__law_roll (argC (var 0) (argC (var 1) argN))) argN)) (.nm 3) (seq (sto 4 (callM 2 f__law_roll (argC (var 0) (argC (bi bLen (argC (var 2) argN)) argN))))
    (seq (sto 5 (op2 ixD (dispM [((con (.str "e")), (con (.str "sen"))), ((con (.str "n")), (con (.str "enw"))), ((con (.str "w")), (con (.str "nws"))), ((con (.str "s")), (con (.str "wse")))]) (op2 ixM (var 2) (var 4))))
    (seq (sto 6 (op2 opAdd (op2 opAdd (slc slD (var 2) opN (opS (var 4))) (var 5)) (slc slD (var 2) (opS (op2 opAdd (var 4) (con (.int 1)))) opN)))
    (sto 2 (ifE (andT (tst (op2 opLt (bi bLen (argC (var 6) argN)) (con (.int 100)))) (tst (callM 1 f__law_is_line (argC (var 6) argN)))) (var 6) (var 2)))))))
    (seq (forM (itR1 (argC (callM 2 f__law_roll (argC (var 0) (argC (con (.int 4)) argN))) argN)) (.nm 3) (sto 2 (callM 1 f__law_turned (argC (var 2) argN))))
    (seq (ifS (tst (op2 opEq (callM 2 f__law_roll (argC (var 0) (argC (con (.int 2)) argN))) (con (.int 0)))) (sto 2 (bm isSt mJoin (con (.str "")) (argC (lcM (itS (op1' revS (var 2))) (.nm 7) yes (op2 ixM (con (.str "ewsn")) (bm isSt mSIndex (con (.str "ewns")) (argC (var 7) argN))) [7]) argN))) nxt)
    (ret (callM 2 f__law_begun (argC (var 2) (argC (callM 2 f__law_roll (argC (var 0) (argC (con (.int 99)) argN))) argN))))))))
def f__law_drawn : List Dt → Mm Dt := fnM 8 m__law_drawn
/-- _law_other(_law_reel_here): slots _law_reel_here, _law_way, _law_size, _law_ways, _law_each, _law_turn_here -/
def m__law_other : En → Mm Fl := (seq (par 1 2 (argC (callM 2 f__law_roll (argC (var 0) (argC (con (.int 4)) argN))) (argC (op2 opAdd (con (.int 1)) (callM 2 f__law_roll (argC (var 0) (argC (con (.int 3)) argN)))) argN)))
    (seq (ifS (tst (op2 opEq (var 1) (con (.int 0)))) (ret (callM 2 f__law_drawn (argC (var 0) (argC (con (.int 9)) argN)))) nxt)
    (seq (ifS (tst (op2 opEq (var 1) (con (.int 1)))) (sto 3 (bm isSt mJoin (con (.str "")) (argC (lcM (itS (op1' revS (callM 2 f__law_drawn (argC (var 0) (argC (con (.int 9)) argN))))) (.nm 4) yes (op2 ixM (con (.str "wsen")) (bm isSt mSIndex (con (.str "enws")) (argC (var 4) argN))) [4]) argN))) (ifS (tst (op2 opEq (var 1) (con (.int 2)))) (sto 3 (op2 opAdd (op2 opAdd (op2 opAdd (op2 opAdd (op2 opAdd (op2 opMul (con (.str "e")) (op2 opAdd (var 2) (con (.int 1)))) (op2 opMul (con (.str "n")) (var 2))) (con (.str "w"))) (op2 opMul (con (.str "s")) (op2 opAdd (var 2) (con (.int 1))))) (op2 opMul (con (.str "w")) (var 2))) (con (.str "n")))) (sto 3 (callM 1 f__law_long (argC (con (.str "e1 n3 w4 n1 e2 s5 e3 n3 w4 s4 e6 s1 w1 n4 w3 s1")) argN)))))
    (seq (forM (itR1 (argC (callM 2 f__law_roll (argC (var 0) (argC (con (.int 4)) argN))) argN)) (.nm 5) (sto 3 (callM 1 f__law_turned (argC (var 3) argN))))
    (ret (callM 2 f__law_begun (argC (var 3) (argC (callM 2 f__law_roll (argC (var 0) (argC (con (.int 99)) argN))) argN))))))))
def f__law_other : List Dt → Mm Dt := fnM 6 m__law_other
/-- _law_text(_law_ways): slots _law_ways, _law_found, _law_way -/
def m__law_text : En → Mm Fl := (seq (sto 1 (lstO argN))
    (seq (forM (itS (var 0)) (.nm 2) (ifS (andT (tst (op2 opNe (var 1) (lstE argN))) (tst (op2 opEq (op2 ixM (op2 ixM (var 1) (op1 unNeg (con (.int 1)))) (con (.int 0))) (var 2)))) (asg (op2 opAdd (var 2) (bi bStr (argC (op2 opAdd (bi bInt (argC (slc slD (op2 ixM (var 1) (op1 unNeg (con (.int 1)))) (opS (con (.int 1))) opN) argN)) (con (.int 1))) argN))) (gS (var 1) (op1 unNeg (con (.int 1))) setL)) (drp (bm isL mApp (var 1) (argC (op2 opAdd (var 2) (con (.str "1"))) argN)))))
    (ret (bm isSt mJoin (con (.str " ")) (argC (var 1) argN)))))
def f__law_text : List Dt → Mm Dt := fnM 3 m__law_text
/-- stretch_of(word): slots word, sign -/
def m_stretch_of : En → Mm Fl := (seq (ifS (orT (notT (tst (bi bIsi (argC (var 0) (argC (con (.ty "str")) argN))))) (orT (tst (op2 opLt (bi bLen (argC (var 0) argN)) (con (.int 2)))) (orT (tst (op2 opNotIn (op2 ixM (var 0) (con (.int 0))) (con (.str "enws")))) (tst (op2 opEq (op2 ixM (var 0) (con (.int 1))) (con (.str "0"))))))) (ret (con .non)) nxt)
    (seq (ifS (notT (tst (bi bAll (argC (lcM (itS (slc slD (var 0) (opS (con (.int 1))) opN)) (.nm 1) yes (op2 opIn (var 1) (con (.str "0123456789"))) [1]) argN)))) (ret (con .non)) nxt)
    (ret (tupE (argC (op2 ixM (var 0) (con (.int 0))) (argC (bi bInt (argC (slc slD (var 0) (opS (con (.int 1))) opN) argN)) argN))))))
def f_stretch_of : List Dt → Mm Dt := fnM 2 m_stretch_of
/-- stretches_of(text): slots text, found, word -/
def m_stretches_of : En → Mm Fl := (seq (ifS (notT (tst (bi bIsi (argC (var 0) (argC (con (.ty "str")) argN))))) (ret (con .non)) nxt)
    (seq (sto 1 (lcM (itL (bm isSt mSplit (var 0) (argC (con (.str " ")) argN))) (.nm 2) yes (callM 1 f_stretch_of (argC (var 2) argN)) [2]))
    (ret (ifE (tst (op2 opIn (con .non) (var 1))) (con .non) (var 1)))))
def f_stretches_of : List Dt → Mm Dt := fnM 3 m_stretches_of
/-- is_level(way): slots way -/
def m_is_level : En → Mm Fl := (ret (op2 opIn (var 0) (con (.str "ew"))))
def f_is_level : List Dt → Mm Dt := fnM 1 m_is_level
/-- steps_of(text): slots text, found, way, number, k -/
def m_steps_of : En → Mm Fl := (seq (sto 1 (callM 1 f_stretches_of (argC (var 0) argN)))
    (seq (ifS (orT (tst (op2 opIsN (var 1) (con .non))) (orT (tst (op2 opLt (bi bLen (argC (var 1) argN)) (con (.int 4)))) (tst (op2 opGt (bi bSum (argC (lcM (itL (var 1)) (.tp [(.nm 2), (.nm 3)]) yes (var 3) [2, 3]) argN)) (con (.int 120)))))) (ret (con .non)) nxt)
    (seq (ifS (tst (bi bAny (argC (lcM (itEL (argC (var 1) argN)) (.tp [(.nm 4), (.tp [(.nm 2), (.nm 3)])]) yes (op2 opEq (callM 1 f_is_level (argC (op2 ixM (op2 ixM (var 1) (op2 opSub (var 4) (con (.int 1)))) (con (.int 0))) argN)) (callM 1 f_is_level (argC (var 2) argN))) [4, 2, 3]) argN))) (ret (con .non)) nxt)
    (ret (bm isSt mJoin (con (.str "")) (argC (lcM (itL (var 1)) (.tp [(.nm 2), (.nm 3)]) yes (op2 opMul (var 2) (var 3)) [2, 3]) argN))))))
def f_steps_of : List Dt → Mm Dt := fnM 5 m_steps_of
/-- places_of_names(steps): slots steps, found, way, shift -/
def m_places_of_names : En → Mm Fl := (seq (sto 1 (lstO (argC (tupE (argC (con (.int 0)) (argC (con (.int 0)) argN))) argN)))
    (seq (forM (itS (var 0)) (.nm 2) (seq (sto 3 (kix tb_SHIFTS (var 2)))
    (drp (bm isL mApp (var 1) (argC (tupE (argC (op2 opAdd (op2 ixM (op2 ixM (var 1) (op1 unNeg (con (.int 1)))) (con (.int 0))) (op2 ixM (var 3) (con (.int 0)))) (argC (op2 opAdd (op2 ixM (op2 ixM (var 1) (op1 unNeg (con (.int 1)))) (con (.int 1))) (op2 ixM (var 3) (con (.int 1)))) argN))) argN)))))
    (ret (var 1))))
def f_places_of_names : List Dt → Mm Dt := fnM 4 m_places_of_names
/-- is_plain(steps, first, second): slots steps, first, second -/
def m_is_plain : En → Mm Fl := (seq (ifS (orT (tst (op2 opNe (op2 ixM (var 0) (op2 opSub (var 1) (con (.int 1)))) (op2 ixM (var 0) (var 1)))) (tst (op2 opNe (op2 ixM (var 0) (op2 opSub (var 2) (con (.int 1)))) (op2 ixM (var 0) (var 2))))) (ret (con (.bl false))) nxt)
    (ret (op2 opNe (callM 1 f_is_level (argC (op2 ixM (var 0) (var 1)) argN)) (callM 1 f_is_level (argC (op2 ixM (var 0) (var 2)) argN)))))
def f_is_plain : List Dt → Mm Dt := fnM 3 m_is_plain
/-- first_touch(steps): slots steps, seen, k, place, before -/
def m_first_touch : En → Mm Fl := (seq (sto 1 (fun _ => mkO (.dt [] [])))
    (seq (forM (itEL (argC (slc slD (callM 1 f_places_of_names (argC (var 0) argN)) opN (opS (op1 unNeg (con (.int 1))))) argN)) (.tp [(.nm 2), (.nm 3)]) (seq (sto 4 (setdM (var 1) (var 3) (lstO argN)))
    (seq (ifS (orT (tst (op2 opGt (bi bLen (argC (var 4) argN)) (con (.int 1)))) (andT (tst (op2 opEq (bi bLen (argC (var 4) argN)) (con (.int 1)))) (notT (tst (callM 3 f_is_plain (argC (var 0) (argC (op2 ixM (var 4) (con (.int 0))) (argC (var 2) argN)))))))) (ret (var 3)) nxt)
    (drp (bm isL mApp (var 4) (argC (var 2) argN))))))
    (ret (con .non))))
def f_first_touch : List Dt → Mm Dt := fnM 5 m_first_touch
/-- turned_left(way): slots way -/
def m_turned_left : En → Mm Fl := (ret (op2 ixM (con (.str "enws")) (op2 opMod (op2 opAdd (bm isSt mSIndex (con (.str "enws")) (argC (var 0) argN)) (con (.int 1))) (con (.int 4)))))
def f_turned_left : List Dt → Mm Dt := fnM 1 m_turned_left
/-- quarters_of(steps): slots steps, found, k, way -/
def m_quarters_of : En → Mm Fl := (seq (sto 1 (con (.int 0)))
    (seq (forM (itES (argC (var 0) argN)) (.tp [(.nm 2), (.nm 3)]) (ifS (tst (op2 opNe (op2 ixM (var 0) (op2 opSub (var 2) (con (.int 1)))) (var 3))) (sto 1 (op2 opAdd (var 1) (ifE (tst (op2 opEq (callM 1 f_turned_left (argC (op2 ixM (var 0) (op2 opSub (var 2) (con (.int 1)))) argN)) (var 3))) (con (.int 1)) (op1 unNeg (con (.int 1)))))) nxt))
    (ret (var 1))))
def f_quarters_of : List Dt → Mm Dt := fnM 4 m_quarters_of
/-- Line___init__(self, text): slots self, text, ways, spots, touch -/
def m_Line___init__ : En → Mm Fl := (seq (sto 2 (callM 1 f_steps_of (argC (var 1) argN)))
    (seq (ifS (tst (op2 opIsN (var 2) (con .non))) noS nxt)
    (seq (sto 3 (callM 1 f_places_of_names (argC (var 2) argN)))
    (seq (ifS (tst (op2 opNe (op2 ixM (var 3) (op1 unNeg (con (.int 1)))) (tupE (argC (con (.int 0)) (argC (con (.int 0)) argN))))) noS nxt)
    (seq (sto 4 (callM 1 f_first_touch (argC (var 2) argN)))
    (seq (ifS (tst (op2 opNotN (var 4) (con .non))) noS nxt)
    (seq (asg (tupE (argC (var 1) (argC (var 2) (argC (slc slD (var 3) opN (opS (op1 unNeg (con (.int 1))))) argN)))) (gT 3 (gsC (gF "Line" "written" (var 0)) (gsC (gF "Line" "ways" (var 0)) (gsC (gF "Line" "spots" (var 0)) gsN)))))
    (asg (op2 opFdiv (callM 1 f_quarters_of (argC (var 2) argN)) (con (.int 4))) (gF "Line" "rounds" (var 0))))))))))
def f_Line___init__ : List Dt → Mm Dt := fnM 5 m_Line___init__
/-- check_line(line): slots line -/
def m_check_line : En → Mm Fl := (ifS (notT (tst (bi (bIsC "Line") (argC (var 0) (argC (con (.cl "Line")) argN))))) noS nxt)
def f_check_line : List Dt → Mm Dt := fnM 1 m_check_line
/-- Line_text(self): slots self -/
def m_Line_text : En → Mm Fl := (ret (fld "Line" "written" (var 0)))
def f_Line_text : List Dt → Mm Dt := fnM 1 m_Line_text
/-- Line_turn(self): slots self -/
def m_Line_turn : En → Mm Fl := (ret (fld "Line" "rounds" (var 0)))
def f_Line_turn : List Dt → Mm Dt := fnM 1 m_Line_turn
/-- certify_turn(line): slots line -/
def m_certify_turn : En → Mm Fl := (seq (drp (callM 1 f_check_line (argC (var 0) argN)))
    (ret (tupE (argC (tupE (argC (con (.str "turn")) (argC (prp "Line" f_Line_text (var 0)) (argC (prp "Line" f_Line_turn (var 0)) argN)))) (argC (con .non) argN)))))
def f_certify_turn : List Dt → Mm Dt := fnM 1 m_certify_turn
/-- _law_turn(_law_ways): slots _law_ways, _law_bends, _law_at -/
def m__law_turn : En → Mm Fl := (seq (sto 1 (lcM (itR1 (argC (bi bLen (argC (var 0) argN)) argN)) (.nm 2) yes (op2 opMod (bi bInt (argC (op2 opSub (bm isSt mSIndex (con (.str "enws")) (argC (op2 ixM (var 0) (var 2)) argN)) (bm isSt mSIndex (con (.str "enws")) (argC (op2 ixM (var 0) (op2 opSub (var 2) (con (.int 1)))) argN))) argN)) (con (.int 4))) [2]))
    (ret (op2 opFdiv (op2 opSub (bm isL mLCount (var 1) (argC (con (.int 1)) argN)) (bm isL mLCount (var 1) (argC (con (.int 3)) argN))) (con (.int 4)))))
def f__law_turn : List Dt → Mm Dt := fnM 3 m__law_turn
/-- long_in(word): slots word, figures, sign -/
def m_long_in : En → Mm Fl := (seq (sto 1 (slc slD (var 0) (opS (con (.int 1))) opN))
    (seq (ifS (orT (tst (op2 opNotIn (slc slD (var 0) opN (opS (con (.int 1)))) (tupE (argC (con (.str "e")) (argC (con (.str "n")) (argC (con (.str "w")) (argC (con (.str "s")) argN))))))) (orT (notT (tst (chain opLt opLe (con (.int 0)) (bi bLen (argC (var 1) argN)) (con (.int 3))))) (tst (op2 opEq (op2 ixM (var 1) (con (.int 0))) (con (.str "0")))))) (ret (con (.int 0))) nxt)
    (ret (ifE (tst (bi bAll (argC (lcM (itS (var 1)) (.nm 2) yes (op2 opIn (var 2) (con (.str "0123456789"))) [2]) argN))) (bi bInt (argC (var 1) argN)) (con (.int 0))))))
def f_long_in : List Dt → Mm Dt := fnM 3 m_long_in
/-- steps_in(text, most): slots text, most, words, word, levels, at, steps -/
def m_steps_in : En → Mm Fl := (seq (ifS (notT (tst (bi bIsi (argC (var 0) (argC (con (.ty "str")) argN))))) (ret (con (.str ""))) nxt)
    (seq (sto 2 (bm isSt mSplit (var 0) (argC (con (.str " ")) argN)))
    (seq (ifS (orT (tst (op2 opLt (bi bLen (argC (var 2) argN)) (con (.int 4)))) (notT (tst (bi bAll (argC (lcM (itL (var 2)) (.nm 3) yes (op2 opGt (callM 1 f_long_in (argC (var 3) argN)) (con (.int 0))) [3]) argN))))) (ret (con (.str ""))) nxt)
    (seq (sto 4 (lcM (itL (var 2)) (.nm 3) yes (op2 opIn (op2 ixM (var 3) (con (.int 0))) (con (.str "ew"))) [3]))
    (seq (ifS (tst (bi bAny (argC (lcM (itR1 (argC (bi bLen (argC (var 4) argN)) argN)) (.nm 5) yes (op2 opEq (op2 ixM (var 4) (op2 opSub (var 5) (con (.int 1)))) (op2 ixM (var 4) (var 5))) [5]) argN))) (ret (con (.str ""))) nxt)
    (seq (sto 6 (bm isSt mJoin (con (.str "")) (argC (lcM (itL (var 2)) (.nm 3) yes (op2 opMul (op2 ixM (var 3) (con (.int 0))) (callM 1 f_long_in (argC (var 3) argN))) [3]) argN)))
    (ret (ifE (tst (op2 opLe (bi bLen (argC (var 6) argN)) (var 1))) (var 6) (con (.str ""))))))))))
def f_steps_in : List Dt → Mm Dt := fnM 7 m_steps_in
/-- places_of(steps): slots steps, found, letter, x, y -/
def m_places_of : En → Mm Fl := (seq (sto 1 (lstO (argC (tupE (argC (con (.int 0)) (argC (con (.int 0)) argN))) argN)))
    (seq (forM (itS (var 0)) (.nm 2) (seq (asg (op2 ixM (var 1) (op1 unNeg (con (.int 1)))) (gT 2 (gsC (gN 3) (gsC (gN 4) gsN))))
    (drp (bm isL mApp (var 1) (argC (tupE (argC (op2 opAdd (var 3) (op2 ixM (kix tb_MOVES (var 2)) (con (.int 0)))) (argC (op2 opAdd (var 4) (op2 ixM (kix tb_MOVES (var 2)) (con (.int 1)))) argN))) argN)))))
    (ret (var 1))))
def f_places_of : List Dt → Mm Dt := fnM 5 m_places_of
/-- is_straight(steps, at): slots steps, at -/
def m_is_straight : En → Mm Fl := (ret (op2 opEq (op2 ixM (var 0) (op2 opSub (var 1) (con (.int 1)))) (op2 ixM (var 0) (var 1))))
def f_is_straight : List Dt → Mm Dt := fnM 2 m_is_straight
/-- is_line(steps): slots steps, places, met, at, place, spots, one, other -/
def m_is_line : En → Mm Fl := (seq (par 1 2 (argC (callM 1 f_places_of (argC (var 0) argN)) (argC (fun _ => mkO (.dt [] [])) argN)))
    (seq (ifS (tst (op2 opNe (op2 ixM (var 1) (op1 unNeg (con (.int 1)))) (tupE (argC (con (.int 0)) (argC (con (.int 0)) argN))))) (ret (con (.bl false))) nxt)
    (seq (forM (itEL (argC (slc slD (var 1) opN (opS (op1 unNeg (con (.int 1))))) argN)) (.tp [(.nm 3), (.nm 4)]) (drp (bm isL mApp (setdM (var 2) (var 4) (lstO argN)) (argC (var 3) argN))))
    (seq (forM (itVT (var 2)) (.nm 5) (seq (ifS (tst (op2 opGt (bi bLen (argC (var 5) argN)) (con (.int 2)))) (ret (con (.bl false))) nxt)
    (ifS (tst (op2 opEq (bi bLen (argC (var 5) argN)) (con (.int 2)))) (seq (asg (var 5) (gL 2 (gsC (gN 6) (gsC (gN 7) gsN))))
    (seq (ifS (orT (notT (tst (callM 2 f_is_straight (argC (var 0) (argC (var 6) argN))))) (notT (tst (callM 2 f_is_straight (argC (var 0) (argC (var 7) argN)))))) (ret (con (.bl false))) nxt)
    (ifS (tst (op2 opEq (op2 opIn (op2 ixM (var 0) (var 6)) (con (.str "ew"))) (op2 opIn (op2 ixM (var 0) (var 7)) (con (.str "ew"))))) (ret (con (.bl false))) nxt))) nxt)))
    (ret (con (.bl true)))))))
def f_is_line : List Dt → Mm Dt := fnM 8 m_is_line
/-- is_whole(value): slots value -/
def m_is_whole : En → Mm Fl := (ret (andV (bi bIsi (argC (var 0) (argC (con (.ty "int")) argN))) (notV (bi bIsi (argC (var 0) (argC (con (.ty "bool")) argN))))))
def f_is_whole : List Dt → Mm Dt := fnM 1 m_is_whole
/-- turn_of(steps): slots steps, quarters, at, around -/
def m_turn_of : En → Mm Fl := (seq (sto 1 (con (.int 0)))
    (seq (forM (itR1 (argC (bi bLen (argC (var 0) argN)) argN)) (.nm 2) (seq (sto 3 (op2 opMod (bi bInt (argC (op2 opSub (bm isSt mSIndex (con (.str "enws")) (argC (op2 ixM (var 0) (var 2)) argN)) (bm isSt mSIndex (con (.str "enws")) (argC (op2 ixM (var 0) (op2 opSub (var 2) (con (.int 1)))) argN))) argN)) (con (.int 4))))
    (aug 1 (get2 (dispM [((con (.int 0)), (con (.int 0))), ((con (.int 1)), (con (.int 1))), ((con (.int 3)), (op1 unNeg (con (.int 1))))]) (var 3) (con (.int 0))) opIAdd)))
    (ret (op2 opFdiv (var 1) (con (.int 4))))))
def f_turn_of : List Dt → Mm Dt := fnM 4 m_turn_of
/-- rows_of(steps): slots steps, places, found, at, letter -/
def m_rows_of : En → Mm Fl := (seq (par 1 2 (argC (callM 1 f_places_of (argC (var 0) argN)) (argC (fun _ => mkO (.dk [] [])) argN)))
    (seq (forM (itES (argC (var 0) argN)) (.tp [(.nm 3), (.nm 4)]) (ifS (tst (op2 opIn (var 4) (con (.str "ns")))) (asg (tupE (argC (op2 ixM (op2 ixM (var 1) (var 3)) (con (.int 0))) (argC (bi bMin2 (argC (op2 ixM (op2 ixM (var 1) (var 3)) (con (.int 1))) (argC (op2 ixM (op2 ixM (var 1) (op2 opAdd (var 3) (con (.int 1)))) (con (.int 1))) argN))) argN))) (gS (var 2) (var 3) setD)) nxt))
    (ret (var 2))))
def f_rows_of : List Dt → Mm Dt := fnM 5 m_rows_of
/-- height_at(steps, cell): slots steps, cell, total, at, x, y -/
def m_height_at : En → Mm Fl := (seq (sto 2 (con (.int 0)))
    (seq (forM (itI (callM 1 f_rows_of (argC (var 0) argN))) (.tp [(.nm 3), (.tp [(.nm 4), (.nm 5)])]) (ifS (andT (tst (op2 opEq (var 5) (op2 ixM (var 1) (con (.int 1))))) (tst (op2 opGt (var 4) (op2 ixM (var 1) (con (.int 0)))))) (aug 2 (ifE (tst (op2 opEq (op2 ixM (var 0) (var 3)) (con (.str "n")))) (con (.int 1)) (op1 unNeg (con (.int 1)))) opIAdd) nxt))
    (ret (var 2))))
def f_height_at : List Dt → Mm Dt := fnM 6 m_height_at
/-- is_pair(value): slots value -/
def m_is_pair : En → Mm Fl := (ret (andV (bi bIsi (argC (var 0) (argC (con (.ty "tuple")) argN))) (andV (op2 opEq (bi bLen (argC (var 0) argN)) (con (.int 2))) (andV (callM 1 f_is_whole (argC (op2 ixM (var 0) (con (.int 0))) argN)) (callM 1 f_is_whole (argC (op2 ixM (var 0) (con (.int 1))) argN))))))
def f_is_pair : List Dt → Mm Dt := fnM 1 m_is_pair
/-- is_number_right(steps, claim): slots steps, claim, word, number -/
def m_is_number_right : En → Mm Fl := (seq (par 2 3 (argC (op2 ixM (var 1) (con (.int 0))) (argC (op2 ixM (var 1) (op1 unNeg (con (.int 1)))) argN)))
    (seq (ifS (notT (tst (callM 1 f_is_whole (argC (var 3) argN)))) (ret (con (.bl false))) nxt)
    (seq (ifS (tst (op2 opEq (var 2) (con (.str "turn")))) (ret (op2 opEq (callM 1 f_turn_of (argC (var 0) argN)) (var 3))) nxt)
    (seq (ifS (tst (op2 opEq (var 2) (con (.str "sheets")))) noS nxt)
    (seq (ifS (tst (op2 opEq (var 2) (con (.str "height")))) (ret (andV (callM 1 f_is_pair (argC (op2 ixM (var 1) (con (.int 2))) argN)) (op2 opEq (callM 2 f_height_at (argC (var 0) (argC (op2 ixM (var 1) (con (.int 2))) argN))) (var 3)))) nxt)
    noS)))))
def f_is_number_right : List Dt → Mm Dt := fnM 4 m_is_number_right
/-- accepts(claim, certificate): slots claim, certificate, word, steps -/
def m_accepts : En → Mm Fl := (seq (ifS (orT (notT (tst (bi bIsi (argC (var 0) (argC (con (.ty "tuple")) argN))))) (orT (tst (op2 opEqE (var 0) (tupE argN))) (notT (tst (bi bIsi (argC (op2 ixM (var 0) (con (.int 0))) (argC (con (.ty "str")) argN))))))) (ret (con (.bl false))) nxt)
    (seq (sto 2 (op2 ixM (var 0) (con (.int 0))))
    (seq (ifS (tst (op2 opNe (bi bLen (argC (var 0) argN)) (kget tb_SIZES (var 2) (kget tb_MORE_SIZES (var 2) (con (.int 0)))))) (ret (con (.bl false))) nxt)
    (seq (sto 3 (callM 2 f_steps_in (argC (op2 ixM (var 0) (con (.int 1))) (argC (con (.int 120)) argN))))
    (seq (ifS (orT (tst (op2 opEq (var 3) (con (.str "")))) (notT (tst (callM 1 f_is_line (argC (var 3) argN))))) (ret (con (.bl false))) nxt)
    (seq (ifS (tst (op2 opEq (var 2) (con (.str "none")))) noS nxt)
    (seq (ifS (tst (op2 opEq (var 2) (con (.str "unlike")))) noS nxt)
    (seq (ifS (tst (op2 opNotN (var 1) (con .non))) (ret (con (.bl false))) nxt)
    (seq (ifS (tst (op2 opIn (var 2) (tupE (argC (con (.str "turn")) (argC (con (.str "sheets")) (argC (con (.str "height")) (argC (con (.str "with")) argN))))))) (ret (callM 2 f_is_number_right (argC (var 3) (argC (var 0) argN)))) nxt)
    noS)))))))))
def f_accepts : List Dt → Mm Dt := fnM 4 m_accepts
/-- _law_is_shown(_law_asked, _law_proof): slots _law_asked, _law_proof -/
def m__law_is_shown : En → Mm Fl := (ret (op2 opIsB (callM 2 f_accepts (argC (var 0) (argC (var 1) argN))) (con (.bl true))))
def f__law_is_shown : List Dt → Mm Dt := fnM 2 m__law_is_shown
/-- _law_any(_law_reel_here, _law_things): slots _law_reel_here, _law_things -/
def m__law_any : En → Mm Fl := (ret (op2 ixM (var 1) (callM 2 f__law_roll (argC (var 0) (argC (bi bLen (argC (var 1) argN)) argN)))))
def f__law_any : List Dt → Mm Dt := fnM 2 m__law_any
/-- is_integer(value): slots value -/
def m_is_integer : En → Mm Fl := (ret (andV (bi bIsi (argC (var 0) (argC (con (.ty "int")) argN))) (notV (bi bIsi (argC (var 0) (argC (con (.ty "bool")) argN))))))
def f_is_integer : List Dt → Mm Dt := fnM 1 m_is_integer
/-- is_cell(value): slots value -/
def m_is_cell : En → Mm Fl := (ret (andV (bi bIsi (argC (var 0) (argC (con (.ty "tuple")) argN))) (andV (op2 opEq (bi bLen (argC (var 0) argN)) (con (.int 2))) (andV (callM 1 f_is_integer (argC (op2 ixM (var 0) (con (.int 0))) argN)) (callM 1 f_is_integer (argC (op2 ixM (var 0) (con (.int 1))) argN))))))
def f_is_cell : List Dt → Mm Dt := fnM 1 m_is_cell
/-- check_cell(cell): slots cell -/
def m_check_cell : En → Mm Fl := (ifS (notT (tst (callM 1 f_is_cell (argC (var 0) argN)))) noS nxt)
def f_check_cell : List Dt → Mm Dt := fnM 1 m_check_cell
/-- uprights(line): slots line, k, way -/
def m_uprights : En → Mm Fl := (ret (lcM (itES (argC (fld "Line" "ways" (var 0)) argN)) (.tp [(.nm 1), (.nm 2)]) (notT (tst (callM 1 f_is_level (argC (var 2) argN)))) (var 1) [1, 2]))
def f_uprights : List Dt → Mm Dt := fnM 3 m_uprights
/-- spot_of(line, step): slots line, step, here, there -/
def m_spot_of : En → Mm Fl := (seq (par 2 3 (argC (op2 ixM (fld "Line" "spots" (var 0)) (var 1)) (argC (op2 ixM (fld "Line" "spots" (var 0)) (op2 opMod (op2 opAdd (var 1) (con (.int 1))) (bi bLen (argC (fld "Line" "spots" (var 0)) argN)))) argN)))
    (ret (tupE (argC (bi bMin2 (argC (op2 ixM (var 2) (con (.int 0))) (argC (op2 ixM (var 3) (con (.int 0))) argN))) (argC (bi bMin2 (argC (op2 ixM (var 2) (con (.int 1))) (argC (op2 ixM (var 3) (con (.int 1))) argN))) argN)))))
def f_spot_of : List Dt → Mm Dt := fnM 4 m_spot_of
/-- height_at_heights(line, cell): slots line, cell, found, step, spot -/
def m_height_at_heights : En → Mm Fl := (seq (sto 2 (con (.int 0)))
    (seq (forM (itL (callM 1 f_uprights (argC (var 0) argN))) (.nm 3) (seq (sto 4 (callM 2 f_spot_of (argC (var 0) (argC (var 3) argN))))
    (ifS (andT (tst (op2 opEq (op2 ixM (var 4) (con (.int 1))) (op2 ixM (var 1) (con (.int 1))))) (tst (op2 opGt (op2 ixM (var 4) (con (.int 0))) (op2 ixM (var 1) (con (.int 0)))))) (sto 2 (op2 opAdd (var 2) (ifE (tst (op2 opEq (op2 ixM (fld "Line" "ways" (var 0)) (var 3)) (con (.str "n")))) (con (.int 1)) (op1 unNeg (con (.int 1)))))) nxt)))
    (ret (var 2))))
def f_height_at_heights : List Dt → Mm Dt := fnM 5 m_height_at_heights
/-- certify_height(line, cell): slots line, cell -/
def m_certify_height : En → Mm Fl := (seq (drp (callM 1 f_check_line (argC (var 0) argN)))
    (seq (drp (callM 1 f_check_cell (argC (var 1) argN)))
    (ret (tupE (argC (tupE (argC (con (.str "height")) (argC (prp "Line" f_Line_text (var 0)) (argC (var 1) (argC (callM 2 f_height_at_heights (argC (var 0) (argC (var 1) argN))) argN))))) (argC (con .non) argN))))))
def f_certify_height : List Dt → Mm Dt := fnM 2 m_certify_height
/-- _law_height(_law_ways, _law_square): slots _law_ways, _law_square, _law_spots_here, _law_found, _law_at -/
def m__law_height : En → Mm Fl := (seq (par 2 3 (argC (callM 1 f__law_spots (argC (var 0) argN)) (argC (con (.int 0)) argN)))
    (seq (forM (itR1 (argC (bi bLen (argC (var 0) argN)) argN)) (.nm 4) (ifS (andT (tst (op2 opIn (op2 ixM (var 0) (var 4)) (con (.str "ew")))) (andT (tst (op2 opEq (bi bMin2 (argC (op2 ixM (op2 ixM (var 2) (var 4)) (con (.int 0))) (argC (op2 ixM (op2 ixM (var 2) (op2 opAdd (var 4) (con (.int 1)))) (con (.int 0))) argN))) (op2 ixM (var 1) (con (.int 0))))) (tst (op2 opGt (op2 ixM (op2 ixM (var 2) (var 4)) (con (.int 1))) (op2 ixM (var 1) (con (.int 1))))))) (sto 3 (op2 opAdd (var 3) (ifE (tst (op2 opEq (op2 ixM (var 0) (var 4)) (con (.str "w")))) (con (.int 1)) (op1 unNeg (con (.int 1)))))) nxt))
    (ret (var 3))))
def f__law_height : List Dt → Mm Dt := fnM 5 m__law_height
/-- _law_right(_law_reel_here): slots _law_reel_here, _law_part, _law_ways, _law_text_here, _law_mine, _law_told, _law_due, _law_turn_here, _law_x, _law_y, _law_square -/
def m__law_right : En → Mm Fl := (seq (forM (itR1 (argC (con (.int 4)) argN)) (.nm 1) (seq (sto 2 (callM 1 f__law_other (argC (var 0) argN)))
    (seq (sto 3 (callM 1 f__law_text (argC (var 2) argN)))
    (seq (sto 4 (make "Line" 2 f_Line___init__ (argC (var 3) argN)))
    (seq (sto 5 (lstO (argC (gotE "told" (callM 1 f_certify_turn (argC (var 4) argN))) argN)))
    (seq (drp (bm isL mApp (var 5) (argC (gotE "told" (callK 1 [0] f_certify_turn (argC (var 4) argN))) argN)))
    (seq (sto 6 (tupE (argC (con (.str "turn")) (argC (var 3) (argC (callM 1 f__law_turn (argC (var 2) argN)) argN)))))
    (seq (ifS (orT (tst (op2 opNe (bi bRepr (argC (var 5) argN)) (bi bRepr (argC (op2 opMul (lstE (argC (lstE (argC (con (.str "told")) (argC (tupE (argC (var 6) (argC (con .non) argN))) argN))) argN)) (con (.int 2))) argN)))) (notT (tst (callM 2 f__law_is_shown (argC (var 6) (argC (con .non) argN)))))) (ret (con (.bl false))) nxt)
    (forM (itR1 (argC (con (.int 6)) argN)) (.nm 7) (seq (asg (callM 2 f__law_any (argC (var 0) (argC (op2 opAdd (callM 1 f__law_spots (argC (var 2) argN)) (lstE (argC (tupE (argC (op2 opPow (con (.int 10)) (con (.int 20))) (argC (con (.int 0)) argN))) (argC (tupE (argC (con (.int 0)) (argC (op1 unNeg (con (.int 7))) argN))) argN)))) argN))) (gT 2 (gsC (gN 8) (gsC (gN 9) gsN))))
    (seq (sto 10 (tupE (argC (op2 opSub (var 8) (callM 2 f__law_roll (argC (var 0) (argC (con (.int 2)) argN)))) (argC (op2 opSub (var 9) (callM 2 f__law_roll (argC (var 0) (argC (con (.int 2)) argN)))) argN))))
    (seq (sto 5 (lstO (argC (gotE "told" (callM 2 f_certify_height (argC (var 4) (argC (var 10) argN)))) argN)))
    (seq (drp (bm isL mApp (var 5) (argC (gotE "told" (callK 2 [1, 0] f_certify_height (argC (var 10) (argC (var 4) argN)))) argN)))
    (seq (sto 6 (tupE (argC (con (.str "height")) (argC (var 3) (argC (var 10) (argC (callM 2 f__law_height (argC (var 2) (argC (var 10) argN))) argN))))))
    (ifS (orT (tst (op2 opNe (bi bRepr (argC (var 5) argN)) (bi bRepr (argC (op2 opMul (lstE (argC (lstE (argC (con (.str "told")) (argC (tupE (argC (var 6) (argC (con .non) argN))) argN))) argN)) (con (.int 2))) argN)))) (notT (tst (callM 2 f__law_is_shown (argC (var 6) (argC (con .non) argN)))))) (ret (con (.bl false))) nxt)))))))))))))))
    (ret (con (.bl true))))
def f__law_right : List Dt → Mm Dt := fnM 11 m__law_right
/-- law(_law_script): slots _law_script, _law_turn_here -/
def m_law : En → Mm Fl := (seq (forM (itR1 (argC (bi bMax2 (argC (con (.int 2)) (argC (bi bMin2 (argC (bi bLen (argC (var 0) argN)) (argC (con (.int 6)) argN))) argN))) argN)) (.nm 1) (ifS (notT (tst (callM 1 f__law_right (argC (callM 2 f__law_reel (argC (var 0) (argC (var 1) argN))) argN)))) (ret (con (.bl false))) nxt))
    (ret (con (.bl true))))
def f_law : List Dt → Mm Dt := fnM 2 m_law
/-- _law_judged(_law_asked, _law_proof, _law_due): slots _law_asked, _law_proof, _law_due -/
def m__law_judged : En → Mm Fl := (ret (op2 opEq (bi bRepr (argC (lstE (argC (callM 2 f_accepts (argC (var 0) (argC (var 1) argN))) (argC (callK 2 [1, 0] f_accepts (argC (var 1) (argC (var 0) argN))) argN))) argN)) (bi bRepr (argC (lstE (argC (var 2) (argC (var 2) argN))) argN))))
def f__law_judged : List Dt → Mm Dt := fnM 3 m__law_judged
/-- _law_no_proof(_law_reel_here): slots _law_reel_here -/
def m__law_no_proof : En → Mm Fl := (ret (callM 2 f__law_any (argC (var 0) (argC (lstE (argC (tupE argN) (argC (con (.int 0)) (argC (con (.int 1)) (argC (con (.str "")) (argC (con (.str "bars")) (argC (tupE (argC (con (.str "bars")) argN)) (argC (tupE (argC (con (.str "turn")) argN)) (argC (con (.bl true)) (argC (con (.bl false)) (argC (lstE argN) (argC dnewV (argC (tupE (argC (con .non) argN)) (argC (op1 unNeg (con (.int 1))) argN)))))))))))))) argN))))
def f__law_no_proof : List Dt → Mm Dt := fnM 1 m__law_no_proof
end K51
set_option Elab.async false
set_option linter.all false
set_option maxRecDepth 100000
set_option maxHeartbeats 4000000
/-! Pu1: running the shallow defs. -/
namespace Mo
open PySem L2
def Ok {α : Type} (m : Mm α) (h : Ah) (Q : α → Ah → Prop) : Prop := match m h with
  | .ok a h' => Q a h'
  | _ => False
section
variable {α β : Type} {m : Mm α} {f : α → Mm β} {h : Ah} {Q Q' : α → Ah → Prop} {R : β → Ah → Prop}
theorem Ok.mono (o : Ok m h Q) (k : ∀ a h', Q a h' → Q' a h') : Ok m h Q' := by
  unfold Ok at *
  cases q : m h with
  | ok a h' => rw [q] at o; exact k a h' o
  | exn x h' => rw [q] at o; exact o
  | no => rw [q] at o; exact o
theorem ok_iff : Ok m h Q ↔ ∃ a h', m h = .ok a h' ∧ Q a h' := by
  unfold Ok
  cases q : m h with
  | ok a h' => exact ⟨fun o => ⟨a, h', rfl, o⟩, fun ⟨a', h'', e, o⟩ => by cases e; exact o⟩
  | exn x h' => exact ⟨fun o => o.elim, fun ⟨a', h'', e, o⟩ => by cases e⟩
  | no => exact ⟨fun o => o.elim, fun ⟨a', h'', e, o⟩ => by cases e⟩
@[simp] theorem ok_pure {a : α} : Ok (Mm.pure a) h Q ↔ Q a h := Iff.rfl
@[simp] theorem ok_no : Ok (Mm.no : Mm α) h Q ↔ False := Iff.rfl
@[simp] theorem ok_bind : Ok (m >>= f) h R ↔ Ok m h (fun a h' => Ok (f a) h' R) := by
  show Ok (Mm.bind m f) h R ↔ _
  unfold Ok Mm.bind
  cases q : m h <;> exact Iff.rfl
@[simp] theorem ok_ifno {c : Prop} [Decidable c] : Ok (if c then m else Mm.no) h Q ↔ c ∧ Ok m h Q := by
  by_cases q : c <;> simp [q]
theorem ok_of {a : α} {h' : Ah} (e : m h = .ok a h') (q : Q a h') : Ok m h Q := by unfold Ok; rw [e]; exact q
theorem Ok.then (o : Ok m h Q) (k : ∀ a h', Q a h' → Ok (f a) h' R) : Ok (m >>= f) h R := ok_bind.mpr (o.mono k)
end
section
variable {h : Ah} {env : En} {Q : Dt → Ah → Prop} {F : Fl → Ah → Prop} {B : Bool → Ah → Prop} {L : List Dt → Ah → Prop} {ma mb mc : En → Mm Dt} {mt mu : En → Mm Bool} {mr : En → Mm (List Dt)} {m1 m2 : En → Mm Fl} {g g' : Dt → Dt → Mm Dt} {i j : Nat} {d : Dt}
@[simp] theorem ok_var : Ok (var i env) h Q ↔ ∃ d, env[i]? = some (some d) ∧ Q d h := by
  unfold var
  cases q : env[i]? with
  | none => simp
  | some o => cases o <;> simp
@[simp] theorem ok_con : Ok (con d env) h Q ↔ Q d h := Iff.rfl
@[simp] theorem ok_op2 : Ok (op2 g ma mb env) h Q ↔ Ok (ma env) h fun x h1 => Ok (mb env) h1 fun y h2 => Ok (g x y) h2 Q := by simp [op2]
@[simp] theorem ok_op1 {g : Dt → Mm Dt} : Ok (op1 g ma env) h Q ↔ Ok (ma env) h fun x h1 => Ok (g x) h1 Q := by simp [op1]
@[simp] theorem ok_op1' {g : Dt → Mm Dt} : Ok (op1' g ma env) h Q ↔ Ok (ma env) h fun x h1 => Ok (g x) h1 Q := by simp [op1']
@[simp] theorem ok_isB {b : Bool} : Ok (isB (.bl b)) h B ↔ B b h := Iff.rfl
@[simp] theorem ok_tst : Ok (tst ma env) h B ↔ Ok (ma env) h fun d h1 => Ok (isB d) h1 B := by simp [tst]
@[simp] theorem ok_andT : Ok (andT mt mu env) h B ↔ Ok (mt env) h fun c h1 => if c then Ok (mu env) h1 B else B false h1 := by
  simp only [andT, ok_bind]
  refine ⟨fun o => o.mono fun c h1 q => ?_, fun o => o.mono fun c h1 q => ?_⟩ <;> cases c <;> exact q
@[simp] theorem ok_orT : Ok (orT mt mu env) h B ↔ Ok (mt env) h fun c h1 => if c then B true h1 else Ok (mu env) h1 B := by
  simp only [orT, ok_bind]
  refine ⟨fun o => o.mono fun c h1 q => ?_, fun o => o.mono fun c h1 q => ?_⟩ <;> cases c <;> exact q
@[simp] theorem ok_notT : Ok (notT mt env) h B ↔ Ok (mt env) h fun c h1 => B (!c) h1 := by simp [notT]
@[simp] theorem ok_ifE : Ok (ifE mt ma mb env) h Q ↔ Ok (mt env) h fun c h1 => if c then Ok (ma env) h1 Q else Ok (mb env) h1 Q := by
  simp only [ifE, ok_bind]
  refine ⟨fun o => o.mono fun c h1 q => ?_, fun o => o.mono fun c h1 q => ?_⟩ <;> cases c <;> exact q
@[simp] theorem ok_argN : Ok (argN env) h L ↔ L [] h := Iff.rfl
@[simp] theorem ok_argC : Ok (argC ma mr env) h L ↔ Ok (ma env) h fun d h1 => Ok (mr env) h1 fun ds h2 => L (d :: ds) h2 := by simp [argC]
theorem ok_andV : Ok (andV ma mb env) h Q ↔ Ok (ma env) h fun d h1 => Ok (isB d) h1 fun c h2 => if c then Ok (mb env) h2 Q else Q (.bl false) h2 := by
  simp only [andV, ok_bind]
  refine ⟨fun o => o.mono fun d h1 q => q.mono fun c h2 q => ?_, fun o => o.mono fun d h1 q => q.mono fun c h2 q => ?_⟩ <;> cases c <;> exact q
theorem ok_orV : Ok (orV ma mb env) h Q ↔ Ok (ma env) h fun d h1 => Ok (isB d) h1 fun c h2 => if c then Q (.bl true) h2 else Ok (mb env) h2 Q := by
  simp only [orV, ok_bind]
  refine ⟨fun o => o.mono fun d h1 q => q.mono fun c h2 q => ?_, fun o => o.mono fun d h1 q => q.mono fun c h2 q => ?_⟩ <;> cases c <;> exact q
theorem ok_notV : Ok (notV ma env) h Q ↔ Ok (ma env) h fun d h1 => Ok (isB d) h1 fun c h2 => Q (.bl (!c)) h2 := by simp [notV]
theorem ok_chain : Ok (chain g g' ma mb mc env) h Q ↔ Ok (ma env) h fun x h1 => Ok (mb env) h1 fun y h2 => Ok (g x y) h2 fun z h3 => Ok (isB z) h3 fun k h4 => if k then Ok (mc env) h4 fun w h5 => Ok (g' y w) h5 Q else Q (.bl false) h4 := by
  simp only [chain, ok_bind]
  refine ⟨fun o => o.mono fun _ _ q => q.mono fun _ _ q => q.mono fun _ _ q => q.mono fun c _ q => ?_, fun o => o.mono fun _ _ q => q.mono fun _ _ q => q.mono fun _ _ q => q.mono fun c _ q => ?_⟩ <;> cases c
  · exact q
  · simpa using q
  · exact q
  · simpa using q
@[simp] theorem ok_tupE : Ok (tupE mr env) h Q ↔ Ok (mr env) h fun ds h1 => ds.length ≤ sizeLine ∧ Q (.tup ds) h1 := by simp [tupE]
@[simp] theorem ok_lstE : Ok (lstE mr env) h Q ↔ Ok (mr env) h fun ds h1 => ds.length ≤ sizeLine ∧ Q (.lv ds) h1 := by simp [lstE]
@[simp] theorem ok_lstO : Ok (lstO mr env) h Q ↔ Ok (mr env) h fun ds h1 => ds.length ≤ sizeLine ∧ Q (.obj h1.length) (h1 ++ [.lst ds]) := by
  simp only [lstO, ok_bind, ok_ifno]
  rfl
@[simp] theorem ok_bi {g : List Dt → Mm Dt} : Ok (bi g mr env) h Q ↔ Ok (mr env) h fun ds h1 => Ok (g ds) h1 Q := by simp [bi]
theorem ok_callM {n : Nat} {fm : List Dt → Mm Dt} : Ok (callM n fm mr env) h Q ↔ Ok (mr env) h fun ds h1 => ds.length = n ∧ Ok (fm ds) h1 Q := by
  simp only [callM, ok_bind]
  refine ⟨fun o => o.mono fun ds h1 q => ?_, fun o => o.mono fun ds h1 q => ?_⟩
  · by_cases e : ds.length = n
    · rw [if_pos e] at q; exact ⟨e, q⟩
    · rw [if_neg e] at q; exact q.elim
  · rw [if_pos q.1]; exact q.2
-- statements
@[simp] theorem ok_nxt : Ok (nxt env) h F ↔ F (.nx env) h := Iff.rfl
@[simp] theorem ok_seq : Ok (seq m1 m2 env) h F ↔ Ok (m1 env) h fun f h1 => match f with | .nx e => Ok (m2 e) h1 F | f => F f h1 := by
  simp only [seq, ok_bind]
  refine ⟨fun o => o.mono fun f h1 q => ?_, fun o => o.mono fun f h1 q => ?_⟩ <;> cases f <;> exact q
@[simp] theorem ok_drp : Ok (drp ma env) h F ↔ Ok (ma env) h fun _ h1 => F (.nx env) h1 := by simp [drp]
@[simp] theorem ok_ret : Ok (ret ma env) h F ↔ Ok (ma env) h fun d h1 => F (.rt d) h1 := by simp [ret]
@[simp] theorem ok_ifS : Ok (ifS mt m1 m2 env) h F ↔ Ok (mt env) h fun c h1 => if c then Ok (m1 env) h1 F else Ok (m2 env) h1 F := by
  simp only [ifS, ok_bind]
  refine ⟨fun o => o.mono fun c h1 q => ?_, fun o => o.mono fun c h1 q => ?_⟩ <;> cases c <;> exact q
@[simp] theorem ok_sto : Ok (sto i ma env) h F ↔ Ok (ma env) h fun d h1 => F (.nx (env.set i (some d))) h1 := by simp [sto]
@[simp] theorem ok_asg {g : Dt → En → Mm En} : Ok (asg ma g env) h F ↔ Ok (ma env) h fun d h1 => Ok (g d env) h1 fun e h2 => F (.nx e) h2 := by simp [asg]
@[simp] theorem ok_gN {G : En → Ah → Prop} : Ok (gN i d env) h G ↔ G (env.set i (some d)) h := Iff.rfl
@[simp] theorem ok_gsN {G : En → Ah → Prop} : Ok (gsN [] env) h G ↔ G env h := Iff.rfl
@[simp] theorem ok_gsC {G : En → Ah → Prop} {g : Dt → En → Mm En} {gs : List Dt → En → Mm En} {ds : List Dt} : Ok (gsC g gs (d :: ds) env) h G ↔ Ok (g d env) h fun e h1 => Ok (gs ds e) h1 G := by simp [gsC]
@[simp] theorem ok_gT {G : En → Ah → Prop} {n : Nat} {gs : List Dt → En → Mm En} {ds : List Dt} : Ok (gT n gs (.tup ds) env) h G ↔ ds.length = n ∧ Ok (gs ds env) h G := by
  unfold gT
  by_cases e : ds.length = n
  · simp [e]
  · simp [e]
@[simp] theorem ok_gS {G : En → Ah → Prop} {g : Dt → Dt → Dt → Mm Unit} : Ok (gS ma mb g d env) h G ↔ Ok (ma env) h fun o h1 => Ok (mb env) h1 fun k h2 => Ok (g o k d) h2 fun _ h3 => G env h3 := by simp [gS]
@[simp] theorem ok_par : Ok (par i j mr env) h F ↔ Ok (mr env) h fun ds h1 => ∃ x y, ds = [x, y] ∧ F (.nx ((env.set i (some x)).set j (some y))) h1 := by
  simp only [par, ok_bind]
  refine ⟨fun o => o.mono fun ds h1 q => ?_, fun o => o.mono fun ds h1 q => ?_⟩
  · split at q
    · exact ⟨_, _, rfl, q⟩
    · exact q.elim
  · obtain ⟨x, y, rfl, q⟩ := q; exact q
@[simp] theorem ok_par3 {l : Nat} : Ok (par3 i j l mr env) h F ↔ Ok (mr env) h fun ds h1 => ∃ x y z, ds = [x, y, z] ∧ F (.nx (((env.set i (some x)).set j (some y)).set l (some z))) h1 := by
  simp only [par3, ok_bind]
  refine ⟨fun o => o.mono fun ds h1 q => ?_, fun o => o.mono fun ds h1 q => ?_⟩
  · split at q
    · exact ⟨_, _, _, rfl, q⟩
    · exact q.elim
  · obtain ⟨x, y, z, rfl, q⟩ := q; exact q
@[simp] theorem ok_aug : Ok (aug i ma g env) h F ↔ ∃ x, env[i]? = some (some x) ∧ Ok (ma env) h fun y h1 => Ok (g x y) h1 fun z h2 => F (.nx (env.set i (some z))) h2 := by
  unfold aug
  cases q : env[i]? with
  | none => simp
  | some o => cases o <;> simp
@[simp] theorem ok_forM {mi : En → Mm (List Dt)} {p : Pat} {mb : En → Mm Fl} : Ok (forM mi p mb env) h F ↔ Ok (mi env) h fun ds h1 => Ok (forL p mb ds env) h1 F := by simp [forM]
/-- a loop by an invariant of what is left -/
theorem forL_ind {p : Pat} {mb : En → Mm Fl} (I : List Dt → En → Ah → Prop)
    (step : ∀ x xs env h, I (x :: xs) env h → ∃ e1, p.bd x env = some e1 ∧ Ok (mb e1) h fun f h1 => match f with | .nx e => I xs e h1 | .ct e => I xs e h1 | .bk e => F (.nx e) h1 | .rt d => F (.rt d) h1)
    (done : ∀ env h, I [] env h → F (.nx env) h) : ∀ (ds : List Dt) (env : En) (h : Ah), I ds env h → Ok (forL p mb ds env) h F
  | [], env, h, q => done env h q
  | x :: xs, env, h, q => by
    obtain ⟨e1, hb, o⟩ := step x xs env h q
    simp only [forL, ok_bind, gP, hb, ok_pure]
    refine o.mono fun f h1 q1 => ?_
    cases f with
    | nx e => exact forL_ind I step done xs e h1 q1
    | ct e => exact forL_ind I step done xs e h1 q1
    | bk e => exact q1
    | rt d => exact q1
theorem ok_fnM {n : Nat} {ms : En → Mm Fl} {ds : List Dt} : Ok (fnM n ms ds) h Q ↔ Ok (ms (ds.map some ++ List.replicate (n - ds.length) none)) h fun f h1 => match f with | .rt d => Q d h1 | .nx _ => Q .non h1 | _ => False := by
  simp only [fnM, ok_bind]
  refine ⟨fun o => o.mono fun f h1 q => ?_, fun o => o.mono fun f h1 q => ?_⟩ <;> cases f <;> exact q
@[simp] theorem bd_nm : (Pat.nm i).bd d env = some (env.set i (some d)) := by simp [Pat.bd]
-- values
@[simp] theorem ok_addI {a b : Int} : Ok (opAdd (.int a) (.int b)) h Q ↔ Q (.int (a + b)) h := Iff.rfl
@[simp] theorem ok_subI {a b : Int} : Ok (opSub (.int a) (.int b)) h Q ↔ Q (.int (a - b)) h := Iff.rfl
@[simp] theorem ok_iaddI {a b : Int} : Ok (opIAdd (.int a) (.int b)) h Q ↔ Q (.int (a + b)) h := Iff.rfl
theorem ok_I2 {C : Int → Int → Bool} {k : Int → Int → Dt} {a b : Int} : Ok (opI2 C k (.int a) (.int b)) h Q ↔ C a b = true ∧ Q (k a b) h := by
  unfold opI2 Ok
  by_cases c : C a b = true <;> simp [c]
@[simp] theorem ok_modI {a b : Int} : Ok (opMod (.int a) (.int b)) h Q ↔ 0 < b ∧ Q (.int (a % b)) h := by simp [opMod, ok_I2]
@[simp] theorem ok_fdivI {a b : Int} : Ok (opFdiv (.int a) (.int b)) h Q ↔ (0 < b ∧ b < 1073741824) ∧ Q (.int (a / b)) h := by simp [opFdiv, ok_I2]
@[simp] theorem ok_powI {a b : Int} : Ok (opPow (.int a) (.int b)) h Q ↔ (0 ≤ b ∧ b ≤ 1000000 ∧ a.natAbs < 2 ^ 64) ∧ Q (.int (a ^ b.toNat)) h := by simp only [opPow, ok_I2, decide_eq_true_eq]
@[simp] theorem ok_ltI {a b : Int} : Ok (opLt (.int a) (.int b)) h Q ↔ Q (.bl (decide (a < b))) h := by simp [opLt, ok_I2]
@[simp] theorem ok_leI {a b : Int} : Ok (opLe (.int a) (.int b)) h Q ↔ Q (.bl (decide (a ≤ b))) h := by simp [opLe, ok_I2]
@[simp] theorem ok_gtI {a b : Int} : Ok (opGt (.int a) (.int b)) h Q ↔ Q (.bl (decide (b < a))) h := by simp [opGt, ok_I2]
@[simp] theorem ok_geI {a b : Int} : Ok (opGe (.int a) (.int b)) h Q ↔ Q (.bl (decide (b ≤ a))) h := by simp [opGe, ok_I2]
@[simp] theorem ok_mulI {a b : Int} : Ok (opMul (.int a) (.int b)) h Q ↔ a.natAbs.log2 + b.natAbs.log2 < 1000000 ∧ Q (.int (a * b)) h := by
  unfold opMul Ok
  by_cases c : a.natAbs.log2 + b.natAbs.log2 < 1000000 <;> simp [c]
@[simp] theorem ok_negI {a : Int} : Ok (unNeg (.int a)) h Q ↔ Q (.int (-a)) h := Iff.rfl
@[simp] theorem ok_eqI {a b : Int} : Ok (opEq (.int a) (.int b)) h Q ↔ Q (.bl (decide (a = b))) h := Iff.rfl
@[simp] theorem ok_neI {a b : Int} : Ok (opNe (.int a) (.int b)) h Q ↔ Q (.bl (!decide (a = b))) h := Iff.rfl
@[simp] theorem ok_eqS {a b : Str} : Ok (opEq (.str a) (.str b)) h Q ↔ Q (.bl (decide (a = b))) h := Iff.rfl
@[simp] theorem ok_neS {a b : Str} : Ok (opNe (.str a) (.str b)) h Q ↔ Q (.bl (!decide (a = b))) h := Iff.rfl
@[simp] theorem ok_eqB {a b : Bool} : Ok (opEq (.bl a) (.bl b)) h Q ↔ Q (.bl (decide (a = b))) h := Iff.rfl
@[simp] theorem ok_neB {a b : Bool} : Ok (opNe (.bl a) (.bl b)) h Q ↔ Q (.bl (!decide (a = b))) h := Iff.rfl
@[simp] theorem ok_intI {a : Int} : Ok (bInt [.int a]) h Q ↔ Q (.int a) h := Iff.rfl
@[simp] theorem ok_intB {k : Bool} : Ok (bInt [.bl k]) h Q ↔ Q (.int (if k then 1 else 0)) h := Iff.rfl
@[simp] theorem ok_absI {a : Int} : Ok (bAbs [.int a]) h Q ↔ Q (.int (if a < 0 then -a else a)) h := Iff.rfl
@[simp] theorem ok_maxI {a b : Int} : Ok (bMax2 [.int a, .int b]) h Q ↔ Q (.int (if b > a then b else a)) h := Iff.rfl
@[simp] theorem ok_minI {a b : Int} : Ok (bMin2 [.int a, .int b]) h Q ↔ Q (.int (if b < a then b else a)) h := Iff.rfl
@[simp] theorem ok_divmodI {a b : Int} : Ok (bDivmod [.int a, .int b]) h Q ↔ (0 < b ∧ b < 1073741824) ∧ Q (.tup [.int (a / b), .int (a % b)]) h := by
  unfold bDivmod Ok
  by_cases c : 0 < b ∧ b < 1073741824 <;> simp [c]
end
end Mo
set_option Elab.async false
set_option linter.all false
set_option maxRecDepth 100000
set_option maxHeartbeats 4000000
/-! Pu2: the reel. -/
namespace Mo
open PySem L2
def lstAt (h : Ah) (r : Nat) : Option (List Dt) := match h[r]? with
  | some (.lst xs) => some xs
  | _ => none
theorem lstAt_lt {h : Ah} {r : Nat} {xs : List Dt} (e : lstAt h r = some xs) : r < h.length := by
  unfold lstAt at e
  cases q : h[r]? with
  | none => rw [q] at e; cases e
  | some o => exact (List.getElem?_eq_some_iff.mp q).1
theorem lstAt_app {h : Ah} {r : Nat} {xs : List Dt} (e : lstAt h r = some xs) (j : Ah) : lstAt (h ++ j) r = some xs := by
  have l := lstAt_lt e
  unfold lstAt at *
  rw [List.getElem?_append_left l]
  exact e
theorem lstAt_set {h : Ah} {r : Nat} {xs : List Dt} (l : r < h.length) : lstAt (h.set r (.lst xs)) r = some xs := by
  unfold lstAt
  rw [List.getElem?_set_self l]
theorem lstAt_new {h : Ah} {xs : List Dt} {j : Ah} : lstAt (h ++ .lst xs :: j) h.length = some xs := by
  unfold lstAt
  simp
section
variable {h : Ah} {r : Nat} {Q : Dt → Ah → Prop} {U : Unit → Ah → Prop}
@[simp] theorem ok_ixO {i : Int} : Ok (ixM (.obj r) (.int i)) h Q ↔ ∃ d, (lstAt h r).bind (fun xs => atI xs i) = some d ∧ Q d h := by
  unfold Ok ixM lstAt
  cases q : h[r]? with
  | none => simp [seqR, tupR, lstR, lstT, q]
  | some o =>
    cases o with
    | lst xs =>
      cases a : atI xs i <;> simp [seqR, tupR, lstR, lstT, q, a]
    | _ => simp [seqR, tupR, lstR, lstT, q]
@[simp] theorem ok_setO {i : Int} {y : Dt} : Ok (setL (.obj r) (.int i) y) h U ↔ ∃ xs j, lstAt h r = some xs ∧ ixN xs.length i = some j ∧ U () (h.set r (.lst (xs.set j y))) := by
  unfold Ok setL lstAt
  cases q : h[r]? with
  | none => simp [q]
  | some o =>
    cases o with
    | lst xs =>
      cases a : ixN xs.length i <;> simp [q, a]
    | _ => simp [q]
end
/-- at r a reel, n rolls at most behind it -/
structure Reel (h : Ah) (r : Nat) (n : Nat) : Prop where
  ex : ∃ g s c : Int, lstAt h r = some [.int g, .int s, .int c] ∧ 0 ≤ g ∧ 0 ≤ s ∧ s < 2147483249 ∧ 0 ≤ c ∧ c ≤ n
theorem Reel.mono {h : Ah} {r n m : Nat} (R : Reel h r n) (k : n ≤ m) : Reel h r m := by
  obtain ⟨g, s, c, h1, h2, h3, h4, h5, h6⟩ := R.ex
  exact ⟨g, s, c, h1, h2, h3, h4, h5, by omega⟩
theorem Reel.app {h : Ah} {r n : Nat} (R : Reel h r n) (j : Ah) : Reel (h ++ j) r n := by
  obtain ⟨g, s, c, h1, h2⟩ := R.ex
  exact ⟨g, s, c, lstAt_app h1 j, h2⟩
theorem log2_lt {n k : Nat} (h : n < 2 ^ k) (hk : 0 < k) : n.log2 < k := by
  by_cases z : n = 0
  · subst z; simpa using hk
  · exact (Nat.log2_lt z).mpr h
theorem roll_ok {h : Ah} {r n : Nat} {many : Int} (R : Reel h r n) (h1 : 0 < many) (h2 : many < 1073741824) (hn : n < 2 ^ 60) :
    Ok (K51.f__law_roll [.obj r, .int many]) h fun d h' => ∃ k : Int, d = .int k ∧ 0 ≤ k ∧ k < many ∧ Reel h' r (n + 1) := by
  obtain ⟨g, s, c, e, g0, s0, s1, c0, c1⟩ := R.ex
  have l := lstAt_lt e
  have q1 : (c + 1).natAbs.log2 < 61 := log2_lt (by omega) (by omega)
  have q2 : s.natAbs.log2 < 32 := log2_lt (by omega) (by omega)
  have q3 : (s % 21001 + 33013).natAbs.log2 < 32 := log2_lt (by omega) (by omega)
  have m0 := Int.emod_nonneg (s * (s % 21001 + 33013) + 50021 * (c + 1) + 3) (show (2147483249 : Int) ≠ 0 by decide)
  have m1 := Int.emod_lt_of_pos (s * (s % 21001 + 33013) + 50021 * (c + 1) + 3) (show (0 : Int) < 2147483249 by decide)
  rw [K51.f__law_roll, ok_fnM]
  simp only [K51.m__law_roll]
  simp [e, atI, ixN, lstAt_set, l]
  refine ⟨by omega, by have : Nat.log2 50021 = 15 := by decide
                       omega, ?_⟩
  by_cases hg : 0 < g
  · simp [hg, e, atI, ixN, lstAt_set, l, h1, h2]
    refine ⟨Int.emod_nonneg _ (by omega), Int.emod_lt_of_pos _ h1, ⟨_, _, _, lstAt_set (by simpa using l), Int.ediv_nonneg g0 (by omega), m0, m1, by omega, by omega⟩⟩
  · simp [hg, e, atI, ixN, lstAt_set, l, h1, h2]
    refine ⟨Int.emod_nonneg _ (by omega), Int.emod_lt_of_pos _ h1, ⟨_, _, _, lstAt_set (by simpa using l), g0, m0, m1, by omega, by omega⟩⟩

section
variable {h : Ah} {Q : Dt → Ah → Prop} {L : List Dt → Ah → Prop} {env : En} {ma : En → Mm Dt} {xs : List Dt}
@[simp] theorem ok_itL : Ok (itL ma env) h L ↔ Ok (ma env) h fun d h1 => Ok (itemsL d) h1 L := by simp [itL]
@[simp] theorem ok_itemsLv : Ok (itemsL (.lv xs)) h L ↔ L xs h := Iff.rfl
@[simp] theorem ok_itemsWl : Ok (itemsL (.wl xs)) h L ↔ L xs h := Iff.rfl
@[simp] theorem ok_opN {P : Option Int → Ah → Prop} : Ok (opN env) h P ↔ P none h := Iff.rfl
@[simp] theorem ok_opS {P : Option Int → Ah → Prop} : Ok (opS ma env) h P ↔ Ok (ma env) h fun d h1 => Ok (isI d) h1 P := by simp [opS]
@[simp] theorem ok_isI {i : Int} {P : Option Int → Ah → Prop} : Ok (isI (.int i)) h P ↔ P (some i) h := Iff.rfl
@[simp] theorem ok_slc {g : Dt → Option Int → Option Int → Mm Dt} {ml mh : En → Mm (Option Int)} : Ok (slc g ma ml mh env) h Q ↔ Ok (ma env) h fun x h1 => Ok (ml env) h1 fun lo h2 => Ok (mh env) h2 fun hi h3 => Ok (g x lo hi) h3 Q := by simp [slc]
@[simp] theorem ok_slWl {lo hi : Option Int} : Ok (slD (.wl xs) lo hi) h Q ↔ Q (.lv (cutD xs lo hi)) h := Iff.rfl
@[simp] theorem ok_slLv {lo hi : Option Int} : Ok (slD (.lv xs) lo hi) h Q ↔ Q (.lv (cutD xs lo hi)) h := Iff.rfl
@[simp] theorem ok_slTup {lo hi : Option Int} : Ok (slD (.tup xs) lo hi) h Q ↔ Q (.tup (cutD xs lo hi)) h := Iff.rfl
@[simp] theorem ok_lenWl : Ok (bLen [.wl xs]) h Q ↔ Q (.int xs.length) h := Iff.rfl
@[simp] theorem ok_lenLv : Ok (bLen [.lv xs]) h Q ↔ Q (.int xs.length) h := Iff.rfl
@[simp] theorem ok_lenTup : Ok (bLen [.tup xs]) h Q ↔ Q (.int xs.length) h := Iff.rfl
@[simp] theorem ok_ixWl {i : Int} : Ok (ixM (.wl xs) (.int i)) h Q ↔ ∃ d, atI xs i = some d ∧ Q d h := by
  unfold Ok ixM
  cases a : atI xs i <;> simp [seqR, tupR, lstR, lstT, a]
@[simp] theorem ok_ixLv {i : Int} : Ok (ixM (.lv xs) (.int i)) h Q ↔ ∃ d, atI xs i = some d ∧ Q d h := by
  unfold Ok ixM
  cases a : atI xs i <;> simp [seqR, tupR, lstR, lstT, a]
@[simp] theorem ok_ixTup {i : Int} : Ok (ixM (.tup xs) (.int i)) h Q ↔ ∃ d, atI xs i = some d ∧ Q d h := by
  unfold Ok ixM
  cases a : atI xs i <;> simp [seqR, tupR, a]
@[simp] theorem ok_ixWt {i : Int} : Ok (ixM (.wt xs) (.int i)) h Q ↔ ∃ d, atI xs i = some d ∧ Q d h := by
  unfold Ok ixM
  cases a : atI xs i <;> simp [seqR, tupR, a]
end
theorem atI_nat {α : Type} {xs : List α} {i : Nat} (h : i < xs.length) : atI xs (i : Int) = some xs[i] := by
  unfold atI ixN
  rw [if_pos (by omega), if_pos (by omega)]
  simp [h]
theorem atI_last {α : Type} {xs : List α} (h : xs ≠ []) : atI xs (-1) = some (xs.getLast h) := by
  have l : 0 < xs.length := List.length_pos_iff.mpr h
  unfold atI ixN
  rw [if_neg (by omega), if_pos (by omega)]
  simp only [Option.bind_some]
  rw [show (-1 + (xs.length : Int)).toNat = xs.length - 1 by omega, List.getLast_eq_getElem]
  simp [l]
theorem cutD_mem {xs : List Dt} {lo hi : Option Int} {d : Dt} (m : d ∈ cutD xs lo hi) : d ∈ xs := List.mem_of_mem_drop (List.mem_of_mem_take m)
theorem reel_ok {h : Ah} {ns : List Int} {t : Int} (h0 : 0 ≤ t) (h1 : t < 1000) :
    Ok (K51.f__law_reel [.wl (ns.map Dt.int), .int t]) h fun d h' => d = .obj h.length ∧ Reel h' h.length 0 := by
  rw [K51.f__law_reel, ok_fnM]
  simp only [K51.m__law_reel]
  have q1 : t.natAbs.log2 < 32 := log2_lt (by omega) (by omega)
  have l40 : Nat.log2 40 = 5 := by decide
  simp [l40]
  refine ⟨by omega, ?_⟩
  refine forL_ind (fun ds env h' => h' = h ∧ (∀ d ∈ ds, ∃ i : Int, d = .int i) ∧ ∃ (s : Int) (x : Option Dt), 0 ≤ s ∧ s < 2147483249 ∧ env = [some (.wl (ns.map Dt.int)), some (.int t), some (.int s), x, none]) ?_ ?_ _ _ _ ⟨rfl, fun d m => ?_, _, none, ?_, ?_, rfl⟩
  · rintro x xs env h' ⟨rfl, hm, s, y, s0, s1, rfl⟩
    obtain ⟨i, rfl⟩ := hm x (by simp)
    have q2 : s.natAbs.log2 < 32 := log2_lt (by omega) (by omega)
    have l2 : Nat.log2 22543 = 14 := by decide
    have m0 := Int.emod_nonneg (s * 22543 + i % 999999937 + 5) (show (2147483249 : Int) ≠ 0 by decide)
    have m1 := Int.emod_lt_of_pos (s * 22543 + i % 999999937 + 5) (show (0 : Int) < 2147483249 by decide)
    refine ⟨_, bd_nm, ?_⟩
    simp [l2]
    exact ⟨by omega, fun d m => hm d (by simp [m]), m0, m1⟩
  · rintro env h' ⟨rfl, -, s, y, s0, s1, rfl⟩
    simp
    have len4 : ∀ (g : Int), 0 ≤ g → Reel (h' ++ [.lst [.int g, .int s, .int 0]]) h'.length 0 := fun g g0 => ⟨g, s, 0, lstAt_new, g0, s0, s1, by omega, by simp⟩
    have sz : (3 : Nat) ≤ sizeLine := by rw [sizeLine_eq]; decide
    by_cases c : t < ns.length
    · have a : atI (ns.map Dt.int) t = some (.int (ns[t.toNat]'(by omega))) := by
        have := atI_nat (xs := ns.map Dt.int) (i := t.toNat) (by simp; omega)
        rw [show ((t.toNat : Nat) : Int) = t by omega] at this
        simpa using this
      simp [c, a]
      by_cases n : ns[t.toNat]'(by omega) < 0
      · simp [n, sz]
        split
        · exact len4 _ (by omega)
        · exact len4 0 (by omega)
      · simp [n, sz]
        split
        · exact len4 _ (by omega)
        · exact len4 0 (by omega)
    · simp [c, sz]
      exact len4 0 (by omega)
  · have := cutD_mem m
    obtain ⟨i, -, rfl⟩ := List.mem_map.mp this
    exact ⟨i, rfl⟩
  · omega
  · omega
end Mo
set_option Elab.async false
set_option linter.all false
set_option maxRecDepth 100000
set_option maxHeartbeats 4000000
/-! Pu3: texts as lists of signs. -/
namespace Mo
open PySem L2
def Tx (l : List Nat) : Str := ⟨l.toArray⟩
theorem tx_cps (l : List Nat) : (Tx l).cps.toList = l := rfl
@[simp] theorem tx_len (l : List Nat) : (Tx l).length = l.length := by simp [Tx, Str.length]
@[simp] theorem tx_inj {a b : List Nat} : Tx a = Tx b ↔ a = b := by
  refine ⟨fun e => ?_, fun e => by rw [e]⟩
  have := congrArg (fun z : Str => z.cps.toList) e
  simpa [Tx] using this
theorem tx_of (x : Str) : x = Tx x.cps.toList := by
  obtain ⟨a⟩ := x
  simp [Tx]
theorem tx_app (a b : List Nat) : Tx a ++ Tx b = Tx (a ++ b) := by
  show (⟨(Tx a).cps ++ (Tx b).cps⟩ : Str) = _
  simp [Tx]
def cutL {α : Type} (xs : List α) (lo hi : Option Int) : List α := (xs.drop (HT.sIx xs.length 0 lo)).take (HT.sIx xs.length xs.length hi - HT.sIx xs.length 0 lo)
section
variable {h : Ah} {Q : Dt → Ah → Prop} {L : List Dt → Ah → Prop} {env : En} {ma mb : En → Mm Dt} {l a b : List Nat} {c : Nat} {i : Int}
theorem tx_signs : signs (Tx l) = l.map fun c => .str (Tx [c]) := by
  unfold signs
  rw [tx_cps]
  rfl
@[simp] theorem ok_itS : Ok (itS ma env) h L ↔ Ok (ma env) h fun d h1 => Ok (itemsS d) h1 L := by simp [itS]
@[simp] theorem ok_itemsTx : Ok (itemsS (.str (Tx l))) h L ↔ L (l.map fun c => .str (Tx [c])) h := by
  rw [← tx_signs]
  exact Iff.rfl
@[simp] theorem ok_ixS : Ok (ixM (.str (Tx l)) (.int i)) h Q ↔ ∃ c, atI l i = some c ∧ l.length ≤ sizeLine ∧ Q (.str (Tx [c])) h := by
  unfold Ok ixM
  simp only [tx_cps, tx_len]
  cases q : atI l i with
  | none => simp
  | some c =>
    by_cases z : l.length ≤ sizeLine
    · simp only [z, if_true]; exact ⟨fun o => ⟨c, rfl, trivial, o⟩, fun ⟨_, e, _, o⟩ => by cases e; exact o⟩
    · simp [z]
@[simp] theorem ok_addS : Ok (opAdd (.str (Tx a)) (.str (Tx b))) h Q ↔ a.length + b.length ≤ sizeLine ∧ Q (.str (Tx (a ++ b))) h := by
  unfold Ok opAdd
  by_cases z : a.length + b.length ≤ sizeLine <;> simp [z, tx_app]
@[simp] theorem ok_slS {lo hi : Option Int} : Ok (slD (.str (Tx l)) lo hi) h Q ↔ l.length ≤ sizeLine ∧ Q (.str (Tx (cutL l lo hi))) h := by
  unfold Ok slD
  have e : cutS (Tx l) lo hi = Tx (cutL l lo hi) := by
    unfold cutS cutL
    simp only [tx_cps, tx_len]
    rfl
  by_cases z : l.length ≤ sizeLine <;> simp [z, e]
@[simp] theorem ok_lenS : Ok (bLen [.str (Tx l)]) h Q ↔ l.length ≤ sizeLine ∧ Q (.int l.length) h := by
  unfold Ok bLen
  by_cases z : l.length ≤ sizeLine <;> simp [z]
theorem sign_tx : sign? (Tx [c]) = some c := rfl
@[simp] theorem ok_inS : Ok (opIn (.str (Tx [c])) (.str (Tx l))) h Q ↔ Q (.bl (decide (c ∈ l))) h := by
  have e : inR h (.str (Tx [c])) (.str (Tx l)) = some (decide (c ∈ l)) := by
    unfold inR
    simp only [sign_tx, tx_cps]
    exact congrArg some (decide_eq_decide.mpr Iff.rfl)
  unfold Ok opIn
  simp only [e]
@[simp] theorem ok_notinS : Ok (opNotIn (.str (Tx [c])) (.str (Tx l))) h Q ↔ Q (.bl (!decide (c ∈ l))) h := by
  have e : inR h (.str (Tx [c])) (.str (Tx l)) = some (decide (c ∈ l)) := by
    unfold inR
    simp only [sign_tx, tx_cps]
    exact congrArg some (decide_eq_decide.mpr Iff.rfl)
  unfold Ok opNotIn
  simp only [e]
theorem ok_mulS {n : Int} : Ok (opMul (.str (Tx a)) (.int n)) h Q ↔ (-(2 ^ 63) ≤ n ∧ n < 2 ^ 63 ∧ a.length * n.toNat ≤ sizeLine) ∧ Q (.str (Tx (List.replicate n.toNat a).flatten)) h := by
  unfold Ok opMul
  simp only [tx_len]
  by_cases z : -(2 ^ 63) ≤ n ∧ n < 2 ^ 63 ∧ a.length * n.toNat ≤ sizeLine
  · rw [if_pos z]
    exact ⟨fun o => ⟨z, o⟩, fun o => o.2⟩
  · rw [if_neg z]
    exact ⟨fun o => o.elim, fun o => z o.1⟩
@[simp] theorem ok_revS : Ok (revS (.str (Tx l))) h Q ↔ l.length ≤ sizeLine ∧ Q (.str (Tx l.reverse)) h := by
  have e : (Tx l).cps.size = l.length := by simp [Tx]
  show Ok (if (Tx l).cps.size ≤ sizeLine then Mm.pure (Dt.str ⟨(Tx l).cps.toList.reverse.toArray⟩) else Mm.no) h Q ↔ _
  rw [ok_ifno, e]
  exact Iff.rfl
@[simp] theorem ok_bm {tk : Ah → Dt → Bool} {g : Dt → List Dt → Mm Dt} {mr : En → Mm (List Dt)} : Ok (bm tk g ma mr env) h Q ↔ Ok (ma env) h fun o h1 => tk h1 o = true ∧ Ok (mr env) h1 fun ds h2 => Ok (g o ds) h2 Q := by
  have key : ∀ (d : Dt) (h1 : Ah), Ok (Mm.bind (fun h => if tk h d then .ok () h else .no) fun _ => mr env >>= fun ds => g d ds) h1 Q ↔ tk h1 d = true ∧ Ok (mr env) h1 fun ds h2 => Ok (g d ds) h2 Q := by
    intro d h1
    by_cases c : tk h1 d = true
    · have e : Mm.bind (fun h => if tk h d then .ok () h else .no) (fun _ => mr env >>= fun ds => g d ds) h1 = (mr env >>= fun ds => g d ds) h1 := by simp only [Mm.bind, c, if_true]
      rw [← ok_bind]
      unfold Ok
      rw [e]
      simp [c]
    · have e : Mm.bind (fun h => if tk h d then .ok () h else .no) (fun _ => mr env >>= fun ds => g d ds) h1 = .no := by simp [Mm.bind, c]
      unfold Ok
      rw [e]
      simp [c]
  show Ok (Mm.bind (ma env) fun o => Mm.bind (fun h => if tk h o then .ok () h else .no) fun _ => mr env >>= fun ds => g o ds) h Q ↔ _
  refine Iff.trans (ok_bind (m := ma env)) ?_
  exact ⟨fun o => o.mono fun d h1 q => (key d h1).mp q, fun o => o.mono fun d h1 q => (key d h1).mpr q⟩
@[simp] theorem isSt_str {x : Str} : isSt h (.str x) = true := rfl
end
/-! ### the four letters -/
theorem lit_enws : (Str.ofString "enws") = Tx [101, 110, 119, 115] := by decide +kernel
theorem lit_nwse : (Str.ofString "nwse") = Tx [110, 119, 115, 101] := by decide +kernel
theorem lit_wsen : (Str.ofString "wsen") = Tx [119, 115, 101, 110] := by decide +kernel
theorem lit_ewns : (Str.ofString "ewns") = Tx [101, 119, 110, 115] := by decide +kernel
theorem lit_ewsn : (Str.ofString "ewsn") = Tx [101, 119, 115, 110] := by decide +kernel
theorem lit_ew : (Str.ofString "ew") = Tx [101, 119] := by decide +kernel
theorem lit_e : (Str.ofString "e") = Tx [101] := by decide +kernel
theorem lit_n : (Str.ofString "n") = Tx [110] := by decide +kernel
theorem lit_w : (Str.ofString "w") = Tx [119] := by decide +kernel
theorem lit_s : (Str.ofString "s") = Tx [115] := by decide +kernel
theorem lit_ : (Str.ofString "") = Tx [] := by decide +kernel
theorem lit_sp : (Str.ofString " ") = Tx [32] := by decide +kernel
theorem lit_1 : (Str.ofString "1") = Tx [49] := by decide +kernel
theorem lit_0 : (Str.ofString "0") = Tx [48] := by decide +kernel
theorem lit_dg : (Str.ofString "0123456789") = Tx [48, 49, 50, 51, 52, 53, 54, 55, 56, 57] := by decide +kernel
def Ltr (c : Nat) : Prop := c = 101 ∨ c = 110 ∨ c = 119 ∨ c = 115
def idx (c : Nat) : Nat := if c = 101 then 0 else if c = 110 then 1 else if c = 119 then 2 else 3
section
variable {h : Ah} {Q : Dt → Ah → Prop} {c : Nat}
theorem ok_index (hc : Ltr c) : Ok (mSIndex (.str (Tx [101, 110, 119, 115])) [.str (Tx [c])]) h Q ↔ Q (.int (idx c)) h := by
  rcases hc with rfl | rfl | rfl | rfl
  · have e : Builtin.Str.occurrences (Tx [101, 110, 119, 115]) (Tx [101]) 0 (Tx [101, 110, 119, 115]).length 1 = [0] := by decide +kernel
    unfold Ok mSIndex; simp only [e]; rfl
  · have e : Builtin.Str.occurrences (Tx [101, 110, 119, 115]) (Tx [110]) 0 (Tx [101, 110, 119, 115]).length 1 = [1] := by decide +kernel
    unfold Ok mSIndex; simp only [e]; rfl
  · have e : Builtin.Str.occurrences (Tx [101, 110, 119, 115]) (Tx [119]) 0 (Tx [101, 110, 119, 115]).length 1 = [2] := by decide +kernel
    unfold Ok mSIndex; simp only [e]; rfl
  · have e : Builtin.Str.occurrences (Tx [101, 110, 119, 115]) (Tx [115]) 0 (Tx [101, 110, 119, 115]).length 1 = [3] := by decide +kernel
    unfold Ok mSIndex; simp only [e]; rfl
def idm (c : Nat) : Nat := if c = 101 then 0 else if c = 119 then 1 else if c = 110 then 2 else 3
theorem ok_indexM (hc : Ltr c) : Ok (mSIndex (.str (Tx [101, 119, 110, 115])) [.str (Tx [c])]) h Q ↔ Q (.int (idm c)) h := by
  rcases hc with rfl | rfl | rfl | rfl
  · have e : Builtin.Str.occurrences (Tx [101, 119, 110, 115]) (Tx [101]) 0 (Tx [101, 119, 110, 115]).length 1 = [0] := by decide +kernel
    unfold Ok mSIndex; simp only [e]; rfl
  · have e : Builtin.Str.occurrences (Tx [101, 119, 110, 115]) (Tx [110]) 0 (Tx [101, 119, 110, 115]).length 1 = [2] := by decide +kernel
    unfold Ok mSIndex; simp only [e]; rfl
  · have e : Builtin.Str.occurrences (Tx [101, 119, 110, 115]) (Tx [119]) 0 (Tx [101, 119, 110, 115]).length 1 = [1] := by decide +kernel
    unfold Ok mSIndex; simp only [e]; rfl
  · have e : Builtin.Str.occurrences (Tx [101, 119, 110, 115]) (Tx [115]) 0 (Tx [101, 119, 110, 115]).length 1 = [3] := by decide +kernel
    unfold Ok mSIndex; simp only [e]; rfl
end
/-! ### comprehensions whose parts ask nothing of the heap -/
/-- whatever the heap, a; the heap grows at its end -/
def Gv {α : Type} (m : Mm α) (a : α) : Prop := ∀ h, ∃ j, m h = .ok a (h ++ j)
theorem Gv.ok {α : Type} {m : Mm α} {a : α} (g : Gv m a) {h : Ah} {Q : α → Ah → Prop} (q : ∀ j, Q a (h ++ j)) : Ok m h Q := by
  obtain ⟨j, e⟩ := g h
  exact ok_of e (q j)
theorem gv_of {α : Type} {m : Mm α} {a : α} (g : ∀ h, Ok m h fun b h' => b = a ∧ ∃ j, h' = h ++ j) : Gv m a := fun h => by
  obtain ⟨b, h', e, rfl, j, rfl⟩ := ok_iff.mp (g h)
  exact ⟨j, e⟩
theorem lcL_ok {γ : Type} {p : Pat} {mt : En → Mm Bool} {me : En → Mm Dt} {env : En} {t : γ → Bool} {g : γ → Dt} {e : γ → Dt} {h : Ah} : ∀ (ds : List γ) (acc : List Dt) (k : Ah), acc.length + ds.length ≤ sizeLine →
    (∀ d ∈ ds, ∃ e1, p.bd (e d) env = some e1 ∧ Gv (mt e1) (t d) ∧ (t d = true → Gv (me e1) (g d))) →
    ∃ k', lcL p mt me h.length (ds.map e) env (h ++ .lst acc :: k) = .ok () (h ++ .lst (acc ++ (ds.filter t).map g) :: k')
  | [], acc, k, _, _ => ⟨k, by simp [lcL, Mm.pure]⟩
  | d :: ds, acc, k, hl, hd => by
    obtain ⟨e1, hb, ht, he⟩ := hd d (by simp)
    obtain ⟨j1, q1⟩ := ht (h ++ .lst acc :: k)
    have hd' : ∀ d ∈ ds, ∃ e1, p.bd (e d) env = some e1 ∧ Gv (mt e1) (t d) ∧ (t d = true → Gv (me e1) (g d)) := fun d m => hd d (by simp [m])
    have hl' : acc.length + 1 + ds.length ≤ sizeLine := by simp at hl; omega
    cases c : t d with
    | true =>
      rw [c] at q1
      obtain ⟨j2, q2⟩ := he c (h ++ .lst acc :: k ++ j1)
      obtain ⟨k', q3⟩ := lcL_ok (p := p) (mt := mt) (me := me) (env := env) (t := t) (g := g) (e := e) (h := h) ds (acc ++ [g d]) (k ++ j1 ++ j2) (by simp; omega) hd'
      refine ⟨k', ?_⟩
      show Mm.bind (gP p (e d) env) _ _ = _
      simp only [gP, hb, Mm.bind, Mm.pure]
      show Mm.bind (mt e1) _ _ = _
      simp only [Mm.bind, q1]
      show Mm.bind (me e1) _ _ = _
      simp only [Mm.bind, q2]
      have pq : push h.length (g d) (h ++ .lst acc :: k ++ j1 ++ j2) = .ok () (h ++ .lst (acc ++ [g d]) :: (k ++ j1 ++ j2)) := by
        unfold push
        have z : acc.length < sizeLine := by omega
        simp [z]
      show Mm.bind (push h.length (g d)) _ _ = _
      simp only [Mm.bind, pq]
      rw [q3]
      simp [c]
    | false =>
      rw [c] at q1
      obtain ⟨k', q3⟩ := lcL_ok (p := p) (mt := mt) (me := me) (env := env) (t := t) (g := g) (e := e) (h := h) ds acc (k ++ j1) (by simp at hl; omega) hd'
      refine ⟨k', ?_⟩
      show Mm.bind (gP p (e d) env) _ _ = _
      simp only [gP, hb, Mm.bind, Mm.pure]
      show Mm.bind (mt e1) _ _ = _
      simp only [Mm.bind, q1]
      rw [show h ++ .lst acc :: k ++ j1 = h ++ .lst acc :: (k ++ j1) by simp]
      rw [q3]
      simp [c]
theorem ok_lcM {γ : Type} {mi : En → Mm (List Dt)} {p : Pat} {mt : En → Mm Bool} {me : En → Mm Dt} {vs : List Nat} {env : En} {h : Ah} {Q : Dt → Ah → Prop} (l : List γ) (e : γ → Dt) (t : γ → Bool) (g : γ → Dt)
    (hi : Ok (mi env) h fun ds h1 => ds = l.map e ∧ l.length ≤ sizeLine ∧ (∀ d ∈ l, ∃ e1, p.bd (e d) (wipeE env vs) = some e1 ∧ Gv (mt e1) (t d) ∧ (t d = true → Gv (me e1) (g d))) ∧ ∀ j, Q (.lv ((l.filter t).map g)) (h1 ++ j)) :
    Ok (lcM mi p mt me vs env) h Q := by
  simp only [lcM, ok_bind]
  refine hi.mono fun ds h1 ⟨e1, hl, hd, q⟩ => ?_
  subst e1
  refine ok_of (a := h1.length) (h' := h1 ++ [.lst []]) rfl ?_
  obtain ⟨k', e⟩ := lcL_ok (h := h1) l [] [] (by simpa using hl) hd
  refine ok_of e ?_
  refine ok_of (a := .lv ((l.filter t).map g)) (h' := h1 ++ .dead :: k') ?_ (q _)
  unfold takeL
  simp
/-- the plain case: no test -/
theorem ok_lcA {γ : Type} {mi : En → Mm (List Dt)} {i : Nat} {me : En → Mm Dt} {vs : List Nat} {env : En} {h : Ah} {Q : Dt → Ah → Prop} (l : List γ) (e : γ → Dt) (g : γ → Dt)
    (hi : Ok (mi env) h fun ds h1 => ds = l.map e ∧ l.length ≤ sizeLine ∧ (∀ d ∈ l, Gv (me ((wipeE env vs).set i (some (e d)))) (g d)) ∧ ∀ j, Q (.lv (l.map g)) (h1 ++ j)) :
    Ok (lcM mi (.nm i) yes me vs env) h Q :=
  ok_lcM l e (fun _ => true) g (hi.mono fun ds h1 ⟨h2, h3, h4, h5⟩ => ⟨h2, h3, fun d m => ⟨_, bd_nm, fun h => ⟨[], by simp [yes, Mm.pure]⟩, fun _ => h4 d m⟩, fun j => by
    rw [List.filter_eq_self.mpr (by simp)]
    exact h5 j⟩)
theorem gv_pure {α : Type} {a : α} : Gv (Mm.pure a) a := fun h => ⟨[], by simp [Mm.pure]⟩
theorem gv_yes {env : En} : Gv (yes env) true := gv_pure
end Mo
set_option Elab.async false
set_option linter.all false
set_option maxRecDepth 100000
set_option maxHeartbeats 4000000
/-! Pu4: what the law's helpers make of texts. -/
namespace Mo
open PySem L2 TL
theorem tl_tx (l : List Nat) : tl (Tx l) = l := rfl
theorem join_tx (a : List Nat) (ls : List (List Nat)) : Txt.join (Tx a) (ls.map Tx) = Tx (joinL a ls) := by
  rw [join_eq]
  have e := tl_join (Tx a) (ls.map Tx)
  rw [tl_tx, List.map_map] at e
  rw [show (tl ∘ Tx) = id by funext l; rfl, List.map_id] at e
  rw [tx_of (Str.join (Tx a) (ls.map Tx))]
  exact congrArg Tx e
theorem join_nil : ∀ (ls : List (List Nat)), joinL [] ls = ls.flatten
  | [] => rfl
  | [p] => by simp [joinL]
  | p :: q :: r => by
    show p ++ ([] ++ joinL [] (q :: r)) = _
    rw [join_nil (q :: r)]
    simp
theorem strsD_tx {γ : Type} (f : γ → List Nat) : ∀ (l : List γ), strsD (l.map fun x => .str (Tx (f x))) = some (l.map fun x => Tx (f x))
  | [] => rfl
  | x :: l => by
    show (match strsD (l.map fun x => .str (Tx (f x))) with | some bs => some (Tx (f x) :: bs) | none => none) = _
    rw [strsD_tx f l]
    rfl
section
variable {h : Ah} {Q : Dt → Ah → Prop}
theorem ok_join {γ : Type} {a : List Nat} (f : γ → List Nat) {l : List γ} (hs : ((l.map fun x => (f x).length).sum + l.length * a.length ≤ 16777216)) : Ok (mJoin (.str (Tx a)) [.lv (l.map fun x => .str (Tx (f x)))]) h Q ↔ Q (.str (Tx (joinL a (l.map f)))) h := by
  have e : (seqR h (.lv (l.map fun x => .str (Tx (f x))))).bind strsD = some (l.map fun x => Tx (f x)) := by
    show strsD _ = _
    exact strsD_tx f l
  unfold Ok mJoin
  simp only [e]
  have e2 : ((l.map fun x => Tx (f x)).map (·.length)).sum + (l.map fun x => Tx (f x)).length * (Tx a).length ≤ 16777216 := by
    rw [List.map_map, List.length_map, tx_len]
    simpa [Function.comp_def] using hs
  rw [if_pos e2]
  have e3 : Txt.join (Tx a) (l.map fun x => Tx (f x)) = Tx (joinL a (l.map f)) := by
    rw [← join_tx, List.map_map]; rfl
  simp only [e3]
theorem sum_one {γ : Type} (l : List γ) : (l.map fun _ => 1).sum = l.length := by
  induction l with
  | nil => rfl
  | cons x l ih => simp [ih]; omega
/-- signs joined again -/
theorem ok_join1 {γ : Type} (f : γ → Nat) {l : List γ} (hs : l.length ≤ 16777216) : Ok (mJoin (.str (Tx [])) [.lv (l.map fun x => .str (Tx [f x]))]) h Q ↔ Q (.str (Tx (l.map f))) h := by
  rw [ok_join (fun x => [f x]) (by simp [sum_one]; exact hs), join_nil]
  rw [show (l.map fun x => [f x]).flatten = l.map f by induction l with | nil => rfl | cons x l ih => simp at *; exact ih (by omega)]
end
/-! ### the three letter maps -/
def turnC (c : Nat) : Nat := if c = 101 then 110 else if c = 110 then 119 else if c = 119 then 115 else 101
def oppC (c : Nat) : Nat := if c = 101 then 119 else if c = 110 then 115 else if c = 119 then 101 else 110
def mirC (c : Nat) : Nat := if c = 101 then 101 else if c = 119 then 119 else if c = 110 then 115 else 110
def Ltrs (l : List Nat) : Prop := ∀ c ∈ l, Ltr c
theorem ltr_turn {c : Nat} (h : Ltr c) : Ltr (turnC c) := by rcases h with rfl | rfl | rfl | rfl <;> simp [turnC, Ltr]
theorem ltr_opp {c : Nat} (h : Ltr c) : Ltr (oppC c) := by rcases h with rfl | rfl | rfl | rfl <;> simp [oppC, Ltr]
theorem ltr_mir {c : Nat} (h : Ltr c) : Ltr (mirC c) := by rcases h with rfl | rfl | rfl | rfl <;> simp [mirC, Ltr]
theorem at_turn {c : Nat} (h : Ltr c) : atI [110, 119, 115, 101] ((idx c : Nat) : Int) = some (turnC c) := by rcases h with rfl | rfl | rfl | rfl <;> rfl
theorem at_opp {c : Nat} (h : Ltr c) : atI [119, 115, 101, 110] ((idx c : Nat) : Int) = some (oppC c) := by rcases h with rfl | rfl | rfl | rfl <;> rfl
theorem at_mir {c : Nat} (h : Ltr c) : atI [101, 119, 115, 110] ((idm c : Nat) : Int) = some (mirC c) := by rcases h with rfl | rfl | rfl | rfl <;> rfl
theorem szl {n : Nat} (h : n ≤ 1000) : n ≤ sizeLine := by rw [sizeLine_eq]; omega
theorem turned_ok {l : List Nat} (hl : Ltrs l) (hn : l.length ≤ 1000) : Gv (K51.f__law_turned [.str (Tx l)]) (.str (Tx (l.map turnC))) := gv_of fun h => by
  rw [K51.f__law_turned, ok_fnM]
  simp only [K51.m__law_turned]
  simp [lit_, lit_nwse, lit_enws]
  refine ok_lcA l (fun c => .str (Tx [c])) (fun c => .str (Tx [turnC c])) ?_
  simp [szl hn]
  refine ⟨fun c m => gv_of fun h => ?_, fun j => ?_⟩
  · simp [wipeE, ok_index (hl c m), at_turn (hl c m), szl]
  · rw [ok_join1 turnC (by omega)]
    simp
end Mo
set_option Elab.async false
set_option linter.all false
set_option maxRecDepth 100000
set_option maxHeartbeats 4000000
/-! Pu5: sides, rims, base lines. -/
namespace Mo
open PySem L2 TL
section
variable {α : Type} {xs : List α}
@[simp] theorem cut_all : cutL xs none none = xs := by simp [cutL, HT.sIx]
theorem cut_from {k : Nat} : cutL xs (some (k : Int)) none = xs.drop k := by
  unfold cutL
  rw [HT.sIx_nat, HT.sIx_none]
  by_cases h : k ≤ xs.length
  · rw [Nat.min_eq_left h, List.take_of_length_le (by simp)]
  · rw [Nat.min_eq_right (by omega), Nat.sub_self, List.take_zero, List.drop_eq_nil_of_le (by omega)]
theorem cut_to {k : Nat} : cutL xs none (some (k : Int)) = xs.take k := by
  unfold cutL
  rw [HT.sIx_nat, HT.sIx_none]
  simp
end
section
variable {h : Ah} {Q : Dt → Ah → Prop} {L : List Dt → Ah → Prop} {env : En} {mr : En → Mm (List Dt)} {a b : List Nat} {i j : Nat} {d e : Dt}
@[simp] theorem ok_itZS : Ok (itZS mr env) h L ↔ Ok (mr env) h fun ds h1 => ∃ x y, ds = [.str x, .str y] ∧ L (zipD (signs x) (signs y)) h1 := by
  simp only [itZS, ok_bind]
  refine ⟨fun o => o.mono fun ds h1 q => ?_, fun o => o.mono fun ds h1 q => ?_⟩
  · split at q
    · exact ⟨_, _, rfl, q⟩
    · exact q.elim
  · obtain ⟨x, y, rfl, q⟩ := q; exact q
theorem zip_tx : zipD (signs (Tx a)) (signs (Tx b)) = (a.zip b).map fun p => .tup [.str (Tx [p.1]), .str (Tx [p.2])] := by
  rw [tx_signs, tx_signs]
  unfold zipD
  rw [List.zip, List.zipWith_map, List.map_zipWith]
@[simp] theorem bd_two : (Pat.tp [.nm i, .nm j]).bd (.tup [d, e]) env = some ((env.set i (some d)).set j (some e)) := by simp [Pat.bd, Pat.bds]
end
def bendI (a b : Nat) : Int := ((idx b : Int) - idx a) % 4
def sideS (acc : List Nat) (p : Nat × Nat) : List Nat := acc ++ (if bendI p.1 p.2 = 0 then [p.2] else if bendI p.1 p.2 = 3 then [] else [p.1, p.2])
def sideP (row : List Nat) : List Nat := (row.zip row.tail).foldl sideS [row.headD 0] ++ [row.getLastD 0]
theorem side_len : ∀ (l : List (Nat × Nat)) (acc : List Nat), (l.foldl sideS acc).length ≤ acc.length + 2 * l.length
  | [], acc => by simp
  | p :: l, acc => by
    have := side_len l (sideS acc p)
    have q : (sideS acc p).length ≤ acc.length + 2 := by
      unfold sideS
      rw [List.length_append]
      split
      · simp
      · split <;> simp
    simp only [List.foldl_cons, List.length_cons]
    omega
theorem at0 {α : Type} {a : α} {l : List α} : atI (a :: l) 0 = some a := by simp [atI, ixN]
theorem side_ok {row : List Nat} (hl : Ltrs row) (h0 : row ≠ []) (hn : row.length ≤ 100) : Gv (K51.f__law_side [.str (Tx row)]) (.str (Tx (sideP row))) := gv_of fun h => by
  rw [K51.f__law_side, ok_fnM]
  simp only [K51.m__law_side]
  obtain ⟨c0, r, rfl⟩ := List.exists_cons_of_ne_nil h0
  simp [lit_, lit_enws, at0, szl (show (c0 :: r).length ≤ 1000 by omega)]
  have cf : cutL (c0 :: r) (some 1) none = r := by
    have := cut_from (xs := c0 :: r) (k := 1)
    simpa using this
  have sz1 : r.length + 1 ≤ sizeLine := szl (by simp at hn; omega)
  rw [cf]
  simp only [List.length_cons] at hn
  refine ⟨sz1, Tx (c0 :: r), Tx r, ⟨rfl, rfl⟩, ?_⟩
  rw [zip_tx]
  refine forL_ind (fun ds env h' => h' = h ∧ ∃ (l : List (Nat × Nat)) (acc : List Nat) (x y z : Option Dt), ds = l.map (fun p => .tup [.str (Tx [p.1]), .str (Tx [p.2])]) ∧ (∀ p ∈ l, Ltr p.1 ∧ Ltr p.2) ∧ acc.length + 2 * l.length ≤ 900 ∧ l.foldl sideS acc = ((c0 :: r).zip r).foldl sideS [c0] ∧
    env = [some (.str (Tx (c0 :: r))), some (.str (Tx acc)), x, y, z]) ?_ ?_ _ _ _ ⟨rfl, _, [c0], none, none, none, rfl, ?_, ?_, rfl, rfl⟩
  · rintro x xs env h' ⟨rfl, l, acc, x1, y1, z1, e, hm, hs, hf, rfl⟩
    cases l with
    | nil => simp at e
    | cons p l =>
      obtain ⟨rfl, rfl⟩ := List.cons.inj e
      obtain ⟨p1, p2⟩ := hm p (by simp)
      simp only [List.length_cons] at hs
      refine ⟨_, bd_two, ?_⟩
      have s2 : (2 : Nat) ≤ sizeLine := szl (by omega)
      have fin : ∀ w, w = (if bendI p.1 p.2 = 0 then [p.2] else if bendI p.1 p.2 = 3 then [] else [p.1, p.2]) → acc.length + w.length ≤ sizeLine ∧ ∃ (l' : List (Nat × Nat)) (acc' : List Nat) (x y z : Option Dt), l.map (fun p => Dt.tup [.str (Tx [p.1]), .str (Tx [p.2])]) = l'.map (fun p => .tup [.str (Tx [p.1]), .str (Tx [p.2])]) ∧ (∀ p ∈ l', Ltr p.1 ∧ Ltr p.2) ∧ acc'.length + 2 * l'.length ≤ 900 ∧ l'.foldl sideS acc' = ((c0 :: r).zip r).foldl sideS [c0] ∧
          [some (Dt.str (Tx (c0 :: r))), some (.str (Tx (acc ++ w))), some (.str (Tx [p.1])), some (.str (Tx [p.2])), some (.int (bendI p.1 p.2))] = [some (.str (Tx (c0 :: r))), some (.str (Tx acc')), x, y, z] := by
        rintro w rfl
        have wl : (if bendI p.1 p.2 = 0 then [p.2] else if bendI p.1 p.2 = 3 then [] else [p.1, p.2]).length ≤ 2 := by
          split
          · simp
          · split <;> simp
        refine ⟨szl (by omega), l, acc ++ _, _, _, _, rfl, fun q m => hm q (by simp [m]), by rw [List.length_append]; omega, hf, rfl⟩
      have be : ((idx p.2 : Int) - idx p.1) % 4 = bendI p.1 p.2 := rfl
      simp [ok_index p1, ok_index p2, be]
      by_cases b0 : bendI p.1 p.2 = 0
      · simp [b0, s2, szl, atI, ixN]
        have := fin [p.2] (by rw [if_pos b0])
        simpa [b0] using this
      · by_cases b3 : bendI p.1 p.2 = 3
        · simp [b3, s2, szl, atI, ixN]
          have := fin [] (by rw [if_neg b0, if_pos b3])
          simpa [b3] using this
        · simp [b0, b3, s2, szl, atI, ixN]
          have := fin [p.1, p.2] (by rw [if_neg b0, if_neg b3])
          simpa using this
  · rintro env h' ⟨rfl, l, acc, x1, y1, z1, e, hm, hs, hf, rfl⟩
    cases l with
    | cons p l => simp at e
    | nil =>
      simp only [List.foldl_nil] at hf
      subst hf
      simp [atI_last, szl, sz1]
      refine ⟨by apply szl; simp only [List.length_nil] at hs; omega, ?_⟩
      simp only [sideP, List.tail_cons, List.headD_cons]
      rw [List.getLastD_eq_getLast?, List.getLast?_eq_some_getLast (by simp : c0 :: r ≠ [])]
      simp
  · intro p m
    have := List.of_mem_zip m
    exact ⟨hl _ this.1, hl _ (List.mem_cons_of_mem _ this.2)⟩
  · simp
    omega

def rimP (row : List Nat) : List Nat := (sideP row ++ [turnC (row.getLastD 0)]) ++ sideP ((row.map oppC).reverse) ++ [turnC (((row.map oppC).reverse).getLastD 0)]
theorem sideP_len (row : List Nat) : (sideP row).length ≤ 2 * row.length + 2 := by
  unfold sideP
  have := side_len (row.zip row.tail) [row.headD 0]
  simp only [List.length_append, List.length_cons, List.length_nil] at *
  have z : (row.zip row.tail).length ≤ row.length := by simp
  omega
theorem gv_fn {h : Ah} {m : Mm Dt} {a : Dt} {Q : Dt → Ah → Prop} (g : Gv m a) (q : ∀ j, Q a (h ++ j)) : Ok m h Q := g.ok q
theorem rim_ok {row : List Nat} (hl : Ltrs row) (h0 : row ≠ []) (hn : row.length ≤ 100) : Gv (K51.f__law_rim [.str (Tx row)]) (.str (Tx (rimP row))) := gv_of fun h => by
  have hb : Ltrs ((row.map oppC).reverse) := fun c m => by
    obtain ⟨d, q, rfl⟩ := List.mem_map.mp (List.mem_reverse.mp m)
    exact ltr_opp (hl d q)
  have hb0 : (row.map oppC).reverse ≠ [] := by simpa using h0
  have sz := szl (show row.length ≤ 1000 by omega)
  have g1 := side_ok hl h0 hn
  have g2 := side_ok hb hb0 (by simpa using hn)
  have l1 := sideP_len row
  have l2 := sideP_len ((row.map oppC).reverse)
  simp only [List.length_map, List.length_reverse] at l2
  rw [K51.f__law_rim, ok_fnM]
  simp only [K51.m__law_rim]
  simp [lit_, lit_enws, lit_wsen, lit_nwse]
  refine ok_lcA row.reverse (fun c => .str (Tx [c])) (fun c => .str (Tx [oppC c])) ?_
  simp [sz]
  refine ⟨fun c m => gv_of fun h => ?_, fun j => ?_⟩
  · simp [wipeE, ok_index (hl c m), at_opp (hl c m), szl]
  · rw [show (List.map (fun c => Dt.str (Tx [oppC c])) row).reverse = row.reverse.map fun c => Dt.str (Tx [oppC c]) by simp]
    rw [ok_join1 oppC (by simpa using (by omega : row.length ≤ 16777216))]
    simp only [ok_callM]
    simp
    refine gv_fn g1 fun j1 => ?_
    rw [atI_last h0]
    simp [sz, ok_index (hl _ (List.getLast_mem h0)), at_turn (hl _ (List.getLast_mem h0)), szl]
    refine ⟨szl (by omega), ?_⟩
    refine gv_fn g2 fun j2 => ?_
    rw [atI_last hb0]
    have lm : Ltr (oppC (row.head h0)) := ltr_opp (hl _ (List.head_mem h0))
    simp [sz, ok_index lm, at_turn lm, szl]
    refine ⟨szl (by omega), szl (by omega), ?_⟩
    simp [rimP, List.getLastD_eq_getLast?, List.getLast?_eq_some_getLast h0, List.getLast?_eq_some_getLast hb0]

/-! ### the lines written out -/
def wordP (p : Nat × List Nat) : List Nat := p.1 :: p.2
def longP (ps : List (Nat × List Nat)) : List Nat := (ps.map fun p => List.replicate (NumText.digitsVal p.2) p.1).flatten
theorem rep_flat (n c : Nat) : (List.replicate n [c]).flatten = List.replicate n c := by
  induction n with
  | zero => rfl
  | succ n ih => rw [List.replicate_succ, List.flatten_cons, ih]; rfl
theorem long_ok {x : Str} (ps : List (Nat × List Nat)) (hx : x.length + 2 ≤ sizeLine) (hs : Txt.split x (Tx [32]) = ps.map fun p => Tx (wordP p)) (hd : ∀ p ∈ ps, p.2 ≠ [] ∧ p.2.length ≤ 3 ∧ NumText.AllDigits p.2 ∧ NumText.digitsVal p.2 ≤ 1000)
    (hn : ps.length ≤ 1000) : Gv (K51.f__law_long [.str x]) (.str (Tx (longP ps))) := gv_of fun h => by
  rw [K51.f__law_long, ok_fnM]
  simp only [K51.m__law_long]
  simp [lit_, lit_sp]
  refine ok_lcA ps (fun p => .str (Tx (wordP p))) (fun p => .str (Tx (List.replicate (NumText.digitsVal p.2) p.1))) ?_
  have sp : mSplit (.str x) [.str (Tx [32])] h = .ok (.lv (ps.map fun p => .str (Tx (wordP p)))) h := by
    simp [mSplit, hs, hx]
  simp
  refine ok_of sp ?_
  simp [szl (show ps.length ≤ 1000 by omega)]
  refine ⟨fun c w m => gv_of fun h => ?_, fun j => ?_⟩
  · obtain ⟨h1, h2, h3, h4⟩ := hd (c, w) m
    simp only at h1 h2 h3 h4
    have cf : cutL (wordP (c, w)) (some 1) none = w := by
      have := cut_from (xs := wordP (c, w)) (k := 1)
      simpa [wordP] using this
    have it : intText? (Tx w) = some ((NumText.digitsVal w : Nat) : Int) := intText_digits (x := Tx w) h3 h1 (by rw [tx_len]; omega)
    have bi : bInt [.str (Tx w)] h = .ok (.int (NumText.digitsVal w : Nat)) h := by
      simp [bInt, it]
      omega
    simp [wipeE, wordP, at0]
    refine ⟨szl (by omega), ?_⟩
    rw [show c :: w = wordP (c, w) from rfl, cf]
    refine ok_of bi ?_
    simp [ok_mulS]
    exact ⟨by omega, szl h4⟩
  · rw [ok_join (fun p : Nat × List Nat => List.replicate (NumText.digitsVal p.2) p.1) ?_, join_nil]
    · simp [longP]
    · simp
      have : ∀ (l : List (Nat × List Nat)), (∀ p ∈ l, NumText.digitsVal p.2 ≤ 1000) → (l.map fun p => NumText.digitsVal p.2).sum ≤ 1000 * l.length := by
        intro l
        induction l with
        | nil => simp
        | cons p l ih =>
          intro hp
          have a := hp p (by simp)
          have b := ih fun q m => hp q (by simp [m])
          simp
          omega
      have := this ps fun p m => (hd p m).2.2.2
      omega

def psA : List (Nat × List Nat) := [(101, [53]), (110, [51]), (119, [52]), (110, [49]), (101, [49]), (115, [53]), (101, [52]), (110, [55]), (119, [55]), (115, [52]), (101, [53]), (115, [49]), (119, [49]), (110, [52]), (119, [51]), (115, [53])]
def psB : List (Nat × List Nat) := [(101, [49]), (110, [51]), (119, [52]), (110, [49]), (101, [50]), (115, [53]), (101, [51]), (110, [51]), (119, [52]), (115, [52]), (101, [54]), (115, [49]), (119, [49]), (110, [52]), (119, [51]), (115, [49])]
theorem split_of {x : Str} (ps : List (Nat × List Nat)) (e : x = Tx (joinL [32] (ps.map wordP))) (h0 : ps ≠ []) (hp : ∀ p ∈ ps, 32 ∉ wordP p) : Txt.split x (Tx [32]) = ps.map fun p => Tx (wordP p) := by
  subst e
  rw [← join_tx]
  rw [List.map_map]
  exact split_join (y := Tx [32]) (s := 32) (S := []) rfl (by decide +kernel) (by simpa using h0) fun q m => by
    obtain ⟨p, hm, rfl⟩ := List.mem_map.mp m
    exact hp p hm
theorem longA : Gv (K51.f__law_long [.str (Str.ofString "e5 n3 w4 n1 e1 s5 e4 n7 w7 s4 e5 s1 w1 n4 w3 s5")]) (.str (Tx (longP psA))) :=
  long_ok psA (by decide +kernel) (split_of psA (by decide +kernel) (by decide) (by decide +kernel)) (by unfold NumText.AllDigits; decide +kernel) (by decide)
theorem longB : Gv (K51.f__law_long [.str (Str.ofString "e1 n3 w4 n1 e2 s5 e3 n3 w4 s4 e6 s1 w1 n4 w3 s1")]) (.str (Tx (longP psB))) :=
  long_ok psB (by decide +kernel) (split_of psB (by decide +kernel) (by decide) (by decide +kernel)) (by unfold NumText.AllDigits; decide +kernel) (by decide)
end Mo
set_option Elab.async false
set_option linter.all false
set_option maxRecDepth 100000
set_option maxHeartbeats 4000000
/-! Pu6: the base lines. -/
namespace Mo
open PySem L2 TL
@[simp] theorem ex_two {α β : Type} {a : α} {b : β} {P : α → β → Prop} : (∃ x y, (a = x ∧ b = y) ∧ P x y) ↔ P a b :=
  ⟨fun ⟨_, _, ⟨h1, h2⟩, h3⟩ => by subst h1 h2; exact h3, fun h => ⟨a, b, ⟨rfl, rfl⟩, h⟩⟩
@[simp] theorem ex_three {α β γ : Type} {a : α} {b : β} {c : γ} {P : α → β → γ → Prop} : (∃ x y z, (a = x ∧ b = y ∧ c = z) ∧ P x y z) ↔ P a b c :=
  ⟨fun ⟨_, _, _, ⟨h1, h2, h4⟩, h3⟩ => by subst h1 h2 h4; exact h3, fun h => ⟨a, b, c, ⟨rfl, rfl, rfl⟩, h⟩⟩
theorem ok_repS {h : Ah} {Q : Dt → Ah → Prop} {c n : Nat} (hn : n ≤ 1000) : Ok (opMul (.str (Tx [c])) (.int (n : Int))) h Q ↔ Q (.str (Tx (List.replicate n c))) h := by
  rw [ok_mulS]
  simp only [Int.toNat_natCast, rep_flat]
  exact ⟨fun o => o.2, fun o => ⟨⟨by omega, by omega, by simpa using szl hn⟩, o⟩⟩
def boxP (a b : Nat) : List Nat := List.replicate a 101 ++ List.replicate b 110 ++ List.replicate a 119 ++ List.replicate b 115
def rowP (a b c d : Nat) : List Nat := List.replicate a 101 ++ List.replicate b 110 ++ List.replicate c 119 ++ List.replicate d 115
def boxes : List (List Nat) := (List.range 4).flatMap fun a => (List.range 4).map fun b => boxP (a + 1) (b + 1)
def rims : List (List Nat) := (List.range 3).flatMap fun a => (List.range 2).flatMap fun b => (List.range (a + 1)).flatMap fun c => (List.range 2).map fun d => rimP (rowP (a + 3) (b + 2) (c + 2) (b + 3 + d))
def bases : List (List Nat) := boxes ++ (longP psA :: rims)
/-- the reel at r is rolled to k, 0 ≤ k < many -/
theorem call_roll {h : Ah} {r n : Nat} {many : Int} {Q : Dt → Ah → Prop} (R : Reel h r n) (h1 : 0 < many) (h2 : many < 1073741824) (hn : n < 2 ^ 60) (q : ∀ (k : Nat) h', (k : Int) < many → Reel h' r (n + 1) → Q (.int (k : Int)) h') :
    Ok (K51.f__law_roll [.obj r, .int many]) h Q := (roll_ok R h1 h2 hn).mono fun d h' ⟨k, e, k0, k1, R'⟩ => by
  subst e
  have := q k.toNat h' (by omega) R'
  rwa [show ((k.toNat : Nat) : Int) = k by omega] at this
theorem ltr_rep {n c : Nat} (h : Ltr c) : Ltrs (List.replicate n c) := fun d m => by rw [(List.mem_replicate.mp m).2]; exact h
theorem ltrs_app {a b : List Nat} (h : Ltrs a) (k : Ltrs b) : Ltrs (a ++ b) := fun d m => (List.mem_append.mp m).elim (h d) (k d)
theorem row_ltrs (a b c d : Nat) : Ltrs (rowP a b c d) := ltrs_app (ltrs_app (ltrs_app (ltr_rep (by simp [Ltr])) (ltr_rep (by simp [Ltr]))) (ltr_rep (by simp [Ltr]))) (ltr_rep (by simp [Ltr]))
theorem base_ok {h : Ah} {r n : Nat} (R : Reel h r n) (hn : n < 2 ^ 50) : Ok (K51.f__law_base [.obj r]) h fun d h' => ∃ W ∈ bases, d = .str (Tx W) ∧ Reel h' r (n + 5) := by
  rw [K51.f__law_base, ok_fnM]
  simp only [K51.m__law_base]
  simp [ok_callM, lit_e, lit_n, lit_w, lit_s]
  refine call_roll R (by decide) (by decide) (by omega) fun k h1 k1 R1 => ?_
  by_cases e0 : k = 0
  · subst e0
    simp
    refine call_roll R1 (by decide) (by decide) (by omega) fun a h2 a1 R2 => ?_
    simp
    refine call_roll R2 (by decide) (by decide) (by omega) fun b h3 b1 R3 => ?_
    simp
    rw [show (1 : Int) + a = ((a + 1 : Nat) : Int) by omega, show (1 : Int) + b = ((b + 1 : Nat) : Int) by omega]
    simp only [ok_repS (show a + 1 ≤ 1000 by omega), ok_repS (show b + 1 ≤ 1000 by omega), ok_addS, List.length_append, List.length_replicate]
    refine ⟨szl (by omega), szl (by omega), szl (by omega), boxP (a + 1) (b + 1), ?_, rfl, R3.mono (by omega)⟩
    unfold bases boxes
    refine List.mem_append_left _ (List.mem_flatMap.mpr ⟨a, by simp; omega, List.mem_map.mpr ⟨b, by simp; omega, rfl⟩⟩)
  · simp [e0]
    by_cases e1 : k = 1
    · subst e1
      simp
      refine gv_fn longA fun j => ⟨longP psA, ?_, rfl, (R1.app j).mono (by omega)⟩
      unfold bases
      simp
    · have e1' : ¬ ((k : Int) = 1) := by omega
      simp [e1']
      refine call_roll R1 (by decide) (by decide) (by omega) fun a h2 a1 R2 => ?_
      simp
      refine call_roll R2 (by decide) (by decide) (by omega) fun b h3 b1 R3 => ?_
      simp
      refine call_roll R3 (by omega) (by omega) (by omega) fun c h4 c1 R4 => ?_
      simp
      refine call_roll R4 (by decide) (by decide) (by omega) fun d h5 d1 R5 => ?_
      simp
      rw [show (3 : Int) + a = ((a + 3 : Nat) : Int) by omega, show (2 : Int) + b = ((b + 2 : Nat) : Int) by omega, show (2 : Int) + c = ((c + 2 : Nat) : Int) by omega, show ((b + 2 : Nat) : Int) + 1 + d = ((b + 3 + d : Nat) : Int) by omega]
      simp only [ok_repS (show a + 3 ≤ 1000 by omega), ok_repS (show b + 2 ≤ 1000 by omega), ok_repS (show c + 2 ≤ 1000 by omega), ok_repS (show b + 3 + d ≤ 1000 by omega), ok_addS, List.length_append, List.length_replicate]
      refine ⟨szl (by omega), szl (by omega), szl (by omega), ?_⟩
      refine gv_fn (rim_ok (row := rowP (a + 3) (b + 2) (c + 2) (b + 3 + d)) (row_ltrs _ _ _ _) (by simp [rowP]) (by simp [rowP]; omega)) fun j => ⟨_, ?_, rfl, (R5.app j).mono (by omega)⟩
      unfold bases rims
      refine List.mem_append_right _ (List.mem_cons_of_mem _ (List.mem_flatMap.mpr ⟨a, by simp; omega, List.mem_flatMap.mpr ⟨b, by simp; omega, List.mem_flatMap.mpr ⟨c, by simp; omega, List.mem_map.mpr ⟨d, by simp; omega, rfl⟩⟩⟩⟩))
end Mo
set_option Elab.async false
set_option linter.all false
set_option maxRecDepth 100000
set_option maxHeartbeats 4000000
/-! Pu7: lines, as rounds of letters. -/
namespace Mo
abbrev Pt := Int × Int
def dx (c : Nat) : Pt := if c = 101 then (1, 0) else if c = 110 then (0, 1) else if c = 119 then (-1, 0) else (0, -1)
def lv (c : Nat) : Bool := decide (c = 101) || decide (c = 119)
/-- the place ahead of the i-th step -/
def pl (g : Nat → Nat) : Nat → Pt
  | 0 => (0, 0)
  | i + 1 => ((pl g i).1 + (dx (g i)).1, (pl g i).2 + (dx (g i)).2)
structure LineG (g : Nat → Nat) (n : Nat) : Prop where
  pos : 0 < n
  per : ∀ i, g (i + n) = g i
  ltr : ∀ i, Ltr (g i)
  end_ : pl g n = (0, 0)
  ok : ∀ i j, i % n ≠ j % n → pl g i = pl g j → g (i + n - 1) = g i ∧ g (j + n - 1) = g j ∧ lv (g i) ≠ lv (g j)
theorem mod_cancel {k i j n : Nat} (h : (k + i) % n = (k + j) % n) : i % n = j % n := by
  have half : ∀ i j, i ≤ j → (k + j) % n = (k + i) % n → i % n = j % n := fun i j hij h => by
    have z := Nat.sub_mod_eq_zero_of_mod_eq h
    rw [show k + j - (k + i) = j - i by omega] at z
    obtain ⟨q, e⟩ := Nat.dvd_of_mod_eq_zero z
    rw [show j = i + n * q by omega, Nat.add_mul_mod_self_left]
  rcases Nat.le_total i j with c | c
  · exact half i j c h.symm
  · exact (half j i c h).symm
section
variable {g : Nat → Nat} {n : Nat}
theorem pl_add (g : Nat → Nat) (k : Nat) : ∀ i, pl g (k + i) = ((pl g k).1 + (pl (fun j => g (k + j)) i).1, (pl g k).2 + (pl (fun j => g (k + j)) i).2)
  | 0 => by simp [pl]
  | i + 1 => by
    rw [← Nat.add_assoc]
    simp only [pl, pl_add g k i]
    ext <;> simp <;> omega
theorem per_mul (h : ∀ i, g (i + n) = g i) : ∀ (k i : Nat), g (i + n * k) = g i
  | 0, i => by simp
  | k + 1, i => by rw [Nat.mul_succ, ← Nat.add_assoc, h, per_mul h k i]
theorem per_mod (h : ∀ i, g (i + n) = g i) (i : Nat) : g (i % n) = g i := by
  have := per_mul h (i / n) (i % n)
  rw [Nat.mod_add_div] at this
  exact this.symm
theorem pl_per (h : ∀ i, g (i + n) = g i) (e : pl g n = (0, 0)) (i : Nat) : pl g (n + i) = pl g i := by
  rw [pl_add g n i, e]
  have : (fun j => g (n + j)) = g := funext fun j => by rw [Nat.add_comm, h]
  rw [this]
  simp
theorem pl_mul (h : ∀ i, g (i + n) = g i) (e : pl g n = (0, 0)) (i : Nat) : ∀ k, pl g (n * k + i) = pl g i
  | 0 => by simp
  | k + 1 => by rw [Nat.mul_succ, Nat.add_comm (n * k) n, Nat.add_assoc, pl_per h e, pl_mul h e i k]
theorem pl_mod (h : ∀ i, g (i + n) = g i) (e : pl g n = (0, 0)) (i : Nat) : pl g (i % n) = pl g i := by
  have := pl_mul h e (i % n) (i / n)
  rw [Nat.div_add_mod] at this
  exact this.symm
/-- told from another step on -/
theorem LineG.rot (L : LineG g n) (k : Nat) : LineG (fun i => g (k + i)) n := by
  have e0 : pl g (k + n) = pl g k := by rw [Nat.add_comm]; exact pl_per L.per L.end_ k
  have key : ∀ i, (pl (fun j => g (k + j)) i).1 = (pl g (k + i)).1 - (pl g k).1 ∧ (pl (fun j => g (k + j)) i).2 = (pl g (k + i)).2 - (pl g k).2 := fun i => by
    rw [pl_add g k i]; constructor <;> simp <;> omega
  refine ⟨L.pos, fun i => by rw [← Nat.add_assoc]; exact L.per _, fun i => L.ltr _, ?_, fun i j hne e => ?_⟩
  · have := key n
    rw [e0] at this
    ext
    · rw [this.1]; simp
    · rw [this.2]; simp
  · have e1 : pl g (k + i) = pl g (k + j) := by
      have a := key i; have b := key j
      rw [e] at a
      ext <;> omega
    have hm : (k + i) % n ≠ (k + j) % n := fun z => hne (mod_cancel z)
    have := L.ok _ _ hm e1
    have p := L.pos
    rw [show k + i + n - 1 = k + (i + n - 1) by omega, show k + j + n - 1 = k + (j + n - 1) by omega] at this
    exact this
/-- letters turned by a quarter -/
theorem LineG.turn (L : LineG g n) : LineG (fun i => turnC (g i)) n := by
  have key : ∀ i, pl (fun j => turnC (g j)) i = (-(pl g i).2, (pl g i).1) := by
    intro i
    induction i with
    | zero => simp [pl]
    | succ i ih =>
      simp only [pl, ih]
      rcases L.ltr i with e | e | e | e <;> rw [e] <;> ext <;> simp [dx, turnC] <;> omega
  have inj : ∀ {a b : Nat}, Ltr a → Ltr b → turnC a = turnC b → a = b := by
    intro a b ha hb
    rcases ha with rfl | rfl | rfl | rfl <;> rcases hb with rfl | rfl | rfl | rfl <;> simp [turnC]
  have flip : ∀ {a : Nat}, Ltr a → lv (turnC a) = !lv a := by
    intro a ha
    rcases ha with rfl | rfl | rfl | rfl <;> decide
  refine ⟨L.pos, fun i => congrArg turnC (L.per i), fun i => ltr_turn (L.ltr i), ?_, fun i j hne e => ?_⟩
  · rw [key, L.end_]; simp
  · rw [key, key] at e
    have e1 : pl g i = pl g j := by
      have a := congrArg Prod.fst e; have b := congrArg Prod.snd e
      simp at a b
      ext <;> omega
    obtain ⟨h1, h2, h3⟩ := L.ok i j hne e1
    refine ⟨congrArg turnC h1, congrArg turnC h2, ?_⟩
    rw [flip (L.ltr i), flip (L.ltr j)]
    simpa using h3
/-- run back, the letters by a map that is a linear map of the plane -/
theorem LineG.back (L : LineG g n) {f : Nat → Nat} {a b : Int} (ha : a = 1 ∨ a = -1) (hb : b = 1 ∨ b = -1) (hf : ∀ c, Ltr c → Ltr (f c) ∧ lv (f c) = lv c ∧ (dx (f c)).1 = a * (dx c).1 ∧ (dx (f c)).2 = b * (dx c).2) : LineG (fun i => f (g (n - 1 - i % n))) n := by
  have p := L.pos
  have step : ∀ i, i ≤ n → (pl (fun j => f (g (n - 1 - j % n))) i).1 = -(a * (pl g (n - i)).1) ∧ (pl (fun j => f (g (n - 1 - j % n))) i).2 = -(b * (pl g (n - i)).2) := by
    intro i
    induction i with
    | zero => intro _; rw [Nat.sub_zero, L.end_]; simp [pl]
    | succ i ih =>
      intro hi
      obtain ⟨h1, h2⟩ := ih (by omega)
      have e : n - i = (n - (i + 1)) + 1 := by omega
      have em : i % n = i := Nat.mod_eq_of_lt (by omega)
      have e2 : n - 1 - i = n - (i + 1) := by omega
      obtain ⟨-, -, f1, f2⟩ := hf _ (L.ltr (n - (i + 1)))
      rw [e] at h1 h2
      simp only [pl, em, e2, h1, h2, f1, f2]
      rcases ha with rfl | rfl <;> rcases hb with rfl | rfl <;> constructor <;> omega
  have per : ∀ i, f (g (n - 1 - (i + n) % n)) = f (g (n - 1 - i % n)) := fun i => by rw [Nat.add_mod_right]
  have endz : pl (fun j => f (g (n - 1 - j % n))) n = (0, 0) := by
    obtain ⟨h1, h2⟩ := step n (Nat.le_refl n)
    rw [Nat.sub_self] at h1 h2
    ext
    · rw [h1]; simp [pl]
    · rw [h2]; simp [pl]
  refine ⟨p, per, fun i => (hf _ (L.ltr _)).1, endz, fun i j hne e => ?_⟩
  have prev : ∀ k, (k + n - 1) % n = if k % n = 0 then n - 1 else k % n - 1 := fun k => by
    have hk : k % n < n := Nat.mod_lt _ p
    have e1 : (k + n - 1) % n = (k % n + n - 1) % n := by
      have := Nat.mod_add_div k n
      conv => lhs; rw [← this]
      rw [show k % n + n * (k / n) + n - 1 = k % n + n - 1 + n * (k / n) by omega, Nat.add_mul_mod_self_left]
    rw [e1]
    split
    · rename_i z; rw [z, Nat.zero_add]; exact Nat.mod_eq_of_lt (by omega)
    · rw [show k % n + n - 1 = k % n - 1 + n by omega, Nat.add_mod_right]; exact Nat.mod_eq_of_lt (by omega)
  have red : ∀ k, pl (fun j => f (g (n - 1 - j % n))) k = pl (fun j => f (g (n - 1 - j % n))) (k % n) := fun k => (pl_mod (g := fun j => f (g (n - 1 - j % n))) per endz k).symm
  rw [red i, red j] at e
  have hi : i % n < n := Nat.mod_lt _ p
  have hj : j % n < n := Nat.mod_lt _ p
  obtain ⟨a1, a2⟩ := step (i % n) (Nat.le_of_lt hi)
  obtain ⟨b1, b2⟩ := step (j % n) (Nat.le_of_lt hj)
  have e1 : pl g (n - i % n) = pl g (n - j % n) := by
    rw [e] at a1 a2
    ext
    · rcases ha with rfl | rfl <;> omega
    · rcases hb with rfl | rfl <;> omega
  have hm : (n - i % n) % n ≠ (n - j % n) % n := fun z => hne (by
    have q : ∀ k, k < n → (n - k) % n = if k = 0 then 0 else n - k := fun k hk => by
      split
      · rename_i w; subst w; simp
      · exact Nat.mod_eq_of_lt (by omega)
    rw [q _ hi, q _ hj] at z
    split at z <;> split at z <;> omega)
  obtain ⟨h1, h2, h3⟩ := L.ok _ _ hm e1
  have nb : ∀ k, k < n → g (n - k + n - 1) = g (n - 1 - k) := fun k hk => by
    rw [show n - k + n - 1 = n - 1 - k + n by omega]; exact L.per _
  have na : ∀ k, k < n → g (n - 1 - (if k = 0 then n - 1 else k - 1)) = g (n - k) := fun k hk => by
    split
    · rename_i z; subst z; rw [Nat.sub_self, Nat.sub_zero]
      have := L.per 0; rw [Nat.zero_add] at this; exact this.symm
    · rw [show n - 1 - (k - 1) = n - k by omega]
  rw [nb _ hi] at h1
  rw [nb _ hj] at h2
  refine ⟨?_, ?_, ?_⟩
  · simp only [prev, na _ hi, h1]
  · simp only [prev, na _ hj, h2]
  · simp only [(hf _ (L.ltr _)).2.1, h1, h2]; exact h3
end
end Mo
set_option Elab.async false
set_option linter.all false
set_option maxRecDepth 100000
set_option maxHeartbeats 4000000
/-! Pu8: lines as lists. -/
namespace Mo
def cyc (W : List Nat) (i : Nat) : Nat := W.getD (i % W.length) 0
def Line (W : List Nat) : Prop := LineG (cyc W) W.length
theorem cyc_lt {W : List Nat} {i : Nat} (h : i < W.length) : cyc W i = W[i] := by
  unfold cyc
  rw [Nat.mod_eq_of_lt h]
  simp [h]
theorem cyc_per (W : List Nat) (i : Nat) : cyc W (i + W.length) = cyc W i := by unfold cyc; rw [Nat.add_mod_right]
theorem cyc_mem {W : List Nat} (h : 0 < W.length) (i : Nat) : cyc W i ∈ W := by
  unfold cyc
  have := Nat.mod_lt i h
  simp [this]
theorem cyc_mod (W : List Nat) (i : Nat) : cyc W (i % W.length) = cyc W i := by unfold cyc; rw [Nat.mod_mod]
theorem cyc_map {W : List Nat} (h : 0 < W.length) (f : Nat → Nat) : cyc (W.map f) = fun i => f (cyc W i) := by
  funext i
  unfold cyc
  have := Nat.mod_lt i h
  simp [this]
theorem cyc_rot {W : List Nat} (h : 0 < W.length) {k : Nat} (hk : k ≤ W.length) : cyc (W.drop k ++ W.take k) = fun i => cyc W (k + i) := by
  funext i
  have ln : (W.drop k ++ W.take k).length = W.length := by simp; omega
  unfold cyc
  rw [ln]
  have hm := Nat.mod_lt i h
  have e : (k + i) % W.length = (k + i % W.length) % W.length := by rw [Nat.add_mod, Nat.add_mod k (i % W.length), Nat.mod_mod]
  rw [e]
  generalize i % W.length = m at *
  by_cases c : m < W.length - k
  · rw [Nat.mod_eq_of_lt (by omega)]
    simp only [List.getD_eq_getElem?_getD]
    rw [List.getElem?_append_left (by simpa using c), List.getElem?_drop]
  · rw [Nat.mod_eq_sub_mod (by omega), Nat.mod_eq_of_lt (by omega)]
    simp only [List.getD_eq_getElem?_getD]
    rw [List.getElem?_append_right (by simp; omega), List.length_drop, List.getElem?_take_of_lt (by omega)]
    congr 2
    omega
theorem cyc_rev {W : List Nat} (h : 0 < W.length) : cyc W.reverse = fun i => cyc W (W.length - 1 - i % W.length) := by
  funext i
  unfold cyc
  have hm := Nat.mod_lt i h
  rw [List.length_reverse]
  have e : (W.length - 1 - i % W.length) % W.length = W.length - 1 - i % W.length := Nat.mod_eq_of_lt (by omega)
  rw [e]
  simp only [List.getD_eq_getElem?_getD]
  rw [List.getElem?_reverse hm]
theorem Line.pos {W : List Nat} (L : Line W) : 0 < W.length := LineG.pos L
theorem Line.ltrs {W : List Nat} (L : Line W) : Ltrs W := fun c m => by
  obtain ⟨i, hi, rfl⟩ := List.getElem_of_mem m
  have := LineG.ltr L i
  rwa [cyc_lt hi] at this
theorem Line.turn {W : List Nat} (L : Line W) : Line (W.map turnC) := by
  unfold Line
  rw [cyc_map L.pos, List.length_map]
  exact LineG.turn L
theorem Line.rot {W : List Nat} (L : Line W) {k : Nat} (hk : k ≤ W.length) : Line (W.drop k ++ W.take k) := by
  unfold Line
  rw [cyc_rot L.pos hk, show (W.drop k ++ W.take k).length = W.length by simp; omega]
  exact LineG.rot L k
theorem Line.mir {W : List Nat} (L : Line W) : Line (W.map mirC).reverse := by
  unfold Line
  rw [← List.map_reverse, cyc_map (by simpa using L.pos), cyc_rev L.pos, List.length_map, List.length_reverse]
  refine LineG.back L (a := 1) (b := -1) (by simp) (by simp) fun c hc => ⟨ltr_mir hc, ?_⟩
  rcases hc with rfl | rfl | rfl | rfl <;> decide
theorem Line.opp {W : List Nat} (L : Line W) : Line (W.map oppC).reverse := by
  unfold Line
  rw [← List.map_reverse, cyc_map (by simpa using L.pos), cyc_rev L.pos, List.length_map, List.length_reverse]
  refine LineG.back L (a := -1) (b := -1) (by simp) (by simp) fun c hc => ⟨ltr_opp hc, ?_⟩
  rcases hc with rfl | rfl | rfl | rfl <;> decide
/-! ### as a check -/
def addG (ms : List (Pt × List Nat)) (p : Pt) (i : Nat) : List (Pt × List Nat) := if p ∈ ms.map (·.1) then ms.map (fun q => if q.1 = p then (q.1, q.2 ++ [i]) else q) else ms ++ [(p, [i])]
def grpN (P : Nat → Pt) : Nat → List (Pt × List Nat)
  | 0 => []
  | m + 1 => addG (grpN P m) (P m) m
def stB (W : List Nat) (a : Nat) : Bool := decide (cyc W (a + W.length - 1) = cyc W a)
def cond (W : List Nat) : List Nat → Bool
  | [a, b] => stB W a && stB W b && (lv (cyc W a) != lv (cyc W b))
  | _ :: _ :: _ :: _ => false
  | _ => true
def lineB (W : List Nat) : Bool := decide (pl (cyc W) W.length = (0, 0)) && (grpN (pl (cyc W)) W.length).all fun q => cond W q.2
theorem grp_ok (P : Nat → Pt) : ∀ m, (∀ q ∈ grpN P m, q.2 = (List.range m).filter fun i => decide (P i = q.1)) ∧ ∀ i, i < m → ∃ q ∈ grpN P m, q.1 = P i
  | 0 => ⟨fun q h => by simp [grpN] at h, fun i h => by omega⟩
  | m + 1 => by
    obtain ⟨h1, h2⟩ := grp_ok P m
    unfold grpN addG
    split
    · rename_i hm
      refine ⟨fun q hq => ?_, fun i hi => ?_⟩
      · obtain ⟨q0, m0, e⟩ := List.mem_map.mp hq
        have b := h1 q0 m0
        rw [List.range_succ, List.filter_append]
        by_cases c : q0.1 = P m
        · rw [if_pos c] at e
          subst e
          simp only
          rw [b]
          simp [c]
        · rw [if_neg c] at e
          subst e
          rw [← b]
          have : ¬ P m = q0.1 := fun z => c z.symm
          simp [this]
      · have get : ∀ p, (∃ q ∈ grpN P m, q.1 = p) → ∃ q ∈ (grpN P m).map (fun q => if q.1 = P m then (q.1, q.2 ++ [m]) else q), q.1 = p := fun p ⟨q, hq, e⟩ => by
          refine ⟨_, List.mem_map_of_mem hq, ?_⟩
          split <;> exact e
        rcases Nat.lt_or_ge i m with c | c
        · exact get _ (h2 i c)
        · have : i = m := by omega
          subst this
          obtain ⟨q, hq, e⟩ := List.mem_map.mp hm
          exact get _ ⟨q, hq, e⟩
    · rename_i hm
      have no : ∀ i, i < m → ¬ P i = P m := fun i hi z => hm (by
        obtain ⟨q, hq, e⟩ := h2 i hi
        exact List.mem_map.mpr ⟨q, hq, by rw [e, z]⟩)
      refine ⟨fun q hq => ?_, fun i hi => ?_⟩
      · rw [List.range_succ, List.filter_append]
        rcases List.mem_append.mp hq with c | c
        · have b := h1 q c
          have : ¬ P m = q.1 := fun z => hm (List.mem_map.mpr ⟨q, c, z.symm⟩)
          rw [← b]
          simp [this]
        · have : q = (P m, [m]) := by simpa using c
          subst this
          have nil : (List.range m).filter (fun i => decide (P i = P m)) = [] := List.filter_eq_nil_iff.mpr fun i hi => by simpa using no i (List.mem_range.mp hi)
          simp [nil]
      · rcases Nat.lt_or_ge i m with c | c
        · obtain ⟨q, hq, e⟩ := h2 i c
          exact ⟨q, List.mem_append_left _ hq, e⟩
        · have : i = m := by omega
          subst this
          exact ⟨(P i, [i]), by simp, rfl⟩
theorem lineB_iff {W : List Nat} (h0 : W ≠ []) (hl : Ltrs W) : lineB W = true ↔ Line W := by
  have p : 0 < W.length := List.length_pos_iff.mpr h0
  obtain ⟨g1, g2⟩ := grp_ok (pl (cyc W)) W.length
  have srt : ∀ q : Pt, ((List.range W.length).filter fun i => decide (pl (cyc W) i = q)).Pairwise (· < ·) := fun q => List.Pairwise.filter _ List.pairwise_lt_range
  unfold lineB
  rw [Bool.and_eq_true, decide_eq_true_eq, List.all_eq_true]
  constructor
  · rintro ⟨e, hc⟩
    refine ⟨p, cyc_per W, fun i => hl _ (cyc_mem p i), e, ?_⟩
    have half : ∀ i j, i < j → j < W.length → pl (cyc W) i = pl (cyc W) j → cyc W (i + W.length - 1) = cyc W i ∧ cyc W (j + W.length - 1) = cyc W j ∧ lv (cyc W i) ≠ lv (cyc W j) := by
      intro i j hij hj he
      obtain ⟨q, hq, eq⟩ := g2 i (by omega)
      have b := g1 q hq
      have c := hc q hq
      have mi : i ∈ q.2 := by rw [b]; simp [eq]; omega
      have mj : j ∈ q.2 := by rw [b]; simp [eq, he, hj]
      have s := srt q.1
      rw [← b] at s
      match hq2 : q.2 with
      | [] => rw [hq2] at mi; simp at mi
      | [a] => rw [hq2] at mi mj; simp at mi mj; omega
      | [a, b'] =>
        rw [hq2] at mi mj s c
        simp at mi mj s
        have ea : a = i := by omega
        have eb : b' = j := by omega
        subst ea eb
        simp only [cond, stB, Bool.and_eq_true, decide_eq_true_eq, bne_iff_ne] at c
        exact ⟨c.1.1, c.1.2, c.2⟩
      | _ :: _ :: _ :: _ => rw [hq2] at c; simp [cond] at c
    intro i j hne he
    have pm := pl_mod (cyc_per W) e
    have hi := Nat.mod_lt i p
    have hj := Nat.mod_lt j p
    have shift : ∀ k, cyc W (k % W.length + W.length - 1) = cyc W (k + W.length - 1) := fun k => by
      have := Nat.mod_add_div k W.length
      conv => rhs; rw [← this]
      rw [show k % W.length + W.length * (k / W.length) + W.length - 1 = k % W.length + W.length - 1 + W.length * (k / W.length) by omega]
      exact (per_mul (cyc_per W) _ _).symm
    rcases Nat.lt_or_gt_of_ne hne with c | c
    · have := half _ _ c hj (by rw [pm, pm]; exact he)
      rw [shift, shift, cyc_mod, cyc_mod] at this
      exact this
    · have := half _ _ c hi (by rw [pm, pm]; exact he.symm)
      rw [shift, shift, cyc_mod, cyc_mod] at this
      exact ⟨this.2.1, this.1, this.2.2.symm⟩
  · intro L
    refine ⟨LineG.end_ L, fun q hq => ?_⟩
    have b := g1 q hq
    have s := srt q.1
    rw [← b] at s
    have mem : ∀ i ∈ q.2, i < W.length ∧ pl (cyc W) i = q.1 := fun i hi => by rw [b] at hi; simpa using hi
    have pr : ∀ i ∈ q.2, ∀ j ∈ q.2, i < j → cyc W (i + W.length - 1) = cyc W i ∧ cyc W (j + W.length - 1) = cyc W j ∧ lv (cyc W i) ≠ lv (cyc W j) := fun i hi j hj hij => by
      obtain ⟨a1, a2⟩ := mem i hi
      obtain ⟨b1, b2⟩ := mem j hj
      exact LineG.ok L i j (by rw [Nat.mod_eq_of_lt a1, Nat.mod_eq_of_lt b1]; omega) (a2.trans b2.symm)
    match hq2 : q.2 with
    | [] => rfl
    | [a] => rfl
    | [a, b'] =>
      rw [hq2] at pr s
      simp at s
      obtain ⟨h1, h2, h3⟩ := pr a (by simp) b' (by simp) s
      simp only [cond, stB, Bool.and_eq_true, decide_eq_true_eq, bne_iff_ne]
      exact ⟨⟨h1, h2⟩, h3⟩
    | a :: b' :: c :: r =>
      rw [hq2] at pr s
      simp at s
      have x1 := (pr a (by simp) b' (by simp) (by omega)).2.2
      have x2 := (pr a (by simp) c (by simp) (by omega)).2.2
      have x3 := (pr b' (by simp) c (by simp) (by omega)).2.2
      exfalso
      cases e1 : lv (cyc W a) <;> cases e2 : lv (cyc W b') <;> cases e3 : lv (cyc W c) <;> simp_all

def goodB (W : List Nat) : Bool := lineB W && (!W.isEmpty && (W.all (fun c => decide (c = 101) || (decide (c = 110) || (decide (c = 119) || decide (c = 115)))) && decide (W.length < 100)))
theorem good_ok {W : List Nat} (h : goodB W = true) : Line W ∧ W.length < 100 := by
  simp only [goodB, Bool.and_eq_true, List.all_eq_true, Bool.or_eq_true, decide_eq_true_eq, Bool.not_eq_true', List.isEmpty_eq_false_iff] at h
  obtain ⟨h1, h2, h3, h4⟩ := h
  exact ⟨(lineB_iff h2 h3).mp h1, h4⟩
theorem bases_good : ∀ W ∈ bases, Line W ∧ W.length < 100 := by
  have : bases.all goodB = true := by decide +kernel
  exact fun W m => good_ok (List.all_eq_true.mp this W m)
/-- the eight, and the line that is low somewhere -/
def eightP (k : Nat) : List Nat := List.replicate (k + 1) 101 ++ List.replicate k 110 ++ [119] ++ List.replicate (k + 1) 115 ++ List.replicate k 119 ++ [110]
theorem eights_good {k : Nat} (h1 : 1 ≤ k) (h2 : k ≤ 3) : Line (eightP k) ∧ (eightP k).length < 100 := by
  have : ([1, 2, 3].all fun k => goodB (eightP k)) = true := by decide +kernel
  exact good_ok (List.all_eq_true.mp this k (by simp; omega))
theorem low_good : Line (longP psB) ∧ (longP psB).length < 100 := good_ok (by decide +kernel)
theorem bases_len : ∀ W ∈ bases, 4 ≤ W.length := by
  have : (bases.all fun W => decide (4 ≤ W.length)) = true := by decide +kernel
  exact fun W m => of_decide_eq_true (List.all_eq_true.mp this W m)
theorem low_len : 4 ≤ (longP psB).length := by decide +kernel
theorem eight_len (k : Nat) : 4 ≤ (eightP (k + 1)).length := by simp [eightP]; omega
end Mo
set_option Elab.async false
set_option linter.all false
set_option maxRecDepth 100000
set_option maxHeartbeats 4000000
/-! Pu9: places, by the law and by the program. -/
namespace Mo
open PySem L2 TL
section
variable {h : Ah} {Q : Dt → Ah → Prop} {L : List Dt → Ah → Prop} {env : En} {ma mb mc : En → Mm Dt} {mr : En → Mm (List Dt)} {r : Nat} {xs : List Dt} {d : Dt}
theorem ok_newO {o : Ao} {P : Nat → Ah → Prop} : Ok (newO o) h P ↔ P h.length (h ++ [o]) := Iff.rfl
theorem ok_mkO {o : Ao} : Ok (mkO o) h Q ↔ Q (.obj h.length) (h ++ [o]) := Iff.rfl
theorem ok_pairs0 {P : List (Dt × Dt) → Ah → Prop} : Ok (pairsM [] env) h P ↔ P [] h := Iff.rfl
theorem ok_pairs {p : (En → Mm Dt) × (En → Mm Dt)} {l : List ((En → Mm Dt) × (En → Mm Dt))} {P : List (Dt × Dt) → Ah → Prop} : Ok (pairsM (p :: l) env) h P ↔ Ok (p.1 env) h fun x h1 => Ok (p.2 env) h1 fun y h2 => Ok (pairsM l env) h2 fun ps h3 => P ((x, y) :: ps) h3 := by
  simp [pairsM]
theorem ok_finD {ps : List (Dt × Dt)} {ks : List Key} (hk : keysD (ps.map (·.1)) = some ks) (hn : ks.Nodup) (hl : ps.length ≤ 15) : Ok (finD h.length ps) (h ++ [.dk [] []]) Q ↔ Q (.dk ks (ps.map (·.2))) (h ++ [.dead]) := by
  unfold Ok finD
  simp [hk, hn, hl]
theorem ok_get2 : Ok (get2 ma mb mc env) h Q ↔ Ok (ma env) h fun d h1 => ((dkR h1 d).isSome || (dtR h1 d).isSome) = true ∧ Ok (mb env) h1 fun k h2 => Ok (mc env) h2 fun x h3 => match getR h3 d k with | some (some z) => Q z h3 | some none => Q x h3 | none => False := by
  have fin : ∀ (d k x : Dt) (h3 : Ah), Ok (fun h => match getR h d k with | some (some z) => Rs.ok z h | some none => .ok x h | none => .no : Mm Dt) h3 Q ↔ (match getR h3 d k with | some (some z) => Q z h3 | some none => Q x h3 | none => False) := by
    intro d k x h3
    rcases q : getR h3 d k with _ | o
    · simp only [Ok, q]
    · cases o <;> simp only [Ok, q]
  have key : ∀ (d : Dt) (h1 : Ah), Ok (Mm.bind (fun h => if (dkR h d).isSome || (dtR h d).isSome then .ok () h else .no) fun _ => mb env >>= fun k => mc env >>= fun x => (fun h => match getR h d k with | some (some z) => Rs.ok z h | some none => .ok x h | none => .no : Mm Dt)) h1 Q ↔
      ((dkR h1 d).isSome || (dtR h1 d).isSome) = true ∧ Ok (mb env) h1 fun k h2 => Ok (mc env) h2 fun x h3 => match getR h3 d k with | some (some z) => Q z h3 | some none => Q x h3 | none => False := by
    intro d h1
    by_cases c : ((dkR h1 d).isSome || (dtR h1 d).isSome) = true
    · have e : Mm.bind (fun h => if (dkR h d).isSome || (dtR h d).isSome then .ok () h else .no) (fun _ => mb env >>= fun k => mc env >>= fun x => (fun h => match getR h d k with | some (some z) => Rs.ok z h | some none => .ok x h | none => .no : Mm Dt)) h1 = (mb env >>= fun k => mc env >>= fun x => (fun h => match getR h d k with | some (some z) => Rs.ok z h | some none => .ok x h | none => .no : Mm Dt)) h1 := by simp only [Mm.bind, c, if_true]
      refine Iff.trans (b := Ok (mb env >>= fun k => mc env >>= fun x => (fun h => match getR h d k with | some (some z) => Rs.ok z h | some none => .ok x h | none => .no : Mm Dt)) h1 Q) ?_ ?_
      · unfold Ok; rw [e]
      · rw [ok_bind]
        simp only [c, true_and]
        exact ⟨fun o => o.mono fun k h2 q => (ok_bind.mp q).mono fun x h3 q => (fin d k x h3).mp q, fun o => o.mono fun k h2 q => ok_bind.mpr (q.mono fun x h3 q => (fin d k x h3).mpr q)⟩
    · have e : Mm.bind (fun h => if (dkR h d).isSome || (dtR h d).isSome then .ok () h else .no) (fun _ => mb env >>= fun k => mc env >>= fun x => (fun h => match getR h d k with | some (some z) => Rs.ok z h | some none => .ok x h | none => .no : Mm Dt)) h1 = .no := by simp only [Mm.bind, c]; rfl
      unfold Ok
      rw [e]
      simp [c]
  show Ok (Mm.bind (ma env) fun d => Mm.bind (fun h => if (dkR h d).isSome || (dtR h d).isSome then .ok () h else .no) fun _ => mb env >>= fun k => mc env >>= fun x => (fun h => match getR h d k with | some (some z) => Rs.ok z h | some none => .ok x h | none => .no : Mm Dt)) h Q ↔ _
  refine Iff.trans (ok_bind (m := ma env)) ?_
  exact ⟨fun o => o.mono fun d h1 q => (key d h1).mp q, fun o => o.mono fun d h1 q => (key d h1).mpr q⟩
@[simp] theorem ok_appO : Ok (mApp (.obj r) [d]) h Q ↔ ∃ xs, lstAt h r = some xs ∧ xs.length < sizeLine ∧ Q .non (h.set r (.lst (xs ++ [d]))) := by
  unfold Ok mApp lstAt
  cases q : h[r]? with
  | none => simp [q]
  | some o =>
    cases o with
    | lst xs =>
      by_cases c : xs.length < sizeLine <;> simp [q, c]
    | _ => simp [q]
theorem isL_obj (e : lstAt h r = some xs) : isL h (.obj r) = true := by
  unfold lstAt at e
  unfold isL lstR lstT
  cases q : h[r]? with
  | none => rw [q] at e; cases e
  | some o =>
    cases o with
    | lst xs => simp [q]
    | _ => rw [q] at e; cases e
theorem set_new {o o' : Ao} {j : Ah} : (h ++ o :: j).set h.length o' = h ++ o' :: j := by simp
@[simp] theorem ok_itR1 : Ok (itR1 mr env) h L ↔ Ok (mr env) h fun ds h1 => ∃ j : Int, ds = [.int j] ∧ (-(2 ^ 62) ≤ j ∧ j < 2 ^ 62) ∧ L (rng 0 j.toNat 1) h1 := by
  simp only [itR1, ok_bind]
  refine ⟨fun o => o.mono fun ds h1 q => ?_, fun o => o.mono fun ds h1 q => ?_⟩
  · split at q
    · rw [ok_ifno] at q; exact ⟨_, rfl, q⟩
    · exact q.elim
  · obtain ⟨j, rfl, q⟩ := q
    exact ok_ifno.mpr q
theorem rng_eq (n : Nat) : rng 0 n 1 = (List.range n).map fun i => .int ((i : Nat) : Int) := by
  unfold rng
  apply List.map_congr_left
  intro i _
  simp
end
def ptD (p : Pt) : Dt := .tup [.int p.1, .int p.2]
def ptsD (W : List Nat) (m : Nat) : List Dt := (List.range (m + 1)).map fun i => ptD (pl (cyc W) i)
end Mo
set_option Elab.async false
set_option linter.all false
set_option maxRecDepth 100000
set_option maxHeartbeats 4000000
/-! PuA: the places that the law and the program count. -/
namespace Mo
open PySem L2 TL
section
variable {h : Ah} {Q : Dt → Ah → Prop} {env : En}
theorem ok_dispX : Ok (dispM [((con (.str (Str.ofString "e"))), (con (.int 1))), ((con (.str (Str.ofString "w"))), (op1 unNeg (con (.int 1))))] env) h Q ↔ Q (.dk [.inr (Tx [101]), .inr (Tx [119])] [.int 1, .int (-1)]) (h ++ [.dead]) := by
  show Ok (newO (.dk [] []) >>= fun n => pairsM _ env >>= fun ps => finD n ps) h Q ↔ _
  simp only [ok_bind, ok_newO, ok_pairs, ok_pairs0, ok_con, ok_op1, ok_negI, lit_e, lit_w]
  exact ok_finD (ks := [.inr (Tx [101]), .inr (Tx [119])]) rfl (by decide) (by decide)
theorem ok_dispY : Ok (dispM [((con (.str (Str.ofString "n"))), (con (.int 1))), ((con (.str (Str.ofString "s"))), (op1 unNeg (con (.int 1))))] env) h Q ↔ Q (.dk [.inr (Tx [110]), .inr (Tx [115])] [.int 1, .int (-1)]) (h ++ [.dead]) := by
  show Ok (newO (.dk [] []) >>= fun n => pairsM _ env >>= fun ps => finD n ps) h Q ↔ _
  simp only [ok_bind, ok_newO, ok_pairs, ok_pairs0, ok_con, ok_op1, ok_negI, lit_n, lit_s]
  exact ok_finD (ks := [.inr (Tx [110]), .inr (Tx [115])]) rfl (by decide) (by decide)
end
theorem getX {h : Ah} {c : Nat} (hc : Ltr c) : (match getR h (.dk [.inr (Tx [101]), .inr (Tx [119])] [.int 1, .int (-1)]) (.str (Tx [c])) with | some (some z) => z | some none => .int 0 | none => .non) = .int (dx c).1 ∧ (getR h (.dk [.inr (Tx [101]), .inr (Tx [119])] [.int 1, .int (-1)]) (.str (Tx [c]))).isSome = true := by
  rcases hc with rfl | rfl | rfl | rfl <;> exact ⟨rfl, rfl⟩
theorem getY {h : Ah} {c : Nat} (hc : Ltr c) : (match getR h (.dk [.inr (Tx [110]), .inr (Tx [115])] [.int 1, .int (-1)]) (.str (Tx [c])) with | some (some z) => z | some none => .int 0 | none => .non) = .int (dx c).2 ∧ (getR h (.dk [.inr (Tx [110]), .inr (Tx [115])] [.int 1, .int (-1)]) (.str (Tx [c]))).isSome = true := by
  rcases hc with rfl | rfl | rfl | rfl <;> exact ⟨rfl, rfl⟩
theorem get_fold {h : Ah} {d k x : Dt} {y : Dt} {Q : Dt → Prop} (e : (match getR h d k with | some (some z) => z | some none => x | none => .non) = y ∧ (getR h d k).isSome = true) : (match getR h d k with | some (some z) => Q z | some none => Q x | none => False) ↔ Q y := by
  obtain ⟨e1, e2⟩ := e
  cases q : getR h d k with
  | none => rw [q] at e2; cases e2
  | some o =>
    rw [q] at e1
    cases o with
    | none => simp only at e1 ⊢; rw [e1]
    | some z => simp only at e1 ⊢; rw [e1]
theorem ptsD_len (W : List Nat) (m : Nat) : (ptsD W m).length = m + 1 := by simp [ptsD]
theorem ptsD_succ (W : List Nat) (m : Nat) : ptsD W m ++ [ptD (pl (cyc W) (m + 1))] = ptsD W (m + 1) := by
  unfold ptsD
  rw [List.range_succ (n := m + 1), List.map_append]
  rfl
theorem ok_X {h : Ah} {Q : Dt → Ah → Prop} {env : En} {i c : Nat} (e : env[i]? = some (some (.str (Tx [c])))) (hc : Ltr c) :
    Ok (get2 (dispM [((con (.str (Str.ofString "e"))), (con (.int 1))), ((con (.str (Str.ofString "w"))), (op1 unNeg (con (.int 1))))]) (var i) (con (.int 0)) env) h Q ↔ Q (.int (dx c).1) (h ++ [.dead]) := by
  rw [ok_get2, ok_dispX]
  simp only [ok_var, ok_con, e]
  refine ⟨fun ⟨_, d, e1, q⟩ => ?_, fun q => ⟨rfl, _, rfl, (get_fold (getX hc)).mpr q⟩⟩
  cases e1
  exact (get_fold (getX hc)).mp q
theorem ok_Y {h : Ah} {Q : Dt → Ah → Prop} {env : En} {i c : Nat} (e : env[i]? = some (some (.str (Tx [c])))) (hc : Ltr c) :
    Ok (get2 (dispM [((con (.str (Str.ofString "n"))), (con (.int 1))), ((con (.str (Str.ofString "s"))), (op1 unNeg (con (.int 1))))]) (var i) (con (.int 0)) env) h Q ↔ Q (.int (dx c).2) (h ++ [.dead]) := by
  rw [ok_get2, ok_dispY]
  simp only [ok_var, ok_con, e]
  refine ⟨fun ⟨_, d, e1, q⟩ => ?_, fun q => ⟨rfl, _, rfl, (get_fold (getY hc)).mpr q⟩⟩
  cases e1
  exact (get_fold (getY hc)).mp q
theorem ok_pick {h : Ah} {Q : Dt → Ah → Prop} {env : En} {i : Nat} {d : Dt} (e : env[i]? = some (some d)) : Ok (var i env) h Q ↔ Q d h := by
  rw [ok_var, e]
  exact ⟨fun ⟨_, e, q⟩ => by cases e; exact q, fun q => ⟨d, rfl, q⟩⟩
theorem spots_ok {W : List Nat} (hl : Ltrs W) (hn : W.length ≤ 900) (h : Ah) : Ok (K51.f__law_spots [.str (Tx W)]) h fun d h' => d = .obj h.length ∧ ∃ j, h' = h ++ .lst (ptsD W W.length) :: j := by
  rw [K51.f__law_spots, ok_fnM]
  simp only [K51.m__law_spots]
  simp [szl]
  refine forL_ind (fun ds env h' => ∃ (m : Nat) (j : Ah) (y : Option Dt), m ≤ W.length ∧ ds = (W.drop m).map (fun c => .str (Tx [c])) ∧ h' = h ++ .lst (ptsD W m) :: j ∧ env = [some (.str (Tx W)), some (.obj h.length), some (.int (pl (cyc W) m).1), some (.int (pl (cyc W) m).2), y]) ?_ ?_ _ _ _ ⟨0, [], none, Nat.zero_le _, by simp, by simp [ptsD, ptD, pl], by simp [pl]⟩
  · rintro x xs env h' ⟨m, j, y, hm, e, rfl, rfl⟩
    have c : m < W.length := by
      rcases Nat.lt_or_ge m W.length with c | c
      · exact c
      · rw [List.drop_eq_nil_of_le c] at e; simp at e
    rw [List.drop_eq_getElem_cons c, List.map_cons] at e
    obtain ⟨rfl, rfl⟩ := List.cons.inj e
    have lt := hl _ (List.getElem_mem c)
    have step : pl (cyc W) (m + 1) = ((pl (cyc W) m).1 + (dx W[m]).1, (pl (cyc W) m).2 + (dx W[m]).2) := by
      simp only [pl]
      rw [cyc_lt c]
    refine ⟨[some (.str (Tx W)), some (.obj h.length), some (.int (pl (cyc W) m).1), some (.int (pl (cyc W) m).2), some (.str (Tx [W[m]]))], by simp [Pat.bd], ?_⟩
    rw [ok_seq, ok_par, ok_argC, ok_op2, ok_pick (i := 2) (d := .int (pl (cyc W) m).1) rfl, ok_X (i := 4) (c := W[m]) rfl lt, ok_addI, ok_argC, ok_op2, ok_pick (i := 3) (d := .int (pl (cyc W) m).2) rfl, ok_Y (i := 4) (c := W[m]) rfl lt, ok_addI, ok_argN]
    refine ⟨_, _, rfl, ?_⟩
    show Ok (drp (bm isL mApp (var 1) (argC (tupE (argC (var 2) (argC (var 3) argN))) argN)) [some (.str (Tx W)), some (.obj h.length), some (.int ((pl (cyc W) m).1 + (dx W[m]).1)), some (.int ((pl (cyc W) m).2 + (dx W[m]).2)), some (.str (Tx [W[m]]))]) _ _
    rw [ok_drp, ok_bm]
    rw [ok_pick (i := 1) (d := .obj h.length) rfl, ok_argC, ok_tupE, ok_argC, ok_pick (i := 2) (d := .int ((pl (cyc W) m).1 + (dx W[m]).1)) rfl, ok_argC, ok_pick (i := 3) (d := .int ((pl (cyc W) m).2 + (dx W[m]).2)) rfl, ok_argN, ok_argN, ok_appO]
    rw [show h ++ Ao.lst (ptsD W m) :: j ++ [Ao.dead] ++ [Ao.dead] = h ++ Ao.lst (ptsD W m) :: (j ++ [Ao.dead, Ao.dead]) by simp]
    refine ⟨isL_obj lstAt_new, szl (by simp), _, lstAt_new, ?_, m + 1, j ++ [Ao.dead, Ao.dead], some (.str (Tx [W[m]])), c, rfl, ?_, ?_⟩
    · rw [ptsD_len]
      have := szl (show m + 2 ≤ 1000 by omega)
      omega
    · rw [set_new, ← ptsD_succ, step]
      rfl
    · rw [step]
  · rintro env h' ⟨m, j, y, hm, e, rfl, rfl⟩
    have : m = W.length := by
      rcases Nat.lt_or_ge m W.length with c | c
      · rw [List.drop_eq_getElem_cons c] at e; simp at e; omega
      · omega
    subst this
    simp
theorem ok_mv {h : Ah} {Q : Dt → Ah → Prop} {env : En} {i c : Nat} (e : env[i]? = some (some (.str (Tx [c])))) (hc : Ltr c) : Ok (kix K51.tb_MOVES (var i) env) h Q ↔ Q (.wt [.int (dx c).1, .int (dx c).2]) h := by
  have k : K51.tb_MOVES.lookup (Tx [c]) = some (some (.wt [.int (dx c).1, .int (dx c).2])) := by
    rcases hc with rfl | rfl | rfl | rfl <;> rfl
  show Ok (var i env >>= fun d => match d with | .str z => (match K51.tb_MOVES.lookup z with | some (some y) => Mm.pure y | _ => Mm.no) | _ => Mm.no) h Q ↔ _
  rw [ok_bind, ok_pick e]
  simp only [k]
  exact Iff.rfl
theorem ptsD_last (W : List Nat) (m : Nat) : atI (ptsD W m) (-1) = some (ptD (pl (cyc W) m)) := by
  have h0 : ptsD W m ≠ [] := fun e => by
    have := ptsD_len W m
    rw [e] at this
    simp at this
  rw [atI_last h0]
  simp [ptsD, List.range_succ]
theorem places_ok {W : List Nat} (hl : Ltrs W) (hn : W.length ≤ 900) (h : Ah) : Ok (K51.f_places_of [.str (Tx W)]) h fun d h' => d = .obj h.length ∧ ∃ j, h' = h ++ .lst (ptsD W W.length) :: j := by
  rw [K51.f_places_of, ok_fnM]
  simp only [K51.m_places_of]
  simp [szl]
  refine forL_ind (fun ds env h' => ∃ (m : Nat) (j : Ah) (y z w : Option Dt), m ≤ W.length ∧ ds = (W.drop m).map (fun c => .str (Tx [c])) ∧ h' = h ++ .lst (ptsD W m) :: j ∧ env = [some (.str (Tx W)), some (.obj h.length), y, z, w]) ?_ ?_ _ _ _ ⟨0, [], none, none, none, Nat.zero_le _, by simp, by simp [ptsD, ptD, pl], rfl⟩
  · rintro x xs env h' ⟨m, j, y, z, w, hm, e, rfl, rfl⟩
    have c : m < W.length := by
      rcases Nat.lt_or_ge m W.length with c | c
      · exact c
      · rw [List.drop_eq_nil_of_le c] at e; simp at e
    rw [List.drop_eq_getElem_cons c, List.map_cons] at e
    obtain ⟨rfl, rfl⟩ := List.cons.inj e
    have lt := hl _ (List.getElem_mem c)
    have step : pl (cyc W) (m + 1) = ((pl (cyc W) m).1 + (dx W[m]).1, (pl (cyc W) m).2 + (dx W[m]).2) := by
      simp only [pl]
      rw [cyc_lt c]
    refine ⟨[some (.str (Tx W)), some (.obj h.length), some (.str (Tx [W[m]])), z, w], by simp [Pat.bd], ?_⟩
    rw [ok_seq, ok_asg, ok_op2, ok_pick (i := 1) (d := .obj h.length) rfl, ok_op1, ok_con, ok_negI, ok_ixO, lstAt_new]
    refine ⟨ptD (pl (cyc W) m), ptsD_last W m, ?_⟩
    unfold ptD
    rw [ok_gT, ok_gsC, ok_gN, ok_gsC, ok_gN, ok_gsN]
    refine ⟨rfl, ?_⟩
    show Ok (drp (bm isL mApp (var 1) (argC (tupE (argC (op2 opAdd (var 3) (op2 ixM (kix K51.tb_MOVES (var 2)) (con (.int 0)))) (argC (op2 opAdd (var 4) (op2 ixM (kix K51.tb_MOVES (var 2)) (con (.int 1)))) argN))) argN)) [some (.str (Tx W)), some (.obj h.length), some (.str (Tx [W[m]])), some (.int (pl (cyc W) m).1), some (.int (pl (cyc W) m).2)]) _ _
    rw [ok_drp, ok_bm, ok_pick (i := 1) (d := .obj h.length) rfl, ok_argC, ok_tupE, ok_argC, ok_op2, ok_pick (i := 3) (d := .int (pl (cyc W) m).1) rfl, ok_op2, ok_mv (i := 2) (c := W[m]) rfl lt, ok_con, ok_ixWt]
    refine ⟨isL_obj lstAt_new, _, rfl, ?_⟩
    rw [ok_addI, ok_argC, ok_op2, ok_pick (i := 4) (d := .int (pl (cyc W) m).2) rfl, ok_op2, ok_mv (i := 2) (c := W[m]) rfl lt, ok_con, ok_ixWt]
    refine ⟨_, rfl, ?_⟩
    rw [ok_addI, ok_argN, ok_argN, ok_appO]
    refine ⟨szl (by simp), _, lstAt_new, ?_, m + 1, j, _, _, _, c, rfl, ?_, rfl⟩
    · rw [ptsD_len]
      have := szl (show m + 2 ≤ 1000 by omega)
      omega
    · rw [set_new, ← ptsD_succ, step]
      rfl
  · rintro env h' ⟨m, j, y, z, w, hm, e, rfl, rfl⟩
    have : m = W.length := by
      rcases Nat.lt_or_ge m W.length with c | c
      · rw [List.drop_eq_getElem_cons c] at e; simp at e; omega
      · omega
    subst this
    simp
end Mo
set_option Elab.async false
set_option linter.all false
set_option maxRecDepth 100000
set_option maxHeartbeats 4000000
/-! PuB: the law's own look at a line. -/
namespace Mo
open PySem L2 TL
def kp (p : Pt) : List Key := [.inl p.1, .inl p.2]
theorem kp_inj {p q : Pt} : kp p = kp q ↔ p = q := by
  refine ⟨fun e => ?_, fun e => by rw [e]⟩
  simp only [kp, List.cons.injEq, Sum.inl.injEq, and_true] at e
  exact Prod.ext e.1 e.2
theorem keyT_pt (p : Pt) : keyT (ptD p) = some (kp p) := rfl
section
variable {V : List Nat → Dt} {F : Pt → List Nat} {p : Pt} {i : Nat}
theorem val_grp : ∀ {ms : List (Pt × List Nat)}, (∀ q ∈ ms, q.2 = F q.1) → valG ((ms.map fun q => kp q.1).zip (ms.map fun q => V q.2)) (kp p) = if p ∈ ms.map (·.1) then some (V (F p)) else none
  | [], _ => by simp [valG]
  | q :: ms, h => by
    have ih := val_grp (ms := ms) fun q m => h q (by simp [m])
    by_cases c : q.1 = p
    · have e := h q (by simp)
      rw [c] at e
      simp [valG, c, e]
    · have c' : ¬ kp q.1 = kp p := fun z => c (kp_inj.mp z)
      have c2 : ¬ p = q.1 := fun z => c z.symm
      have e1 : valG (((q :: ms).map fun q => kp q.1).zip ((q :: ms).map fun q => V q.2)) (kp p) = valG ((ms.map fun q => kp q.1).zip (ms.map fun q => V q.2)) (kp p) := by simp [valG, c']
      rw [e1, ih]
      by_cases z : p ∈ ms.map (·.1)
      · rw [if_pos z, if_pos (by rw [List.map_cons]; exact List.mem_cons_of_mem _ z)]
      · rw [if_neg z, if_neg (by rw [List.map_cons, List.mem_cons]; exact fun w => w.elim c2 z)]
theorem mem_kp {ms : List (Pt × List Nat)} : kp p ∈ ms.map (fun q => kp q.1) ↔ p ∈ ms.map (·.1) := by
  simp only [List.mem_map]
  exact ⟨fun ⟨q, m, e⟩ => ⟨q, m, kp_inj.mp e⟩, fun ⟨q, m, e⟩ => ⟨q, m, by rw [e]⟩⟩
theorem put_grp {ms : List (Pt × List Nat)} (h : ∀ q ∈ ms, q.2 = F q.1) : putG (ms.map fun q => kp q.1) (ms.map fun q => V q.2) (kp p) (V ((if p ∈ ms.map (·.1) then F p else []) ++ [i])) = ((addG ms p i).map (fun q => kp q.1), (addG ms p i).map fun q => V q.2) := by
  unfold putG addG
  by_cases c : p ∈ ms.map (·.1)
  · rw [if_pos (mem_kp.mpr c), if_pos c, if_pos c]
    refine Prod.ext ?_ ?_
    · simp only [List.map_map]
      apply List.map_congr_left
      intro q m
      simp only [Function.comp]
      split <;> rfl
    · simp only [List.map_map]
      clear c
      induction ms with
      | nil => rfl
      | cons q ms ih =>
        have ih := ih fun q m => h q (by simp [m])
        simp only [List.map_cons, List.zip_cons_cons]
        rw [ih]
        congr 1
        by_cases c : q.1 = p
        · have e := h q (by simp)
          rw [c] at e
          simp [c, e]
        · have c' : ¬ kp q.1 = kp p := fun z => c (kp_inj.mp z)
          simp [c, c']
  · rw [if_neg (fun z => c (mem_kp.mp z)), if_neg c, if_neg c]
    simp
end
def Vl (l : List Nat) : Dt := .lv (l.map fun i => .int ((i : Nat) : Int))
def dictAt (h : Ah) (r : Nat) : Option (List (List Key) × List Dt) := match h[r]? with
  | some (.dt ks vs) => some (ks, vs)
  | _ => none
theorem dictAt_new {h : Ah} {ks : List (List Key)} {vs : List Dt} {j : Ah} : dictAt (h ++ .dt ks vs :: j) h.length = some (ks, vs) := by simp [dictAt]
theorem dtR_at {h : Ah} {r : Nat} {kv : List (List Key) × List Dt} (e : dictAt h r = some kv) : dtR h (.obj r) = some kv ∧ dkR h (.obj r) = none := by
  unfold dictAt at e
  cases q : h[r]? with
  | none => rw [q] at e; cases e
  | some o =>
    cases o with
    | dt ks vs => rw [q] at e; cases e; exact ⟨by simp [dtR, q], by simp [dkR, q]⟩
    | _ => rw [q] at e; cases e
theorem getR_at {h : Ah} {r : Nat} {ks : List (List Key)} {vs : List Dt} {p : Pt} (e : dictAt h r = some (ks, vs)) : getR h (.obj r) (ptD p) = some (valG (ks.zip vs) (kp p)) := by
  obtain ⟨h1, h2⟩ := dtR_at e
  unfold getR
  rw [h2, h1, keyT_pt]
theorem ok_setD {h : Ah} {ks : List (List Key)} {vs : List Dt} {j : Ah} {p : Pt} {y : Dt} {U : Unit → Ah → Prop} (hl : vs.length < sizeLine) : Ok (setD (.obj h.length) (ptD p) y) (h ++ .dt ks vs :: j) U ↔ U () (h ++ .dt (putG ks vs (kp p) y).1 (putG ks vs (kp p) y).2 :: j) := by
  unfold Ok setD
  simp [keyT_pt, hl]
theorem grp_len (P : Nat → Pt) : ∀ m, (grpN P m).length ≤ m
  | 0 => by simp [grpN]
  | m + 1 => by
    have := grp_len P m
    unfold grpN addG
    split
    · simp; omega
    · simp; omega
theorem grp_F (P : Nat → Pt) (m : Nat) : ∀ q ∈ grpN P m, q.2 = (fun z => (List.range m).filter fun i => decide (P i = z)) q.1 := fun q hq => (grp_ok P m).1 q hq
theorem grp_none (P : Nat → Pt) {m : Nat} {p : Pt} (h : p ∉ (grpN P m).map (·.1)) : (List.range m).filter (fun i => decide (P i = p)) = [] := by
  refine List.filter_eq_nil_iff.mpr fun i hi z => h ?_
  obtain ⟨q, hq, e⟩ := (grp_ok P m).2 i (List.mem_range.mp hi)
  exact List.mem_map.mpr ⟨q, hq, by rw [e]; simpa using z⟩
theorem ptsD_at {W : List Nat} {i n : Nat} (h : i ≤ n) : atI (ptsD W n) (i : Int) = some (ptD (pl (cyc W) i)) := by
  have l := ptsD_len W n
  rw [atI_nat (by omega)]
  simp [ptsD]
theorem eq_pt {h : Ah} {p q : Pt} : eqR h (ptD p) (ptD q) = some (decide (p = q)) := by
  obtain ⟨a, b⟩ := p
  obtain ⟨c, d⟩ := q
  have e : eqR h (ptD (a, b)) (ptD (c, d)) = some (PyData.eqv (.tuple [.int a, .int b]) (.tuple [.int c, .int d])) := rfl
  rw [e]
  congr 1
  have : PyData.eqv (.tuple [.int a, .int b]) (.tuple [.int c, .int d]) = (decide (a = c) && decide (b = d)) := by
    simp only [PyData.eqv, PyData.eqvAll, Bool.and_true]
    rfl
  rw [this]
  by_cases h1 : a = c <;> by_cases h2 : b = d <;> simp [h1, h2]

/-- the i-th letter, and the one ahead of it -/
theorem at_cyc {W : List Nat} {i : Nat} (h : i < W.length) : atI W (i : Int) = some (cyc W i) := by
  rw [atI_nat h, cyc_lt h]
theorem at_prev {W : List Nat} {i : Nat} (h : i < W.length) : atI W ((i : Int) - 1) = some (cyc W (i + W.length - 1)) := by
  cases i with
  | zero =>
    have h0 : W ≠ [] := fun e => by subst e; simp at h
    rw [show ((0 : Nat) : Int) - 1 = -1 by omega, atI_last h0, List.getLast_eq_getElem, Nat.zero_add, cyc_lt (by omega)]
  | succ i =>
    rw [show ((i + 1 : Nat) : Int) - 1 = (i : Int) by omega, atI_nat (by omega), show i + 1 + W.length - 1 = i + W.length by omega, cyc_per, cyc_lt (by omega)]
theorem lv_mem {c : Nat} : decide (c ∈ [101, 119]) = lv c := by
  unfold lv
  by_cases h1 : c = 101 <;> by_cases h2 : c = 119 <;> simp [h1, h2]
def tDt (W : List Nat) (q : Pt × List Nat) : Dt := Vl q.2
theorem bAll_ok {h : Ah} {Q : Dt → Ah → Prop} {l : List Nat} {f : Nat → Bool} : Ok (bAll [.lv (l.map fun i => .bl (f i))]) h Q ↔ Q (.bl (l.all f)) h := by
  have e : blsD (l.map fun i => .bl (f i)) = some (l.map f) := by
    induction l with
    | nil => rfl
    | cons a l ih => simp [blsD, ih]
  have e2 : bAll [.lv (l.map fun i => .bl (f i))] h = .ok (.bl (l.all f)) h := by
    simp [bAll, bFold, seqR, tupR, lstR, lstT, e]
  unfold Ok
  rw [e2]
section
variable {h : Ah} {Q : Dt → Ah → Prop} {env : En}
theorem ok_nePt {p q : Pt} : Ok (opNe (ptD p) (ptD q)) h Q ↔ Q (.bl (!decide (p = q))) h := by
  unfold Ok opNe
  rw [eq_pt]
theorem ok_addLv {a b : List Dt} : Ok (opAdd (.lv a) (.lv b)) h Q ↔ a.length + b.length ≤ sizeLine ∧ Q (.lv (a ++ b)) h := by
  unfold Ok opAdd
  by_cases c : a.length + b.length ≤ sizeLine <;> simp [lstT, c]
theorem ok_dtF {ks : List (List Key)} {vs : List Dt} {k : Ah} {P : List (List Key) × List Dt → Ah → Prop} : Ok (dtF (.obj h.length)) (h ++ .dt ks vs :: k) P ↔ P (ks, vs) (h ++ .dead :: k) := by
  unfold Ok dtF
  simp
theorem ok_itVT {ma : En → Mm Dt} {L : List Dt → Ah → Prop} : Ok (itVT ma env) h L ↔ Ok (ma env) h fun d h1 => Ok (dtF d) h1 fun kv h2 => L kv.2 h2 := by simp [itVT]
end
theorem range_drop {n m : Nat} (h : m < n) : (List.range n).drop m = m :: (List.range n).drop (m + 1) := by
  rw [List.drop_eq_getElem_cons (by simpa using h)]
  simp
theorem lineB_not {W : List Nat} (h : ¬ pl (cyc W) W.length = (0, 0)) : lineB W = false := by simp [lineB, h]
theorem lineB_all {W : List Nat} (h : pl (cyc W) W.length = (0, 0)) : lineB W = (grpN (pl (cyc W)) W.length).all fun q => cond W q.2 := by simp [lineB, h]
theorem lawline_ok {W : List Nat} (hl : Ltrs W) (h0 : W ≠ []) (hn : W.length ≤ 900) : Gv (K51.f__law_is_line [.str (Tx W)]) (.bl (lineB W)) := gv_of fun h => by
  have sz := szl (show W.length ≤ 1000 by omega)
  rw [K51.f__law_is_line, ok_fnM]
  simp only [K51.m__law_is_line]
  simp [ok_callM, ok_mkO]
  refine (spots_ok hl hn h).mono fun d h1 ⟨e, j, e1⟩ => ?_
  subst e e1
  have pAt : ∀ k, lstAt (h ++ .lst (ptsD W W.length) :: j ++ k) h.length = some (ptsD W W.length) := fun k => lstAt_app lstAt_new k
  rw [ok_ixO, pAt]
  refine ⟨_, ptsD_last W W.length, szl (by omega), ?_⟩
  rw [show Dt.tup [.int 0, .int 0] = ptD (0, 0) from rfl, ok_nePt, ok_isB]
  by_cases cl : pl (cyc W) W.length = (0, 0)
  · rw [if_neg (by simp [cl])]
    refine ⟨sz, by omega, ?_⟩
    rw [rng_eq]
    refine forL_ind (fun ds env h' => ∃ (m : Nat) (k : Ah) (y : Option Dt), m ≤ W.length ∧ ds = ((List.range W.length).drop m).map (fun i => .int ((i : Nat) : Int)) ∧
      h' = (h ++ .lst (ptsD W W.length) :: j) ++ .dt ((grpN (pl (cyc W)) m).map fun q => kp q.1) ((grpN (pl (cyc W)) m).map fun q => Vl q.2) :: k ∧
      env = [some (.str (Tx W)), some (.obj h.length), some (.obj (h ++ .lst (ptsD W W.length) :: j).length), y, none, none]) ?_ ?_ _ _ _ ⟨0, [], none, Nat.zero_le _, by simp, by simp [grpN], rfl⟩
    · rintro x xs env h' ⟨m, k, y, hm, e, rfl, rfl⟩
      have c : m < W.length := by
        rcases Nat.lt_or_ge m W.length with c | c
        · exact c
        · rw [List.drop_eq_nil_of_le (by simpa using c)] at e; simp at e
      rw [range_drop c, List.map_cons] at e
      obtain ⟨rfl, rfl⟩ := List.cons.inj e
      generalize hH : h ++ .lst (ptsD W W.length) :: j = H1 at *
      refine ⟨[some (.str (Tx W)), some (.obj h.length), some (.obj H1.length), some (.int (m : Nat)), none, none], by simp [Pat.bd], ?_⟩
      have vg := val_grp (V := Vl) (F := fun z => (List.range m).filter fun i => decide (pl (cyc W) i = z)) (p := pl (cyc W) m) (grp_F (pl (cyc W)) m)
      have pg := put_grp (V := Vl) (F := fun z => (List.range m).filter fun i => decide (pl (cyc W) i = z)) (p := pl (cyc W) m) (i := m) (grp_F (pl (cyc W)) m)
      have ln := grp_len (pl (cyc W)) m
      have g1 : grpN (pl (cyc W)) (m + 1) = addG (grpN (pl (cyc W)) m) (pl (cyc W) m) m := rfl
      have fl : ((List.range m).filter fun i => decide (pl (cyc W) i = pl (cyc W) m)).length ≤ m := by
        have := List.length_filter_le (fun i => decide (pl (cyc W) i = pl (cyc W) m)) (List.range m)
        simpa using this
      generalize hF : (List.range m).filter (fun i => decide (pl (cyc W) i = pl (cyc W) m)) = Fp at *
      generalize hms : grpN (pl (cyc W)) m = ms at *
      have fin : ∀ l, l = (if pl (cyc W) m ∈ ms.map (·.1) then Fp else []) → Ok (lstE (argC (var 3) argN) [some (.str (Tx W)), some (.obj h.length), some (.obj H1.length), some (.int (m : Nat)), none, none]) (H1 ++ .dt (ms.map fun q => kp q.1) (ms.map fun q => Vl q.2) :: k) fun y h2 => Ok (opAdd (Vl l) y) h2 fun d h1 => Ok (gS (var 2) (op2 ixM (var 1) (var 3)) setD d [some (.str (Tx W)), some (.obj h.length), some (.obj H1.length), some (.int (m : Nat)), none, none]) h1 fun e h2 =>
          ∃ (m' : Nat) (k : Ah) (y : Option Dt), m' ≤ W.length ∧ ((List.range W.length).drop (m + 1)).map (fun i => Dt.int ((i : Nat) : Int)) = ((List.range W.length).drop m').map (fun i => .int ((i : Nat) : Int)) ∧
            h2 = H1 ++ .dt ((grpN (pl (cyc W)) m').map fun q => kp q.1) ((grpN (pl (cyc W)) m').map fun q => Vl q.2) :: k ∧ e = [some (.str (Tx W)), some (.obj h.length), some (.obj H1.length), y, none, none] := by
        intro l el
        have ll : l.length ≤ m := by rw [el]; split; exact fl; simp
        rw [ok_lstE, ok_argC, ok_pick (i := 3) (d := .int (m : Nat)) rfl, ok_argN]
        refine ⟨szl (by simp), ?_⟩
        show Ok (opAdd (.lv (l.map fun i => .int ((i : Nat) : Int))) (.lv [.int (m : Nat)])) _ _
        rw [ok_addLv]
        refine ⟨by rw [List.length_map]; exact szl (by simp; omega), ?_⟩
        rw [ok_gS, ok_pick (i := 2) (d := .obj H1.length) rfl, ok_op2, ok_pick (i := 1) (d := .obj h.length) rfl, ok_pick (i := 3) (d := .int (m : Nat)) rfl, ok_ixO, pAt]
        refine ⟨_, ptsD_at (Nat.le_of_lt c), ?_⟩
        rw [show (Dt.lv ((l.map fun i => .int ((i : Nat) : Int)) ++ [.int (m : Nat)])) = Vl (l ++ [m]) by simp [Vl], ok_setD (by simp; have := szl (show m + 2 ≤ 1000 by omega); omega), el, pg]
        exact ⟨m + 1, k, _, c, rfl, by rw [g1], rfl⟩
      rw [ok_asg, ok_op2, ok_get2, ok_pick (i := 2) (d := .obj H1.length) rfl]
      refine ⟨by rw [(dtR_at dictAt_new).1]; simp, ?_⟩
      rw [ok_op2, ok_pick (i := 1) (d := .obj h.length) rfl, ok_pick (i := 3) (d := .int (m : Nat)) rfl, ok_ixO, pAt]
      refine ⟨_, ptsD_at (Nat.le_of_lt c), ?_⟩
      rw [ok_lstE, ok_argN, getR_at dictAt_new, vg]
      refine ⟨szl (by simp), ?_⟩
      by_cases pin : pl (cyc W) m ∈ ms.map (·.1)
      · rw [if_pos pin]
        exact fin Fp (by rw [if_pos pin])
      · rw [if_neg pin]
        exact fin [] (by rw [if_neg pin])
    · rintro env h' ⟨m, k, y, hm, e, rfl, rfl⟩
      have : m = W.length := by
        rcases Nat.lt_or_ge m W.length with c | c
        · rw [range_drop c] at e; simp at e
        · omega
      subst this
      have mem : ∀ q ∈ grpN (pl (cyc W)) W.length, ∀ i ∈ q.2, i < W.length := fun q hq i hi => by
        rw [grp_F (pl (cyc W)) W.length q hq] at hi
        simp at hi
        exact hi.1
      have ll : ∀ q ∈ grpN (pl (cyc W)) W.length, q.2.length ≤ W.length := fun q hq => by
        rw [grp_F (pl (cyc W)) W.length q hq]
        have := List.length_filter_le (fun i => decide (pl (cyc W) i = q.1)) (List.range W.length)
        simpa using this
      dsimp only
      rw [ok_itVT, ok_pick (i := 2) (d := .obj (h ++ .lst (ptsD W W.length) :: j).length) rfl, ok_dtF]
      have lb := lineB_all cl
      generalize grpN (pl (cyc W)) W.length = ms at *
      refine forL_ind (fun ds env h' => ∃ (qs : List (Pt × List Nat)) (j' : Ah) (a b y3 y4 y5 : Option Dt), ds = qs.map (fun q => Vl q.2) ∧ (∀ q ∈ qs, ∀ i ∈ q.2, i < W.length) ∧ (∀ q ∈ qs, q.2.length ≤ W.length) ∧ lineB W = qs.all (fun q => cond W q.2) ∧ h' = h ++ j' ∧ env = [some (.str (Tx W)), a, b, y3, y4, y5]) ?_ ?_ _ _ _ ⟨ms, .lst (ptsD W W.length) :: j ++ .dead :: k, _, _, _, _, _, rfl, mem, ll, lb, by simp, rfl⟩
      · rintro x xs env h' ⟨qs, j', a, b, y3, y4, y5, e, hm, hq, hb, rfl, rfl⟩
        cases qs with
        | nil => simp at e
        | cons q qs =>
          obtain ⟨rfl, rfl⟩ := List.cons.inj e
          have hm1 := hm q (by simp)
          have hq1 := hq q (by simp)
          refine ⟨[some (.str (Tx W)), a, b, y3, some (Vl q.2), y5], by simp [Pat.bd], ?_⟩
          rw [ok_seq, ok_sto, ok_bi, ok_argC]
          refine ok_lcA q.2 (fun i => .int ((i : Nat) : Int)) (fun i => .bl (stB W i)) ?_
          rw [ok_itL, ok_pick (i := 4) (d := Vl q.2) rfl]
          show Ok (itemsL (.lv (q.2.map fun i => .int ((i : Nat) : Int)))) _ _
          rw [ok_itemsLv]
          refine ⟨rfl, szl (by omega), fun i hi => gv_of fun h => ?_, fun jj => ?_⟩
          · have lt := hm1 i hi
            rw [ok_op2, ok_op2, ok_pick (i := 0) (d := .str (Tx W)) rfl, ok_op2, ok_pick (i := 3) (d := .int (i : Nat)) rfl, ok_con, ok_subI, ok_ixS]
            refine ⟨_, at_prev lt, sz, ?_⟩
            rw [ok_op2, ok_pick (i := 0) (d := .str (Tx W)) rfl, ok_pick (i := 3) (d := .int (i : Nat)) rfl, ok_ixS]
            refine ⟨_, at_cyc lt, sz, ?_⟩
            rw [ok_eqS]
            refine ⟨?_, [], by simp⟩
            simp [stB]
          · rw [ok_argN, bAll_ok]
            show Ok (ifS _ (ret (con (.bl false))) nxt [some (.str (Tx W)), a, b, y3, some (Vl q.2), some (.bl (q.2.all (stB W)))]) _ _
            have fin : cond W q.2 = true → ∃ (qs' : List (Pt × List Nat)) (j'' : Ah) (a' b' y3' y4' y5' : Option Dt), qs.map (fun q => Vl q.2) = qs'.map (fun q => Vl q.2) ∧ (∀ q ∈ qs', ∀ i ∈ q.2, i < W.length) ∧ (∀ q ∈ qs', q.2.length ≤ W.length) ∧ lineB W = qs'.all (fun q => cond W q.2) ∧ h ++ j' ++ jj = h ++ j'' ∧ [some (.str (Tx W)), a, b, y3, some (Vl q.2), some (.bl (q.2.all (stB W)))] = [some (.str (Tx W)), a', b', y3', y4', y5'] := fun c =>
              ⟨qs, j' ++ jj, _, _, _, _, _, rfl, fun q m => hm q (by simp [m]), fun q m => hq q (by simp [m]), by rw [hb, List.all_cons, c, Bool.true_and], by simp, rfl⟩
            have bad : cond W q.2 = false → Dt.bl false = .bl (lineB W) ∧ ∃ j'', h ++ j' ++ jj = h ++ j'' := fun c => ⟨by rw [hb, List.all_cons, c, Bool.false_and], j' ++ jj, by simp⟩
            rw [ok_ifS, ok_orT, ok_tst, ok_op2, ok_bi, ok_argC, ok_pick (i := 4) (d := Vl q.2) rfl, ok_argN]
            show Ok (bLen [.lv (q.2.map fun i => .int ((i : Nat) : Int))]) _ _
            rw [ok_lenLv, ok_con, ok_gtI, ok_isB, List.length_map]
            by_cases l3 : (2 : Int) < (q.2.length : Nat)
            · rw [if_pos (by simpa using l3), if_pos rfl, ok_ret, ok_con]
              refine bad ?_
              match h2 : q.2 with
              | [] => rw [h2] at l3; simp at l3
              | [_] => rw [h2] at l3; simp at l3
              | [_, _] => rw [h2] at l3; simp at l3
              | _ :: _ :: _ :: _ => rfl
            · rw [if_neg (by simpa using l3), ok_andT, ok_tst, ok_op2, ok_bi, ok_argC, ok_pick (i := 4) (d := Vl q.2) rfl, ok_argN]
              show Ok (bLen [.lv (q.2.map fun i => .int ((i : Nat) : Int))]) _ _
              rw [ok_lenLv, ok_con, ok_eqI, ok_isB, List.length_map]
              by_cases l2 : q.2.length = 2
              · rw [if_pos (by simp [l2])]
                obtain ⟨u, v, e2⟩ : ∃ u v, q.2 = [u, v] := by
                  match h2 : q.2 with
                  | [] => rw [h2] at l2; simp at l2
                  | [_] => rw [h2] at l2; simp at l2
                  | [u, v] => exact ⟨u, v, rfl⟩
                  | _ :: _ :: _ :: _ => rw [h2] at l2; simp at l2
                have hu := hm1 u (by rw [e2]; simp)
                have hv := hm1 v (by rw [e2]; simp)
                have cd : cond W q.2 = (stB W u && stB W v && (lv (cyc W u) != lv (cyc W v))) := by rw [e2]; rfl
                have al : q.2.all (stB W) = (stB W u && stB W v) := by rw [e2]; simp
                rw [ok_notT, ok_andT, ok_tst, ok_pick (i := 5) (d := .bl (q.2.all (stB W))) rfl, ok_isB, al]
                rw [al] at fin
                by_cases st : (stB W u && stB W v) = true
                · rw [if_pos st, ok_tst, ok_op2, ok_op2, ok_op2, ok_pick (i := 0) (d := .str (Tx W)) rfl, ok_op2, ok_pick (i := 4) (d := Vl q.2) rfl, ok_con]
                  have v0 : atI (q.2.map fun i => Dt.int ((i : Nat) : Int)) 0 = some (.int (u : Nat)) := by rw [e2]; rfl
                  have v1 : atI (q.2.map fun i => Dt.int ((i : Nat) : Int)) 1 = some (.int (v : Nat)) := by rw [e2]; rfl
                  show Ok (ixM (.lv (q.2.map fun i => Dt.int ((i : Nat) : Int))) (.int 0)) _ _
                  rw [ok_ixLv]
                  refine ⟨_, v0, ?_⟩
                  rw [ok_ixS]
                  refine ⟨_, at_cyc hu, sz, ?_⟩
                  rw [ok_con, lit_ew, ok_inS, ok_op2, ok_op2, ok_pick (i := 0) (d := .str (Tx W)) rfl, ok_op2, ok_pick (i := 4) (d := Vl q.2) rfl, ok_con]
                  show Ok (ixM (.lv (q.2.map fun i => Dt.int ((i : Nat) : Int))) (.int 1)) _ _
                  rw [ok_ixLv]
                  refine ⟨_, v1, ?_⟩
                  rw [ok_ixS]
                  refine ⟨_, at_cyc hv, sz, ?_⟩
                  rw [ok_con, ok_inS, ok_neB, ok_isB, lv_mem, lv_mem]
                  by_cases ne : lv (cyc W u) = lv (cyc W v)
                  · rw [if_pos (by simp [ne]), ok_ret, ok_con]
                    exact bad (by rw [cd, ne]; simp)
                  · rw [if_neg (by simp [ne]), ok_nxt]
                    exact fin (by rw [cd, st]; simpa using ne)
                · rw [if_neg st, if_pos (by simp), ok_ret, ok_con]
                  refine bad ?_
                  rw [cd]
                  cases w : (stB W u && stB W v) with
                  | true => exact absurd w st
                  | false => rfl
              · rw [if_neg (by simp; omega), if_neg (by simp), ok_nxt]
                refine fin ?_
                match h2 : q.2 with
                | [] => rfl
                | [_] => rfl
                | [_, _] => rw [h2] at l2; simp at l2
                | _ :: _ :: _ :: _ => rw [h2] at l3; simp at l3; omega
      · rintro env h' ⟨qs, j', a, b, y3, y4, y5, e, hm, hq, hb, rfl, rfl⟩
        cases qs with
        | cons q qs => simp at e
        | nil => exact ⟨by rw [hb]; rfl, j', rfl⟩
  · rw [if_pos (by simp [cl])]
    exact ⟨lineB_not cl, _, by simp only [List.append_assoc]; rfl⟩
end Mo
set_option Elab.async false
set_option linter.all false
set_option maxRecDepth 100000
set_option maxHeartbeats 4000000
/-! PuC: the program's is_line. -/
namespace Mo
open PySem L2 TL
section
variable {U : Pt → Dt} {p : Pt}
theorem val_ad : ∀ {ms : List (Pt × List Nat)}, valG ((ms.map fun q => kp q.1).zip (ms.map fun q => U q.1)) (kp p) = if p ∈ ms.map (·.1) then some (U p) else none
  | [] => by simp [valG]
  | q :: ms => by
    have ih := val_ad (ms := ms)
    by_cases c : q.1 = p
    · simp [valG, c]
    · have c' : ¬ kp q.1 = kp p := fun z => c (kp_inj.mp z)
      have c2 : ¬ p = q.1 := fun z => c z.symm
      have e1 : valG (((q :: ms).map fun q => kp q.1).zip ((q :: ms).map fun q => U q.1)) (kp p) = valG ((ms.map fun q => kp q.1).zip (ms.map fun q => U q.1)) (kp p) := by simp [valG, c']
      rw [e1, ih]
      by_cases z : p ∈ ms.map (·.1)
      · rw [if_pos z, if_pos (by rw [List.map_cons]; exact List.mem_cons_of_mem _ z)]
      · rw [if_neg z, if_neg (by rw [List.map_cons, List.mem_cons]; exact fun w => w.elim c2 z)]
end
section
variable {h : Ah} {Q : Dt → Ah → Prop} {env : En} {r : Nat} {ma mb mc : En → Mm Dt}
theorem ok_lenO {xs : List Dt} (e : lstAt h r = some xs) : Ok (bLen [.obj r]) h Q ↔ Q (.int xs.length) h := by
  unfold lstAt at e
  cases q : h[r]? with
  | none => rw [q] at e; cases e
  | some o =>
    cases o with
    | lst ys => rw [q] at e; cases e; unfold Ok bLen; simp [seqR, tupR, lstR, lstT, q]
    | _ => rw [q] at e; cases e
theorem ok_gL {G : En → Ah → Prop} {n : Nat} {gs : List Dt → En → Mm En} {xs : List Dt} (e : lstAt h r = some xs) (hl : xs.length = n) : Ok (gL n gs (.obj r) env) h G ↔ Ok (gs xs env) h G := by
  unfold lstAt at e
  cases q : h[r]? with
  | none => rw [q] at e; cases e
  | some o =>
    cases o with
    | lst ys =>
      rw [q] at e; cases e
      have e2 : lstR h (.obj r) = some xs := by simp [lstR, lstT, q]
      unfold Ok gL
      simp only [e2, hl, if_true]
    | _ => rw [q] at e; cases e
theorem ok_setdM : Ok (setdM ma mb mc env) h Q ↔ Ok (ma env) h fun o h1 => Ok (dtO o) h1 fun _ h2 => Ok (mb env) h2 fun k h3 => Ok (mc env) h3 fun x h4 => Ok (setdR o k x) h4 Q := by simp [setdM]
theorem ok_dtO {ks : List (List Key)} {vs : List Dt} {k : Ah} {P : Unit → Ah → Prop} : Ok (dtO (.obj h.length)) (h ++ .dt ks vs :: k) P ↔ P () (h ++ .dt ks vs :: k) := by
  unfold Ok dtO
  simp
theorem ok_setdR {ks : List (List Key)} {vs : List Dt} {k : Ah} {p : Pt} {y : Dt} (hl : vs.length < sizeLine) : Ok (setdR (.obj h.length) (ptD p) y) (h ++ .dt ks vs :: k) Q ↔ match valG (ks.zip vs) (kp p) with
    | some z => Q z (h ++ .dt ks vs :: k)
    | none => Q y (h ++ .dt (putG ks vs (kp p) y).1 (putG ks vs (kp p) y).2 :: k) := by
  unfold Ok setdR
  simp only [List.getElem?_append_right (Nat.le_refl _), Nat.sub_self, List.getElem?_cons_zero, keyT_pt, hl, if_true]
  cases valG (ks.zip vs) (kp p) <;> simp
theorem ok_itEL {mr : En → Mm (List Dt)} {L : List Dt → Ah → Prop} : Ok (itEL mr env) h L ↔ Ok (mr env) h fun ds h1 => ∃ d, ds = [d] ∧ Ok (itemsL d) h1 fun xs h2 => L (enumD 0 xs) h2 := by
  simp only [itEL, ok_bind]
  refine ⟨fun o => o.mono fun ds h1 q => ?_, fun o => o.mono fun ds h1 q => ?_⟩
  · split at q
    · rw [ok_bind] at q; exact ⟨_, rfl, q⟩
    · exact q.elim
  · obtain ⟨d, rfl, q⟩ := q
    rw [ok_bind]
    exact q
theorem ok_slO {xs : List Dt} {lo hi : Option Int} (e : lstAt h r = some xs) : Ok (slD (.obj r) lo hi) h Q ↔ Q (.lv (cutD xs lo hi)) h := by
  unfold lstAt at e
  cases q : h[r]? with
  | none => rw [q] at e; cases e
  | some o =>
    cases o with
    | lst ys => rw [q] at e; cases e; unfold Ok slD; simp [lstR, lstT, q]
    | _ => rw [q] at e; cases e
end
theorem enum_map : ∀ (xs : List Dt) (k : Nat), enumD k xs = (xs.zipIdx k).map fun q => .tup [.int (q.2 : Nat), q.1]
  | [], _ => rfl
  | x :: xs, k => by
    rw [enumD, enum_map xs (k + 1)]
    rfl
theorem cut_last (W : List Nat) (n : Nat) : enumD 0 (cutD (ptsD W n) none (some (-1))) = (List.range n).map fun i => .tup [.int (i : Nat), ptD (pl (cyc W) i)] := by
  have e : cutD (ptsD W n) none (some (-1)) = (List.range n).map fun i => ptD (pl (cyc W) i) := by
    unfold cutD HT.sIx
    simp only [ptsD_len]
    rw [if_pos (by omega), show (-1 + ((n + 1 : Nat) : Int)).toNat = n by omega]
    simp only [List.drop_zero, Nat.sub_zero]
    unfold ptsD
    rw [← List.map_take, List.take_range, Nat.min_eq_left (by omega)]
  rw [e, enum_map]
  apply List.ext_getElem
  · simp
  · intro i h1 h2
    simp
theorem straight_ok {W : List Nat} {i : Nat} (hi : i < W.length) (hn : W.length ≤ 900) : Gv (K51.f_is_straight [.str (Tx W), .int (i : Nat)]) (.bl (stB W i)) := gv_of fun h => by
  have sz := szl (show W.length ≤ 1000 by omega)
  rw [K51.f_is_straight, ok_fnM]
  simp only [K51.m_is_straight]
  simp
  refine ⟨_, at_prev hi, sz, _, at_cyc hi, sz, ?_⟩
  simp [stB]

def nsD (l : List Nat) : List Dt := l.map fun i => .int ((i : Nat) : Int)
/-- the dict of places at H1.length, its lists behind it -/
structure Met (H1 : Ah) (ms : List (Pt × List Nat)) (h' : Ah) (ad : Pt → Nat) : Prop where
  hp : ∃ k, h' = H1 ++ .dt (ms.map fun q => kp q.1) (ms.map fun q => .obj (ad q.1)) :: k
  at_ : ∀ q ∈ ms, H1.length < ad q.1 ∧ lstAt h' (ad q.1) = some (nsD q.2)
  inj : ∀ q ∈ ms, ∀ q' ∈ ms, ad q.1 = ad q'.1 → q.1 = q'.1
theorem lstAt_ne {h : Ah} {r r' : Nat} {o : Ao} (ne : r' ≠ r) : lstAt (h.set r' o) r = lstAt h r := by
  unfold lstAt
  rw [List.getElem?_set_ne ne]
theorem set_behind {H k : List Ao} {o x : Ao} {r : Nat} (h : H.length < r) : (H ++ o :: k).set r x = H ++ o :: k.set (r - H.length - 1) x := by
  rw [List.set_append_right _ _ (by omega), show r - H.length = (r - H.length - 1) + 1 by omega, List.set_cons_succ]
  simp
theorem isline_step {H1 h' : Ah} {W : List Nat} {m : Nat} {ad : Pt → Nat} {env : En} {Q : Dt → Ah → Prop} (M : Met H1 (grpN (pl (cyc W)) m) h' ad) (hm : m < 900)
    (e2 : env[2]? = some (some (.obj H1.length))) (e3 : env[3]? = some (some (.int (m : Nat)))) (e4 : env[4]? = some (some (ptD (pl (cyc W) m))))
    (q : ∀ h2 ad2, Met H1 (grpN (pl (cyc W)) (m + 1)) h2 ad2 → Q .non h2) : Ok (bm isL mApp (setdM (var 2) (var 4) (lstO argN)) (argC (var 3) argN) env) h' Q := by
  obtain ⟨k, rfl⟩ := M.hp
  have F := grp_F (pl (cyc W)) m
  have ln := grp_len (pl (cyc W)) m
  have g1 : grpN (pl (cyc W)) (m + 1) = addG (grpN (pl (cyc W)) m) (pl (cyc W) m) m := rfl
  have at_ := M.at_
  have inj := M.inj
  rw [g1] at q
  generalize hms : grpN (pl (cyc W)) m = ms at *
  generalize hp : pl (cyc W) m = p at *
  rw [ok_bm, ok_setdM, ok_pick e2, ok_dtO, ok_pick e4, ok_lstO, ok_argN]
  refine ⟨szl (by simp), ?_⟩
  rw [show H1 ++ Ao.dt (ms.map fun q => kp q.1) (ms.map fun q => .obj (ad q.1)) :: k ++ [.lst []] = H1 ++ Ao.dt (ms.map fun q => kp q.1) (ms.map fun q => .obj (ad q.1)) :: (k ++ [.lst []]) by simp]
  rw [ok_setdR (by simp; have := szl (show m + 2 ≤ 1000 by omega); omega), val_ad (U := fun z => .obj (ad z))]
  by_cases pin : p ∈ ms.map (·.1)
  · rw [if_pos pin]
    obtain ⟨q0, hq0, eq0⟩ := List.mem_map.mp pin
    have eq0 : q0.1 = p := eq0
    obtain ⟨a1, a2⟩ := at_ q0 hq0
    rw [eq0] at a1 a2
    have a3 : lstAt (H1 ++ Ao.dt (ms.map fun q => kp q.1) (ms.map fun q => .obj (ad q.1)) :: (k ++ [.lst []])) (ad p) = some (nsD q0.2) := by
      have := lstAt_app a2 [.lst []]
      simpa using this
    dsimp only
    rw [ok_argC, ok_pick e3, ok_argN, ok_appO]
    refine ⟨isL_obj a3, nsD q0.2, a3, ?_, ?_⟩
    · have l := congrArg List.length (F q0 hq0)
      have := List.length_filter_le (fun i => decide (pl (cyc W) i = q0.1)) (List.range m)
      simp only [List.length_range] at this
      simp only [nsD, List.length_map, l]
      have := szl (show m + 2 ≤ 1000 by omega)
      omega
    · have same : ∀ q ∈ ms, q.1 = p → q.2 = q0.2 := fun q hq e => by rw [F q hq, F q0 hq0, e, eq0]
      refine q _ ad ⟨⟨(k ++ [Ao.lst []]).set (ad p - H1.length - 1) (Ao.lst (nsD q0.2 ++ [Dt.int (m : Nat)])), ?_⟩, fun q hq => ?_, fun q hq q' hq' e => ?_⟩
      · refine (set_behind a1).trans ?_
        unfold addG
        rw [if_pos pin]
        congr 2
        congr 1
        · rw [List.map_map]
          apply List.map_congr_left
          intro q hq
          simp only [Function.comp]
          split <;> rfl
        · rw [List.map_map]
          apply List.map_congr_left
          intro q hq
          simp only [Function.comp]
          split <;> rfl
      · unfold addG at hq
        rw [if_pos pin] at hq
        obtain ⟨q1, h1, e1⟩ := List.mem_map.mp hq
        by_cases c : q1.1 = p
        · rw [if_pos c] at e1
          subst e1
          dsimp only
          rw [c]
          refine ⟨a1, ?_⟩
          rw [lstAt_set (lstAt_lt a3), same q1 h1 c]
          simp [nsD]
        · rw [if_neg c] at e1
          subst e1
          obtain ⟨b1, b2⟩ := at_ q1 h1
          refine ⟨b1, ?_⟩
          rw [lstAt_ne (fun z => c (by have := inj q0 hq0 q1 h1 (by rw [eq0]; exact z); rw [← this, eq0]))]
          have := lstAt_app b2 [.lst []]
          simpa using this
      · have key : ∀ q, q ∈ addG ms p m → ∃ q1 ∈ ms, q1.1 = q.1 := fun q hq => by
          unfold addG at hq
          rw [if_pos pin] at hq
          obtain ⟨q1, h1, e1⟩ := List.mem_map.mp hq
          refine ⟨q1, h1, ?_⟩
          rw [← e1]
          split <;> rfl
        obtain ⟨q1, h1, e1⟩ := key q hq
        obtain ⟨q2, h2, e2⟩ := key q' hq'
        rw [← e1, ← e2]
        exact inj q1 h1 q2 h2 (by rw [e1, e2]; exact e)
  · rw [if_neg pin]
    have fl : (H1 ++ Ao.dt (ms.map fun q => kp q.1) (ms.map fun q => .obj (ad q.1)) :: k).length = H1.length + k.length + 1 := by simp; omega
    have pk : putG (ms.map fun q => kp q.1) (ms.map fun q => Dt.obj (ad q.1)) (kp p) (.obj (H1 ++ Ao.dt (ms.map fun q => kp q.1) (ms.map fun q => .obj (ad q.1)) :: k).length) = ((ms.map fun q => kp q.1) ++ [kp p], (ms.map fun q => Dt.obj (ad q.1)) ++ [.obj (H1.length + k.length + 1)]) := by
      unfold putG
      rw [if_neg (fun z => pin (mem_kp.mp z)), fl]
    dsimp only
    rw [pk, fl]
    dsimp only
    have r3 : lstAt (H1 ++ Ao.dt ((ms.map fun q => kp q.1) ++ [kp p]) ((ms.map fun q => Dt.obj (ad q.1)) ++ [.obj (H1.length + k.length + 1)]) :: (k ++ [.lst []])) (H1.length + k.length + 1) = some [] := by
      have := lstAt_new (h := H1 ++ Ao.dt ((ms.map fun q => kp q.1) ++ [kp p]) ((ms.map fun q => Dt.obj (ad q.1)) ++ [.obj (H1.length + k.length + 1)]) :: k) (xs := []) (j := [])
      rw [show (H1 ++ Ao.dt ((ms.map fun q => kp q.1) ++ [kp p]) ((ms.map fun q => Dt.obj (ad q.1)) ++ [.obj (H1.length + k.length + 1)]) :: k).length = H1.length + k.length + 1 by simp; omega] at this
      simpa using this
    rw [ok_argC, ok_pick e3, ok_argN, ok_appO]
    refine ⟨isL_obj r3, [], r3, by have := szl (show 1 ≤ 1000 by omega); simp only [List.length_nil]; omega, ?_⟩
    have old : ∀ q ∈ ms, ad q.1 < H1.length + k.length + 1 := fun q hq => by
      have := lstAt_lt (at_ q hq).2
      omega
    refine q _ (fun z => if z = p then H1.length + k.length + 1 else ad z) ⟨⟨k ++ [Ao.lst [Dt.int (m : Nat)]], ?_⟩, fun q hq => ?_, fun q hq q' hq' e => ?_⟩
    · refine (set_behind (by omega)).trans ?_
      rw [show H1.length + k.length + 1 - H1.length - 1 = k.length by omega]
      unfold addG
      rw [if_neg pin]
      congr 2
      · congr 1
        · simp
        · simp only [List.map_append, List.map_cons, List.map_nil, if_true]
          congr 1
          apply List.map_congr_left
          intro q hq
          rw [if_neg (fun z => pin (List.mem_map.mpr ⟨q, hq, z⟩))]
      · simp
    · unfold addG at hq
      rw [if_neg pin] at hq
      rcases List.mem_append.mp hq with c | c
      · have ne : ¬ q.1 = p := fun z => pin (List.mem_map.mpr ⟨q, c, z⟩)
        obtain ⟨b1, b2⟩ := at_ q c
        have o := old q c
        rw [if_neg ne]
        refine ⟨b1, ?_⟩
        rw [lstAt_ne (by omega)]
        have b3 : lstAt (H1 ++ Ao.dt (ms.map fun q => kp q.1) (ms.map fun q => .obj (ad q.1)) :: (k ++ [.lst []])) (ad q.1) = some (nsD q.2) := by
          have := lstAt_app b2 [.lst []]
          simpa using this
        unfold lstAt at b3 ⊢
        rw [List.getElem?_append_right (by omega), show ad q.1 - H1.length = (ad q.1 - H1.length - 1) + 1 by omega, List.getElem?_cons_succ] at b3 ⊢
        exact b3
      · have : q = (p, [m]) := by simpa using c
        subst this
        simp only [if_true]
        refine ⟨by omega, ?_⟩
        rw [lstAt_set (lstAt_lt r3)]
        simp [nsD]
    · have key : ∀ q, q ∈ addG ms p m → q.1 = p ∨ (q.1 ≠ p ∧ ∃ q1 ∈ ms, q1.1 = q.1) := fun q hq => by
        unfold addG at hq
        rw [if_neg pin] at hq
        rcases List.mem_append.mp hq with c | c
        · exact .inr ⟨fun z => pin (List.mem_map.mpr ⟨q, c, z⟩), q, c, rfl⟩
        · have : q = (p, [m]) := by simpa using c
          exact .inl (by rw [this])
      rcases key q hq with c | ⟨c, q1, h1, e1⟩ <;> rcases key q' hq' with c' | ⟨c', q2, h2, e2⟩
      · rw [c, c']
      · simp only [c, if_true, if_neg c'] at e
        have := old q2 h2
        rw [e2] at this
        omega
      · simp only [c', if_true, if_neg c] at e
        have := old q1 h1
        rw [e1] at this
        omega
      · simp only [if_neg c, if_neg c'] at e
        rw [← e1, ← e2]
        exact inj q1 h1 q2 h2 (by rw [e1, e2]; exact e)
end Mo
set_option Elab.async false
set_option linter.all false
set_option maxRecDepth 100000
set_option maxHeartbeats 4000000
/-! PuD: the program's is_line is the check. -/
namespace Mo
open PySem L2 TL
theorem isline_ok {W : List Nat} (hl : Ltrs W) (h0 : W ≠ []) (hn : W.length ≤ 899) : Gv (K51.f_is_line [.str (Tx W)]) (.bl (lineB W)) := gv_of fun h => by
  have sz := szl (show W.length ≤ 1000 by omega)
  rw [K51.f_is_line, ok_fnM]
  simp only [K51.m_is_line]
  simp [ok_mkO, ok_callM, ok_itEL]
  refine (places_ok hl (by omega) h).mono fun d h1 ⟨e, j, e1⟩ => ?_
  subst e e1
  have pAt : ∀ k, lstAt (h ++ .lst (ptsD W W.length) :: j ++ k) h.length = some (ptsD W W.length) := fun k => lstAt_app lstAt_new k
  rw [ok_ixO, pAt]
  refine ⟨_, ptsD_last W W.length, szl (by omega), ?_⟩
  rw [show Dt.tup [.int 0, .int 0] = ptD (0, 0) from rfl, ok_nePt, ok_isB]
  by_cases cl : pl (cyc W) W.length = (0, 0)
  · rw [if_neg (by simp [cl]), ok_slO (pAt _), ok_itemsLv, cut_last]
    generalize hH : h ++ .lst (ptsD W W.length) :: j = H1 at *
    refine forL_ind (fun ds env h' => ∃ (m : Nat) (ad : Pt → Nat) (y z : Option Dt), m ≤ W.length ∧ ds = ((List.range W.length).drop m).map (fun i => .tup [.int ((i : Nat) : Int), ptD (pl (cyc W) i)]) ∧
      Met H1 (grpN (pl (cyc W)) m) h' ad ∧ env = [some (.str (Tx W)), some (.obj h.length), some (.obj H1.length), y, z, none, none, none]) ?_ ?_ _ _ _ ⟨0, fun _ => 0, none, none, Nat.zero_le _, by simp, ⟨⟨[], by simp [grpN]⟩, by simp [grpN], by simp [grpN]⟩, rfl⟩
    · rintro x xs env h' ⟨m, ad, y, z, hm, e, M, rfl⟩
      have c : m < W.length := by
        rcases Nat.lt_or_ge m W.length with c | c
        · exact c
        · rw [List.drop_eq_nil_of_le (by simpa using c)] at e; simp at e
      rw [range_drop c, List.map_cons] at e
      obtain ⟨rfl, rfl⟩ := List.cons.inj e
      refine ⟨[some (.str (Tx W)), some (.obj h.length), some (.obj H1.length), some (.int (m : Nat)), some (ptD (pl (cyc W) m)), none, none, none], by simp [Pat.bd, Pat.bds], ?_⟩
      rw [ok_drp]
      refine isline_step M (by omega) rfl rfl rfl fun h2 ad2 M2 => ?_
      exact ⟨m + 1, ad2, _, _, c, rfl, M2, rfl⟩
    · rintro env h' ⟨m, ad, y, z, hm, e, M, rfl⟩
      have : m = W.length := by
        rcases Nat.lt_or_ge m W.length with c | c
        · rw [range_drop c] at e; simp at e
        · omega
      subst this
      have mem : ∀ q ∈ grpN (pl (cyc W)) W.length, ∀ i ∈ q.2, i < W.length := fun q hq i hi => by
        rw [grp_F (pl (cyc W)) W.length q hq] at hi
        simp at hi
        exact hi.1
      have lb := lineB_all cl
      obtain ⟨k, rfl⟩ := M.hp
      have at_ := M.at_
      generalize grpN (pl (cyc W)) W.length = ms at *
      dsimp only
      rw [ok_itVT, ok_pick (i := 2) (d := .obj H1.length) rfl, ok_dtF]
      have at2 : ∀ q ∈ ms, lstAt (H1 ++ Ao.dead :: k) (ad q.1) = some (nsD q.2) := fun q hq => by
        obtain ⟨b1, b2⟩ := at_ q hq
        unfold lstAt at b2 ⊢
        rw [List.getElem?_append_right (by omega), show ad q.1 - H1.length = (ad q.1 - H1.length - 1) + 1 by omega, List.getElem?_cons_succ] at b2 ⊢
        exact b2
      refine forL_ind (fun ds env h' => ∃ (qs : List (Pt × List Nat)) (j' : Ah) (a b y3 y4 y5 y6 y7 : Option Dt), ds = qs.map (fun q => .obj (ad q.1)) ∧ (∀ q ∈ qs, ∀ i ∈ q.2, i < W.length) ∧ (∀ q ∈ qs, lstAt h' (ad q.1) = some (nsD q.2)) ∧ lineB W = qs.all (fun q => cond W q.2) ∧ h' = h ++ j' ∧ env = [some (.str (Tx W)), a, b, y3, y4, y5, y6, y7]) ?_ ?_ _ _ _ ⟨ms, .lst (ptsD W W.length) :: j ++ .dead :: k, _, _, _, _, _, _, _, rfl, mem, at2, lb, by rw [← hH]; simp, rfl⟩
      · rintro x xs env h' ⟨qs, j', a, b, y3, y4, y5, y6, y7, e, hm, hq, hb, rfl, rfl⟩
        cases qs with
        | nil => simp at e
        | cons q qs =>
          obtain ⟨rfl, rfl⟩ := List.cons.inj e
          have hm1 := hm q (by simp)
          have hq1 := hq q (by simp)
          refine ⟨[some (.str (Tx W)), a, b, y3, y4, some (.obj (ad q.1)), y6, y7], by simp [Pat.bd], ?_⟩
          have fin : ∀ (jj : Ah) (z6 z7 : Option Dt), cond W q.2 = true → ∃ (qs' : List (Pt × List Nat)) (j'' : Ah) (a' b' y3' y4' y5' y6' y7' : Option Dt), qs.map (fun q => Dt.obj (ad q.1)) = qs'.map (fun q => .obj (ad q.1)) ∧ (∀ q ∈ qs', ∀ i ∈ q.2, i < W.length) ∧ (∀ q ∈ qs', lstAt (h ++ j' ++ jj) (ad q.1) = some (nsD q.2)) ∧ lineB W = qs'.all (fun q => cond W q.2) ∧ h ++ j' ++ jj = h ++ j'' ∧ [some (.str (Tx W)), a, b, y3, y4, some (.obj (ad q.1)), z6, z7] = [some (.str (Tx W)), a', b', y3', y4', y5', y6', y7'] := fun jj z6 z7 c =>
            ⟨qs, j' ++ jj, _, _, _, _, _, _, _, rfl, fun q m => hm q (by simp [m]), fun q m => lstAt_app (hq q (by simp [m])) jj, by rw [hb, List.all_cons, c, Bool.true_and], by simp, rfl⟩
          have bad : ∀ jj : Ah, cond W q.2 = false → Dt.bl false = .bl (lineB W) ∧ ∃ j'', h ++ j' ++ jj = h ++ j'' := fun jj c => ⟨by rw [hb, List.all_cons, c, Bool.false_and], j' ++ jj, by simp⟩
          have ln : (nsD q.2).length = q.2.length := by simp [nsD]
          rw [ok_seq, ok_ifS, ok_tst, ok_op2, ok_bi, ok_argC, ok_pick (i := 5) (d := .obj (ad q.1)) rfl, ok_argN, ok_lenO hq1, ok_con, ok_gtI, ok_isB, ln]
          by_cases l3 : (2 : Int) < (q.2.length : Nat)
          · rw [if_pos (by simpa using l3), ok_ret, ok_con]
            have := bad [] (by
              match h2 : q.2 with
              | [] => rw [h2] at l3; simp at l3
              | [_] => rw [h2] at l3; simp at l3
              | [_, _] => rw [h2] at l3; simp at l3
              | _ :: _ :: _ :: _ => rfl)
            simpa using this
          · rw [if_neg (by simpa using l3), ok_nxt]
            dsimp only
            rw [ok_ifS, ok_tst, ok_op2, ok_bi, ok_argC, ok_pick (i := 5) (d := .obj (ad q.1)) rfl, ok_argN, ok_lenO hq1, ok_con, ok_eqI, ok_isB, ln]
            by_cases l2 : q.2.length = 2
            · rw [if_pos (by simp [l2])]
              obtain ⟨u, v, e2⟩ : ∃ u v, q.2 = [u, v] := by
                match h2 : q.2 with
                | [] => rw [h2] at l2; simp at l2
                | [_] => rw [h2] at l2; simp at l2
                | [u, v] => exact ⟨u, v, rfl⟩
                | _ :: _ :: _ :: _ => rw [h2] at l2; simp at l2
              have hu := hm1 u (by rw [e2]; simp)
              have hv := hm1 v (by rw [e2]; simp)
              have cd : cond W q.2 = (stB W u && stB W v && (lv (cyc W u) != lv (cyc W v))) := by rw [e2]; rfl
              rw [ok_seq, ok_asg, ok_pick (i := 5) (d := .obj (ad q.1)) rfl, ok_gL hq1 (by rw [ln, l2]), e2]
              show Ok (gsC _ _ (Dt.int (u : Nat) :: [Dt.int (v : Nat)]) _) _ _
              rw [ok_gsC, ok_gN, ok_gsC, ok_gN, ok_gsN]
              show Ok (seq _ _ [some (.str (Tx W)), a, b, y3, y4, some (.obj (ad q.1)), some (.int (u : Nat)), some (.int (v : Nat))]) _ _
              rw [ok_seq, ok_ifS, ok_orT, ok_notT, ok_tst, ok_callM, ok_argC, ok_pick (i := 0) (d := .str (Tx W)) rfl, ok_argC, ok_pick (i := 6) (d := .int (u : Nat)) rfl, ok_argN]
              refine ⟨rfl, gv_fn (straight_ok hu (by omega)) fun j1 => ?_⟩
              rw [ok_isB]
              by_cases su : stB W u = true
              · rw [if_neg (by simp [su]), ok_notT, ok_tst, ok_callM, ok_argC, ok_pick (i := 0) (d := .str (Tx W)) rfl, ok_argC, ok_pick (i := 7) (d := .int (v : Nat)) rfl, ok_argN]
                refine ⟨rfl, gv_fn (straight_ok hv (by omega)) fun j2 => ?_⟩
                rw [ok_isB]
                by_cases sv : stB W v = true
                · rw [if_neg (by simp [sv]), ok_nxt]
                  dsimp only
                  rw [ok_ifS, ok_tst, ok_op2, ok_op2, ok_op2, ok_pick (i := 0) (d := .str (Tx W)) rfl, ok_pick (i := 6) (d := .int (u : Nat)) rfl, ok_ixS]
                  refine ⟨_, at_cyc hu, sz, ?_⟩
                  rw [ok_con, lit_ew, ok_inS, ok_op2, ok_op2, ok_pick (i := 0) (d := .str (Tx W)) rfl, ok_pick (i := 7) (d := .int (v : Nat)) rfl, ok_ixS]
                  refine ⟨_, at_cyc hv, sz, ?_⟩
                  rw [ok_con, ok_inS, ok_eqB, ok_isB, lv_mem, lv_mem]
                  by_cases ne : lv (cyc W u) = lv (cyc W v)
                  · rw [if_pos (by simp [ne]), ok_ret, ok_con]
                    have := bad (j1 ++ j2) (by rw [cd, ne]; simp)
                    simpa using this
                  · rw [if_neg (by simp [ne]), ok_nxt]
                    have := fin (j1 ++ j2) (some (.int (u : Nat))) (some (.int (v : Nat))) (by rw [cd, su, sv]; simpa using ne)
                    rw [List.append_assoc (h ++ j')]
                    exact this
                · rw [if_pos (by simp [sv]), ok_ret, ok_con]
                  have := bad (j1 ++ j2) (by rw [cd]; simp [sv])
                  simpa using this
              · rw [if_pos (by simp [su]), if_pos rfl, ok_ret, ok_con]
                have := bad j1 (by rw [cd]; simp [su])
                simpa using this
            · rw [if_neg (by simp; omega), ok_nxt]
              have := fin [] y6 y7 (by
                match h2 : q.2 with
                | [] => rfl
                | [_] => rfl
                | [_, _] => rw [h2] at l2; simp at l2
                | _ :: _ :: _ :: _ => rw [h2] at l3; simp at l3; omega)
              simpa using this
      · rintro env h' ⟨qs, j', a, b, y3, y4, y5, y6, y7, e, hm, hq, hb, rfl, rfl⟩
        cases qs with
        | cons q qs => simp at e
        | nil => exact ⟨by rw [hb]; rfl, j', rfl⟩
  · rw [if_pos (by simp [cl])]
    exact ⟨lineB_not cl, _, by simp only [List.append_assoc]; rfl⟩
end Mo
set_option Elab.async false
set_option linter.all false
set_option maxRecDepth 100000
set_option maxHeartbeats 4000000
/-! PuE: begun at a bend; turns. -/
namespace Mo
open PySem L2 TL
theorem Line.bend {W : List Nat} (L : Line W) : ∃ i, i < W.length ∧ stB W i = false := by
  refine Classical.byContradiction fun no => ?_
  have all : ∀ i, i < W.length → cyc W (i + W.length - 1) = cyc W i := fun i hi => by
    refine Classical.byContradiction fun z => no ⟨i, hi, by simp [stB, z]⟩
  have p := L.pos
  have const : ∀ i, i < W.length → cyc W i = cyc W 0 := by
    intro i
    induction i with
    | zero => intro _; rfl
    | succ i ih =>
      intro hi
      have := all (i + 1) hi
      rw [show i + 1 + W.length - 1 = i + W.length by omega, cyc_per] at this
      rw [← this]
      exact ih (by omega)
  have run : ∀ i, i ≤ W.length → pl (cyc W) i = ((i : Int) * (dx (cyc W 0)).1, (i : Int) * (dx (cyc W 0)).2) := by
    intro i
    induction i with
    | zero => intro _; simp [pl]
    | succ i ih =>
      intro hi
      rw [pl, ih (by omega), const i (by omega)]
      ext
      · simp only; rw [show ((i + 1 : Nat) : Int) = (i : Int) + 1 by omega, Int.add_mul]; omega
      · simp only; rw [show ((i + 1 : Nat) : Int) = (i : Int) + 1 by omega, Int.add_mul]; omega
  have e := run W.length (Nat.le_refl _)
  rw [LineG.end_ L] at e
  have e1 := congrArg Prod.fst e
  have e2 := congrArg Prod.snd e
  rcases LineG.ltr L 0 with c | c | c | c <;> rw [c] at e1 e2 <;> simp [dx] at e1 e2 <;> omega
theorem begun_ok {W : List Nat} (L : Line W) (hn : W.length ≤ 900) (k : Nat) : ∃ W', Line W' ∧ W'.length = W.length ∧ stB W' 0 = false ∧ Gv (K51.f__law_begun [.str (Tx W), .int (k : Int)]) (.str (Tx W')) := by
  have sz := szl (show W.length ≤ 1000 by omega)
  have p := L.pos
  generalize hs : (List.range W.length).filter (fun i => !stB W i) = sp
  have ms : ∀ i ∈ sp, i < W.length ∧ stB W i = false := fun i hi => by rw [← hs] at hi; simpa using hi
  have pos : 0 < sp.length := by
    obtain ⟨i, hi, hb⟩ := L.bend
    have : i ∈ sp := by rw [← hs]; simp [hi, hb]
    exact List.length_pos_of_mem this
  have km : k % sp.length < sp.length := Nat.mod_lt _ pos
  obtain ⟨ha, hb⟩ := ms (sp[k % sp.length]) (List.getElem_mem km)
  generalize hat : sp[k % sp.length] = at_ at *
  have Lr := L.rot (k := at_) (Nat.le_of_lt ha)
  have ln : (W.drop at_ ++ W.take at_).length = W.length := by simp; omega
  refine ⟨W.drop at_ ++ W.take at_, Lr, ln, ?_, gv_of fun h => ?_⟩
  · unfold stB at hb ⊢
    rw [ln, cyc_rot p (Nat.le_of_lt ha)]
    simp only [Nat.zero_add, Nat.add_zero]
    rw [show at_ + (W.length - 1) = at_ + W.length - 1 by omega]
    exact hb
  · rw [K51.f__law_begun, ok_fnM]
    simp only [K51.m__law_begun]
    simp
    refine ok_lcM (List.range W.length) (fun i => .int ((i : Nat) : Int)) (fun i => !stB W i) (fun i => .int ((i : Nat) : Int)) ?_
    simp [sz, rng_eq]
    refine ⟨by omega, fun i hi => ⟨gv_of fun h => ?_, fun _ => gv_of fun h => ?_⟩, fun j => ?_⟩
    · simp [wipeE]
      refine ⟨_, at_prev hi, sz, _, at_cyc hi, sz, ?_⟩
      simp [stB]
    · simp [wipeE]
    · rw [hs]
      refine ⟨L.bend, ?_⟩
      have e1 : ((k : Int) % (sp.length : Int)) = ((k % sp.length : Nat) : Int) := by omega
      rw [e1]
      refine ⟨_, by rw [atI_nat (by simpa using km)], ?_⟩
      simp [hat]
      rw [cut_from, cut_to]
      simp [sz]
      exact szl (by omega)
end Mo
set_option Elab.async false
set_option linter.all false
set_option maxRecDepth 100000
set_option maxHeartbeats 4000000
/-! PuF: drawn lines. -/
namespace Mo
open PySem L2 TL
def roundP (c : Nat) : List Nat := if c = 101 then [115, 101, 110] else if c = 110 then [101, 110, 119] else if c = 119 then [110, 119, 115] else [119, 115, 101]
theorem round_ltrs {c : Nat} (h : Ltr c) : Ltrs (roundP c) := by
  rcases h with rfl | rfl | rfl | rfl <;> intro d hd <;> simp [roundP] at hd <;> rcases hd with rfl | rfl | rfl <;> simp [Ltr]
theorem round_len (c : Nat) : (roundP c).length = 3 := by
  unfold roundP
  split
  · rfl
  · split
    · rfl
    · split <;> rfl
theorem lit_sen : (Str.ofString "sen") = Tx [115, 101, 110] := by decide +kernel
theorem lit_enw : (Str.ofString "enw") = Tx [101, 110, 119] := by decide +kernel
theorem lit_nws : (Str.ofString "nws") = Tx [110, 119, 115] := by decide +kernel
theorem lit_wse : (Str.ofString "wse") = Tx [119, 115, 101] := by decide +kernel
def rdD : Dt := .dk [.inr (Tx [101]), .inr (Tx [110]), .inr (Tx [119]), .inr (Tx [115])] [.str (Tx [115, 101, 110]), .str (Tx [101, 110, 119]), .str (Tx [110, 119, 115]), .str (Tx [119, 115, 101])]
theorem ok_dispR {h : Ah} {Q : Dt → Ah → Prop} {env : En} : Ok (dispM [((con (.str (Str.ofString "e"))), (con (.str (Str.ofString "sen")))), ((con (.str (Str.ofString "n"))), (con (.str (Str.ofString "enw")))), ((con (.str (Str.ofString "w"))), (con (.str (Str.ofString "nws")))), ((con (.str (Str.ofString "s"))), (con (.str (Str.ofString "wse"))))] env) h Q ↔ Q rdD (h ++ [.dead]) := by
  show Ok (newO (.dk [] []) >>= fun n => pairsM _ env >>= fun ps => finD n ps) h Q ↔ _
  simp only [ok_bind, ok_newO, ok_pairs, ok_pairs0, ok_con, lit_e, lit_n, lit_w, lit_s, lit_sen, lit_enw, lit_nws, lit_wse]
  exact ok_finD (ks := [.inr (Tx [101]), .inr (Tx [110]), .inr (Tx [119]), .inr (Tx [115])]) rfl (by decide) (by decide)
theorem ok_ixR {h : Ah} {Q : Dt → Ah → Prop} {c : Nat} (hc : Ltr c) : Ok (ixD rdD (.str (Tx [c]))) h Q ↔ Q (.str (Tx (roundP c))) h := by
  have e : getR h rdD (.str (Tx [c])) = some (some (.str (Tx (roundP c)))) := by rcases hc with rfl | rfl | rfl | rfl <;> rfl
  unfold Ok ixD
  rw [e]
theorem join_map {h : Ah} {Q : Dt → Ah → Prop} {f : Nat → Nat} {l : List Nat} (hl : l.length ≤ 1000) : Ok (mJoin (.str (Tx [])) [.lv (l.reverse.map fun c => .str (Tx [f c]))]) h Q ↔ Q (.str (Tx (l.map f).reverse)) h := by
  rw [ok_join1 f (by simp; omega), List.map_reverse]
theorem mem_take {l : List Nat} {n c : Nat} (h : c ∈ l.take n) : c ∈ l := List.mem_of_mem_take h
theorem drawn_ok {h : Ah} {r n : Nat} (R : Reel h r n) (hn : n < 2 ^ 40) : Ok (K51.f__law_drawn [.obj r, .int 9]) h fun d h' => ∃ W, d = .str (Tx W) ∧ Line W ∧ (4 ≤ W.length ∧ W.length < 100) ∧ stB W 0 = false ∧ Reel h' r (n + 30) := by
  rw [K51.f__law_drawn, ok_fnM]
  simp only [K51.m__law_drawn]
  simp only [List.map_cons, List.map_nil, List.length_cons, List.length_nil, List.replicate, List.cons_append, List.nil_append]
  rw [ok_seq, ok_sto, ok_callM, ok_argC, ok_pick (i := 0) (d := .obj r) rfl, ok_argN]
  refine ⟨rfl, (base_ok R (by omega)).mono fun d h1 ⟨W, hW, e, R1⟩ => ?_⟩
  subst e
  obtain ⟨LW, lW'⟩ := bases_good W hW
  have lW : 4 ≤ W.length ∧ W.length < 100 := ⟨bases_len W hW, lW'⟩
  show Ok (seq _ _ [some (.obj r), some (.int 9), some (.str (Tx W)), none, none, none, none, none]) _ _
  rw [ok_seq, ok_forM, ok_itR1, ok_argC, ok_callM, ok_argC, ok_pick (i := 0) (d := .obj r) rfl, ok_argC, ok_pick (i := 1) (d := .int 9) rfl, ok_argN]
  refine ⟨rfl, call_roll R1 (by decide) (by decide) (by omega) fun k h2 k1 R2 => ?_⟩
  rw [ok_argN]
  refine ⟨_, rfl, ⟨by omega, by omega⟩, ?_⟩
  rw [Int.toNat_natCast, rng_eq]
  refine forL_ind (fun ds env h' => ∃ (W : List Nat) (y3 y4 y5 y6 y7 : Option Dt) (m : Nat), Line W ∧ (4 ≤ W.length ∧ W.length < 100) ∧ ds.length + m ≤ 9 ∧ Reel h' r (n + 6 + m) ∧ env = [some (.obj r), some (.int 9), some (.str (Tx W)), y3, y4, y5, y6, y7]) ?_ ?_ _ _ _ ⟨W, none, none, none, none, none, 0, LW, lW, by simp; omega, R2.mono (by omega), rfl⟩
  · rintro x xs env h' ⟨W, y3, y4, y5, y6, y7, m, LW, lW, hm, R3, rfl⟩
    have p := LW.pos
    have sz := szl (show W.length ≤ 1000 by omega)
    refine ⟨[some (.obj r), some (.int 9), some (.str (Tx W)), some x, y4, y5, y6, y7], by simp [Pat.bd], ?_⟩
    simp only [List.length_cons] at hm
    rw [ok_seq, ok_sto, ok_callM, ok_argC, ok_pick (i := 0) (d := .obj r) rfl, ok_argC, ok_bi, ok_argC, ok_pick (i := 2) (d := .str (Tx W)) rfl, ok_argN, ok_lenS]
    refine ⟨sz, ?_⟩
    rw [ok_argN]
    refine ⟨rfl, call_roll R3 (by omega) (by omega) (by omega) fun a h4 a1 R4 => ?_⟩
    have ha : a < W.length := by omega
    have lt := LW.ltrs _ (cyc_mem p a)
    show Ok (seq _ _ [some (.obj r), some (.int 9), some (.str (Tx W)), some x, some (.int (a : Int)), y5, y6, y7]) _ _
    rw [ok_seq, ok_sto, ok_op2, ok_dispR, ok_op2, ok_pick (i := 2) (d := .str (Tx W)) rfl, ok_pick (i := 4) (d := .int (a : Int)) rfl, ok_ixS]
    refine ⟨_, at_cyc ha, sz, ?_⟩
    rw [ok_ixR lt]
    show Ok (seq _ _ [some (.obj r), some (.int 9), some (.str (Tx W)), some x, some (.int (a : Int)), some (.str (Tx (roundP (cyc W a)))), y6, y7]) _ _
    rw [ok_seq, ok_sto, ok_op2, ok_op2, ok_slc, ok_pick (i := 2) (d := .str (Tx W)) rfl, ok_opN, ok_opS, ok_pick (i := 4) (d := .int (a : Int)) rfl, ok_isI, ok_slS]
    refine ⟨sz, ?_⟩
    have l3 := round_len (cyc W a)
    rw [cut_to, ok_pick (i := 5) (d := .str (Tx (roundP (cyc W a)))) rfl, ok_addS]
    refine ⟨szl (by rw [l3, List.length_take]; omega), ?_⟩
    rw [ok_slc, ok_pick (i := 2) (d := .str (Tx W)) rfl, ok_opS, ok_op2, ok_pick (i := 4) (d := .int (a : Int)) rfl, ok_con, ok_addI, ok_isI, ok_opN, ok_slS]
    refine ⟨sz, ?_⟩
    rw [show (a : Int) + 1 = ((a + 1 : Nat) : Int) by omega, cut_from, ok_addS]
    generalize hV : W.take a ++ roundP (cyc W a) ++ W.drop (a + 1) = V
    have lV : V.length ≤ W.length + 3 := by rw [← hV]; simp [l3]; omega
    have lV4 : 4 ≤ V.length := by rw [← hV]; simp [l3]; omega
    have ltV : Ltrs V := fun c m => by
      rw [← hV] at m
      rcases List.mem_append.mp m with m | m
      · rcases List.mem_append.mp m with m | m
        · exact LW.ltrs c (List.mem_of_mem_take m)
        · exact round_ltrs lt c m
      · exact LW.ltrs c (List.mem_of_mem_drop m)
    have neV : V ≠ [] := fun e => by
      have := congrArg List.length hV
      rw [e] at this
      simp [l3] at this
    refine ⟨szl (by have := congrArg List.length hV; rw [List.length_append] at this; omega), ?_⟩
    show Ok (sto 2 _ [some (.obj r), some (.int 9), some (.str (Tx W)), some x, some (.int (a : Int)), some (.str (Tx (roundP (cyc W a)))), some (.str (Tx V)), y7]) _ _
    rw [ok_sto, ok_ifE, ok_andT, ok_tst, ok_op2, ok_bi, ok_argC, ok_pick (i := 6) (d := .str (Tx V)) rfl, ok_argN, ok_lenS]
    refine ⟨szl (by omega), ?_⟩
    rw [ok_con, ok_ltI, ok_isB]
    by_cases c1 : (V.length : Int) < 100
    · rw [if_pos (by simpa using c1), ok_tst, ok_callM, ok_argC, ok_pick (i := 6) (d := .str (Tx V)) rfl, ok_argN]
      refine ⟨rfl, gv_fn (lawline_ok ltV neV (by omega)) fun j => ?_⟩
      rw [ok_isB]
      by_cases c2 : lineB V = true
      · rw [if_pos c2, ok_pick (i := 6) (d := .str (Tx V)) rfl]
        exact ⟨V, _, _, _, _, _, m + 1, (lineB_iff neV ltV).mp c2, ⟨lV4, by omega⟩, by omega, ((R4.app [.dead]).app j).mono (by omega), rfl⟩
      · rw [if_neg c2, ok_pick (i := 2) (d := .str (Tx W)) rfl]
        exact ⟨W, _, _, _, _, _, m + 1, LW, lW, by omega, ((R4.app [.dead]).app j).mono (by omega), rfl⟩
    · rw [if_neg (by simpa using c1), if_neg (by simp), ok_pick (i := 2) (d := .str (Tx W)) rfl]
      exact ⟨W, _, _, _, _, _, m + 1, LW, lW, by omega, (R4.app [.dead]).mono (by omega), rfl⟩
  · rintro env h' ⟨W, y3, y4, y5, y6, y7, m, LW, lW, hm, R3, rfl⟩
    simp only [List.length_nil, Nat.zero_add] at hm
    dsimp only
    rw [ok_seq, ok_forM, ok_itR1, ok_argC, ok_callM, ok_argC, ok_pick (i := 0) (d := .obj r) rfl, ok_argC, ok_con, ok_argN]
    refine ⟨rfl, call_roll R3 (by decide) (by decide) (by omega) fun k h2 k1 R4 => ?_⟩
    rw [ok_argN]
    refine ⟨_, rfl, ⟨by omega, by omega⟩, ?_⟩
    refine forL_ind (fun ds env h' => ∃ (W : List Nat) (y3 y4 y5 y6 y7 : Option Dt), Line W ∧ (4 ≤ W.length ∧ W.length < 100) ∧ Reel h' r (n + 6 + m + 1) ∧ env = [some (.obj r), some (.int 9), some (.str (Tx W)), y3, y4, y5, y6, y7]) ?_ ?_ _ _ _ ⟨W, _, _, _, _, _, LW, lW, R4, rfl⟩
    · rintro x xs env h' ⟨W, y3, y4, y5, y6, y7, LW, lW, R5, rfl⟩
      refine ⟨[some (.obj r), some (.int 9), some (.str (Tx W)), some x, y4, y5, y6, y7], by simp [Pat.bd], ?_⟩
      rw [ok_sto, ok_callM, ok_argC, ok_pick (i := 2) (d := .str (Tx W)) rfl, ok_argN]
      refine ⟨rfl, gv_fn (turned_ok LW.ltrs (by omega)) fun j => ?_⟩
      exact ⟨W.map turnC, _, _, _, _, _, LW.turn, by simpa using lW, R5.app j, rfl⟩
    · rintro env h' ⟨W, y3, y4, y5, y6, y7, LW, lW, R5, rfl⟩
      have sz := szl (show W.length ≤ 1000 by omega)
      dsimp only
      rw [ok_seq, ok_ifS, ok_tst, ok_op2, ok_callM, ok_argC, ok_pick (i := 0) (d := .obj r) rfl, ok_argC, ok_con, ok_argN]
      refine ⟨rfl, call_roll R5 (by decide) (by decide) (by omega) fun k2 h3 k3 R6 => ?_⟩
      rw [ok_con, ok_eqI, ok_isB]
      have fin : ∀ (W : List Nat) (y7 : Option Dt) (h3 : Ah), Line W → (4 ≤ W.length ∧ W.length < 100) → Reel h3 r (n + 6 + m + 1 + 1) → Ok (ret (callM 2 K51.f__law_begun (argC (var 2) (argC (callM 2 K51.f__law_roll (argC (var 0) (argC (con (.int 99)) argN))) argN))) [some (.obj r), some (.int 9), some (.str (Tx W)), y3, y4, y5, y6, y7]) h3 fun f h1 => match f with
          | Fl.rt d => ∃ W, d = .str (Tx W) ∧ Line W ∧ (4 ≤ W.length ∧ W.length < 100) ∧ stB W 0 = false ∧ Reel h1 r (n + 30)
          | Fl.nx _ => ∃ W, Dt.non = .str (Tx W) ∧ Line W ∧ (4 ≤ W.length ∧ W.length < 100) ∧ stB W 0 = false ∧ Reel h1 r (n + 30)
          | _ => False := by
        intro W y7 h3 LW lW R6
        rw [ok_ret, ok_callM, ok_argC, ok_pick (i := 2) (d := .str (Tx W)) rfl, ok_argC, ok_callM, ok_argC, ok_pick (i := 0) (d := .obj r) rfl, ok_argC, ok_con, ok_argN]
        refine ⟨rfl, call_roll R6 (by decide) (by decide) (by omega) fun k4 h5 k5 R7 => ?_⟩
        rw [ok_argN]
        obtain ⟨W', L', l', b', g'⟩ := begun_ok LW (by omega) k4
        exact ⟨rfl, gv_fn g' fun j => ⟨W', rfl, L', ⟨by omega, by omega⟩, b', (R7.app j).mono (by omega)⟩⟩
      by_cases c : (k2 : Int) = 0
      · rw [if_pos (by simpa using c), ok_sto, ok_bm, ok_con]
        refine ⟨rfl, ?_⟩
        rw [ok_argC]
        refine ok_lcA W.reverse (fun c => .str (Tx [c])) (fun c => .str (Tx [mirC c])) ?_
        rw [ok_itS, ok_op1', ok_pick (i := 2) (d := .str (Tx W)) rfl, ok_revS]
        refine ⟨sz, ?_⟩
        rw [ok_itemsTx]
        refine ⟨rfl, by simpa using sz, fun c m => gv_of fun h => ?_, fun j => ?_⟩
        · have lt := LW.ltrs c (List.mem_reverse.mp m)
          simp [wipeE, lit_ewsn, lit_ewns, ok_indexM lt, at_mir lt, szl]
        · rw [ok_argN, lit_, join_map (by omega)]
          exact fin (W.map mirC).reverse y7 _ LW.mir (by simpa using lW) (R6.app j)
      · rw [if_neg (by simpa using c), ok_nxt]
        exact fin W y7 _ LW lW R6
end Mo
set_option Elab.async false
set_option linter.all false
set_option maxRecDepth 100000
set_option maxHeartbeats 4000000
/-! PuG: the law's other lines. -/
namespace Mo
open PySem L2 TL
/-- what is walked comes about in the walk itself -/
theorem ok_lcE {γ : Type} {mi : En → Mm (List Dt)} {i : Nat} {me : En → Mm Dt} {vs : List Nat} {env : En} {h : Ah} {Q : Dt → Ah → Prop} (e : γ → Dt) (g : γ → Dt)
    (hi : Ok (mi env) h fun ds h1 => ∃ l : List γ, ds = l.map e ∧ l.length ≤ sizeLine ∧ (∀ d ∈ l, Gv (me ((wipeE env vs).set i (some (e d)))) (g d)) ∧ ∀ j, Q (.lv (l.map g)) (h1 ++ j)) :
    Ok (lcM mi (.nm i) yes me vs env) h Q := by
  simp only [lcM, ok_bind]
  refine hi.mono fun ds h1 ⟨l, e1, hl, hd, q⟩ => ?_
  subst e1
  refine ok_of (a := h1.length) (h' := h1 ++ [.lst []]) rfl ?_
  obtain ⟨k', e2⟩ := lcL_ok (p := .nm i) (mt := yes) (me := me) (env := wipeE env vs) (t := fun _ => true) (g := g) (e := e) (h := h1) l [] [] (by simpa using hl) fun d m => ⟨_, bd_nm, gv_yes, fun _ => hd d m⟩
  refine ok_of e2 ?_
  refine ok_of (a := .lv (l.map g)) (h' := h1 ++ .dead :: k') ?_ (q _)
  unfold takeL
  rw [List.filter_eq_self.mpr (by simp)]
  simp
theorem other_ok {h : Ah} {r n : Nat} (R : Reel h r n) (hn : n < 2 ^ 30) : Ok (K51.f__law_other [.obj r]) h fun d h' => ∃ W, d = .str (Tx W) ∧ Line W ∧ (4 ≤ W.length ∧ W.length < 100) ∧ stB W 0 = false ∧ Reel h' r (n + 50) := by
  rw [K51.f__law_other, ok_fnM]
  simp only [K51.m__law_other]
  simp only [List.map_cons, List.map_nil, List.length_cons, List.length_nil, List.replicate, List.cons_append, List.nil_append]
  rw [ok_seq, ok_par, ok_argC, ok_callM, ok_argC, ok_pick (i := 0) (d := .obj r) rfl, ok_argC, ok_con, ok_argN]
  refine ⟨rfl, call_roll R (by decide) (by decide) (by omega) fun k h1 k1 R1 => ?_⟩
  rw [ok_argC, ok_op2, ok_con, ok_callM, ok_argC, ok_pick (i := 0) (d := .obj r) rfl, ok_argC, ok_con, ok_argN]
  refine ⟨rfl, call_roll R1 (by decide) (by decide) (by omega) fun s h2 s1 R2 => ?_⟩
  rw [ok_addI, ok_argN]
  refine ⟨_, _, rfl, ?_⟩
  show Ok (seq _ _ [some (.obj r), some (.int (k : Int)), some (.int (1 + (s : Int))), none, none, none]) _ _
  rw [ok_seq, ok_ifS, ok_tst, ok_op2, ok_pick (i := 1) (d := .int (k : Int)) rfl, ok_con, ok_eqI, ok_isB]
  by_cases c0 : (k : Int) = 0
  · rw [if_pos (by simpa using c0), ok_ret, ok_callM, ok_argC, ok_pick (i := 0) (d := .obj r) rfl, ok_argC, ok_con, ok_argN]
    exact ⟨rfl, (drawn_ok R2 (by omega)).mono fun d h' ⟨W, e, L, l, b, R'⟩ => ⟨W, e, L, l, b, R'.mono (by omega)⟩⟩
  · rw [if_neg (by simpa using c0), ok_nxt]
    dsimp only
    have fin : ∀ (W : List Nat) (a b y : Option Dt) (h3 : Ah), Line W → (4 ≤ W.length ∧ W.length < 100) → Reel h3 r (n + 40) →
        Ok (seq (forM (itR1 (argC (callM 2 K51.f__law_roll (argC (var 0) (argC (con (.int 4)) argN))) argN)) (.nm 5) (sto 3 (callM 1 K51.f__law_turned (argC (var 3) argN)))) (ret (callM 2 K51.f__law_begun (argC (var 3) (argC (callM 2 K51.f__law_roll (argC (var 0) (argC (con (.int 99)) argN))) argN)))) [some (.obj r), a, b, some (.str (Tx W)), y, none]) h3 fun f h1 => match f with
          | Fl.rt d => ∃ W, d = .str (Tx W) ∧ Line W ∧ (4 ≤ W.length ∧ W.length < 100) ∧ stB W 0 = false ∧ Reel h1 r (n + 50)
          | Fl.nx _ => ∃ W, Dt.non = .str (Tx W) ∧ Line W ∧ (4 ≤ W.length ∧ W.length < 100) ∧ stB W 0 = false ∧ Reel h1 r (n + 50)
          | _ => False := by
      intro W a b y h3 LW lW R6
      rw [ok_seq, ok_forM, ok_itR1, ok_argC, ok_callM, ok_argC, ok_pick (i := 0) (d := .obj r) rfl, ok_argC, ok_con, ok_argN]
      refine ⟨rfl, call_roll R6 (by decide) (by decide) (by omega) fun k h2 k1 R4 => ?_⟩
      rw [ok_argN]
      refine ⟨_, rfl, ⟨by omega, by omega⟩, ?_⟩
      refine forL_ind (fun ds env h' => ∃ (W : List Nat) (a b y z : Option Dt), Line W ∧ (4 ≤ W.length ∧ W.length < 100) ∧ Reel h' r (n + 41) ∧ env = [some (.obj r), a, b, some (.str (Tx W)), y, z]) ?_ ?_ _ _ _ ⟨W, _, _, _, _, LW, lW, R4, rfl⟩
      · rintro x xs env h' ⟨W, a, b, y, z, LW, lW, R5, rfl⟩
        refine ⟨[some (.obj r), a, b, some (.str (Tx W)), y, some x], by simp [Pat.bd], ?_⟩
        rw [ok_sto, ok_callM, ok_argC, ok_pick (i := 3) (d := .str (Tx W)) rfl, ok_argN]
        refine ⟨rfl, gv_fn (turned_ok LW.ltrs (by omega)) fun j => ?_⟩
        exact ⟨W.map turnC, _, _, _, _, LW.turn, by simpa using lW, R5.app j, rfl⟩
      · rintro env h' ⟨W, a, b, y, z, LW, lW, R5, rfl⟩
        dsimp only
        rw [ok_ret, ok_callM, ok_argC, ok_pick (i := 3) (d := .str (Tx W)) rfl, ok_argC, ok_callM, ok_argC, ok_pick (i := 0) (d := .obj r) rfl, ok_argC, ok_con, ok_argN]
        refine ⟨rfl, call_roll R5 (by decide) (by decide) (by omega) fun k4 h5 k5 R7 => ?_⟩
        rw [ok_argN]
        obtain ⟨W', L', l', b', g'⟩ := begun_ok LW (by omega) k4
        exact ⟨rfl, gv_fn g' fun j => ⟨W', rfl, L', ⟨by omega, by omega⟩, b', (R7.app j).mono (by omega)⟩⟩
    rw [ok_seq, ok_ifS, ok_tst, ok_op2, ok_pick (i := 1) (d := .int (k : Int)) rfl, ok_con, ok_eqI, ok_isB]
    by_cases c1 : (k : Int) = 1
    · rw [if_pos (by simpa using c1), ok_sto, ok_bm, ok_con]
      refine ⟨rfl, ?_⟩
      rw [ok_argC]
      refine ok_lcE (fun c => .str (Tx [c])) (fun c => .str (Tx [oppC c])) ?_
      rw [ok_itS, ok_op1', ok_callM, ok_argC, ok_pick (i := 0) (d := .obj r) rfl, ok_argC, ok_con, ok_argN]
      refine ⟨rfl, (drawn_ok R2 (by omega)).mono fun d h' ⟨W, e, LW, lW, b, R'⟩ => ?_⟩
      subst e
      have sz := szl (show W.length ≤ 1000 by omega)
      rw [ok_revS]
      refine ⟨sz, ?_⟩
      rw [ok_itemsTx]
      refine ⟨W.reverse, rfl, by simpa using sz, fun c m => gv_of fun h => ?_, fun j => ?_⟩
      · have lt := LW.ltrs c (List.mem_reverse.mp m)
        simp [wipeE, lit_wsen, lit_enws, ok_index lt, at_opp lt, szl]
      · rw [ok_argN, lit_, join_map (by omega)]
        exact fin (W.map oppC).reverse _ _ none _ LW.opp (by simpa using lW) ((R'.app j).mono (by omega))
    · rw [if_neg (by simpa using c1), ok_ifS, ok_tst, ok_op2, ok_pick (i := 1) (d := .int (k : Int)) rfl, ok_con, ok_eqI, ok_isB]
      by_cases c2 : (k : Int) = 2
      · rw [if_pos (by simpa using c2), ok_sto]
        have e1 : (1 : Int) + s = ((s + 1 : Nat) : Int) := by omega
        have e2 : ((s + 1 : Nat) : Int) + 1 = ((s + 1 + 1 : Nat) : Int) := by omega
        rw [ok_op2, ok_op2, ok_op2, ok_op2, ok_op2, ok_op2, ok_con, ok_op2, ok_pick (i := 2) (d := .int (1 + (s : Int))) rfl, ok_con, ok_addI, e1, e2, lit_e, ok_repS (by omega), ok_op2, ok_con, lit_n, ok_pick (i := 2) (d := .int ((s + 1 : Nat) : Int)) (by rw [← e1]; rfl), ok_repS (by omega), ok_addS]
        refine ⟨szl (by simp; omega), ?_⟩
        rw [ok_con, lit_w, ok_addS]
        refine ⟨szl (by simp; omega), ?_⟩
        rw [ok_op2, ok_con, lit_s, ok_op2, ok_pick (i := 2) (d := .int ((s + 1 : Nat) : Int)) (by rw [← e1]; rfl), ok_con, ok_addI, e2, ok_repS (by omega), ok_addS]
        refine ⟨szl (by simp; omega), ?_⟩
        rw [ok_op2, ok_con, ok_pick (i := 2) (d := .int ((s + 1 : Nat) : Int)) (by rw [← e1]; rfl), ok_repS (by omega), ok_addS]
        refine ⟨szl (by simp; omega), ?_⟩
        rw [ok_con, ok_addS]
        refine ⟨szl (by simp; omega), ?_⟩
        obtain ⟨LW, lW⟩ := eights_good (k := s + 1) (by omega) (by omega)
        exact fin (eightP (s + 1)) _ _ none _ LW ⟨eight_len s, lW⟩ (R2.mono (by omega))
      · rw [if_neg (by simpa using c2), ok_sto, ok_callM, ok_argC, ok_con, ok_argN]
        refine ⟨rfl, gv_fn longB fun j => ?_⟩
        exact fin (longP psB) _ _ none _ low_good.1 ⟨low_len, low_good.2⟩ ((R2.app j).mono (by omega))
end Mo
set_option Elab.async false
set_option linter.all false
set_option maxRecDepth 100000
set_option maxHeartbeats 4000000
/-! PuH: turns. -/
namespace Mo
open PySem L2 TL
def bdg (W : List Nat) (i : Nat) : Int := ((idx (cyc W i) : Int) - idx (cyc W (i + W.length - 1))) % 4
def qv (b : Int) : Int := if b = 1 then 1 else if b = 3 then -1 else 0
def turnZ (W : List Nat) : Int := ((List.range W.length).map fun i => qv (bdg W i)).sum / 4
theorem bend_ok {W : List Nat} {i : Nat} {env : En} {v : Nat} {h : Ah} {Q : Dt → Ah → Prop} (hl : Ltrs W) (hn : W.length ≤ 900) (hi : i < W.length) (e0 : env[0]? = some (some (.str (Tx W)))) (ev : env[v]? = some (some (.int (i : Int)))) (q : Q (.int (bdg W i)) h) :
    Ok (op2 opMod (bi bInt (argC (op2 opSub (bm isSt mSIndex (con (.str (Str.ofString "enws"))) (argC (op2 ixM (var 0) (var v)) argN)) (bm isSt mSIndex (con (.str (Str.ofString "enws"))) (argC (op2 ixM (var 0) (op2 opSub (var v) (con (.int 1)))) argN))) argN)) (con (.int 4)) env) h Q := by
  have sz := szl (show W.length ≤ 1000 by omega)
  have p : 0 < W.length := by omega
  have l1 := hl _ (cyc_mem p i)
  have l2 := hl _ (cyc_mem p (i + W.length - 1))
  rw [ok_op2, ok_bi, ok_argC, ok_op2, ok_bm, ok_con, lit_enws, ok_argC, ok_op2, ok_pick e0, ok_pick ev, ok_ixS]
  refine ⟨rfl, _, at_cyc hi, sz, ?_⟩
  rw [ok_argN, ok_index l1, ok_bm, ok_con, ok_argC, ok_op2, ok_pick e0, ok_op2, ok_pick ev, ok_con, ok_subI, ok_ixS]
  refine ⟨rfl, _, at_prev hi, sz, ?_⟩
  rw [ok_argN, ok_index l2, ok_subI, ok_argN, ok_intI, ok_con, ok_modI]
  exact ⟨by decide, q⟩
theorem intsD_map (l : List Int) : intsD (l.map Dt.int) = some l := by
  induction l with
  | nil => rfl
  | cons a l ih => simp [intsD, ih]
theorem ok_count {h : Ah} {Q : Dt → Ah → Prop} {l : List Int} {k : Int} : Ok (mLCount (.lv (l.map Dt.int)) [.int k]) h Q ↔ Q (.int (l.count k : Nat)) h := by
  have e : (lstR h (.lv (l.map Dt.int))).bind intsD = some l := intsD_map l
  unfold Ok mLCount
  simp only [e]
theorem count_sum : ∀ (l : List Int), ((l.count 1 : Nat) : Int) - ((l.count 3 : Nat) : Int) = (l.map qv).sum
  | [] => by simp
  | a :: l => by
    have ih := count_sum l
    simp only [List.count_cons, List.map_cons, List.sum_cons, ← ih, qv]
    by_cases h1 : a = 1
    · subst h1; simp; omega
    · by_cases h3 : a = 3
      · subst h3; simp; omega
      · simp [h1, h3]
theorem lawturn_ok {W : List Nat} (hl : Ltrs W) (hn : W.length ≤ 900) : Gv (K51.f__law_turn [.str (Tx W)]) (.int (turnZ W)) := gv_of fun h => by
  have sz := szl (show W.length ≤ 1000 by omega)
  rw [K51.f__law_turn, ok_fnM]
  simp only [K51.m__law_turn, List.map_cons, List.map_nil, List.length_cons, List.length_nil, List.replicate, List.cons_append, List.nil_append]
  rw [ok_seq, ok_sto]
  refine ok_lcA (List.range W.length) (fun i => .int ((i : Nat) : Int)) (fun i => .int (bdg W i)) ?_
  rw [ok_itR1, ok_argC, ok_bi, ok_argC, ok_pick (i := 0) (d := .str (Tx W)) rfl, ok_argN, ok_lenS]
  refine ⟨sz, ?_⟩
  rw [ok_argN]
  refine ⟨_, rfl, ⟨by omega, by omega⟩, ?_⟩
  rw [Int.toNat_natCast, rng_eq]
  refine ⟨rfl, by simpa using sz, fun i hi => gv_of fun h => ?_, fun j => ?_⟩
  · exact bend_ok hl hn (List.mem_range.mp hi) rfl rfl ⟨rfl, [], by simp⟩
  · show Ok (ret _ [some (.str (Tx W)), some (.lv ((List.range W.length).map fun i => .int (bdg W i))), none]) _ _
    have e : (List.range W.length).map (fun i => Dt.int (bdg W i)) = ((List.range W.length).map (bdg W)).map Dt.int := by rw [List.map_map]; rfl
    rw [e, ok_ret, ok_op2, ok_op2, ok_bm, ok_pick (i := 1) (d := .lv (((List.range W.length).map (bdg W)).map Dt.int)) rfl, ok_argC, ok_con, ok_argN, ok_count, ok_bm, ok_pick (i := 1) (d := .lv (((List.range W.length).map (bdg W)).map Dt.int)) rfl, ok_argC, ok_con, ok_argN, ok_count, ok_subI, ok_con, ok_fdivI]
    refine ⟨rfl, rfl, ⟨by decide, by decide⟩, ?_, j, rfl⟩
    rw [count_sum, List.map_map]
    rfl
def qD : Dt := .dk [.inl 0, .inl 1, .inl 3] [.int 0, .int 1, .int (-1)]
theorem ok_dispQ {h : Ah} {Q : Dt → Ah → Prop} {env : En} : Ok (dispM [((con (.int 0)), (con (.int 0))), ((con (.int 1)), (con (.int 1))), ((con (.int 3)), (op1 unNeg (con (.int 1))))] env) h Q ↔ Q qD (h ++ [.dead]) := by
  show Ok (newO (.dk [] []) >>= fun n => pairsM _ env >>= fun ps => finD n ps) h Q ↔ _
  simp only [ok_bind, ok_newO, ok_pairs, ok_pairs0, ok_con, ok_op1, ok_negI]
  exact ok_finD (ks := [.inl 0, .inl 1, .inl 3]) rfl (by decide) (by decide)
theorem get_q {h : Ah} {b : Int} : (match getR h qD (.int b) with | some (some z) => z | some none => .int 0 | none => .non) = .int (qv b) ∧ (getR h qD (.int b)).isSome = true := by
  have e : getR h qD (.int b) = some (valG [((.inl 0 : Key), Dt.int 0), (.inl 1, .int 1), (.inl 3, .int (-1))] (.inl b)) := rfl
  rw [e]
  refine ⟨?_, rfl⟩
  unfold qv valG
  by_cases h0 : b = 0
  · subst h0; rfl
  · by_cases h1 : b = 1
    · subst h1; rfl
    · by_cases h3 : b = 3
      · subst h3; rfl
      · have z0 : ¬ (0 : Int) = b := fun z => h0 z.symm
        have z1 : ¬ (1 : Int) = b := fun z => h1 z.symm
        have z3 : ¬ (3 : Int) = b := fun z => h3 z.symm
        simp [z0, z1, z3, h1, h3]
theorem turnof_ok {W : List Nat} (hl : Ltrs W) (hn : W.length ≤ 900) : Gv (K51.f_turn_of [.str (Tx W)]) (.int (turnZ W)) := gv_of fun h => by
  have sz := szl (show W.length ≤ 1000 by omega)
  rw [K51.f_turn_of, ok_fnM]
  simp only [K51.m_turn_of, List.map_cons, List.map_nil, List.length_cons, List.length_nil, List.replicate, List.cons_append, List.nil_append]
  rw [ok_seq, ok_sto, ok_con]
  show Ok (seq _ _ [some (.str (Tx W)), some (.int 0), none, none]) _ _
  rw [ok_seq, ok_forM, ok_itR1, ok_argC, ok_bi, ok_argC, ok_pick (i := 0) (d := .str (Tx W)) rfl, ok_argN, ok_lenS]
  refine ⟨sz, ?_⟩
  rw [ok_argN]
  refine ⟨_, rfl, ⟨by omega, by omega⟩, ?_⟩
  rw [Int.toNat_natCast, rng_eq]
  refine forL_ind (fun ds env h' => ∃ (m : Nat) (j : Ah) (y z : Option Dt), m ≤ W.length ∧ ds = ((List.range W.length).drop m).map (fun i => .int ((i : Nat) : Int)) ∧ h' = h ++ j ∧ env = [some (.str (Tx W)), some (.int ((List.range m).map fun i => qv (bdg W i)).sum), y, z]) ?_ ?_ _ _ _ ⟨0, [], none, none, Nat.zero_le _, by simp, by simp, rfl⟩
  · rintro x xs env h' ⟨m, j, y, z, hm, e, rfl, rfl⟩
    have c : m < W.length := by
      rcases Nat.lt_or_ge m W.length with c | c
      · exact c
      · rw [List.drop_eq_nil_of_le (by simpa using c)] at e; simp at e
    rw [range_drop c, List.map_cons] at e
    obtain ⟨rfl, rfl⟩ := List.cons.inj e
    refine ⟨[some (.str (Tx W)), some (.int ((List.range m).map fun i => qv (bdg W i)).sum), some (.int (m : Nat)), z], by simp [Pat.bd], ?_⟩
    rw [ok_seq, ok_sto]
    refine bend_ok hl hn c rfl rfl ?_
    show Ok (aug 1 _ opIAdd [some (.str (Tx W)), some (.int ((List.range m).map fun i => qv (bdg W i)).sum), some (.int (m : Nat)), some (.int (bdg W m))]) _ _
    rw [ok_aug]
    refine ⟨_, rfl, ?_⟩
    rw [ok_get2, ok_dispQ]
    refine ⟨rfl, ?_⟩
    rw [ok_pick (i := 3) (d := .int (bdg W m)) rfl, ok_con]
    refine (get_fold get_q).mpr ?_
    rw [ok_iaddI]
    refine ⟨m + 1, j ++ [.dead], some (.int (m : Nat)), some (.int (bdg W m)), c, rfl, by simp, ?_⟩
    rw [List.range_succ, List.map_append, List.sum_append]
    simp
  · rintro env h' ⟨m, j, y, z, hm, e, rfl, rfl⟩
    have : m = W.length := by
      rcases Nat.lt_or_ge m W.length with c | c
      · rw [range_drop c] at e; simp at e
      · omega
    subst this
    dsimp only
    rw [ok_ret, ok_op2, ok_pick (i := 1) (d := .int ((List.range W.length).map fun i => qv (bdg W i)).sum) rfl, ok_con, ok_fdivI]
    exact ⟨⟨by decide, by decide⟩, rfl, j, rfl⟩
end Mo
set_option Elab.async false
set_option linter.all false
set_option maxRecDepth 100000
set_option maxHeartbeats 4000000
/-! PuI: the text of a line. -/
namespace Mo
open PySem L2 TL
def addR (rs : List (Nat × Nat)) (c : Nat) : List (Nat × Nat) := match rs.getLast? with
  | some q => if q.1 = c then rs.dropLast ++ [(c, q.2 + 1)] else rs ++ [(c, 1)]
  | none => [(c, 1)]
def runsF (W : List Nat) : List (Nat × Nat) := W.foldl addR []
def wordR (q : Nat × Nat) : List Nat := q.1 :: numL q.2
def expand (rs : List (Nat × Nat)) : List Nat := (rs.map fun q => List.replicate q.2 q.1).flatten
theorem add_snoc (rs : List (Nat × Nat)) (q : Nat × Nat) (c : Nat) : addR (rs ++ [q]) c = if q.1 = c then rs ++ [(c, q.2 + 1)] else rs ++ [q] ++ [(c, 1)] := by
  unfold addR
  simp
theorem snoc_cases (rs : List (Nat × Nat)) : rs = [] ∨ ∃ r q, rs = r ++ [q] := by
  rcases List.eq_nil_or_concat rs with h | ⟨r, q, h⟩
  · exact .inl h
  · exact .inr ⟨r, q, by simpa using h⟩
theorem expand_add (rs : List (Nat × Nat)) (c : Nat) : expand (addR rs c) = expand rs ++ [c] := by
  rcases snoc_cases rs with rfl | ⟨r, q, rfl⟩
  · rfl
  · rw [add_snoc]
    split
    · rename_i e
      unfold expand
      simp only [List.map_append, List.flatten_append, List.map_cons, List.map_nil, List.flatten_cons, List.flatten_nil, List.append_nil, List.append_assoc]
      rw [List.replicate_succ', e]
    · unfold expand
      simp
theorem expand_runs (W : List Nat) : expand (runsF W) = W := by
  have : ∀ (l : List Nat) (rs : List (Nat × Nat)), expand (l.foldl addR rs) = expand rs ++ l := by
    intro l
    induction l with
    | nil => intro rs; simp
    | cons c l ih => intro rs; rw [List.foldl_cons, ih, expand_add]; simp
  have := this W []
  simpa [runsF, expand] using this
/-- each run is of one letter at least, neighbours are unlike -/
structure Runs (rs : List (Nat × Nat)) : Prop where
  one : ∀ q ∈ rs, 1 ≤ q.2
  ne : ∀ i, i + 1 < rs.length → (rs.getD i (0, 0)).1 ≠ (rs.getD (i + 1) (0, 0)).1
end Mo
set_option Elab.async false
set_option linter.all false
set_option maxRecDepth 100000
set_option maxHeartbeats 4000000
/-! PuJ: the law's text. -/
namespace Mo
open PySem L2 TL
def wsD (rs : List (Nat × Nat)) : List Dt := rs.map fun q => .str (Tx (wordR q))
theorem toPs_ws : ∀ (rs : List (Nat × Nat)), toPs (wsD rs) = some (rs.map fun q => .str (Tx (wordR q)))
  | [] => rfl
  | q :: rs => by
    show (match toP (.str (Tx (wordR q))), toPs (wsD rs) with | some p, some ps => some (p :: ps) | _, _ => none) = _
    rw [toPs_ws rs]
    rfl
theorem strok {l : List Nat} (h : ∀ c ∈ l, c < 128) : PyData.strOk (Tx l) = true := by
  unfold PyData.strOk
  rw [Array.all_eq_true']
  intro c m
  have : c ∈ l := by simpa [Tx] using m
  have := h c this
  simp
  omega
theorem word_small {q : Nat × Nat} (h : Ltr q.1) : ∀ c ∈ wordR q, c < 128 := fun c m => by
  rcases List.mem_cons.mp m with e | m
  · rw [e]; rcases h with e | e | e | e <;> rw [e] <;> decide
  · have := numL_digits q.2 c m
    omega
theorem shaped_ws : ∀ (rs : List (Nat × Nat)), (∀ q ∈ rs, Ltr q.1) → SeqAt.shaped (.list (rs.map fun q => PyData.str (Tx (wordR q)))) = true := by
  intro rs h
  have a : PyData.canLayAll0 (rs.map fun q => PyData.str (Tx (wordR q))) = true := by
    induction rs with
    | nil => rfl
    | cons q rs ih =>
      simp only [List.map_cons, PyData.canLayAll0, PyData.canLay0, strok (word_small (h q (by simp))), Bool.true_and]
      exact ih fun q m => h q (by simp [m])
  have b : PyData.depthAll (rs.map fun q => PyData.str (Tx (wordR q))) = 0 := by
    clear a h
    induction rs with
    | nil => rfl
    | cons q rs ih => simp [PyData.depthAll, PyData.depth, ih]
  unfold SeqAt.shaped
  simp [PyData.canLay0, PyData.depth, a, b]
theorem ne_nil {h : Ah} {r : Nat} {rs : List (Nat × Nat)} {Q : Dt → Ah → Prop} (e : lstAt h r = some (wsD rs)) (hl : ∀ q ∈ rs, Ltr q.1) : Ok (opNe (.obj r) (.lv [])) h Q ↔ Q (.bl (!rs.isEmpty)) h := by
  have e1 : toPH h (.obj r) = some (.list (rs.map fun q => .str (Tx (wordR q)))) := by
    unfold lstAt at e
    cases q : h[r]? with
    | none => rw [q] at e; cases e
    | some o =>
      cases o with
      | lst xs =>
        rw [q] at e; cases e
        simp only [toPH, q]
        rw [toPs_ws]
      | _ => rw [q] at e; cases e
  have e2 : toPH h (.lv []) = some (.list []) := rfl
  have e3 : eqR h (.obj r) (.lv []) = some rs.isEmpty := by
    have : eqR h (.obj r) (.lv []) = match toPH h (.obj r), toPH h (.lv []) with | some p, some q => if SeqAt.shaped p && SeqAt.shaped q then some (PyData.eqv p q) else none | _, _ => none := rfl
    rw [this, e1, e2]
    simp only [shaped_ws rs hl, show SeqAt.shaped (.list []) = true by decide, Bool.and_self, if_true]
    cases rs with
    | nil => rfl
    | cons q rs => simp [PyData.eqv, PyData.eqvAll]
  unfold Ok opNe
  rw [e3]
theorem ok_strI {h : Ah} {Q : Dt → Ah → Prop} {k : Nat} (hk : k ≤ 1000) : Ok (bStr [.int (k : Int)]) h Q ↔ Q (.str (Tx (numL k))) h := by
  have l : (k : Int).natAbs.log2 < 1920 := log2_lt (by
    have : (1024 : Nat) ≤ 2 ^ 1920 := Nat.pow_le_pow_right (n := 2) (by decide) (show 10 ≤ 1920 by decide)
    omega) (by decide)
  have e : (Str.ofString (toString (k : Int))) = Tx (numL k) := by
    rw [tx_of (Str.ofString (toString (k : Int)))]
    exact congrArg Tx (tl_num k)
  unfold Ok bStr
  simp only [l, if_true]
  rw [show ((toString (k : Int) : String) : Str) = Tx (numL k) from e]
theorem ok_intN {h : Ah} {Q : Dt → Ah → Prop} {k : Nat} (hk : k ≤ 1000) : Ok (bInt [.str (Tx (numL k))]) h Q ↔ Q (.int (k : Int)) h := by
  have ln : (numL k).length ≤ 4 := numL_len (by decide) (by omega)
  have it : intText? (Tx (numL k)) = some ((k : Nat) : Int) := by
    have := intText_digits (x := Tx (numL k)) (numL_digits k) (numL_ne k) (by rw [tx_len]; omega)
    rw [this]
    show some ((NumText.digitsVal (numL k) : Nat) : Int) = _
    rw [numL_val]
  have e : bInt [.str (Tx (numL k))] h = .ok (.int (k : Int)) h := by
    simp [bInt, it]
    omega
  unfold Ok
  rw [e]
theorem runs_bound : ∀ (l : List Nat) (rs : List (Nat × Nat)), (∀ q ∈ rs, 1 ≤ q.2) → (∀ q ∈ l.foldl addR rs, 1 ≤ q.2)
  | [], rs, h => h
  | c :: l, rs, h => by
    refine runs_bound l (addR rs c) fun q hq => ?_
    rcases snoc_cases rs with rfl | ⟨r, p, rfl⟩
    · have : q = (c, 1) := by simpa [addR] using hq
      rw [this]
      exact Nat.le_refl 1
    · rw [add_snoc] at hq
      split at hq
      · rcases List.mem_append.mp hq with m | m
        · exact h q (by simp [m])
        · have : q = (c, p.2 + 1) := by simpa using m
          rw [this]
          simp
      · rcases List.mem_append.mp hq with m | m
        · exact h q m
        · have : q = (c, 1) := by simpa using m
          rw [this]
          exact Nat.le_refl 1
theorem run_le {rs : List (Nat × Nat)} {q : Nat × Nat} (m : q ∈ rs) : q.2 ≤ (expand rs).length := by
  induction rs with
  | nil => simp at m
  | cons p rs ih =>
    unfold expand
    simp only [List.map_cons, List.flatten_cons, List.length_append, List.length_replicate]
    rcases List.mem_cons.mp m with e | m
    · rw [e]; omega
    · have := ih m
      unfold expand at this
      omega
theorem runs_le {rs : List (Nat × Nat)} (h : ∀ q ∈ rs, 1 ≤ q.2) : rs.length ≤ (expand rs).length := by
  induction rs with
  | nil => simp
  | cons p rs ih =>
    have a := h p (by simp)
    have b := ih fun q m => h q (by simp [m])
    unfold expand at *
    simp only [List.map_cons, List.flatten_cons, List.length_append, List.length_replicate, List.length_cons]
    omega
theorem mem_runs {rs : List (Nat × Nat)} (h : ∀ q ∈ rs, 1 ≤ q.2) {q : Nat × Nat} (m : q ∈ rs) : q.1 ∈ expand rs := by
  unfold expand
  refine List.mem_flatten.mpr ⟨List.replicate q.2 q.1, List.mem_map_of_mem m, List.mem_replicate.mpr ⟨?_, rfl⟩⟩
  have := h q m
  omega
end Mo
set_option Elab.async false
set_option linter.all false
set_option maxRecDepth 100000
set_option maxHeartbeats 4000000
/-! PuK: the law's text of a line. -/
namespace Mo
open PySem L2 TL
theorem cut1 {c : Nat} {l : List Nat} : cutL (c :: l) (some 1) none = l := by
  have := cut_from (xs := c :: l) (k := 1)
  simpa using this
theorem runs_snoc (W : List Nat) {m : Nat} (h : m < W.length) : runsF (W.take (m + 1)) = addR (runsF (W.take m)) W[m] := by
  unfold runsF
  rw [List.take_succ_eq_append_getElem h, List.foldl_append]
  rfl
def textP (W : List Nat) : List Nat := joinL [32] ((runsF W).map wordR)
theorem seqR_at {h : Ah} {r : Nat} {xs : List Dt} (e : lstAt h r = some xs) : seqR h (.obj r) = some xs := by
  unfold lstAt at e
  cases q : h[r]? with
  | none => rw [q] at e; cases e
  | some o =>
    cases o with
    | lst ys => rw [q] at e; cases e; simp [seqR, tupR, lstR, lstT, q]
    | _ => rw [q] at e; cases e
theorem ok_joinO {h : Ah} {Q : Dt → Ah → Prop} {r : Nat} {γ : Type} {a : List Nat} (f : γ → List Nat) {l : List γ} (hs : ((l.map fun x => (f x).length).sum + l.length * a.length ≤ 16777216)) (e : lstAt h r = some (l.map fun x => .str (Tx (f x)))) : Ok (mJoin (.str (Tx a)) [.obj r]) h Q ↔ Q (.str (Tx (joinL a (l.map f)))) h := by
  refine Iff.trans ?_ (ok_join (h := h) (Q := Q) f hs)
  have e1 := seqR_at e
  have e2 : seqR h (.lv (l.map fun x => .str (Tx (f x)))) = some (l.map fun x => .str (Tx (f x))) := rfl
  have e3 : mJoin (.str (Tx a)) [.obj r] h = mJoin (.str (Tx a)) [.lv (l.map fun x => .str (Tx (f x)))] h := by
    unfold mJoin
    simp only [e1, e2]
  unfold Ok
  rw [e3]
theorem sum_le {γ : Type} (f : γ → Nat) (b : Nat) : ∀ (l : List γ), (∀ x ∈ l, f x ≤ b) → (l.map f).sum ≤ b * l.length
  | [], _ => by simp
  | x :: l, h => by
    have a := h x (by simp)
    have c := sum_le f b l fun y m => h y (by simp [m])
    simp only [List.map_cons, List.sum_cons, List.length_cons, Nat.mul_succ]
    omega
theorem text_ok {W : List Nat} (hl : Ltrs W) (hn : W.length ≤ 900) : Gv (K51.f__law_text [.str (Tx W)]) (.str (Tx (textP W))) := gv_of fun h => by
  have sz := szl (show W.length ≤ 1000 by omega)
  have fact : ∀ m, m ≤ W.length → (∀ q ∈ runsF (W.take m), 1 ≤ q.2 ∧ q.2 ≤ 900 ∧ Ltr q.1) ∧ (runsF (W.take m)).length ≤ 900 := fun m hm => by
    have one := runs_bound (W.take m) [] (by simp)
    have ex := expand_runs (W.take m)
    have le : (W.take m).length ≤ 900 := by simp; omega
    refine ⟨fun q mq => ⟨one q mq, ?_, ?_⟩, ?_⟩
    · have := run_le mq
      rw [ex] at this
      omega
    · have := mem_runs one mq
      rw [show expand (List.foldl addR [] (W.take m)) = W.take m from ex] at this
      exact hl _ (List.mem_of_mem_take this)
    · have := runs_le (rs := runsF (W.take m)) one
      rw [ex] at this
      omega
  rw [K51.f__law_text, ok_fnM]
  simp only [K51.m__law_text, List.map_cons, List.map_nil, List.length_cons, List.length_nil, List.replicate, List.cons_append, List.nil_append]
  rw [ok_seq, ok_sto, ok_lstO, ok_argN]
  refine ⟨szl (by simp), ?_⟩
  show Ok (seq _ _ [some (.str (Tx W)), some (.obj h.length), none]) _ _
  rw [ok_seq, ok_forM, ok_itS, ok_pick (i := 0) (d := .str (Tx W)) rfl, ok_itemsTx]
  refine forL_ind (fun ds env h' => ∃ (m : Nat) (y : Option Dt), m ≤ W.length ∧ ds = (W.drop m).map (fun c => .str (Tx [c])) ∧ h' = h ++ [.lst (wsD (runsF (W.take m)))] ∧ env = [some (.str (Tx W)), some (.obj h.length), y]) ?_ ?_ _ _ _ ⟨0, none, Nat.zero_le _, by simp, by simp [runsF, wsD], rfl⟩
  · rintro x xs env h' ⟨m, y, hm, e, rfl, rfl⟩
    have c : m < W.length := by
      rcases Nat.lt_or_ge m W.length with c | c
      · exact c
      · rw [List.drop_eq_nil_of_le c] at e; simp at e
    rw [List.drop_eq_getElem_cons c, List.map_cons] at e
    obtain ⟨rfl, rfl⟩ := List.cons.inj e
    obtain ⟨f1, f2⟩ := fact m hm
    have sn := runs_snoc W c
    generalize runsF (W.take m) = rs at *
    have at_ : lstAt (h ++ [.lst (wsD rs)]) h.length = some (wsD rs) := lstAt_new
    refine ⟨[some (.str (Tx W)), some (.obj h.length), some (.str (Tx [W[m]]))], by simp [Pat.bd], ?_⟩
    have fin : ∀ (rs' : List (Nat × Nat)) (h2 : Ah), h2 = h ++ [.lst (wsD rs')] → rs' = addR rs W[m] → ∃ (m' : Nat) (y : Option Dt), m' ≤ W.length ∧ (W.drop (m + 1)).map (fun c => Dt.str (Tx [c])) = (W.drop m').map (fun c => .str (Tx [c])) ∧ h2 = h ++ [.lst (wsD (runsF (W.take m')))] ∧ [some (Dt.str (Tx W)), some (.obj h.length), some (.str (Tx [W[m]]))] = [some (.str (Tx W)), some (.obj h.length), y] := by
      rintro rs' h2 rfl rfl
      exact ⟨m + 1, _, c, rfl, by rw [sn], rfl⟩
    have app : Ok (drp (bm isL mApp (var 1) (argC (op2 opAdd (var 2) (con (.str (Str.ofString "1")))) argN)) [some (.str (Tx W)), some (.obj h.length), some (.str (Tx [W[m]]))]) (h ++ [.lst (wsD rs)]) fun f h1 => f = .nx [some (.str (Tx W)), some (.obj h.length), some (.str (Tx [W[m]]))] ∧ h1 = h ++ [.lst (wsD (rs ++ [(W[m], 1)]))] := by
      rw [ok_drp, ok_bm, ok_pick (i := 1) (d := .obj h.length) rfl, ok_argC, ok_op2, ok_pick (i := 2) (d := .str (Tx [W[m]])) rfl, ok_con, lit_1, ok_addS]
      refine ⟨isL_obj at_, szl (by simp), ?_⟩
      rw [ok_argN, ok_appO]
      refine ⟨_, at_, ?_, rfl, ?_⟩
      · simp only [wsD, List.length_map]
        have := szl (show 901 ≤ 1000 by omega)
        omega
      · rw [set_new]
        simp [wsD, wordR, show numL 1 = [49] from by decide +kernel]
    rw [ok_ifS, ok_andT, ok_tst, ok_op2, ok_pick (i := 1) (d := .obj h.length) rfl, ok_lstE, ok_argN]
    refine ⟨szl (by simp), ?_⟩
    rw [ne_nil at_ fun q mq => (f1 q mq).2.2, ok_isB]
    rcases snoc_cases rs with rfl | ⟨r, p, rfl⟩
    · rw [if_neg (by simp), if_neg (by simp)]
      refine app.mono fun f h1 ⟨e1, e2⟩ => ?_
      subst e1
      exact fin _ _ e2 rfl
    · obtain ⟨p1, p2, p3⟩ := f1 p (by simp)
      have lst : atI (wsD (r ++ [p])) (-1) = some (.str (Tx (wordR p))) := by
        rw [atI_last (by simp [wsD])]
        simp [wsD]
      rw [if_pos (by simp), ok_tst, ok_op2, ok_op2, ok_op2, ok_pick (i := 1) (d := .obj h.length) rfl, ok_op1, ok_con, ok_negI, ok_ixO, at_]
      refine ⟨_, lst, ?_⟩
      rw [ok_con, ok_ixS]
      have nl : (numL p.2).length ≤ 3 := numL_len (by decide) (by omega)
      refine ⟨p.1, at0, szl (by simp [wordR]; omega), ?_⟩
      rw [ok_pick (i := 2) (d := .str (Tx [W[m]])) rfl, ok_eqS, ok_isB]
      by_cases same : p.1 = W[m]
      · rw [if_pos (by simp [same]), ok_asg, ok_op2, ok_pick (i := 2) (d := .str (Tx [W[m]])) rfl, ok_bi, ok_argC, ok_op2, ok_bi, ok_argC, ok_slc, ok_op2, ok_pick (i := 1) (d := .obj h.length) rfl, ok_op1, ok_con, ok_negI, ok_ixO, at_]
        refine ⟨_, lst, ?_⟩
        rw [ok_opS, ok_con, ok_isI, ok_opN, ok_slS]
        refine ⟨szl (by simp [wordR]; omega), ?_⟩
        rw [show cutL (wordR p) (some 1) none = numL p.2 from cut1, ok_argN, ok_intN (by omega), ok_con, ok_addI, ok_argN, show (p.2 : Int) + 1 = ((p.2 + 1 : Nat) : Int) by omega, ok_strI (by omega), ok_addS]
        have nl2 : (numL (p.2 + 1)).length ≤ 3 := numL_len (by decide) (by omega)
        refine ⟨szl (by simp; omega), ?_⟩
        rw [ok_gS, ok_pick (i := 1) (d := .obj h.length) rfl, ok_op1, ok_con, ok_negI, ok_setO]
        refine ⟨_, r.length, at_, by simp [wsD, ixN]; omega, fin (r ++ [(W[m], p.2 + 1)]) _ ?_ (by rw [add_snoc, if_pos same])⟩
        rw [set_new]
        simp [wsD, wordR]
      · rw [if_neg (by simp [same])]
        refine app.mono fun f h1 ⟨e1, e2⟩ => ?_
        subst e1
        exact fin _ _ e2 (by rw [add_snoc, if_neg same])
  · rintro env h' ⟨m, y, hm, e, rfl, rfl⟩
    have : m = W.length := by
      rcases Nat.lt_or_ge m W.length with c | c
      · rw [List.drop_eq_getElem_cons c] at e; simp at e; omega
      · omega
    subst this
    obtain ⟨f1, f2⟩ := fact W.length (Nat.le_refl _)
    rw [List.take_length] at f1 f2 ⊢
    dsimp only
    rw [ok_ret, ok_bm, ok_con, lit_sp, ok_argC, ok_pick (i := 1) (d := .obj h.length) rfl, ok_argN]
    refine ⟨rfl, ?_⟩
    have sl := sum_le (fun q : Nat × Nat => (wordR q).length) 4 (runsF W) fun q m => by
      have : (numL q.2).length ≤ 3 := numL_len (by decide) (by have := (f1 q m).2.1; omega)
      simp only [wordR, List.length_cons]
      omega
    refine (ok_joinO (l := runsF W) (a := [32]) wordR (by simp only [List.length_cons, List.length_nil]; omega) (by rw [lstAt_new]; rfl)).mpr ?_
    exact ⟨rfl, _, rfl⟩
end Mo
set_option Elab.async false
set_option linter.all false
set_option maxRecDepth 100000
set_option maxHeartbeats 4000000
/-! PuL: the program reads the text. -/
namespace Mo
open PySem L2 TL
theorem numL_head : ∀ (k : Nat), 1 ≤ k → ∃ d l, numL k = d :: l ∧ d ≠ 48 := by
  intro k
  induction k using Nat.strongRecOn with
  | ind k ih =>
    intro h1
    by_cases c : k < 10
    · exact ⟨48 + k, [], numL_lt c, by omega⟩
    · obtain ⟨d, l, e, hd⟩ := ih (k / 10) (by omega) (by omega)
      exact ⟨d, l ++ [48 + k % 10], by rw [numL_step (by omega), e]; rfl, hd⟩
theorem in4 {h : Ah} {c : Nat} (hc : Ltr c) : inR h (.str (Tx [c])) (.tup [.str (Tx [101]), .str (Tx [110]), .str (Tx [119]), .str (Tx [115])]) = some true := by
  rcases hc with rfl | rfl | rfl | rfl <;> rfl
theorem cut01 {c : Nat} {l : List Nat} : cutL (c :: l) none (some 1) = [c] := by
  have := cut_to (xs := c :: l) (k := 1)
  simpa using this
theorem longin_ok {q : Nat × Nat} (hc : Ltr q.1) (h1 : 1 ≤ q.2) (h2 : q.2 ≤ 900) : Gv (K51.f_long_in [.str (Tx (wordR q))]) (.int (q.2 : Nat)) := gv_of fun h => by
  obtain ⟨d, l, e, hd⟩ := numL_head q.2 h1
  have nl : (numL q.2).length ≤ 3 := numL_len (by decide) (by omega)
  have nl0 : 0 < (numL q.2).length := by rw [e]; simp
  have dg : ∀ c ∈ numL q.2, c ∈ [48, 49, 50, 51, 52, 53, 54, 55, 56, 57] := fun c m => by
    have := numL_digits q.2 c m
    simp
    omega
  have wl : (wordR q).length ≤ sizeLine := szl (by simp [wordR]; omega)
  rw [K51.f_long_in, ok_fnM]
  simp only [K51.m_long_in, List.map_cons, List.map_nil, List.length_cons, List.length_nil, List.replicate, List.cons_append, List.nil_append]
  rw [ok_seq, ok_sto, ok_slc, ok_pick (i := 0) (d := .str (Tx (wordR q))) rfl, ok_opS, ok_con, ok_isI, ok_opN, ok_slS]
  refine ⟨wl, ?_⟩
  rw [show cutL (wordR q) (some 1) none = numL q.2 from cut1]
  show Ok (seq _ _ [some (.str (Tx (wordR q))), some (.str (Tx (numL q.2))), none]) _ _
  rw [ok_seq, ok_ifS, ok_orT, ok_tst, ok_op2, ok_slc, ok_pick (i := 0) (d := .str (Tx (wordR q))) rfl, ok_opN, ok_opS, ok_con, ok_isI, ok_slS]
  refine ⟨wl, ?_⟩
  rw [show cutL (wordR q) none (some 1) = [q.1] from cut01, ok_tupE, ok_argC, ok_con, ok_argC, ok_con, ok_argC, ok_con, ok_argC, ok_con, ok_argN, lit_e, lit_n, lit_w, lit_s]
  refine ⟨szl (by simp), ?_⟩
  refine ok_of (a := .bl false) (h' := h) (by unfold opNotIn; rw [in4 hc]; rfl) ?_
  rw [ok_isB, if_neg (by simp), ok_orT, ok_notT, ok_tst, ok_chain, ok_con, ok_bi, ok_argC, ok_pick (i := 1) (d := .str (Tx (numL q.2))) rfl, ok_argN, ok_lenS]
  refine ⟨szl (by omega), ?_⟩
  rw [ok_ltI, ok_isB, if_pos (by simpa using nl0), ok_con, ok_leI, ok_isB, if_neg (by simp; omega), ok_tst, ok_op2, ok_op2, ok_pick (i := 1) (d := .str (Tx (numL q.2))) rfl, ok_con, ok_ixS]
  refine ⟨d, by rw [e]; exact at0, szl (by omega), ?_⟩
  rw [ok_con, lit_0, ok_eqS, ok_isB, if_neg (by simpa using hd), ok_nxt]
  dsimp only
  rw [ok_ret, ok_ifE, ok_tst, ok_bi, ok_argC]
  refine ok_lcA (numL q.2) (fun c => .str (Tx [c])) (fun c => .bl (decide (c ∈ [48, 49, 50, 51, 52, 53, 54, 55, 56, 57]))) ?_
  rw [ok_itS, ok_pick (i := 1) (d := .str (Tx (numL q.2))) rfl, ok_itemsTx]
  refine ⟨rfl, szl (by omega), fun c m => gv_of fun h => ?_, fun j => ?_⟩
  · rw [ok_op2, ok_pick (i := 2) (d := .str (Tx [c])) rfl, ok_con, lit_dg, ok_inS]
    exact ⟨rfl, [], by simp⟩
  · rw [ok_argN, bAll_ok, ok_isB, if_pos (List.all_eq_true.mpr fun c m => by simpa using dg c m), ok_bi, ok_argC, ok_pick (i := 1) (d := .str (Tx (numL q.2))) rfl, ok_argN, ok_intN (by omega)]
    exact ⟨rfl, j, rfl⟩
end Mo
set_option Elab.async false
set_option linter.all false
set_option maxRecDepth 100000
set_option maxHeartbeats 4000000
/-! PuM: bends change the level. -/
namespace Mo
theorem LineG.bends {g : Nat → Nat} {n : Nat} (L : LineG g n) (h3 : 3 ≤ n) (i : Nat) (hb : g (i + n - 1) ≠ g i) : lv (g (i + n - 1)) ≠ lv (g i) := by
  intro same
  -- opposite letters: two steps lead back
  have e1 : g (i + n - 1 + 1) = g i := by rw [show i + n - 1 + 1 = i + n by omega]; exact L.per i
  have back : pl g (i + n - 1 + 2) = pl g (i + n - 1) := by
    rw [show i + n - 1 + 2 = (i + n - 1 + 1) + 1 by omega]
    simp only [pl, e1]
    rcases L.ltr (i + n - 1) with a | a | a | a <;> rcases L.ltr i with b | b | b | b <;> rw [a, b] at hb same ⊢ <;> simp [lv] at hb same <;> ext <;> simp [dx] <;> omega
  have hm : (i + n - 1) % n ≠ (i + n - 1 + 2) % n := fun z => by
    have z2 : (i + n - 1 + 0) % n = (i + n - 1 + 2) % n := by simpa using z
    have := mod_cancel z2
    rw [Nat.zero_mod, Nat.mod_eq_of_lt (by omega)] at this
    omega
  obtain ⟨h1, h2, h4⟩ := L.ok _ _ hm back.symm
  rw [show i + n - 1 + 2 + n - 1 = (i + n - 1 + 1) + n by omega, L.per, e1] at h2
  exact h4 (by rw [same, h2])
theorem Line.bends {W : List Nat} (L : Line W) (h4 : 4 ≤ W.length) {i : Nat} (hb : stB W i = false) : lv (cyc W (i + W.length - 1)) ≠ lv (cyc W i) :=
  LineG.bends L (by omega) i (by simpa [stB] using hb)
end Mo
set_option Elab.async false
set_option linter.all false
set_option maxRecDepth 100000
set_option maxHeartbeats 4000000
/-! PuN: neighbouring stretches are unlike in level. -/
namespace Mo
open PySem L2 TL
/-- runs of a row whose neighbours, if unlike, are unlike in level -/
def AdjR (rs : List (Nat × Nat)) : Prop := ∀ i, i + 1 < rs.length → lv (rs.getD i (0, 0)).1 ≠ lv (rs.getD (i + 1) (0, 0)).1
def AdjW (W : List Nat) : Prop := ∀ i, i + 1 < W.length → W.getD i 0 ≠ W.getD (i + 1) 0 → lv (W.getD i 0) ≠ lv (W.getD (i + 1) 0)
theorem getD_snoc {α : Type} (l : List α) (x d : α) (i : Nat) : (l ++ [x]).getD i d = if i < l.length then l.getD i d else if i = l.length then x else d := by
  simp only [List.getD_eq_getElem?_getD]
  by_cases h : i < l.length
  · rw [if_pos h, List.getElem?_append_left h]
  · rw [if_neg h, List.getElem?_append_right (by omega)]
    by_cases e : i = l.length
    · subst e; simp
    · rw [if_neg e, List.getElem?_eq_none (by simp; omega)]
      rfl
/-- what is kept while the runs are made -/
structure RInv (P : List Nat) (rs : List (Nat × Nat)) : Prop where
  emp : P = [] ↔ rs = []
  lst : ∀ r q, rs = r ++ [q] → P.getLastD 0 = q.1
  fst : P.headD 0 = (rs.headD (0, 0)).1
  adj : AdjR rs
theorem rinv_step {P : List Nat} {rs : List (Nat × Nat)} {c : Nat} (I : RInv P rs) (hc : P ≠ [] → P.getLastD 0 ≠ c → lv (P.getLastD 0) ≠ lv c) : RInv (P ++ [c]) (addR rs c) := by
  rcases snoc_cases rs with rfl | ⟨r, q, rfl⟩
  · have e : P = [] := I.emp.mpr rfl
    subst e
    refine ⟨by simp [addR], fun r q h => ?_, by simp [addR], fun i hi => by simp [addR] at hi⟩
    have : [(c, 1)] = r ++ [q] := h
    cases r with
    | nil => simp at this; simp [← this]
    | cons a r => simp at this
  · have ne : P ≠ [] := fun z => by have := I.emp.mp z; simp at this
    have lq := I.lst r q rfl
    rw [add_snoc]
    by_cases s : q.1 = c
    · rw [if_pos s]
      refine ⟨by simp, fun r' q' h => ?_, ?_, fun i hi => ?_⟩
      · have := List.append_inj_right' h rfl
        simp at this
        simp [← this]
      · have := I.fst
        cases r with
        | nil => cases P with
          | nil => exact absurd rfl ne
          | cons a P => simp at this ⊢; rw [this, s]
        | cons a r => cases P with
          | nil => exact absurd rfl ne
          | cons b P => simp at this ⊢; exact this
      · have := I.adj i (by simpa using hi)
        rw [getD_snoc, getD_snoc] at this ⊢
        simp only [List.length_append, List.length_cons, List.length_nil] at hi
        by_cases z : i + 1 < r.length
        · rw [if_pos (by omega), if_pos z] at this ⊢; exact this
        · rw [if_pos (by omega), if_neg z, if_pos (by omega)] at this ⊢; rw [s] at this; exact this
    · rw [if_neg s]
      refine ⟨by simp, fun r' q' h => ?_, ?_, fun i hi => ?_⟩
      · have := List.append_inj_right' h rfl
        simp at this
        simp [← this]
      · have := I.fst
        cases r with
        | nil => cases P with
          | nil => exact absurd rfl ne
          | cons a P => simp at this ⊢; exact this
        | cons a r => cases P with
          | nil => exact absurd rfl ne
          | cons b P => simp at this ⊢; exact this
      · simp only [List.length_append, List.length_cons, List.length_nil] at hi
        rw [getD_snoc, getD_snoc (r ++ [q])]
        by_cases z : i + 1 < (r ++ [q]).length
        · rw [if_pos (by omega), if_pos z]
          exact I.adj i z
        · have ei : i = r.length := by simp at z; omega
          subst ei
          rw [if_pos (by simp), if_neg z, if_pos (by simp), getD_snoc, if_neg (by omega), if_pos rfl]
          have := hc ne (by rw [lq]; exact s)
          rw [lq] at this
          exact this
end Mo
set_option Elab.async false
set_option linter.all false
set_option maxRecDepth 100000
set_option maxHeartbeats 4000000
/-! PuO: the stretches of a line: unlike in level all round, four at least. -/
namespace Mo
open PySem L2 TL
theorem runs_inv {W : List Nat} (h : ∀ i, i + 1 < W.length → W.getD i 0 ≠ W.getD (i + 1) 0 → lv (W.getD i 0) ≠ lv (W.getD (i + 1) 0)) : ∀ m, m ≤ W.length → RInv (W.take m) (runsF (W.take m))
  | 0, _ => ⟨by simp [runsF], fun r q e => by simp [runsF] at e, by simp [runsF], fun i hi => by simp [runsF] at hi⟩
  | m + 1, hm => by
    have I := runs_inv h m (by omega)
    rw [runs_snoc W (by omega), List.take_succ_eq_append_getElem (by omega)]
    refine rinv_step I fun ne hne => ?_
    have mp : 0 < m := by
      rcases Nat.eq_zero_or_pos m with z | z
      · subst z; simp at ne
      · exact z
    have e : (W.take m).getLastD 0 = W.getD (m - 1) 0 := by
      rw [List.getLastD_eq_getLast?, List.getLast?_eq_getElem?, List.length_take, Nat.min_eq_left (by omega), List.getElem?_take_of_lt (by omega), List.getD_eq_getElem?_getD]
    have e2 : W[m] = W.getD (m - 1 + 1) 0 := by
      rw [show m - 1 + 1 = m by omega]
      simp [show m < W.length by omega]
    rw [e] at hne ⊢
    rw [e2] at hne ⊢
    exact h (m - 1) (by omega) hne
def sdx (W : List Nat) : Pt := ((W.map fun c => (dx c).1).sum, (W.map fun c => (dx c).2).sum)
theorem pl_sdx (W : List Nat) : ∀ m, m ≤ W.length → pl (cyc W) m = sdx (W.take m)
  | 0, _ => by simp [pl, sdx]
  | m + 1, hm => by
    rw [pl, pl_sdx W m (by omega), List.take_succ_eq_append_getElem (by omega), cyc_lt (by omega)]
    simp only [sdx, List.map_append, List.sum_append, List.map_cons, List.map_nil, List.sum_cons, List.sum_nil, Int.add_zero]
theorem sdx_rep (k c : Nat) : sdx (List.replicate k c) = ((k : Int) * (dx c).1, (k : Int) * (dx c).2) := by
  unfold sdx
  simp
theorem sdx_app (a b : List Nat) : sdx (a ++ b) = ((sdx a).1 + (sdx b).1, (sdx a).2 + (sdx b).2) := by
  unfold sdx
  simp
theorem two_open {a b i j : Nat} (ha : Ltr a) (hb : Ltr b) (hi : 1 ≤ i) (hj : 1 ≤ j) (hl : lv a ≠ lv b) : sdx (List.replicate i a ++ List.replicate j b) ≠ (0, 0) := by
  rw [sdx_app, sdx_rep, sdx_rep]
  intro e
  have e1 := congrArg Prod.fst e
  have e2 := congrArg Prod.snd e
  rcases ha with rfl | rfl | rfl | rfl <;> rcases hb with rfl | rfl | rfl | rfl <;> simp [lv] at hl <;> simp [dx] at e1 e2 <;> omega
theorem line_runs {W : List Nat} (L : Line W) (h4 : 4 ≤ W.length) (h0 : stB W 0 = false) : AdjR (runsF W) ∧ lv ((runsF W).getLastD (0, 0)).1 ≠ lv ((runsF W).headD (0, 0)).1 ∧ 4 ≤ (runsF W).length := by
  have p := L.pos
  have I := runs_inv (W := W) (fun i hi hne => by
    have b : stB W (i + 1) = false := by
      unfold stB
      rw [show i + 1 + W.length - 1 = i + W.length by omega, cyc_per, cyc_lt (by omega), cyc_lt hi]
      simp [show i < W.length by omega, hi] at hne ⊢
      exact hne
    have := L.bends h4 b
    rw [show i + 1 + W.length - 1 = i + W.length by omega, cyc_per, cyc_lt (by omega), cyc_lt hi] at this
    simp [show i < W.length by omega, hi]
    exact this) W.length (Nat.le_refl _)
  rw [List.take_length] at I
  have neW : W ≠ [] := List.length_pos_iff.mp p
  have wr : lv ((runsF W).getLastD (0, 0)).1 ≠ lv ((runsF W).headD (0, 0)).1 := by
    rcases snoc_cases (runsF W) with e | ⟨r, q, e⟩
    · exact absurd (I.emp.mpr e) neW
    · have l := I.lst r q e
      have f := I.fst
      have b := L.bends h4 h0
      rw [Nat.zero_add, cyc_lt (by omega), cyc_lt p] at b
      have l2 : W.getLastD 0 = W[W.length - 1] := by
        rw [List.getLastD_eq_getLast?, List.getLast?_eq_getElem?, List.getElem?_eq_getElem (by omega)]
        rfl
      have f2 : W.headD 0 = W[0] := by
        cases W with
        | nil => exact absurd rfl neW
        | cons a W => rfl
      rw [← f, f2]
      rw [show (runsF W).getLastD (0, 0) = q by rw [e]; simp, ← l, l2]
      exact b
  refine ⟨I.adj, wr, ?_⟩
  have one := runs_bound W [] (by simp)
  have ex := expand_runs W
  have adj := I.adj
  have cl := LineG.end_ L
  rw [pl_sdx W W.length (Nat.le_refl _), List.take_length] at cl
  have ltr : ∀ q ∈ runsF W, Ltr q.1 := fun q m => L.ltrs _ (by have := mem_runs one m; rw [show expand (List.foldl addR [] W) = W from ex] at this; exact this)
  match hr : runsF W with
  | [] => exact absurd (I.emp.mpr hr) neW
  | [a] => rw [hr] at wr; simp at wr
  | [a, b] =>
    have ab := adj 0 (by rw [hr]; simp)
    rw [hr] at ab
    simp at ab
    have o := two_open (ltr a (by rw [hr]; simp)) (ltr b (by rw [hr]; simp)) (one a (by rw [show List.foldl addR [] W = runsF W from rfl, hr]; simp)) (one b (by rw [show List.foldl addR [] W = runsF W from rfl, hr]; simp)) ab
    rw [← ex, hr] at cl
    simp [expand] at cl
    exact absurd cl o
  | [a, b, c] =>
    have ab := adj 0 (by rw [hr]; simp)
    have bc := adj 1 (by rw [hr]; simp)
    rw [hr] at ab bc wr
    simp at ab bc wr
    exfalso
    cases e1 : lv a.1 <;> cases e2 : lv b.1 <;> cases e3 : lv c.1 <;> simp_all
  | _ :: _ :: _ :: _ :: _ => simp
end Mo
set_option Elab.async false
set_option linter.all false
set_option maxRecDepth 100000
set_option maxHeartbeats 4000000
/-! PuP: the program reads the line back. -/
namespace Mo
open PySem L2 TL
theorem bAny_ok {h : Ah} {Q : Dt → Ah → Prop} {l : List Nat} {f : Nat → Bool} : Ok (bAny [.lv (l.map fun i => .bl (f i))]) h Q ↔ Q (.bl (l.any f)) h := by
  have e : blsD (l.map fun i => .bl (f i)) = some (l.map f) := by
    induction l with
    | nil => rfl
    | cons a l ih => simp [blsD, ih]
  have e2 : bAny [.lv (l.map fun i => .bl (f i))] h = .ok (.bl (l.any f)) h := by
    simp [bAny, bFold, lstR, lstT, e]
  unfold Ok
  rw [e2]
theorem bAllq {h : Ah} {Q : Dt → Ah → Prop} {γ : Type} {l : List γ} {f : γ → Bool} : Ok (bAll [.lv (l.map fun i => .bl (f i))]) h Q ↔ Q (.bl (l.all f)) h := by
  have e : blsD (l.map fun i => .bl (f i)) = some (l.map f) := by
    induction l with
    | nil => rfl
    | cons a l ih => simp [blsD, ih]
  have e2 : bAll [.lv (l.map fun i => .bl (f i))] h = .ok (.bl (l.all f)) h := by
    simp [bAll, bFold, lstR, lstT, e]
  unfold Ok
  rw [e2]
theorem isi_str {h : Ah} {Q : Dt → Ah → Prop} {x : Str} : Ok (bIsi [.str x, .ty "str"]) h Q ↔ Q (.bl true) h := by
  have e : bIsi [.str x, .ty "str"] h = .ok (.bl true) h := by rfl
  unfold Ok
  rw [e]
/-- the level ahead of the i-th stretch -/
theorem lv_prev {rs : List (Nat × Nat)} {i : Nat} (h : i < rs.length) : atI (rs.map fun q => Dt.bl (lv q.1)) ((i : Int) - 1) = some (.bl (lv (if i = 0 then rs.getLastD (0, 0) else rs.getD (i - 1) (0, 0)).1)) := by
  cases i with
  | zero =>
    have h0 : rs ≠ [] := fun e => by subst e; simp at h
    rw [show ((0 : Nat) : Int) - 1 = -1 by omega, atI_last (by simpa using h0), List.getLast_map]
    simp [List.getLastD_eq_getLast?, List.getLast?_eq_some_getLast h0]
  | succ i =>
    rw [show ((i + 1 : Nat) : Int) - 1 = (i : Int) by omega, atI_nat (by simp; omega)]
    simp [show i < rs.length by omega]
theorem lv_at {rs : List (Nat × Nat)} {i : Nat} (h : i < rs.length) : atI (rs.map fun q => Dt.bl (lv q.1)) (i : Int) = some (.bl (lv (rs.getD i (0, 0)).1)) := by
  rw [atI_nat (by simpa using h)]
  simp [h]
end Mo
set_option Elab.async false
set_option linter.all false
set_option maxRecDepth 100000
set_option maxHeartbeats 4000000
/-! PuQ: steps_in. -/
namespace Mo
open PySem L2 TL
def altB (rs : List (Nat × Nat)) (i : Nat) : Bool := decide (lv (if i = 0 then rs.getLastD (0, 0) else rs.getD (i - 1) (0, 0)).1 = lv (rs.getD i (0, 0)).1)
def midM : En → Mm Fl := seq (ifS (tst (bi bAny (argC (lcM (itR1 (argC (bi bLen (argC (var 4) argN)) argN)) (.nm 5) yes (op2 opEq (op2 ixM (var 4) (op2 opSub (var 5) (con (.int 1)))) (op2 ixM (var 4) (var 5))) [5]) argN))) (ret (con (.str (Str.ofString "")))) nxt)
    (seq (sto 6 (bm isSt mJoin (con (.str (Str.ofString ""))) (argC (lcM (itL (var 2)) (.nm 3) yes (op2 opMul (op2 ixM (var 3) (con (.int 0))) (callM 1 K51.f_long_in (argC (var 3) argN))) [3]) argN)))
    (ret (ifE (tst (op2 opLe (bi bLen (argC (var 6) argN)) (var 1))) (var 6) (con (.str (Str.ofString ""))))))
theorem mid_ok {W : List Nat} {rs : List (Nat × Nat)} {h : Ah} {a0 : Option Dt} {V2 V4 : Dt} (e2 : V2 = .lv (rs.map fun q => .str (Tx (wordR q)))) (e4 : V4 = .lv (rs.map fun q => .bl (lv q.1))) (hn : W.length ≤ 120) (adj : AdjR rs) (wr : lv (rs.getLastD (0, 0)).1 ≠ lv (rs.headD (0, 0)).1) (ex : expand rs = W) (qf : ∀ q ∈ rs, 1 ≤ q.2 ∧ q.2 ≤ 120 ∧ Ltr q.1) (rl : rs.length ≤ 120) (sz : W.length ≤ sizeLine) :
    Ok (midM [a0, some (.int 120), some V2, none, some V4, none, none]) h fun f h1 => f = .rt (.str (Tx W)) ∧ ∃ j, h1 = h ++ j := by
  unfold midM
  rw [ok_seq]
  rw [ok_ifS, ok_tst, ok_bi, ok_argC]
  refine ok_lcA (List.range rs.length) (fun i => .int ((i : Nat) : Int)) (fun i => Dt.bl (altB rs i)) ?_
  rw [ok_itR1, ok_argC, ok_bi, ok_argC, ok_pick (i := 4) (d := V4) rfl, ok_argN, e4, ok_lenLv, ok_argN, List.length_map]
  refine ⟨_, rfl, ⟨by omega, by omega⟩, ?_⟩
  rw [Int.toNat_natCast, rng_eq]
  refine ⟨rfl, by simpa using szl (show rs.length ≤ 1000 by omega), fun i hi => gv_of fun h => ?_, fun j3 => ?_⟩
  · have hi := List.mem_range.mp hi
    rw [ok_op2, ok_op2, ok_pick (i := 4) (d := .lv (rs.map fun q => .bl (lv q.1))) rfl, ok_op2, ok_pick (i := 5) (d := .int (i : Nat)) rfl, ok_con, ok_subI, ok_ixLv]
    refine ⟨_, lv_prev hi, ?_⟩
    rw [ok_op2, ok_pick (i := 4) (d := .lv (rs.map fun q => .bl (lv q.1))) rfl, ok_pick (i := 5) (d := .int (i : Nat)) rfl, ok_ixLv]
    refine ⟨_, lv_at hi, ?_⟩
    rw [ok_eqB]
    exact ⟨rfl, [], by simp⟩
  rw [ok_argN, bAny_ok, ok_isB, if_neg (by
    rw [Bool.not_eq_true, List.any_eq_false]
    intro i hi
    have hi := List.mem_range.mp hi
    cases i with
    | zero =>
      cases rs with
      | nil => simp at hi
      | cons a r => simpa [altB] using wr
    | succ i => simpa [altB] using adj i hi), ok_nxt]
  dsimp only
  rw [ok_seq, ok_sto, ok_bm, ok_con, lit_, ok_argC]
  refine ⟨rfl, ?_⟩
  refine ok_lcA rs (fun q => .str (Tx (wordR q))) (fun q => .str (Tx (List.replicate q.2 q.1))) ?_
  rw [ok_itL, ok_pick (i := 2) (d := V2) rfl, e2, ok_itemsLv]
  refine ⟨rfl, szl (by omega), fun q m => gv_of fun h => ?_, fun j4 => ?_⟩
  · obtain ⟨q1, q2, q3⟩ := qf q m
    have wl : (wordR q).length ≤ sizeLine := szl (by have : (numL q.2).length ≤ 3 := numL_len (by decide) (by omega); simp [wordR]; omega)
    rw [ok_op2, ok_op2, ok_pick (i := 3) (d := .str (Tx (wordR q))) rfl, ok_con, ok_ixS]
    refine ⟨q.1, at0, wl, ?_⟩
    rw [ok_callM, ok_argC, ok_pick (i := 3) (d := .str (Tx (wordR q))) rfl, ok_argN]
    refine ⟨rfl, gv_fn (longin_ok q3 q1 (by omega)) fun j => ?_⟩
    rw [ok_repS (by omega)]
    exact ⟨rfl, j, rfl⟩
  rw [ok_argN, ok_join (fun q : Nat × Nat => List.replicate q.2 q.1) (by
    have := sum_le (fun q : Nat × Nat => (List.replicate q.2 q.1).length) 120 rs fun q m => by simpa using (qf q m).2.1
    simp only [List.length_nil, Nat.mul_zero, Nat.add_zero]
    omega), join_nil, show (rs.map fun q : Nat × Nat => List.replicate q.2 q.1).flatten = W from ex]
  dsimp only [List.set]
  rw [ok_ret, ok_ifE, ok_tst, ok_op2, ok_bi, ok_argC, ok_pick (i := 6) (d := .str (Tx W)) rfl, ok_argN, ok_lenS]
  refine ⟨sz, ?_⟩
  rw [ok_pick (i := 1) (d := .int 120) rfl, ok_leI, ok_isB, if_pos (by simpa using (show (W.length : Int) ≤ 120 by omega)), ok_pick (i := 6) (d := .str (Tx W)) rfl]
  exact ⟨rfl, j3 ++ j4, by simp⟩
theorem stepsin_ok {W : List Nat} (L : Line W) (h4 : 4 ≤ W.length) (hn : W.length ≤ 120) (h0 : stB W 0 = false) : Gv (K51.f_steps_in [.str (Tx (textP W)), .int 120]) (.str (Tx W)) := gv_of fun h => by
  obtain ⟨adj, wr, four⟩ := line_runs L h4 h0
  have ex := expand_runs W
  have one := runs_bound W [] (by simp)
  have qf : ∀ q ∈ runsF W, 1 ≤ q.2 ∧ q.2 ≤ 120 ∧ Ltr q.1 := fun q m => ⟨one q m, by have := run_le m; rw [ex] at this; omega, L.ltrs _ (by have := mem_runs one m; rw [show expand (List.foldl addR [] W) = W from ex] at this; exact this)⟩
  have rl : (runsF W).length ≤ 120 := by have := runs_le (rs := runsF W) one; rw [ex] at this; omega
  have sl := sum_le (fun q : Nat × Nat => (wordR q).length) 4 (runsF W) fun q m => by
    have : (numL q.2).length ≤ 3 := numL_len (by decide) (by have := (qf q m).2.1; omega)
    simp only [wordR, List.length_cons]
    omega
  have tl : (textP W).length ≤ 1000 := by
    have : ∀ (ps : List (List Nat)), (joinL [32] ps).length ≤ (ps.map List.length).sum + ps.length := by
      intro ps
      induction ps with
      | nil => simp [joinL]
      | cons p ps ih =>
        cases ps with
        | nil => simp [joinL]
        | cons q r =>
          show (p ++ ([32] ++ joinL [32] (q :: r))).length ≤ _
          simp only [List.length_append, List.length_cons, List.length_nil, List.map_cons, List.sum_cons] at ih ⊢
          omega
    have := this ((runsF W).map wordR)
    rw [List.map_map, List.length_map] at this
    have e : (List.map (List.length ∘ wordR) (runsF W)).sum = ((runsF W).map fun q => (wordR q).length).sum := rfl
    unfold textP
    omega
  have spl : Txt.split (Tx (textP W)) (Tx [32]) = (runsF W).map fun q => Tx (wordR q) := by
    have := split_of (x := Tx (textP W)) ((runsF W).map fun q => (q.1, numL q.2)) (by
      unfold textP
      rw [List.map_map]
      rfl) (fun e => by rw [List.map_eq_nil_iff] at e; rw [e] at four; simp at four) (fun p m => by
      obtain ⟨q, mq, rfl⟩ := List.mem_map.mp m
      intro z
      rcases List.mem_cons.mp z with z | z
      · have z : 32 = q.1 := z
        rcases (qf q mq).2.2 with e | e | e | e <;> omega
      · exact numL_free (by omega) z)
    rw [this, List.map_map]
    rfl
  have sz := szl (show W.length ≤ 1000 by omega)
  generalize hrs : runsF W = rs at *
  rw [K51.f_steps_in, ok_fnM]
  simp only [K51.m_steps_in, List.map_cons, List.map_nil, List.length_cons, List.length_nil, List.replicate, List.cons_append, List.nil_append]
  rw [ok_seq, ok_ifS, ok_notT, ok_tst, ok_bi, ok_argC, ok_pick (i := 0) (d := .str (Tx (textP W))) rfl, ok_argC, ok_con, ok_argN, isi_str, ok_isB, if_neg (by simp), ok_nxt]
  dsimp only
  rw [ok_seq, ok_sto, ok_bm, ok_pick (i := 0) (d := .str (Tx (textP W))) rfl, ok_argC, ok_con, lit_sp, ok_argN]
  refine ⟨rfl, ?_⟩
  refine ok_of (a := .lv (rs.map fun q => .str (Tx (wordR q)))) (h' := h) (by
    have s2 := szl (show 1000 ≤ 1000 by omega)
    have : (textP W).length + 2 ≤ sizeLine := by rw [sizeLine_eq]; omega
    simp [mSplit, spl, this]) ?_
  show Ok (seq _ _ [some (.str (Tx (textP W))), some (.int 120), some (.lv (rs.map fun q => .str (Tx (wordR q)))), none, none, none, none]) _ _
  rw [ok_seq, ok_ifS, ok_orT, ok_tst, ok_op2, ok_bi, ok_argC, ok_pick (i := 2) (d := .lv (rs.map fun q => .str (Tx (wordR q)))) rfl, ok_argN, ok_lenLv, ok_con, ok_ltI, ok_isB, List.length_map, if_neg (by simp; omega), ok_notT, ok_tst, ok_bi, ok_argC]
  refine ok_lcA rs (fun q => .str (Tx (wordR q))) (fun q => .bl (decide ((0 : Int) < (q.2 : Nat)))) ?_
  rw [ok_itL, ok_pick (i := 2) (d := .lv (rs.map fun q => .str (Tx (wordR q)))) rfl, ok_itemsLv]
  refine ⟨rfl, szl (by omega), fun q m => gv_of fun h => ?_, fun j1 => ?_⟩
  · obtain ⟨q1, q2, q3⟩ := qf q m
    rw [ok_op2, ok_callM, ok_argC, ok_pick (i := 3) (d := .str (Tx (wordR q))) rfl, ok_argN]
    refine ⟨rfl, gv_fn (longin_ok q3 q1 (by omega)) fun j => ?_⟩
    rw [ok_con, ok_gtI]
    exact ⟨rfl, j, rfl⟩
  rw [ok_argN, bAllq, ok_isB, if_neg (by
    have : rs.all (fun q => decide ((0 : Int) < (q.2 : Nat))) = true := List.all_eq_true.mpr fun q m => by have := (qf q m).1; simp; omega
    rw [this]; simp), ok_nxt]
  dsimp only
  rw [ok_seq, ok_sto]
  refine ok_lcA rs (fun q => .str (Tx (wordR q))) (fun q => .bl (lv q.1)) ?_
  rw [ok_itL, ok_pick (i := 2) (d := .lv (rs.map fun q => .str (Tx (wordR q)))) rfl, ok_itemsLv]
  refine ⟨rfl, szl (by omega), fun q m => gv_of fun h => ?_, fun j2 => ?_⟩
  · have wl : (wordR q).length ≤ sizeLine := szl (by have : (numL q.2).length ≤ 3 := numL_len (by decide) (by have := (qf q m).2.1; omega); simp [wordR]; omega)
    rw [ok_op2, ok_op2, ok_pick (i := 3) (d := .str (Tx (wordR q))) rfl, ok_con, ok_ixS]
    refine ⟨q.1, at0, wl, ?_⟩
    rw [ok_con, lit_ew, ok_inS, lv_mem]
    exact ⟨rfl, [], by simp⟩
  dsimp only [List.set]
  generalize hv4 : Dt.lv (rs.map fun q => .bl (lv q.1)) = V4
  generalize hv2 : Dt.lv (rs.map fun q => .str (Tx (wordR q))) = V2
  have key := mid_ok (h := h ++ j1 ++ j2) (a0 := some (.str (Tx (textP W)))) hv2.symm hv4.symm hn adj wr ex qf rl sz
  unfold midM at key
  refine key.mono fun f h1 ⟨e1, j, e2⟩ => ?_
  subst e1 e2
  exact ⟨rfl, j1 ++ j2 ++ j, by simp⟩
end Mo
set_option Elab.async false
set_option linter.all false
set_option maxRecDepth 100000
set_option maxHeartbeats 4000000
/-! PuR: claims. -/
namespace Mo
open PySem L2 TL
/-- plain data of depth n at most -/
def Shp (n : Nat) (d : Dt) : Prop := ∃ p, toP d = some p ∧ PyData.canLay0 p = true ∧ PyData.depth p ≤ n
def Shps (n : Nat) (ds : List Dt) : Prop := ∃ ps, toPs ds = some ps ∧ PyData.canLayAll0 ps = true ∧ PyData.depthAll ps ≤ n
theorem shps_nil {n : Nat} : Shps n [] := ⟨[], rfl, rfl, Nat.zero_le _⟩
theorem shps_cons {n : Nat} {d : Dt} {ds : List Dt} (h : Shp n d) (k : Shps n ds) : Shps n (d :: ds) := by
  obtain ⟨p, e, c, l⟩ := h
  obtain ⟨ps, e2, c2, l2⟩ := k
  refine ⟨p :: ps, by simp only [toPs, e, e2], by simp only [PyData.canLayAll0, c, c2, Bool.and_self], ?_⟩
  simp only [PyData.depthAll]
  omega
theorem shp_tup {n : Nat} {ds : List Dt} (k : Shps n ds) : Shp (n + 1) (.tup ds) := by
  obtain ⟨ps, e2, c2, l2⟩ := k
  refine ⟨.tuple ps, by simp only [toP, e2], by simp only [PyData.canLay0, c2], ?_⟩
  simp only [PyData.depth]
  omega
theorem shp_lv {n : Nat} {ds : List Dt} (k : Shps n ds) : Shp (n + 1) (.lv ds) := by
  obtain ⟨ps, e2, c2, l2⟩ := k
  refine ⟨.list ps, by simp only [toP, e2], by simp only [PyData.canLay0, c2], ?_⟩
  simp only [PyData.depth]
  omega
theorem shp_int {n : Nat} {i : Int} : Shp n (.int i) := ⟨_, rfl, rfl, Nat.zero_le _⟩
theorem shp_bl {n : Nat} {b : Bool} : Shp n (.bl b) := ⟨_, rfl, rfl, Nat.zero_le _⟩
theorem shp_non {n : Nat} : Shp n .non := ⟨_, rfl, rfl, Nat.zero_le _⟩
theorem shp_str {n : Nat} {l : List Nat} (h : ∀ c ∈ l, c < 128) : Shp n (.str (Tx l)) := ⟨_, rfl, strok h, Nat.zero_le _⟩
theorem Shp.mono {n m : Nat} {d : Dt} (h : Shp n d) (l : n ≤ m) : Shp m d := by
  obtain ⟨p, e, c, k⟩ := h
  exact ⟨p, e, c, by omega⟩
theorem eq_unit {h : Ah} {Q : Dt → Ah → Prop} {d : Dt} {ds : List Dt} (s : Shps 60 (d :: ds)) : Ok (opEq (.tup (d :: ds)) (.tup [])) h Q ↔ Q (.bl false) h := by
  obtain ⟨ps, e2, c2, l2⟩ := s
  have ne : ps ≠ [] := by
    rintro rfl
    simp only [toPs] at e2
    split at e2
    · cases e2
    · cases e2
  have t1 : toPH h (.tup (d :: ds)) = some (.tuple ps) := by
    show toP (.tup (d :: ds)) = _
    simp only [toP, e2]
  have e : eqR h (.tup (d :: ds)) (.tup []) = some false := by
    have : eqR h (.tup (d :: ds)) (.tup []) = match toPH h (.tup (d :: ds)), toPH h (.tup []) with | some p, some q => if SeqAt.shaped p && SeqAt.shaped q then some (PyData.eqv p q) else none | _, _ => none := rfl
    rw [this, t1, show toPH h (.tup []) = some (.tuple []) from rfl]
    have s1 : SeqAt.shaped (.tuple ps) = true := by
      unfold SeqAt.shaped
      simp only [PyData.canLay0, c2, PyData.depth, Bool.true_and, decide_eq_true_eq]
      exact decide_eq_true (by omega)
    simp only [s1, show SeqAt.shaped (.tuple []) = true by decide, Bool.and_self, if_true]
    cases ps with
    | nil => exact absurd rfl ne
    | cons q qs => simp [PyData.eqv, PyData.eqvAll]
  unfold Ok opEq
  rw [e]
theorem join_mem {a : List Nat} {c : Nat} : ∀ {ps : List (List Nat)}, c ∈ joinL a ps → c ∈ a ∨ ∃ p ∈ ps, c ∈ p
  | [], h => by simp [joinL] at h
  | [p], h => .inr ⟨p, by simp, by simpa [joinL] using h⟩
  | p :: q :: r, h => by
    have h : c ∈ p ++ (a ++ joinL a (q :: r)) := h
    rcases List.mem_append.mp h with m | m
    · exact .inr ⟨p, by simp, m⟩
    · rcases List.mem_append.mp m with m | m
      · exact .inl m
      · rcases join_mem m with x | ⟨z, mz, cz⟩
        · exact .inl x
        · exact .inr ⟨z, List.mem_cons_of_mem _ mz, cz⟩
theorem text_small {W : List Nat} (hl : Ltrs W) : ∀ c ∈ textP W, c < 128 := fun c m => by
  have one := runs_bound W [] (by simp)
  have ex := expand_runs W
  rcases join_mem m with x | ⟨z, mz, cz⟩
  · simp at x; omega
  · obtain ⟨q, mq, rfl⟩ := List.mem_map.mp mz
    refine word_small (hl _ ?_) c cz
    have := mem_runs one mq
    rw [show expand (List.foldl addR [] W) = W from ex] at this
    exact this
section
variable {h : Ah} {Q : Dt → Ah → Prop} {env : En} {mk mx : En → Mm Dt} {tb : Tb}
theorem isi_tup {xs : List Dt} : Ok (bIsi [.tup xs, .ty "tuple"]) h Q ↔ Q (.bl true) h := by
  have e : bIsi [.tup xs, .ty "tuple"] h = .ok (.bl true) h := by rfl
  unfold Ok
  rw [e]
theorem ok_kget : Ok (kget tb mk mx env) h Q ↔ Ok (mk env) h fun k h1 => Ok (mx env) h1 fun y h2 => match k with | .str z => (match tb.lookup z with | some (some d) => Q d h2 | some none => Q y h2 | none => False) | _ => False := by
  simp only [kget, ok_bind]
  refine ⟨fun o => o.mono fun k h1 q => q.mono fun y h2 q => ?_, fun o => o.mono fun k h1 q => q.mono fun y h2 q => ?_⟩
  · cases k with
    | str z =>
      dsimp only at q ⊢
      cases e : tb.lookup z with
      | none => rw [e] at q; exact q
      | some o => rw [e] at q; cases o <;> exact q
    | _ => exact q
  · cases k with
    | str z =>
      dsimp only at q ⊢
      cases e : tb.lookup z with
      | none => rw [e] at q; exact q
      | some o => rw [e] at q; cases o <;> exact q
    | _ => exact q
def isNon : Dt → Bool
  | .non => true
  | _ => false
theorem ok_notN {d : Dt} : Ok (opNotN d .non) h Q ↔ Q (.bl (!isNon d)) h := by
  cases d <;> rfl
end
theorem ok_eqE {h : Ah} {Q : Dt → Ah → Prop} {d : Dt} {ds : List Dt} : Ok (opEqE (.tup (d :: ds)) (.tup [])) h Q ↔ Q (.bl false) h := Iff.rfl
/-- the size that a word asks -/
def SizeIs (w : Str) (n : Nat) : Prop := ∀ (env : En) (h : Ah) (Q : Dt → Ah → Prop), env[2]? = some (some (.str w)) → Q (.int (n : Nat)) h → Ok (kget K51.tb_SIZES (var 2) (kget K51.tb_MORE_SIZES (var 2) (con (.int 0))) env) h Q
theorem size_of {w : Str} {n : Nat} (h : K51.tb_SIZES.lookup w = some (some (.int (n : Nat))) ∧ K51.tb_MORE_SIZES.lookup w = some none ∨ K51.tb_SIZES.lookup w = some none ∧ K51.tb_MORE_SIZES.lookup w = some (some (.int (n : Nat)))) : SizeIs w n := by
  intro env hh Q e q
  rw [ok_kget, ok_pick e, ok_kget, ok_pick e, ok_con]
  rcases h with ⟨h1, h2⟩ | ⟨h1, h2⟩ <;> simp only [h1, h2] <;> exact q
theorem size_turn : SizeIs (Str.ofString "turn") 3 := size_of (.inl ⟨by with_unfolding_all rfl, by with_unfolding_all rfl⟩)
/-- a claim of a drawn line: its steps are read, what is left is the tail -/
theorem acc_pre {W : List Nat} (L : Line W) (h4 : 4 ≤ W.length) (hn : W.length ≤ 120) (h0 : stB W 0 = false) {w : Str} {rest : List Dt} {cert : Dt} {t : En → Mm Fl} {h : Ah} {F : Fl → Ah → Prop} (sh : Shps 50 (.str w :: .str (Tx (textP W)) :: rest)) (sz : SizeIs w (rest.length + 2))
    (q : ∀ j, Ok (t [some (.tup (.str w :: .str (Tx (textP W)) :: rest)), some cert, some (.str w), some (.str (Tx W))]) (h ++ j) F) :
    Ok (seq (ifS (orT (notT (tst (bi bIsi (argC (var 0) (argC (con (.ty "tuple")) argN))))) (orT (tst (op2 opEqE (var 0) (tupE argN))) (notT (tst (bi bIsi (argC (op2 ixM (var 0) (con (.int 0))) (argC (con (.ty "str")) argN))))))) (ret (con (.bl false))) nxt)
    (seq (sto 2 (op2 ixM (var 0) (con (.int 0))))
    (seq (ifS (tst (op2 opNe (bi bLen (argC (var 0) argN)) (kget K51.tb_SIZES (var 2) (kget K51.tb_MORE_SIZES (var 2) (con (.int 0)))))) (ret (con (.bl false))) nxt)
    (seq (sto 3 (callM 2 K51.f_steps_in (argC (op2 ixM (var 0) (con (.int 1))) (argC (con (.int 120)) argN))))
    (seq (ifS (orT (tst (op2 opEq (var 3) (con (.str (Str.ofString ""))))) (notT (tst (callM 1 K51.f_is_line (argC (var 3) argN))))) (ret (con (.bl false))) nxt)
    t)))) [some (.tup (.str w :: .str (Tx (textP W)) :: rest)), some cert, none, none]) h F := by
  have lb : lineB W = true := (lineB_iff (List.length_pos_iff.mp L.pos) L.ltrs).mpr L
  have s60 : Shps 60 (.str w :: .str (Tx (textP W)) :: rest) := by
    obtain ⟨ps, a, b, c⟩ := sh
    exact ⟨ps, a, b, by omega⟩
  generalize hc : Dt.tup (.str w :: .str (Tx (textP W)) :: rest) = cl at *
  have at0' : atI (.str w :: .str (Tx (textP W)) :: rest) (0 : Int) = some (.str w) := at0
  rw [ok_seq, ok_ifS, ok_orT, ok_notT, ok_tst, ok_bi, ok_argC, ok_pick (i := 0) (d := cl) rfl, ok_argC, ok_con, ok_argN, ← hc, isi_tup, ok_isB, if_neg (by simp), ok_orT, ok_tst, ok_op2, ok_pick (i := 0) (d := .tup (.str w :: .str (Tx (textP W)) :: rest)) rfl, ok_tupE, ok_argN]
  refine ⟨szl (by simp), ?_⟩
  rw [ok_eqE, ok_isB, if_neg (by simp), ok_notT, ok_tst, ok_bi, ok_argC, ok_op2, ok_pick (i := 0) (d := .tup (.str w :: .str (Tx (textP W)) :: rest)) rfl, ok_con, ok_ixTup]
  refine ⟨_, at0', ?_⟩
  rw [ok_argC, ok_con, ok_argN, isi_str, ok_isB, if_neg (by simp), ok_nxt]
  dsimp only
  rw [ok_seq, ok_sto, ok_op2, ok_pick (i := 0) (d := .tup (.str w :: .str (Tx (textP W)) :: rest)) rfl, ok_con, ok_ixTup]
  refine ⟨_, at0', ?_⟩
  show Ok (seq _ _ [some (.tup (.str w :: .str (Tx (textP W)) :: rest)), some cert, some (.str w), none]) _ _
  rw [ok_seq, ok_ifS, ok_tst, ok_op2, ok_bi, ok_argC, ok_pick (i := 0) (d := .tup (.str w :: .str (Tx (textP W)) :: rest)) rfl, ok_argN, ok_lenTup]
  refine sz _ _ _ rfl ?_
  rw [ok_neI, ok_isB, if_neg (by simp; omega), ok_nxt]
  dsimp only
  rw [ok_seq, ok_sto, ok_callM, ok_argC, ok_op2, ok_pick (i := 0) (d := .tup (.str w :: .str (Tx (textP W)) :: rest)) rfl, ok_con, ok_ixTup]
  refine ⟨.str (Tx (textP W)), atI_nat (i := 1) (by simp), ?_⟩
  rw [ok_argC, ok_con, ok_argN]
  refine ⟨rfl, gv_fn (stepsin_ok L h4 hn h0) fun j => ?_⟩
  show Ok (seq _ _ [some (.tup (.str w :: .str (Tx (textP W)) :: rest)), some cert, some (.str w), some (.str (Tx W))]) _ _
  rw [ok_seq, ok_ifS, ok_orT, ok_tst, ok_op2, ok_pick (i := 3) (d := .str (Tx W)) rfl, ok_con, lit_, ok_eqS, ok_isB, if_neg (by simpa using List.length_pos_iff.mp L.pos), ok_notT, ok_tst, ok_callM, ok_argC, ok_pick (i := 3) (d := .str (Tx W)) rfl, ok_argN]
  refine ⟨rfl, gv_fn (isline_ok L.ltrs (List.length_pos_iff.mp L.pos) (by omega)) fun j2 => ?_⟩
  rw [lb, ok_isB, if_neg (by simp), ok_nxt]
  dsimp only
  rw [hc, List.append_assoc]
  exact q (j ++ j2)
/-- kinds of values that a claim may hold -/
def isInt : Dt → Bool
  | .int _ => true
  | _ => false
inductive Knd : Dt → Prop
  | non : Knd .non
  | bl {b : Bool} : Knd (.bl b)
  | int {i : Int} : Knd (.int i)
  | str {x : Str} : Knd (.str x)
  | tup {xs : List Dt} : Knd (.tup xs)
  | lv {xs : List Dt} : Knd (.lv xs)
  | dk {ks : List Key} {vs : List Dt} : Knd (.dk ks vs)
theorem whole_ok {d : Dt} (k : Knd d) : Gv (K51.f_is_whole [d]) (.bl (isInt d)) := gv_of fun h => by
  rw [K51.f_is_whole, ok_fnM]
  simp only [K51.m_is_whole, List.map_cons, List.map_nil, List.length_cons, List.length_nil, List.replicate, List.cons_append, List.nil_append]
  rw [ok_ret, ok_andV, ok_bi, ok_argC, ok_pick (i := 0) (d := d) rfl, ok_argC, ok_con, ok_argN]
  cases k with
  | int =>
    refine ok_of (a := .bl true) (h' := h) rfl ?_
    rw [ok_isB, if_pos rfl, ok_notV, ok_bi, ok_argC, ok_pick (i := 0) rfl, ok_argC, ok_con, ok_argN]
    refine ok_of (a := .bl false) (h' := h) rfl ?_
    rw [ok_isB]
    exact ⟨rfl, [], by simp⟩
  | bl =>
    refine ok_of (a := .bl true) (h' := h) rfl ?_
    rw [ok_isB, if_pos rfl, ok_notV, ok_bi, ok_argC, ok_pick (i := 0) rfl, ok_argC, ok_con, ok_argN]
    refine ok_of (a := .bl true) (h' := h) rfl ?_
    rw [ok_isB]
    exact ⟨rfl, [], by simp⟩
  | _ =>
    refine ok_of (a := .bl false) (h' := h) rfl ?_
    rw [ok_isB, if_neg (by simp)]
    exact ⟨rfl, [], by simp⟩
end Mo
set_option Elab.async false
set_option linter.all false
set_option maxRecDepth 100000
set_option maxHeartbeats 4000000
/-! PuS: what is judged. -/
namespace Mo
open PySem L2 TL
theorem word_ascii (x : Str) (h : PyData.strOk x = true) {n : Nat} : Shp n (.str x) := ⟨_, rfl, h, Nat.zero_le _⟩
def shown2 (a b : Bool) : Str := PyData.shown (.list [.bool a, .bool b])
theorem repr2 {h : Ah} {Q : Dt → Ah → Prop} {a b : Bool} : Ok (bRepr [.lv [.bl a, .bl b]]) h Q ↔ Q (.str (shown2 a b)) h := by
  have e : bRepr [.lv [.bl a, .bl b]] h = if showOk (.list [.bool a, .bool b]) then .ok (.str (shown2 a b)) h else .no := rfl
  have s : showOk (.list [.bool a, .bool b]) = true := by
    have sz : sizeLine = 16777216 := sizeLine_eq
    unfold showOk
    rw [sz]
    cases a <;> cases b <;> decide +kernel
  unfold Ok
  rw [e, s]
  rfl
theorem shown_eq {a b : Bool} : decide (shown2 a a = shown2 b b) = decide (a = b) := by cases a <;> cases b <;> decide +kernel
theorem ok_callK {h : Ah} {Q : Dt → Ah → Prop} {env : En} {mr : En → Mm (List Dt)} {n : Nat} {pm : List Nat} {fm : List Dt → Mm Dt} : Ok (callK n pm fm mr env) h Q ↔ Ok (mr env) h fun ds h1 => (ds.length = n ∧ (permL pm ds).length = n) ∧ Ok (fm (permL pm ds)) h1 Q := by
  simp only [callK, ok_bind]
  refine ⟨fun o => o.mono fun ds h1 q => ?_, fun o => o.mono fun ds h1 q => ?_⟩
  · by_cases e : ds.length = n ∧ (permL pm ds).length = n
    · rw [if_pos e] at q; exact ⟨e, q⟩
    · rw [if_neg e] at q; exact q.elim
  · rw [if_pos q.1]; exact q.2
theorem judged_ok {asked proof : Dt} {a b : Bool} (g : Gv (K51.f_accepts [asked, proof]) (.bl a)) : Gv (K51.f__law_judged [asked, proof, .bl b]) (.bl (decide (a = b))) := gv_of fun h => by
  rw [K51.f__law_judged, ok_fnM]
  simp only [K51.m__law_judged, List.map_cons, List.map_nil, List.length_cons, List.length_nil, List.replicate, List.cons_append, List.nil_append]
  rw [ok_ret, ok_op2, ok_bi, ok_argC, ok_lstE, ok_argC, ok_callM, ok_argC, ok_pick (i := 0) (d := asked) rfl, ok_argC, ok_pick (i := 1) (d := proof) rfl, ok_argN]
  refine ⟨rfl, gv_fn g fun j => ?_⟩
  rw [ok_argC, ok_callK, ok_argC, ok_pick (i := 1) (d := proof) rfl, ok_argC, ok_pick (i := 0) (d := asked) rfl, ok_argN]
  refine ⟨⟨rfl, rfl⟩, gv_fn (show Gv (K51.f_accepts (permL [1, 0] [proof, asked])) (.bl a) from g) fun j2 => ?_⟩
  rw [ok_argN]
  refine ⟨szl (by simp), ?_⟩
  rw [ok_argN, repr2, ok_bi, ok_argC, ok_lstE, ok_argC, ok_pick (i := 2) (d := .bl b) rfl, ok_argC, ok_pick (i := 2) (d := .bl b) rfl, ok_argN]
  refine ⟨szl (by simp), ?_⟩
  rw [ok_argN, repr2, ok_eqS, shown_eq]
  exact ⟨rfl, j ++ j2, by simp⟩
/-- one of some values -/
theorem any_ok {h : Ah} {r n : Nat} {xs : List Dt} (R : Reel h r n) (h0 : 0 < xs.length) (h1 : xs.length < 1000) (hn : n < 2 ^ 50) : Ok (K51.f__law_any [.obj r, .lv xs]) h fun d h' => d ∈ xs ∧ Reel h' r (n + 1) := by
  rw [K51.f__law_any, ok_fnM]
  simp only [K51.m__law_any, List.map_cons, List.map_nil, List.length_cons, List.length_nil, List.replicate, List.cons_append, List.nil_append]
  rw [ok_ret, ok_op2, ok_pick (i := 1) (d := .lv xs) rfl, ok_callM, ok_argC, ok_pick (i := 0) (d := .obj r) rfl, ok_argC, ok_bi, ok_argC, ok_pick (i := 1) (d := .lv xs) rfl, ok_argN, ok_lenLv, ok_argN]
  refine ⟨rfl, call_roll R (by omega) (by omega) (by omega) fun k h2 k1 R4 => ?_⟩
  rw [ok_ixLv]
  exact ⟨_, atI_nat (by omega), List.getElem_mem _, R4⟩
def noProofs : List Dt := [.tup [], .int 0, .int 1, .str (Str.ofString ""), .str (Str.ofString "bars"), .tup [.str (Str.ofString "bars")], .tup [.str (Str.ofString "turn")], .bl true, .bl false, .lv [], .dk [] [], .tup [.non], .int (-1)]
theorem ok_dnewV {h : Ah} {Q : Dt → Ah → Prop} {env : En} : Ok (dnewV env) h Q ↔ Q (.dk [] []) h := Iff.rfl
theorem noproof_ok {h : Ah} {r n : Nat} (R : Reel h r n) (hn : n < 2 ^ 50) : Ok (K51.f__law_no_proof [.obj r]) h fun d h' => isNon d = false ∧ Reel h' r (n + 1) := by
  rw [K51.f__law_no_proof, ok_fnM]
  simp only [K51.m__law_no_proof, List.map_cons, List.map_nil, List.length_cons, List.length_nil, List.replicate, List.cons_append, List.nil_append]
  rw [ok_ret, ok_callM, ok_argC, ok_pick (i := 0) (d := .obj r) rfl, ok_argC, ok_lstE]
  have s0 : (0 : Nat) ≤ sizeLine := szl (by simp)
  have s1 : (1 : Nat) ≤ sizeLine := szl (by simp)
  simp only [ok_argC, ok_tupE, ok_argN, ok_con, ok_lstE, ok_dnewV, ok_op1, ok_negI, List.length_nil, List.length_cons, s0, s1, true_and, Nat.zero_add, Nat.reduceAdd]
  refine ⟨szl (by simp), ?_⟩
  refine (any_ok (xs := noProofs) R (by simp [noProofs]) (by simp [noProofs]) hn).mono fun d h' ⟨m, R'⟩ => ⟨?_, R'⟩
  have : ∀ d ∈ noProofs, isNon d = false := by
    intro d m
    simp only [noProofs, List.mem_cons, List.not_mem_nil, or_false] at m
    rcases m with e | e | e | e | e | e | e | e | e | e | e | e | e <;> rw [e] <;> rfl
  exact this d m
theorem sum_qv (l : List Int) : ∀ (f : Int → Int), (∀ b, -1 ≤ f b ∧ f b ≤ 1) → -(l.length : Int) ≤ (l.map f).sum ∧ (l.map f).sum ≤ l.length := by
  intro f hf
  induction l with
  | nil => simp
  | cons a l ih =>
    have := hf a
    simp only [List.map_cons, List.sum_cons, List.length_cons]
    omega
theorem turn_bound (W : List Nat) : -(W.length : Int) ≤ turnZ W ∧ turnZ W ≤ W.length := by
  have := sum_qv ((List.range W.length).map (bdg W)) qv fun b => by
    unfold qv
    split
    · omega
    · split <;> omega
  rw [List.map_map, List.length_map, List.length_range] at this
  unfold turnZ
  have e : ((List.range W.length).map fun i => qv (bdg W i)) = (List.range W.length).map (qv ∘ bdg W) := rfl
  rw [e]
  omega
theorem str_small {i : Int} (h1 : -200 ≤ i) (h2 : i ≤ 200) : PyData.strOk (Str.ofString (toString i)) = true := by
  have : ∀ k : Nat, k < 401 → PyData.strOk (Str.ofString (toString ((k : Int) - 200))) = true := by decide +kernel
  have := this (i + 200).toNat (by omega)
  rw [show (((i + 200).toNat : Nat) : Int) - 200 = i by omega] at this
  exact this
theorem ok_strZ {h : Ah} {Q : Dt → Ah → Prop} {i : Int} (h1 : -200 ≤ i) (h2 : i ≤ 200) : Ok (bStr [.int i]) h Q ↔ Q (.str (Str.ofString (toString i))) h := by
  have l : i.natAbs.log2 < 1920 := log2_lt (by
    have : (1024 : Nat) ≤ 2 ^ 1920 := Nat.pow_le_pow_right (n := 2) (by decide) (show 10 ≤ 1920 by decide)
    omega) (by decide)
  unfold Ok bStr
  simp only [l, if_true]
end Mo
set_option Elab.async false
set_option linter.all false
set_option maxRecDepth 100000
set_option maxHeartbeats 4000000
/-! PuU: claims of turns (k51, k61). -/
namespace Mo
open PySem L2 TL
def turnIs (W : List Nat) : Dt → Bool
  | .int i => decide (turnZ W = i)
  | _ => false
theorem numright_ok {W : List Nat} (hl : Ltrs W) (hn : W.length ≤ 900) {x y : Dt} (k : Knd x) : Gv (K51.f_is_number_right [.str (Tx W), .tup [.str (Str.ofString "turn"), y, x]]) (.bl (turnIs W x)) := gv_of fun h => by
  rw [K51.f_is_number_right, ok_fnM]
  simp only [K51.m_is_number_right, List.map_cons, List.map_nil, List.length_cons, List.length_nil, List.replicate, List.cons_append, List.nil_append]
  rw [ok_seq, ok_par, ok_argC, ok_op2, ok_pick (i := 1) (d := .tup [.str (Str.ofString "turn"), y, x]) rfl, ok_con, ok_ixTup]
  refine ⟨_, at0, ?_⟩
  rw [ok_argC, ok_op2, ok_pick (i := 1) (d := .tup [.str (Str.ofString "turn"), y, x]) rfl, ok_op1, ok_con, ok_negI, ok_ixTup]
  refine ⟨x, by rw [atI_last (by simp)]; simp, ?_⟩
  rw [ok_argN]
  refine ⟨_, _, rfl, ?_⟩
  show Ok (seq _ _ [some (.str (Tx W)), some (.tup [.str (Str.ofString "turn"), y, x]), some (.str (Str.ofString "turn")), some x]) _ _
  rw [ok_seq, ok_ifS, ok_notT, ok_tst, ok_callM, ok_argC, ok_pick (i := 3) (d := x) rfl, ok_argN]
  refine ⟨rfl, gv_fn (whole_ok k) fun j => ?_⟩
  rw [ok_isB]
  cases hx : isInt x with
  | false =>
    rw [if_pos (by simp), ok_ret, ok_con]
    refine ⟨?_, j, rfl⟩
    cases x <;> first | rfl | simp [isInt] at hx
  | true =>
    rw [if_neg (by simp), ok_nxt]
    dsimp only
    cases x with
    | int i =>
      rw [ok_seq, ok_ifS, ok_tst, ok_op2, ok_pick (i := 2) (d := .str (Str.ofString "turn")) rfl, ok_con, ok_eqS, ok_isB, if_pos (by simp), ok_ret, ok_op2, ok_callM, ok_argC, ok_pick (i := 0) (d := .str (Tx W)) rfl, ok_argN]
      refine ⟨rfl, gv_fn (turnof_ok hl hn) fun j2 => ?_⟩
      rw [ok_pick (i := 3) (d := .int i) rfl, ok_eqI]
      exact ⟨rfl, j ++ j2, by simp⟩
    | _ => simp [isInt] at hx
theorem in_words {h : Ah} : inR h (.str (Str.ofString "turn")) (.tup [.str (Str.ofString "turn"), .str (Str.ofString "sheets"), .str (Str.ofString "height"), .str (Str.ofString "with")]) = some true := by
  have e : inR h (.str (Str.ofString "turn")) (.tup [.str (Str.ofString "turn"), .str (Str.ofString "sheets"), .str (Str.ofString "height"), .str (Str.ofString "with")]) = some (inV (.str (Str.ofString "turn")) [.str (Str.ofString "turn"), .str (Str.ofString "sheets"), .str (Str.ofString "height"), .str (Str.ofString "with")]) := rfl
  rw [e]
  congr 1
theorem accepts_turn {W : List Nat} (L : Line W) (h4 : 4 ≤ W.length) (hn : W.length ≤ 120) (h0 : stB W 0 = false) {x cert : Dt} (k : Knd x) (s : Shp 50 x) : Gv (K51.f_accepts [.tup [.str (Str.ofString "turn"), .str (Tx (textP W)), x], cert]) (.bl (isNon cert && turnIs W x)) := gv_of fun h => by
  rw [K51.f_accepts, ok_fnM]
  simp only [K51.m_accepts, List.map_cons, List.map_nil, List.length_cons, List.length_nil, List.replicate, List.cons_append, List.nil_append]
  refine acc_pre L h4 hn h0 (shps_cons (word_ascii _ (by decide +kernel)) (shps_cons (shp_str (text_small L.ltrs)) (shps_cons s shps_nil))) size_turn fun j => ?_
  generalize hc : Dt.tup [.str (Str.ofString "turn"), .str (Tx (textP W)), x] = cl
  rw [ok_seq, ok_ifS, ok_tst, ok_op2, ok_pick (i := 2) (d := .str (Str.ofString "turn")) rfl, ok_con, ok_eqS, ok_isB, if_neg (by decide +kernel), ok_nxt]
  dsimp only
  rw [ok_seq, ok_ifS, ok_tst, ok_op2, ok_pick (i := 2) (d := .str (Str.ofString "turn")) rfl, ok_con, ok_eqS, ok_isB, if_neg (by decide +kernel), ok_nxt]
  dsimp only
  rw [ok_seq, ok_ifS, ok_tst, ok_op2, ok_pick (i := 1) (d := cert) rfl, ok_con, ok_notN, ok_isB]
  cases hcn : isNon cert with
  | false =>
    rw [if_pos (by simp), ok_ret, ok_con]
    exact ⟨by simp, j, rfl⟩
  | true =>
    rw [if_neg (by simp), ok_nxt]
    dsimp only
    rw [ok_seq, ok_ifS, ok_tst, ok_op2, ok_pick (i := 2) (d := .str (Str.ofString "turn")) rfl, ok_tupE, ok_argC, ok_con, ok_argC, ok_con, ok_argC, ok_con, ok_argC, ok_con, ok_argN]
    refine ⟨szl (by simp), ?_⟩
    refine ok_of (a := .bl true) (h' := h ++ j) (by unfold opIn; rw [in_words]) ?_
    rw [ok_isB, if_pos rfl, ok_ret, ok_callM, ok_argC, ok_pick (i := 3) (d := .str (Tx W)) rfl, ok_argC, ok_pick (i := 0) (d := cl) rfl, ok_argN, ← hc]
    refine ⟨rfl, gv_fn (numright_ok L.ltrs (by omega) k) fun j2 => ?_⟩
    exact ⟨by simp, j ++ j2, by simp⟩
end Mo
set_option Elab.async false
set_option linter.all false
set_option maxRecDepth 100000
set_option maxHeartbeats 4000000
/-! PuV: rolls write at the reel alone. -/
namespace Mo
open PySem L2 TL
/-- a roll writes at the reel alone -/
theorem roll_ok2 {h : Ah} {r n : Nat} {many : Int} (R : Reel h r n) (h1 : 0 < many) (h2 : many < 1073741824) (hn : n < 2 ^ 60) :
    Ok (K51.f__law_roll [.obj r, .int many]) h fun d h' => ∃ k : Int, d = .int k ∧ 0 ≤ k ∧ k < many ∧ ∃ o, h' = h.set r o ∧ Reel h' r (n + 1) := by
  obtain ⟨g, s, c, e, g0, s0, s1, c0, c1⟩ := R.ex
  have l := lstAt_lt e
  have q1 : (c + 1).natAbs.log2 < 61 := log2_lt (by omega) (by omega)
  have q2 : s.natAbs.log2 < 32 := log2_lt (by omega) (by omega)
  have q3 : (s % 21001 + 33013).natAbs.log2 < 32 := log2_lt (by omega) (by omega)
  have m0 := Int.emod_nonneg (s * (s % 21001 + 33013) + 50021 * (c + 1) + 3) (show (2147483249 : Int) ≠ 0 by decide)
  have m1 := Int.emod_lt_of_pos (s * (s % 21001 + 33013) + 50021 * (c + 1) + 3) (show (0 : Int) < 2147483249 by decide)
  rw [K51.f__law_roll, ok_fnM]
  simp only [K51.m__law_roll]
  simp [e, atI, ixN, lstAt_set, l]
  refine ⟨by omega, by have : Nat.log2 50021 = 15 := by decide
                       omega, ?_⟩
  by_cases hg : 0 < g
  · simp [hg, e, atI, ixN, lstAt_set, l, h1, h2]
    refine ⟨Int.emod_nonneg _ (by omega), Int.emod_lt_of_pos _ h1, ⟨_, rfl⟩, ⟨_, _, _, lstAt_set (by simpa using l), Int.ediv_nonneg g0 (by omega), m0, m1, by omega, by omega⟩⟩
  · simp [hg, e, atI, ixN, lstAt_set, l, h1, h2]
    refine ⟨Int.emod_nonneg _ (by omega), Int.emod_lt_of_pos _ h1, ⟨_, rfl⟩, ⟨_, _, _, lstAt_set (by simpa using l), g0, m0, m1, by omega, by omega⟩⟩
theorem call_roll2 {h : Ah} {r n : Nat} {many : Int} {Q : Dt → Ah → Prop} (R : Reel h r n) (h1 : 0 < many) (h2 : many < 1073741824) (hn : n < 2 ^ 60) (q : ∀ (k : Nat) o, (k : Int) < many → Reel (h.set r o) r (n + 1) → Q (.int (k : Int)) (h.set r o)) :
    Ok (K51.f__law_roll [.obj r, .int many]) h Q := (roll_ok2 R h1 h2 hn).mono fun d h' ⟨k, e, k0, k1, o, eo, R'⟩ => by
  subst e eo
  have := q k.toNat o (by omega) R'
  rwa [show ((k.toNat : Nat) : Int) = k by omega] at this
theorem any_ok2 {h : Ah} {r n : Nat} {xs : List Dt} (R : Reel h r n) (h0 : 0 < xs.length) (h1 : xs.length < 1000) (hn : n < 2 ^ 50) : Ok (K51.f__law_any [.obj r, .lv xs]) h fun d h' => d ∈ xs ∧ ∃ o, h' = h.set r o ∧ Reel h' r (n + 1) := by
  rw [K51.f__law_any, ok_fnM]
  simp only [K51.m__law_any, List.map_cons, List.map_nil, List.length_cons, List.length_nil, List.replicate, List.cons_append, List.nil_append]
  rw [ok_ret, ok_op2, ok_pick (i := 1) (d := .lv xs) rfl, ok_callM, ok_argC, ok_pick (i := 0) (d := .obj r) rfl, ok_argC, ok_bi, ok_argC, ok_pick (i := 1) (d := .lv xs) rfl, ok_argN, ok_lenLv, ok_argN]
  refine ⟨rfl, call_roll2 R (by omega) (by omega) (by omega) fun k o k1 R4 => ?_⟩
  rw [ok_ixLv]
  exact ⟨_, atI_nat (by omega), List.getElem_mem _, o, rfl, R4⟩
theorem any_okO {h : Ah} {r q n : Nat} {xs : List Dt} (R : Reel h r n) (e : lstAt h q = some xs) (ne : r ≠ q) (h0 : 0 < xs.length) (h1 : xs.length < 1000) (hn : n < 2 ^ 50) : Ok (K51.f__law_any [.obj r, .obj q]) h fun d h' => d ∈ xs ∧ ∃ o, h' = h.set r o ∧ Reel h' r (n + 1) := by
  rw [K51.f__law_any, ok_fnM]
  simp only [K51.m__law_any, List.map_cons, List.map_nil, List.length_cons, List.length_nil, List.replicate, List.cons_append, List.nil_append]
  rw [ok_ret, ok_op2, ok_pick (i := 1) (d := .obj q) rfl, ok_callM, ok_argC, ok_pick (i := 0) (d := .obj r) rfl, ok_argC, ok_bi, ok_argC, ok_pick (i := 1) (d := .obj q) rfl, ok_argN, ok_lenO e, ok_argN]
  refine ⟨rfl, call_roll2 R (by omega) (by omega) (by omega) fun k o k1 R4 => ?_⟩
  rw [ok_ixO, lstAt_ne ne, e]
  exact ⟨_, atI_nat (by omega), List.getElem_mem _, o, rfl, R4⟩
theorem noproof_ok2 {h : Ah} {r n : Nat} (R : Reel h r n) (hn : n < 2 ^ 50) : Ok (K51.f__law_no_proof [.obj r]) h fun d h' => isNon d = false ∧ ∃ o, h' = h.set r o ∧ Reel h' r (n + 1) := by
  rw [K51.f__law_no_proof, ok_fnM]
  simp only [K51.m__law_no_proof, List.map_cons, List.map_nil, List.length_cons, List.length_nil, List.replicate, List.cons_append, List.nil_append]
  rw [ok_ret, ok_callM, ok_argC, ok_pick (i := 0) (d := .obj r) rfl, ok_argC, ok_lstE]
  have s0 : (0 : Nat) ≤ sizeLine := szl (by simp)
  have s1 : (1 : Nat) ≤ sizeLine := szl (by simp)
  simp only [ok_argC, ok_tupE, ok_argN, ok_con, ok_lstE, ok_dnewV, ok_op1, ok_negI, List.length_nil, List.length_cons, s0, s1, true_and, Nat.zero_add, Nat.reduceAdd]
  refine ⟨szl (by simp), ?_⟩
  refine (any_ok2 (xs := noProofs) R (by simp [noProofs]) (by simp [noProofs]) hn).mono fun d h' ⟨m, R'⟩ => ⟨?_, R'⟩
  have : ∀ d ∈ noProofs, isNon d = false := by
    intro d m
    simp only [noProofs, List.mem_cons, List.not_mem_nil, or_false] at m
    rcases m with e | e | e | e | e | e | e | e | e | e | e | e | e <;> rw [e] <;> rfl
  exact this d m
end Mo
set_option Elab.async false
set_option linter.all false
set_option maxRecDepth 100000
set_option maxHeartbeats 4000000
/-! PvA: rows of upright steps, heights. -/
namespace Mo
open PySem L2 TL
def upB (c : Nat) : Bool := decide (c = 110) || decide (c = 115)
def mnI (a b : Int) : Int := if b < a then b else a
/-- the place of an upright step and its row -/
def rowPt (W : List Nat) (i : Nat) : Pt := ((pl (cyc W) i).1, mnI (pl (cyc W) i).2 (pl (cyc W) (i + 1)).2)
def upL (W : List Nat) (m : Nat) : List Nat := (List.range m).filter fun i => upB (cyc W i)
def upK (W : List Nat) (m : Nat) : List Key := (upL W m).map fun i => .inl ((i : Nat) : Int)
def upV (W : List Nat) (m : Nat) : List Dt := (upL W m).map fun i => ptD (rowPt W i)
theorem upL_succ (W : List Nat) (m : Nat) : upL W (m + 1) = upL W m ++ if upB (cyc W m) then [m] else [] := by
  unfold upL
  rw [List.range_succ, List.filter_append]
  congr 1
  by_cases h : upB (cyc W m) <;> simp [h]
theorem at1 {α : Type} {a b : α} {l : List α} : atI (a :: b :: l) 1 = some b := atI_nat (i := 1) (by simp)
theorem upL_lt {W : List Nat} {m i : Nat} (h : i ∈ upL W m) : i < m := List.mem_range.mp (List.mem_filter.mp h).1
theorem upL_len (W : List Nat) (m : Nat) : (upL W m).length ≤ m := by
  have := List.length_filter_le (fun i => upB (cyc W i)) (List.range m)
  simpa [upL] using this
theorem up_mem {c : Nat} : decide (c ∈ [110, 115]) = upB c := by
  unfold upB
  simp [Bool.decide_or]
theorem lit_ns : (Str.ofString "ns") = Tx [110, 115] := by decide +kernel
theorem put_new {κ : Type} [DecidableEq κ] {ks : List κ} {vs : List Dt} {k : κ} {d : Dt} (h : k ∉ ks) : putG ks vs k d = (ks ++ [k], vs ++ [d]) := by
  unfold putG
  rw [if_neg h]
theorem ok_setK {h : Ah} {ks : List Key} {vs : List Dt} {j : Ah} {k : Int} {y : Dt} {U : Unit → Ah → Prop} (hl : vs.length < sizeLine) : Ok (setD (.obj h.length) (.int k) y) (h ++ .dk ks vs :: j) U ↔ U () (h ++ .dk (putG ks vs (.inl k) y).1 (putG ks vs (.inl k) y).2 :: j) := by
  unfold Ok setD
  simp [keyD, hl]
theorem ok_itES {h : Ah} {env : En} {mr : En → Mm (List Dt)} {L : List Dt → Ah → Prop} : Ok (itES mr env) h L ↔ Ok (mr env) h fun ds h1 => ∃ x, ds = [.str x] ∧ L (enumD 0 (signs x)) h1 := by
  unfold itES
  rw [ok_bind]
  refine ⟨fun o => o.mono fun ds h1 q => ?_, fun o => o.mono fun ds h1 q => ?_⟩
  · split at q
    · exact ⟨_, rfl, q⟩
    · exact q.elim
  · obtain ⟨x, rfl, q⟩ := q
    exact q
theorem enum_tx (W : List Nat) : enumD 0 (signs (Tx W)) = (List.range W.length).map fun i => .tup [.int (i : Nat), .str (Tx [cyc W i])] := by
  rw [enum_map, tx_signs]
  apply List.ext_getElem
  · simp
  · intro i h1 h2
    simp only [List.length_map, List.length_zipIdx] at h1
    simp only [List.getElem_map, List.getElem_zipIdx, List.getElem_range, Nat.zero_add]
    rw [cyc_lt h1]
theorem rows_ok {W : List Nat} (hl : Ltrs W) (hn : W.length ≤ 900) (h : Ah) : Ok (K51.f_rows_of [.str (Tx W)]) h fun d h' => ∃ k, d = .obj (h ++ k).length ∧ h' = (h ++ k) ++ [.dk (upK W W.length) (upV W W.length)] := by
  rw [K51.f_rows_of, ok_fnM]
  simp only [K51.m_rows_of, List.map_cons, List.map_nil, List.length_cons, List.length_nil, List.replicate, List.cons_append, List.nil_append]
  rw [ok_seq, ok_par, ok_argC, ok_callM, ok_argC, ok_pick (i := 0) (d := .str (Tx W)) rfl, ok_argN]
  refine ⟨rfl, (places_ok hl hn h).mono fun d h1 ⟨e, j, e2⟩ => ?_⟩
  subst e e2
  rw [ok_argC]
  refine ok_mkO.mpr ?_
  rw [ok_argN]
  refine ⟨_, _, rfl, ?_⟩
  generalize hH : h ++ .lst (ptsD W W.length) :: j = H1
  have atP : ∀ (o : Ao), lstAt (H1 ++ [o]) h.length = some (ptsD W W.length) := fun o => by rw [← hH, List.append_assoc]; exact lstAt_new
  show Ok (seq _ _ [some (.str (Tx W)), some (.obj h.length), some (.obj H1.length), none, none]) _ _
  rw [ok_seq, ok_forM, ok_itES, ok_argC, ok_pick (i := 0) (d := .str (Tx W)) rfl, ok_argN]
  refine ⟨_, rfl, ?_⟩
  rw [enum_tx]
  refine forL_ind (fun ds env h' => ∃ (m : Nat) (y z : Option Dt), m ≤ W.length ∧ ds = ((List.range W.length).drop m).map (fun i => .tup [.int (i : Nat), .str (Tx [cyc W i])]) ∧ h' = H1 ++ [.dk (upK W m) (upV W m)] ∧ env = [some (.str (Tx W)), some (.obj h.length), some (.obj H1.length), y, z]) ?_ ?_ _ _ _ ⟨0, none, none, Nat.zero_le _, by simp, by simp [upK, upV, upL], rfl⟩
  · rintro x xs env h' ⟨m, y, z, hm, e, rfl, rfl⟩
    have c : m < W.length := by
      rcases Nat.lt_or_ge m W.length with c | c
      · exact c
      · rw [List.drop_eq_nil_of_le (by simpa using c)] at e; simp at e
    rw [range_drop c, List.map_cons] at e
    obtain ⟨rfl, rfl⟩ := List.cons.inj e
    refine ⟨[some (.str (Tx W)), some (.obj h.length), some (.obj H1.length), some (.int (m : Nat)), some (.str (Tx [cyc W m]))], by simp [Pat.bd, Pat.bds], ?_⟩
    rw [ok_ifS, ok_tst, ok_op2, ok_pick (i := 4) (d := .str (Tx [cyc W m])) rfl, ok_con, lit_ns, ok_inS, up_mem, ok_isB]
    cases hu : upB (cyc W m) with
    | false =>
      rw [if_neg (by simp), ok_nxt]
      exact ⟨m + 1, _, _, c, rfl, by simp [upK, upV, upL_succ, hu], rfl⟩
    | true =>
      rw [if_pos rfl, ok_asg, ok_tupE, ok_argC, ok_op2, ok_op2, ok_pick (i := 1) (d := .obj h.length) rfl, ok_pick (i := 3) (d := .int (m : Nat)) rfl, ok_ixO, atP]
      refine ⟨_, ptsD_at (by omega), ?_⟩
      rw [ok_con]
      refine ok_ixTup.mpr ⟨_, at0, ?_⟩
      rw [ok_argC, ok_bi, ok_argC, ok_op2, ok_op2, ok_pick (i := 1) (d := .obj h.length) rfl, ok_pick (i := 3) (d := .int (m : Nat)) rfl, ok_ixO, atP]
      refine ⟨_, ptsD_at (by omega), ?_⟩
      rw [ok_con]
      refine ok_ixTup.mpr ⟨_, at1, ?_⟩
      rw [ok_argC, ok_op2, ok_op2, ok_pick (i := 1) (d := .obj h.length) rfl, ok_op2, ok_pick (i := 3) (d := .int (m : Nat)) rfl, ok_con, ok_addI, ok_ixO, atP, show ((m : Int) + 1) = ((m + 1 : Nat) : Int) by omega]
      refine ⟨_, ptsD_at (by omega), ?_⟩
      rw [ok_con]
      refine ok_ixTup.mpr ⟨_, at1, ?_⟩
      rw [ok_argN]
      refine ok_minI.mpr ?_
      rw [ok_argN]
      refine ⟨szl (by simp), ?_⟩
      rw [ok_gS, ok_pick (i := 2) (d := .obj H1.length) rfl, ok_pick (i := 3) (d := .int (m : Nat)) rfl, ok_setK (by
        have := upL_len W m
        simp only [upV, List.length_map]
        have := szl (show 1000 ≤ 1000 by omega)
        omega), put_new (by
        intro hm
        obtain ⟨i, mi, e⟩ := List.mem_map.mp hm
        have := upL_lt mi
        simp at e
        omega)]
      refine ⟨m + 1, _, _, c, rfl, ?_, rfl⟩
      simp [upK, upV, upL_succ, hu, rowPt, mnI, ptD]
  · rintro env h' ⟨m, y, z, hm, e, rfl, rfl⟩
    have : m = W.length := by
      rcases Nat.lt_or_ge m W.length with c | c
      · rw [range_drop c] at e; simp at e
      · omega
    subst this
    dsimp only
    rw [ok_ret, ok_pick (i := 2) (d := .obj H1.length) rfl]
    exact ⟨.lst (ptsD W W.length) :: j, by rw [hH], by rw [hH]⟩
/-- what an upright step adds to the height of a cell to its left -/
def hR (W : List Nat) (c : Pt) (i : Nat) : Int := if upB (cyc W i) ∧ (rowPt W i).2 = c.2 ∧ c.1 < (rowPt W i).1 then (if cyc W i = 110 then 1 else -1) else 0
def heightR (W : List Nat) (c : Pt) : Int := ((List.range W.length).map (hR W c)).sum
/-- what a level step adds to the height of a cell below it -/
def hL (W : List Nat) (c : Pt) (i : Nat) : Int := if lv (cyc W i) ∧ mnI (pl (cyc W) i).1 (pl (cyc W) (i + 1)).1 = c.1 ∧ c.2 < (pl (cyc W) i).2 then (if cyc W i = 119 then 1 else -1) else 0
def heightL (W : List Nat) (c : Pt) : Int := ((List.range W.length).map (hL W c)).sum
def quad (c p : Pt) : Int := if c.1 < p.1 ∧ c.2 < p.2 then 1 else 0
theorem quad_core (c : Nat) (hc : Ltr c) (x y a b : Int) : (if upB c = true ∧ mnI y (y + (dx c).2) = b ∧ a < x then (if c = 110 then (1 : Int) else -1) else 0) - (if lv c = true ∧ mnI x (x + (dx c).1) = a ∧ b < y then (if c = 119 then 1 else -1) else 0) = (if a < x + (dx c).1 ∧ b < y + (dx c).2 then 1 else 0) - (if a < x ∧ b < y then 1 else 0) := by
  rcases hc with rfl | rfl | rfl | rfl <;> simp [upB, lv, dx, mnI] <;> (repeat' split) <;> omega
theorem quad_step {W : List Nat} (c : Pt) (i : Nat) (h : Ltr (cyc W i)) : hR W c i - hL W c i = quad c (pl (cyc W) (i + 1)) - quad c (pl (cyc W) i) :=
  quad_core (cyc W i) h (pl (cyc W) i).1 (pl (cyc W) i).2 c.1 c.2
theorem sum_tele (f g q : Nat → Int) (h : ∀ i, f i - g i = q (i + 1) - q i) : ∀ n, ((List.range n).map f).sum - ((List.range n).map g).sum = q n - q 0
  | 0 => by simp
  | n + 1 => by
    have ih := sum_tele f g q h n
    have := h n
    simp only [List.range_succ, List.map_append, List.sum_append, List.map_cons, List.map_nil, List.sum_cons, List.sum_nil]
    omega
theorem heights_eq {W : List Nat} (L : Line W) (c : Pt) : heightR W c = heightL W c := by
  have := sum_tele (hR W c) (hL W c) (fun i => quad c (pl (cyc W) i)) (fun i => quad_step c i (L.ltrs _ (cyc_mem L.pos i))) W.length
  have e : pl (cyc W) W.length = pl (cyc W) 0 := by rw [LineG.end_ L]; rfl
  rw [e] at this
  unfold heightR heightL
  omega
end Mo
set_option Elab.async false
set_option linter.all false
set_option maxRecDepth 100000
set_option maxHeartbeats 4000000
/-! PvB: heights by the program and by the law. -/
namespace Mo
open PySem L2 TL
theorem ok_itI {h : Ah} {env : En} {ma : En → Mm Dt} {L : List Dt → Ah → Prop} : Ok (itI ma env) h L ↔ Ok (ma env) h fun d h1 => Ok (dkF d) h1 fun kv h2 => L (List.zipWith (fun k v => .tup [kD k, v]) kv.1 kv.2) h2 := by simp [itI]
theorem ok_dkF {h : Ah} {ks : List Key} {vs : List Dt} {k : Ah} {P : List Key × List Dt → Ah → Prop} : Ok (dkF (.obj h.length)) (h ++ .dk ks vs :: k) P ↔ P (ks, vs) (h ++ .dead :: k) := by
  unfold Ok dkF
  simp
theorem items_up (W : List Nat) (m : Nat) : List.zipWith (fun k v => Dt.tup [kD k, v]) (upK W m) (upV W m) = (upL W m).map fun i => .tup [.int (i : Nat), ptD (rowPt W i)] := by
  unfold upK upV
  rw [List.zipWith_map, List.zipWith_self]
  rfl
def hT (W : List Nat) (c : Pt) (i : Nat) : Int := if (rowPt W i).2 = c.2 ∧ c.1 < (rowPt W i).1 then (if cyc W i = 110 then 1 else -1) else 0
theorem sum_filter (p : Nat → Bool) (t : Nat → Int) : ∀ (l : List Nat), ((l.filter p).map t).sum = (l.map fun i => if p i then t i else 0).sum
  | [] => rfl
  | a :: l => by
    have ih := sum_filter p t l
    by_cases h : p a
    · rw [List.filter_cons_of_pos h]
      simp [h, ih]
    · rw [List.filter_cons_of_neg h]
      simp [h, ih]
theorem heightR_up (W : List Nat) (c : Pt) : ((upL W W.length).map (hT W c)).sum = heightR W c := by
  unfold upL heightR
  rw [sum_filter]
  congr 1
  refine List.map_congr_left fun i _ => ?_
  unfold hT hR
  by_cases h : upB (cyc W i) <;> simp [h]
theorem heightat_ok {W : List Nat} (hl : Ltrs W) (hn : W.length ≤ 900) (c : Pt) : Gv (K51.f_height_at [.str (Tx W), ptD c]) (.int (heightR W c)) := gv_of fun h => by
  have sz := szl (show W.length ≤ 1000 by omega)
  rw [K51.f_height_at, ok_fnM]
  simp only [K51.m_height_at, List.map_cons, List.map_nil, List.length_cons, List.length_nil, List.replicate, List.cons_append, List.nil_append]
  rw [ok_seq, ok_sto, ok_con]
  show Ok (seq _ _ [some (.str (Tx W)), some (ptD c), some (.int 0), none, none, none]) _ _
  rw [ok_seq, ok_forM, ok_itI, ok_callM, ok_argC, ok_pick (i := 0) (d := .str (Tx W)) rfl, ok_argN]
  refine ⟨rfl, (rows_ok hl hn h).mono fun d h1 ⟨k, e1, e2⟩ => ?_⟩
  subst e1 e2
  rw [ok_dkF, items_up]
  refine forL_ind (fun ds env h' => ∃ (dn rs : List Nat) (x y z : Option Dt), upL W W.length = dn ++ rs ∧ ds = rs.map (fun i => .tup [.int (i : Nat), ptD (rowPt W i)]) ∧ h' = h ++ k ++ [.dead] ∧ env = [some (.str (Tx W)), some (ptD c), some (.int ((dn.map (hT W c)).sum)), x, y, z]) ?_ ?_ _ _ _ ⟨[], _, none, none, none, rfl, rfl, rfl, rfl⟩
  · rintro d ds env h' ⟨dn, rs, x, y, z, eu, e, rfl, rfl⟩
    cases rs with
    | nil => simp at e
    | cons i rs =>
      obtain ⟨rfl, rfl⟩ := List.cons.inj e
      have iu : i < W.length := upL_lt (W := W) (m := W.length) (by rw [eu]; simp)
      refine ⟨[some (.str (Tx W)), some (ptD c), some (.int ((dn.map (hT W c)).sum)), some (.int (i : Nat)), some (.int (rowPt W i).1), some (.int (rowPt W i).2)], by simp [Pat.bd, Pat.bds, ptD], ?_⟩
      have fin : ∀ t : Int, t = hT W c i → ∃ (dn' rs' : List Nat) (x y z : Option Dt), upL W W.length = dn' ++ rs' ∧ rs.map (fun i => Dt.tup [.int (i : Nat), ptD (rowPt W i)]) = rs'.map (fun i => .tup [.int (i : Nat), ptD (rowPt W i)]) ∧ h ++ k ++ [.dead] = h ++ k ++ [Ao.dead] ∧ [some (Dt.str (Tx W)), some (ptD c), some (.int ((dn.map (hT W c)).sum + t)), some (.int (i : Nat)), some (.int (rowPt W i).1), some (.int (rowPt W i).2)] = [some (.str (Tx W)), some (ptD c), some (.int ((dn'.map (hT W c)).sum)), x, y, z] := by
        rintro t rfl
        exact ⟨dn ++ [i], rs, some (.int (i : Nat)), some (.int (rowPt W i).1), some (.int (rowPt W i).2), by rw [eu]; simp, rfl, rfl, by simp⟩
      rw [ok_ifS, ok_andT, ok_tst, ok_op2, ok_pick (i := 5) (d := .int (rowPt W i).2) rfl, ok_op2, ok_pick (i := 1) (d := ptD c) rfl, ok_con]
      refine ok_ixTup.mpr ⟨.int c.2, at1, ?_⟩
      rw [ok_eqI, ok_isB]
      by_cases c1 : (rowPt W i).2 = c.2
      · rw [if_pos (by simpa using c1), ok_tst, ok_op2, ok_pick (i := 4) (d := .int (rowPt W i).1) rfl, ok_op2, ok_pick (i := 1) (d := ptD c) rfl, ok_con]
        refine ok_ixTup.mpr ⟨.int c.1, at0, ?_⟩
        rw [ok_gtI, ok_isB]
        by_cases c2 : c.1 < (rowPt W i).1
        · rw [if_pos (by simpa using c2), ok_aug]
          refine ⟨_, rfl, ?_⟩
          rw [ok_ifE, ok_tst, ok_op2, ok_op2, ok_pick (i := 0) (d := .str (Tx W)) rfl, ok_pick (i := 3) (d := .int (i : Nat)) rfl, ok_ixS]
          refine ⟨_, at_cyc iu, sz, ?_⟩
          rw [ok_con, lit_n, ok_eqS, ok_isB]
          by_cases c3 : cyc W i = 110
          · rw [if_pos (by simpa using c3), ok_con, ok_iaddI]
            exact fin 1 (by simp [hT, c1, c2, c3])
          · rw [if_neg (by simpa using c3), ok_op1, ok_con, ok_negI, ok_iaddI]
            exact fin (-1) (by simp [hT, c1, c2, c3])
        · rw [if_neg (by simpa using c2), ok_nxt]
          have := fin 0 (by simp [hT, c2])
          simpa using this
      · rw [if_neg (by simpa using c1), if_neg (by simp), ok_nxt]
        have := fin 0 (by simp [hT, c1])
        simpa using this
  · rintro env h' ⟨dn, rs, x, y, z, eu, e, rfl, rfl⟩
    have : rs = [] := by simpa using e.symm
    subst this
    rw [List.append_nil] at eu
    dsimp only
    rw [ok_ret, ok_pick (i := 2) (d := .int ((dn.map (hT W c)).sum)) rfl, ← eu, heightR_up]
    exact ⟨rfl, k ++ [.dead], by simp⟩
theorem lawheight_ok {W : List Nat} (hl : Ltrs W) (hn : W.length ≤ 900) (c : Pt) : Gv (K51.f__law_height [.str (Tx W), ptD c]) (.int (heightL W c)) := gv_of fun h => by
  have sz := szl (show W.length ≤ 1000 by omega)
  rw [K51.f__law_height, ok_fnM]
  simp only [K51.m__law_height, List.map_cons, List.map_nil, List.length_cons, List.length_nil, List.replicate, List.cons_append, List.nil_append]
  rw [ok_seq, ok_par, ok_argC, ok_callM, ok_argC, ok_pick (i := 0) (d := .str (Tx W)) rfl, ok_argN]
  refine ⟨rfl, (spots_ok hl hn h).mono fun d h1 ⟨e1, j, e2⟩ => ?_⟩
  subst e1 e2
  rw [ok_argC, ok_con, ok_argN]
  refine ⟨_, _, rfl, ?_⟩
  have atP : lstAt (h ++ .lst (ptsD W W.length) :: j) h.length = some (ptsD W W.length) := lstAt_new
  show Ok (seq _ _ [some (.str (Tx W)), some (ptD c), some (.obj h.length), some (.int 0), none]) _ _
  rw [ok_seq, ok_forM, ok_itR1, ok_argC, ok_bi, ok_argC, ok_pick (i := 0) (d := .str (Tx W)) rfl, ok_argN, ok_lenS]
  refine ⟨sz, ?_⟩
  rw [ok_argN]
  refine ⟨_, rfl, ⟨by omega, by omega⟩, ?_⟩
  rw [Int.toNat_natCast, rng_eq]
  refine forL_ind (fun ds env h' => ∃ (m : Nat) (z : Option Dt), m ≤ W.length ∧ ds = ((List.range W.length).drop m).map (fun i => .int ((i : Nat) : Int)) ∧ h' = h ++ .lst (ptsD W W.length) :: j ∧ env = [some (.str (Tx W)), some (ptD c), some (.obj h.length), some (.int ((List.range m).map (hL W c)).sum), z]) ?_ ?_ _ _ _ ⟨0, none, Nat.zero_le _, by simp, by simp, rfl⟩
  · rintro x xs env h' ⟨m, z, hm, e, rfl, rfl⟩
    have cm : m < W.length := by
      rcases Nat.lt_or_ge m W.length with c | c
      · exact c
      · rw [List.drop_eq_nil_of_le (by simpa using c)] at e; simp at e
    rw [range_drop cm, List.map_cons] at e
    obtain ⟨rfl, rfl⟩ := List.cons.inj e
    have fin : ∀ t : Int, t = hL W c m → ∃ (m' : Nat) (z : Option Dt), m' ≤ W.length ∧ ((List.range W.length).drop (m + 1)).map (fun i => Dt.int ((i : Nat) : Int)) = ((List.range W.length).drop m').map (fun i => .int ((i : Nat) : Int)) ∧ h ++ .lst (ptsD W W.length) :: j = h ++ Ao.lst (ptsD W W.length) :: j ∧ [some (Dt.str (Tx W)), some (ptD c), some (.obj h.length), some (.int (((List.range m).map (hL W c)).sum + t)), some (.int (m : Nat))] = [some (.str (Tx W)), some (ptD c), some (.obj h.length), some (.int ((List.range m').map (hL W c)).sum), z] := by
      rintro t rfl
      exact ⟨m + 1, some (.int (m : Nat)), cm, rfl, rfl, by rw [List.range_succ]; simp⟩
    refine ⟨[some (.str (Tx W)), some (ptD c), some (.obj h.length), some (.int ((List.range m).map (hL W c)).sum), some (.int (m : Nat))], by simp [Pat.bd], ?_⟩
    rw [ok_ifS, ok_andT, ok_tst, ok_op2, ok_op2, ok_pick (i := 0) (d := .str (Tx W)) rfl, ok_pick (i := 4) (d := .int (m : Nat)) rfl, ok_ixS]
    refine ⟨_, at_cyc cm, sz, ?_⟩
    rw [ok_con, lit_ew, ok_inS, lv_mem, ok_isB]
    cases hv : lv (cyc W m) with
    | false =>
      rw [if_neg (by simp), if_neg (by simp), ok_nxt]
      have := fin 0 (by simp [hL, hv])
      simpa using this
    | true =>
      rw [if_pos rfl, ok_andT, ok_tst, ok_op2, ok_bi, ok_argC, ok_op2, ok_op2, ok_pick (i := 2) (d := .obj h.length) rfl, ok_pick (i := 4) (d := .int (m : Nat)) rfl, ok_ixO, atP]
      refine ⟨_, ptsD_at (by omega), ?_⟩
      rw [ok_con]
      refine ok_ixTup.mpr ⟨_, at0, ?_⟩
      rw [ok_argC, ok_op2, ok_op2, ok_pick (i := 2) (d := .obj h.length) rfl, ok_op2, ok_pick (i := 4) (d := .int (m : Nat)) rfl, ok_con, ok_addI, ok_ixO, atP, show ((m : Int) + 1) = ((m + 1 : Nat) : Int) by omega]
      refine ⟨_, ptsD_at (by omega), ?_⟩
      rw [ok_con]
      refine ok_ixTup.mpr ⟨_, at0, ?_⟩
      rw [ok_argN]
      refine ok_minI.mpr ?_
      rw [ok_op2, ok_pick (i := 1) (d := ptD c) rfl, ok_con]
      refine ok_ixTup.mpr ⟨.int c.1, at0, ?_⟩
      rw [ok_eqI, ok_isB]
      by_cases c1 : mnI (pl (cyc W) m).1 (pl (cyc W) (m + 1)).1 = c.1
      · rw [if_pos (by simpa [mnI] using c1), ok_tst, ok_op2, ok_op2, ok_op2, ok_pick (i := 2) (d := .obj h.length) rfl, ok_pick (i := 4) (d := .int (m : Nat)) rfl, ok_ixO, atP]
        refine ⟨_, ptsD_at (by omega), ?_⟩
        rw [ok_con]
        refine ok_ixTup.mpr ⟨.int (pl (cyc W) m).2, at1, ?_⟩
        rw [ok_op2, ok_pick (i := 1) (d := ptD c) rfl, ok_con]
        refine ok_ixTup.mpr ⟨.int c.2, at1, ?_⟩
        rw [ok_gtI, ok_isB]
        by_cases c2 : c.2 < (pl (cyc W) m).2
        · rw [if_pos (by simpa using c2), ok_sto, ok_op2, ok_pick (i := 3) (d := .int ((List.range m).map (hL W c)).sum) rfl, ok_ifE, ok_tst, ok_op2, ok_op2, ok_pick (i := 0) (d := .str (Tx W)) rfl, ok_pick (i := 4) (d := .int (m : Nat)) rfl, ok_ixS]
          refine ⟨_, at_cyc cm, sz, ?_⟩
          rw [ok_con, lit_w, ok_eqS, ok_isB]
          by_cases c3 : cyc W m = 119
          · rw [if_pos (by simpa using c3), ok_con, ok_addI]
            exact fin 1 (by rw [c3] at hv; simp [hL, hv, c1, c2, c3])
          · rw [if_neg (by simpa using c3), ok_op1, ok_con, ok_negI, ok_addI]
            exact fin (-1) (by simp [hL, hv, c1, c2, c3])
        · rw [if_neg (by simpa using c2), ok_nxt]
          have := fin 0 (by simp [hL, c2])
          simpa using this
      · rw [if_neg (by simpa [mnI] using c1), if_neg (by simp), ok_nxt]
        have := fin 0 (by simp [hL, c1])
        simpa using this
  · rintro env h' ⟨m, z, hm, e, rfl, rfl⟩
    have : m = W.length := by
      rcases Nat.lt_or_ge m W.length with c | c
      · rw [range_drop c] at e; simp at e
      · omega
    subst this
    dsimp only
    rw [ok_ret, ok_pick (i := 3) (d := .int ((List.range W.length).map (hL W c)).sum) rfl]
    exact ⟨rfl, _, rfl⟩
end Mo
set_option Elab.async false
set_option linter.all false
set_option maxRecDepth 100000
set_option maxHeartbeats 4000000
/-! PvC: claims of heights. -/
namespace Mo
open PySem L2 TL
def isPair : Dt → Bool
  | .tup [.int _, .int _] => true
  | _ => false
theorem isPair_two {x y : Dt} : isPair (.tup [x, y]) = (isInt x && isInt y) := by
  cases x <;> cases y <;> rfl
theorem isi_no {d : Dt} {h : Ah} {Q : Dt → Ah → Prop} (k : Knd d) (n : ∀ xs, d ≠ .tup xs) : Ok (bIsi [d, .ty "tuple"]) h Q ↔ Q (.bl false) h := by
  have e : bIsi [d, .ty "tuple"] h = .ok (.bl false) h := by
    cases k with
    | tup => exact absurd rfl (n _)
    | _ => rfl
  unfold Ok
  rw [e]
theorem pair_ok {d : Dt} (k : Knd d) (ke : ∀ x y, d = .tup [x, y] → Knd x ∧ Knd y) : Gv (K51.f_is_pair [d]) (.bl (isPair d)) := gv_of fun h => by
  rw [K51.f_is_pair, ok_fnM]
  simp only [K51.m_is_pair, List.map_cons, List.map_nil, List.length_cons, List.length_nil, List.replicate, List.cons_append, List.nil_append]
  rw [ok_ret, ok_andV, ok_bi, ok_argC, ok_pick (i := 0) (d := d) rfl, ok_argC, ok_con, ok_argN]
  by_cases t : ∃ xs, d = .tup xs
  · obtain ⟨xs, rfl⟩ := t
    rw [isi_tup, ok_isB, if_pos rfl, ok_andV, ok_op2, ok_bi, ok_argC, ok_pick (i := 0) (d := .tup xs) rfl, ok_argN, ok_lenTup, ok_con, ok_eqI, ok_isB]
    match xs, ke with
    | [], _ => rw [if_neg (by simp)]; exact ⟨rfl, [], by simp⟩
    | [x], _ => rw [if_neg (by simp)]; exact ⟨by cases x <;> rfl, [], by simp⟩
    | x :: y :: z :: r, _ => rw [if_neg (by simp; omega)]; exact ⟨by cases x <;> cases y <;> rfl, [], by simp⟩
    | [x, y], ke =>
      obtain ⟨kx, ky⟩ := ke x y rfl
      rw [if_pos (by simp), ok_andV, ok_callM, ok_argC, ok_op2, ok_pick (i := 0) (d := .tup [x, y]) rfl, ok_con]
      refine ok_ixTup.mpr ⟨_, at0, ?_⟩
      rw [ok_argN]
      refine ⟨rfl, gv_fn (whole_ok kx) fun j => ?_⟩
      rw [ok_isB, isPair_two]
      cases hx : isInt x with
      | false =>
        rw [if_neg (by simp)]
        exact ⟨rfl, j, rfl⟩
      | true =>
        rw [if_pos rfl, ok_callM, ok_argC, ok_op2, ok_pick (i := 0) (d := .tup [x, y]) rfl, ok_con]
        refine ok_ixTup.mpr ⟨_, at1, ?_⟩
        rw [ok_argN]
        refine ⟨rfl, gv_fn (whole_ok ky) fun j2 => ?_⟩
        exact ⟨by simp, j ++ j2, by simp⟩
  · rw [isi_no k fun xs e => t ⟨xs, e⟩, ok_isB, if_neg (by simp)]
    refine ⟨?_, [], by simp⟩
    cases k with
    | tup => exact absurd ⟨_, rfl⟩ t
    | _ => rfl
def htIs (W : List Nat) : Dt → Dt → Bool
  | .tup [.int a, .int b], .int i => decide (heightR W (a, b) = i)
  | _, _ => false
theorem ht_int {W : List Nat} {d x : Dt} (h : isInt x = false) : htIs W d x = false := by
  unfold htIs
  split
  · simp [isInt] at h
  · rfl
theorem ht_pair {W : List Nat} {d x : Dt} (h : isPair d = false) : htIs W d x = false := by
  unfold htIs
  split
  · simp [isPair] at h
  · rfl
theorem pair_is {d : Dt} (h : isPair d = true) : ∃ c : Pt, d = ptD c := by
  unfold isPair at h
  split at h
  · exact ⟨(_, _), rfl⟩
  · cases h
theorem numright_h {W : List Nat} (hl : Ltrs W) (hn : W.length ≤ 900) {x y d : Dt} (kx : Knd x) (kd : Knd d) (ke : ∀ x y, d = .tup [x, y] → Knd x ∧ Knd y) : Gv (K51.f_is_number_right [.str (Tx W), .tup [.str (Str.ofString "height"), y, d, x]]) (.bl (htIs W d x)) := gv_of fun h => by
  rw [K51.f_is_number_right, ok_fnM]
  simp only [K51.m_is_number_right, List.map_cons, List.map_nil, List.length_cons, List.length_nil, List.replicate, List.cons_append, List.nil_append]
  generalize hc : Dt.tup [.str (Str.ofString "height"), y, d, x] = cl
  rw [ok_seq, ok_par, ok_argC, ok_op2, ok_pick (i := 1) (d := cl) rfl, ok_con, ← hc, ok_ixTup]
  refine ⟨_, at0, ?_⟩
  rw [hc, ok_argC, ok_op2, ok_pick (i := 1) (d := cl) rfl, ok_op1, ok_con, ok_negI, ← hc, ok_ixTup]
  refine ⟨x, by rw [atI_last (by simp)]; simp, ?_⟩
  rw [hc, ok_argN]
  refine ⟨_, _, rfl, ?_⟩
  show Ok (seq _ _ [some (.str (Tx W)), some cl, some (.str (Str.ofString "height")), some x]) _ _
  rw [ok_seq, ok_ifS, ok_notT, ok_tst, ok_callM, ok_argC, ok_pick (i := 3) (d := x) rfl, ok_argN]
  refine ⟨rfl, gv_fn (whole_ok kx) fun j => ?_⟩
  rw [ok_isB]
  cases hx : isInt x with
  | false =>
    rw [if_pos (by simp), ok_ret, ok_con]
    exact ⟨by rw [ht_int hx], j, rfl⟩
  | true =>
    rw [if_neg (by simp), ok_nxt]
    dsimp only
    rw [ok_seq, ok_ifS, ok_tst, ok_op2, ok_pick (i := 2) (d := .str (Str.ofString "height")) rfl, ok_con, ok_eqS, ok_isB, if_neg (by decide +kernel), ok_nxt]
    dsimp only
    rw [ok_seq, ok_ifS, ok_tst, ok_op2, ok_pick (i := 2) (d := .str (Str.ofString "height")) rfl, ok_con, ok_eqS, ok_isB, if_neg (by decide +kernel), ok_nxt]
    dsimp only
    rw [ok_seq, ok_ifS, ok_tst, ok_op2, ok_pick (i := 2) (d := .str (Str.ofString "height")) rfl, ok_con, ok_eqS, ok_isB, if_pos (by decide +kernel), ok_ret, ok_andV, ok_callM, ok_argC, ok_op2, ok_pick (i := 1) (d := cl) rfl, ok_con, ← hc, ok_ixTup]
    refine ⟨d, atI_nat (i := 2) (by simp), ?_⟩
    rw [hc, ok_argN]
    refine ⟨rfl, gv_fn (pair_ok kd ke) fun j2 => ?_⟩
    rw [ok_isB]
    cases hp : isPair d with
    | false =>
      rw [if_neg (by simp)]
      exact ⟨by rw [ht_pair hp], j ++ j2, by simp⟩
    | true =>
      obtain ⟨c, rfl⟩ := pair_is hp
      cases x with
      | int i =>
        rw [if_pos rfl, ok_op2, ok_callM, ok_argC, ok_pick (i := 0) (d := .str (Tx W)) rfl, ok_argC, ok_op2, ok_pick (i := 1) (d := cl) rfl, ok_con, ← hc, ok_ixTup]
        refine ⟨ptD c, atI_nat (i := 2) (by simp), ?_⟩
        rw [ok_argN]
        refine ⟨rfl, gv_fn (heightat_ok hl hn c) fun j3 => ?_⟩
        rw [ok_pick (i := 3) (d := .int i) rfl, ok_eqI]
        exact ⟨rfl, j ++ j2 ++ j3, by simp⟩
      | _ => simp [isInt] at hx
theorem size_height : SizeIs (Str.ofString "height") 4 := size_of (.inl ⟨by with_unfolding_all rfl, by with_unfolding_all rfl⟩)
theorem in_words_h {h : Ah} : inR h (.str (Str.ofString "height")) (.tup [.str (Str.ofString "turn"), .str (Str.ofString "sheets"), .str (Str.ofString "height"), .str (Str.ofString "with")]) = some true := by
  have e : inR h (.str (Str.ofString "height")) (.tup [.str (Str.ofString "turn"), .str (Str.ofString "sheets"), .str (Str.ofString "height"), .str (Str.ofString "with")]) = some (inV (.str (Str.ofString "height")) [.str (Str.ofString "turn"), .str (Str.ofString "sheets"), .str (Str.ofString "height"), .str (Str.ofString "with")]) := rfl
  rw [e]
  congr 1
theorem accepts_height {W : List Nat} (L : Line W) (h4 : 4 ≤ W.length) (hn : W.length ≤ 120) (h0 : stB W 0 = false) {d x cert : Dt} (kx : Knd x) (sx : Shp 50 x) (kd : Knd d) (sd : Shp 50 d) (ke : ∀ x y, d = .tup [x, y] → Knd x ∧ Knd y) : Gv (K51.f_accepts [.tup [.str (Str.ofString "height"), .str (Tx (textP W)), d, x], cert]) (.bl (isNon cert && htIs W d x)) := gv_of fun h => by
  rw [K51.f_accepts, ok_fnM]
  simp only [K51.m_accepts, List.map_cons, List.map_nil, List.length_cons, List.length_nil, List.replicate, List.cons_append, List.nil_append]
  refine acc_pre L h4 hn h0 (shps_cons (word_ascii _ (by decide +kernel)) (shps_cons (shp_str (text_small L.ltrs)) (shps_cons sd (shps_cons sx shps_nil)))) size_height fun j => ?_
  generalize hc : Dt.tup [.str (Str.ofString "height"), .str (Tx (textP W)), d, x] = cl
  rw [ok_seq, ok_ifS, ok_tst, ok_op2, ok_pick (i := 2) (d := .str (Str.ofString "height")) rfl, ok_con, ok_eqS, ok_isB, if_neg (by decide +kernel), ok_nxt]
  dsimp only
  rw [ok_seq, ok_ifS, ok_tst, ok_op2, ok_pick (i := 2) (d := .str (Str.ofString "height")) rfl, ok_con, ok_eqS, ok_isB, if_neg (by decide +kernel), ok_nxt]
  dsimp only
  rw [ok_seq, ok_ifS, ok_tst, ok_op2, ok_pick (i := 1) (d := cert) rfl, ok_con, ok_notN, ok_isB]
  cases hcn : isNon cert with
  | false =>
    rw [if_pos (by simp), ok_ret, ok_con]
    exact ⟨by simp, j, rfl⟩
  | true =>
    rw [if_neg (by simp), ok_nxt]
    dsimp only
    rw [ok_seq, ok_ifS, ok_tst, ok_op2, ok_pick (i := 2) (d := .str (Str.ofString "height")) rfl, ok_tupE, ok_argC, ok_con, ok_argC, ok_con, ok_argC, ok_con, ok_argC, ok_con, ok_argN]
    refine ⟨szl (by simp), ?_⟩
    refine ok_of (a := .bl true) (h' := h ++ j) (by unfold opIn; rw [in_words_h]) ?_
    rw [ok_isB, if_pos rfl, ok_ret, ok_callM, ok_argC, ok_pick (i := 3) (d := .str (Tx W)) rfl, ok_argC, ok_pick (i := 0) (d := cl) rfl, ok_argN, ← hc]
    refine ⟨rfl, gv_fn (numright_h L.ltrs (by omega) kx kd ke) fun j2 => ?_⟩
    exact ⟨by simp, j ++ j2, by simp⟩
end Mo
set_option Elab.async false
set_option linter.all false
set_option maxRecDepth 100000
set_option maxHeartbeats 4000000
/-! PxA: the program's own line: levels, plain crossings. -/
namespace Mo
open PySem L2 TL
theorem level_ok {c : Nat} : Gv (K51.f_is_level [.str (Tx [c])]) (.bl (lv c)) := gv_of fun h => by
  rw [K51.f_is_level, ok_fnM]
  simp only [K51.m_is_level, List.map_cons, List.map_nil, List.length_cons, List.length_nil, List.replicate, List.cons_append, List.nil_append]
  rw [ok_ret, ok_op2, ok_pick (i := 0) (d := .str (Tx [c])) rfl, ok_con, lit_ew, ok_inS, lv_mem]
  exact ⟨rfl, [], by simp⟩
theorem plain_ok {W : List Nat} {i k : Nat} (hi : i < W.length) (hk : k < W.length) (hn : W.length ≤ 900) : Gv (K51.f_is_plain [.str (Tx W), .int (i : Nat), .int (k : Nat)]) (.bl (stB W i && stB W k && (lv (cyc W i) != lv (cyc W k)))) := gv_of fun h => by
  have sz := szl (show W.length ≤ 1000 by omega)
  have e1 : ∀ a, a < W.length → (decide (Tx [cyc W (a + W.length - 1)] = Tx [cyc W a])) = stB W a := fun a _ => by simp [stB]
  rw [K51.f_is_plain, ok_fnM]
  simp only [K51.m_is_plain, List.map_cons, List.map_nil, List.length_cons, List.length_nil, List.replicate, List.cons_append, List.nil_append]
  rw [ok_seq, ok_ifS, ok_orT, ok_tst, ok_op2, ok_op2, ok_pick (i := 0) (d := .str (Tx W)) rfl, ok_op2, ok_pick (i := 1) (d := .int (i : Nat)) rfl, ok_con, ok_subI, ok_ixS]
  refine ⟨_, at_prev hi, sz, ?_⟩
  rw [ok_op2, ok_pick (i := 0) (d := .str (Tx W)) rfl, ok_pick (i := 1) (d := .int (i : Nat)) rfl, ok_ixS]
  refine ⟨_, at_cyc hi, sz, ?_⟩
  rw [ok_neS, e1 i hi, ok_isB]
  by_cases si : stB W i = true
  · rw [if_neg (by simp [si]), ok_tst, ok_op2, ok_op2, ok_pick (i := 0) (d := .str (Tx W)) rfl, ok_op2, ok_pick (i := 2) (d := .int (k : Nat)) rfl, ok_con, ok_subI, ok_ixS]
    refine ⟨_, at_prev hk, sz, ?_⟩
    rw [ok_op2, ok_pick (i := 0) (d := .str (Tx W)) rfl, ok_pick (i := 2) (d := .int (k : Nat)) rfl, ok_ixS]
    refine ⟨_, at_cyc hk, sz, ?_⟩
    rw [ok_neS, e1 k hk, ok_isB]
    by_cases sk : stB W k = true
    · rw [if_neg (by simp [sk]), ok_nxt]
      dsimp only
      rw [ok_ret, ok_op2, ok_callM, ok_argC, ok_op2, ok_pick (i := 0) (d := .str (Tx W)) rfl, ok_pick (i := 1) (d := .int (i : Nat)) rfl, ok_ixS]
      refine ⟨_, at_cyc hi, sz, ?_⟩
      rw [ok_argN]
      refine ⟨rfl, gv_fn level_ok fun j => ?_⟩
      rw [ok_callM, ok_argC, ok_op2, ok_pick (i := 0) (d := .str (Tx W)) rfl, ok_pick (i := 2) (d := .int (k : Nat)) rfl, ok_ixS]
      refine ⟨_, at_cyc hk, sz, ?_⟩
      rw [ok_argN]
      refine ⟨rfl, gv_fn level_ok fun j2 => ?_⟩
      rw [ok_neB]
      refine ⟨?_, j ++ j2, by simp⟩
      rw [si, sk]
      cases lv (cyc W i) <;> cases lv (cyc W k) <;> rfl
    · rw [if_pos (by simp [sk]), ok_ret, ok_con]
      exact ⟨by simp [sk], [], by simp⟩
  · rw [if_pos (by simp [si]), if_pos rfl, ok_ret, ok_con]
    exact ⟨by simp [si], [], by simp⟩
end Mo
set_option Elab.async false
set_option linter.all false
set_option maxRecDepth 100000
set_option maxHeartbeats 4000000
/-! PxB: the program's own places. -/
namespace Mo
open PySem L2 TL
theorem ok_sh {h : Ah} {Q : Dt → Ah → Prop} {env : En} {i c : Nat} (e : env[i]? = some (some (.str (Tx [c])))) (hc : Ltr c) : Ok (kix K51.tb_SHIFTS (var i) env) h Q ↔ Q (.wt [.int (dx c).1, .int (dx c).2]) h := by
  have k : K51.tb_SHIFTS.lookup (Tx [c]) = some (some (.wt [.int (dx c).1, .int (dx c).2])) := by
    rcases hc with rfl | rfl | rfl | rfl <;> rfl
  show Ok (var i env >>= fun d => match d with | .str z => (match K51.tb_SHIFTS.lookup z with | some (some y) => Mm.pure y | _ => Mm.no) | _ => Mm.no) h Q ↔ _
  rw [ok_bind, ok_pick e]
  simp only [k]
  exact Iff.rfl
theorem placesN_ok {W : List Nat} (hl : Ltrs W) (hn : W.length ≤ 900) (h : Ah) : Ok (K51.f_places_of_names [.str (Tx W)]) h fun d h' => d = .obj h.length ∧ ∃ j, h' = h ++ .lst (ptsD W W.length) :: j := by
  rw [K51.f_places_of_names, ok_fnM]
  simp only [K51.m_places_of_names]
  simp [szl]
  refine forL_ind (fun ds env h' => ∃ (m : Nat) (j : Ah) (y z : Option Dt), m ≤ W.length ∧ ds = (W.drop m).map (fun c => .str (Tx [c])) ∧ h' = h ++ .lst (ptsD W m) :: j ∧ env = [some (.str (Tx W)), some (.obj h.length), y, z]) ?_ ?_ _ _ _ ⟨0, [], none, none, Nat.zero_le _, by simp, by simp [ptsD, ptD, pl], rfl⟩
  · rintro x xs env h' ⟨m, j, y, z, hm, e, rfl, rfl⟩
    have c : m < W.length := by
      rcases Nat.lt_or_ge m W.length with c | c
      · exact c
      · rw [List.drop_eq_nil_of_le c] at e; simp at e
    rw [List.drop_eq_getElem_cons c, List.map_cons] at e
    obtain ⟨rfl, rfl⟩ := List.cons.inj e
    have lt := hl _ (List.getElem_mem c)
    have step : pl (cyc W) (m + 1) = ((pl (cyc W) m).1 + (dx W[m]).1, (pl (cyc W) m).2 + (dx W[m]).2) := by
      simp only [pl]
      rw [cyc_lt c]
    refine ⟨[some (.str (Tx W)), some (.obj h.length), some (.str (Tx [W[m]])), z], by simp [Pat.bd], ?_⟩
    rw [ok_seq, ok_sto, ok_sh (i := 2) (c := W[m]) rfl lt]
    show Ok (drp _ [some (.str (Tx W)), some (.obj h.length), some (.str (Tx [W[m]])), some (.wt [.int (dx W[m]).1, .int (dx W[m]).2])]) _ _
    rw [ok_drp, ok_bm, ok_pick (i := 1) (d := .obj h.length) rfl, ok_argC, ok_tupE, ok_argC, ok_op2, ok_op2, ok_op2, ok_pick (i := 1) (d := .obj h.length) rfl, ok_op1, ok_con, ok_negI, ok_ixO, lstAt_new]
    refine ⟨isL_obj lstAt_new, ptD (pl (cyc W) m), ptsD_last W m, ?_⟩
    rw [ok_con]
    refine ok_ixTup.mpr ⟨.int (pl (cyc W) m).1, at0, ?_⟩
    rw [ok_op2, ok_pick (i := 3) (d := .wt [.int (dx W[m]).1, .int (dx W[m]).2]) rfl, ok_con, ok_ixWt]
    refine ⟨_, rfl, ?_⟩
    rw [ok_addI, ok_argC, ok_op2, ok_op2, ok_op2, ok_pick (i := 1) (d := .obj h.length) rfl, ok_op1, ok_con, ok_negI, ok_ixO, lstAt_new]
    refine ⟨ptD (pl (cyc W) m), ptsD_last W m, ?_⟩
    rw [ok_con]
    refine ok_ixTup.mpr ⟨.int (pl (cyc W) m).2, at1, ?_⟩
    rw [ok_op2, ok_pick (i := 3) (d := .wt [.int (dx W[m]).1, .int (dx W[m]).2]) rfl, ok_con, ok_ixWt]
    refine ⟨_, rfl, ?_⟩
    rw [ok_addI, ok_argN, ok_argN, ok_appO]
    refine ⟨szl (by simp), _, lstAt_new, ?_, m + 1, j, _, _, c, rfl, ?_, rfl⟩
    · rw [ptsD_len]
      have := szl (show m + 2 ≤ 1000 by omega)
      omega
    · rw [set_new, ← ptsD_succ, step]
      rfl
  · rintro env h' ⟨m, j, y, z, hm, e, rfl, rfl⟩
    have : m = W.length := by
      rcases Nat.lt_or_ge m W.length with c | c
      · rw [List.drop_eq_getElem_cons c] at e; simp at e; omega
      · omega
    subst this
    simp
end Mo
set_option Elab.async false
set_option linter.all false
set_option maxRecDepth 100000
set_option maxHeartbeats 4000000
/-! PxC: a line has no step back. -/
namespace Mo
open PySem L2 TL
def oppB (a b : Nat) : Bool := decide ((dx a).1 + (dx b).1 = 0 ∧ (dx a).2 + (dx b).2 = 0)
theorem opp_lv {a b : Nat} (ha : Ltr a) (hb : Ltr b) (h : oppB a b = true) : lv a = lv b := by
  rcases ha with rfl | rfl | rfl | rfl <;> rcases hb with rfl | rfl | rfl | rfl <;> revert h <;> decide
theorem LineG.noback {g : Nat → Nat} {n : Nat} (L : LineG g n) (h3 : 3 ≤ n) (i : Nat) : oppB (g i) (g (i + 1)) = false := by
  cases q : oppB (g i) (g (i + 1)) with
  | false => rfl
  | true =>
    have hl := opp_lv (L.ltr i) (L.ltr (i + 1)) q
    have e : pl g (i + 2) = pl g i := by
      have z : (dx (g i)).1 + (dx (g (i + 1))).1 = 0 ∧ (dx (g i)).2 + (dx (g (i + 1))).2 = 0 := of_decide_eq_true q
      show ((pl g i).1 + (dx (g i)).1 + (dx (g (i + 1))).1, (pl g i).2 + (dx (g i)).2 + (dx (g (i + 1))).2) = pl g i
      ext <;> simp <;> omega
    have ne : (i + 2) % n ≠ i % n := fun z => by
      have := mod_cancel (k := i) (i := 2) (j := 0) (n := n) (by simpa using z)
      rw [Nat.mod_eq_of_lt (by omega), Nat.zero_mod] at this
      cases this
    obtain ⟨h1, _, h5⟩ := L.ok (i + 2) i ne e
    rw [show i + 2 + n - 1 = (i + 1) + n by omega, L.per] at h1
    exact (h5 (by rw [← h1, hl])).elim
end Mo
set_option Elab.async false
set_option linter.all false
set_option maxRecDepth 100000
set_option maxHeartbeats 4000000
/-! PxD: quarters. -/
namespace Mo
open PySem L2 TL
theorem left_ok {c : Nat} (hc : Ltr c) : Gv (K51.f_turned_left [.str (Tx [c])]) (.str (Tx [turnC c])) := gv_of fun h => by
  rw [K51.f_turned_left, ok_fnM]
  simp only [K51.m_turned_left, List.map_cons, List.map_nil, List.length_cons, List.length_nil, List.replicate, List.cons_append, List.nil_append]
  rw [ok_ret, ok_op2, ok_con, ok_op2, ok_op2, ok_bm, ok_con, lit_enws, ok_argC, ok_pick (i := 0) (d := .str (Tx [c])) rfl, ok_argN, ok_index hc, ok_con, ok_addI, ok_con, ok_modI]
  refine ⟨rfl, by decide, ?_⟩
  rw [ok_ixS]
  refine ⟨turnC c, ?_, szl (by simp), rfl, [], by simp⟩
  rcases hc with rfl | rfl | rfl | rfl <;> decide
/-- what a turning counts -/
def qn (a b : Nat) : Int := if a = b then 0 else if turnC a = b then 1 else -1
theorem qn_qv {a b : Nat} (ha : Ltr a) (hb : Ltr b) (h : oppB a b = false) : qn a b = qv (((idx b : Int) - idx a) % 4) := by
  rcases ha with rfl | rfl | rfl | rfl <;> rcases hb with rfl | rfl | rfl | rfl <;> revert h <;> decide
end Mo
set_option Elab.async false
set_option linter.all false
set_option maxRecDepth 100000
set_option maxHeartbeats 4000000
/-! PxE: the quarters of a line, by the program. -/
namespace Mo
open PySem L2 TL
def qs (W : List Nat) (i : Nat) : Int := qn (cyc W (i + W.length - 1)) (cyc W i)
theorem quarters_ok {W : List Nat} (hl : Ltrs W) (hn : W.length ≤ 900) : Gv (K51.f_quarters_of [.str (Tx W)]) (.int ((List.range W.length).map (qs W)).sum) := gv_of fun h => by
  have sz := szl (show W.length ≤ 1000 by omega)
  rw [K51.f_quarters_of, ok_fnM]
  simp only [K51.m_quarters_of, List.map_cons, List.map_nil, List.length_cons, List.length_nil, List.replicate, List.cons_append, List.nil_append]
  rw [ok_seq, ok_sto, ok_con]
  show Ok (seq _ _ [some (.str (Tx W)), some (.int 0), none, none]) _ _
  rw [ok_seq, ok_forM, ok_itES, ok_argC, ok_pick (i := 0) (d := .str (Tx W)) rfl, ok_argN]
  refine ⟨_, rfl, ?_⟩
  rw [enum_tx]
  refine forL_ind (fun ds env h' => ∃ (m : Nat) (j : Ah) (y z : Option Dt), m ≤ W.length ∧ ds = ((List.range W.length).drop m).map (fun i => .tup [.int (i : Nat), .str (Tx [cyc W i])]) ∧ h' = h ++ j ∧ env = [some (.str (Tx W)), some (.int ((List.range m).map (qs W)).sum), y, z]) ?_ ?_ _ _ _ ⟨0, [], none, none, Nat.zero_le _, by simp, by simp, rfl⟩
  · rintro x xs env h' ⟨m, j, y, z, hm, e, rfl, rfl⟩
    have c : m < W.length := by
      rcases Nat.lt_or_ge m W.length with c | c
      · exact c
      · rw [List.drop_eq_nil_of_le (by simpa using c)] at e; simp at e
    rw [range_drop c, List.map_cons] at e
    obtain ⟨rfl, rfl⟩ := List.cons.inj e
    have p : 0 < W.length := by omega
    have l2 := hl _ (cyc_mem p (m + W.length - 1))
    refine ⟨[some (.str (Tx W)), some (.int ((List.range m).map (qs W)).sum), some (.int (m : Nat)), some (.str (Tx [cyc W m]))], by simp [Pat.bd, Pat.bds], ?_⟩
    have fin : ∀ (t : Int) (jj : Ah), t = qs W m → ∃ (m' : Nat) (j' : Ah) (y z : Option Dt), m' ≤ W.length ∧ ((List.range W.length).drop (m + 1)).map (fun i => Dt.tup [.int (i : Nat), .str (Tx [cyc W i])]) = ((List.range W.length).drop m').map (fun i => .tup [.int (i : Nat), .str (Tx [cyc W i])]) ∧ h ++ j ++ jj = h ++ j' ∧ [some (.str (Tx W)), some (Dt.int (((List.range m).map (qs W)).sum + t)), some (.int (m : Nat)), some (.str (Tx [cyc W m]))] = [some (.str (Tx W)), some (.int ((List.range m').map (qs W)).sum), y, z] := by
      rintro t jj rfl
      refine ⟨m + 1, j ++ jj, some (.int (m : Nat)), some (.str (Tx [cyc W m])), c, rfl, by simp, ?_⟩
      rw [List.range_succ, List.map_append, List.sum_append]
      simp
    rw [ok_ifS, ok_tst, ok_op2, ok_op2, ok_pick (i := 0) (d := .str (Tx W)) rfl, ok_op2, ok_pick (i := 2) (d := .int (m : Nat)) rfl, ok_con, ok_subI, ok_ixS]
    refine ⟨_, at_prev c, sz, ?_⟩
    rw [ok_pick (i := 3) (d := .str (Tx [cyc W m])) rfl, ok_neS, ok_isB]
    by_cases e1 : cyc W (m + W.length - 1) = cyc W m
    · rw [if_neg (by simp [e1]), ok_nxt]
      have := fin 0 [] (by simp [qs, qn, e1])
      simpa using this
    · rw [if_pos (by simpa using e1), ok_sto, ok_op2, ok_pick (i := 1) (d := .int ((List.range m).map (qs W)).sum) rfl, ok_ifE, ok_tst, ok_op2, ok_callM, ok_argC, ok_op2, ok_pick (i := 0) (d := .str (Tx W)) rfl, ok_op2, ok_pick (i := 2) (d := .int (m : Nat)) rfl, ok_con, ok_subI, ok_ixS]
      refine ⟨_, at_prev c, sz, ?_⟩
      rw [ok_argN]
      refine ⟨rfl, gv_fn (left_ok l2) fun jj => ?_⟩
      rw [ok_pick (i := 3) (d := .str (Tx [cyc W m])) rfl, ok_eqS, ok_isB]
      by_cases e2 : turnC (cyc W (m + W.length - 1)) = cyc W m
      · rw [if_pos (by simpa using e2), ok_con, ok_addI]
        exact fin 1 jj (by simp [qs, qn, e1, e2])
      · rw [if_neg (by simpa using e2), ok_op1, ok_con, ok_negI, ok_addI]
        exact fin (-1) jj (by simp [qs, qn, e1, e2])
  · rintro env h' ⟨m, j, y, z, hm, e, rfl, rfl⟩
    have : m = W.length := by
      rcases Nat.lt_or_ge m W.length with c | c
      · rw [range_drop c] at e; simp at e
      · omega
    subst this
    dsimp only
    rw [ok_ret, ok_pick (i := 1) (d := .int ((List.range W.length).map (qs W)).sum) rfl]
    exact ⟨rfl, j, rfl⟩
end Mo
set_option Elab.async false
set_option linter.all false
set_option maxRecDepth 100000
set_option maxHeartbeats 4000000
/-! PxF: a line's quarters are its turn. -/
namespace Mo
open PySem L2 TL
theorem qs_turn {W : List Nat} (L : LineG (cyc W) W.length) (h3 : 3 ≤ W.length) : ((List.range W.length).map (qs W)).sum / 4 = turnZ W := by
  unfold turnZ
  congr 2
  refine List.map_congr_left fun i hi => ?_
  have c := List.mem_range.mp hi
  have nb := L.noback h3 (i + W.length - 1)
  rw [show i + W.length - 1 + 1 = i + W.length by omega, L.per] at nb
  unfold qs bdg
  exact qn_qv (L.ltr _) (L.ltr _) nb
end Mo
set_option Elab.async false
set_option linter.all false
set_option maxRecDepth 100000
set_option maxHeartbeats 4000000
/-! PxG: first_touch: setdefault, then append. -/
namespace Mo
open PySem L2 TL
/-- the earlier steps at the place of the m-th -/
def erl (W : List Nat) (m : Nat) : List Nat := (List.range m).filter fun i => decide (pl (cyc W) i = pl (cyc W) m)
/-- a line meets a place once more at most, and crosses there -/
theorem erl_line {W : List Nat} (L : Line W) {m : Nat} (hm : m < W.length) : erl W m = [] ∨ ∃ u, u < m ∧ erl W m = [u] ∧ (stB W u && stB W m && (lv (cyc W u) != lv (cyc W m))) = true := by
  have key : ∀ u, u ∈ erl W m → u < m ∧ stB W u = true ∧ stB W m = true ∧ lv (cyc W u) ≠ lv (cyc W m) := fun u hu => by
    obtain ⟨h1, h2⟩ := List.mem_filter.mp hu
    have c := List.mem_range.mp h1
    have ne : u % W.length ≠ m % W.length := by rw [Nat.mod_eq_of_lt (by omega), Nat.mod_eq_of_lt hm]; omega
    obtain ⟨a, b, d⟩ := LineG.ok L u m ne (of_decide_eq_true h2)
    exact ⟨c, decide_eq_true a, decide_eq_true b, d⟩
  match e : erl W m with
  | [] => exact .inl rfl
  | [u] =>
    obtain ⟨a, b, c, d⟩ := key u (by rw [e]; simp)
    exact .inr ⟨u, a, rfl, by rw [b, c]; simpa using d⟩
  | u :: v :: r =>
    exfalso
    obtain ⟨a, _, _, d⟩ := key u (by rw [e]; simp)
    obtain ⟨a', _, _, d'⟩ := key v (by rw [e]; simp)
    have nd : (erl W m).Nodup := List.Pairwise.filter _ List.nodup_range
    rw [e] at nd
    have uv : u ≠ v := fun z => by
      have := (List.nodup_cons.mp nd).1
      exact this (by rw [z]; simp)
    have pu : pl (cyc W) u = pl (cyc W) m := of_decide_eq_true (List.mem_filter.mp (show u ∈ erl W m by rw [e]; simp)).2
    have pv : pl (cyc W) v = pl (cyc W) m := of_decide_eq_true (List.mem_filter.mp (show v ∈ erl W m by rw [e]; simp)).2
    have ne : u % W.length ≠ v % W.length := by rw [Nat.mod_eq_of_lt (by omega), Nat.mod_eq_of_lt (by omega)]; exact uv
    obtain ⟨_, _, d''⟩ := LineG.ok L u v ne (pu.trans pv.symm)
    revert d d' d''
    cases lv (cyc W u) <;> cases lv (cyc W v) <;> cases lv (cyc W m) <;> simp
end Mo
set_option Elab.async false
set_option linter.all false
set_option maxRecDepth 100000
set_option maxHeartbeats 4000000
/-! PxH: first_touch of a line is None. -/
namespace Mo
open PySem L2 TL
theorem setd_ok {H1 h' : Ah} {W : List Nat} {m a b : Nat} {ad : Pt → Nat} {env : En} {Q : Dt → Ah → Prop} (M : Met H1 (grpN (pl (cyc W)) m) h' ad) (hm : m < 900)
    (e2 : env[a]? = some (some (.obj H1.length))) (e4 : env[b]? = some (some (ptD (pl (cyc W) m))))
    (q : ∀ h1 r, lstAt h1 r = some (nsD (erl W m)) → (∀ j, ∃ ad2, Met H1 (grpN (pl (cyc W)) (m + 1)) ((h1 ++ j).set r (.lst (nsD (erl W m ++ [m])))) ad2) → Q (.obj r) h1) :
    Ok (setdM (var a) (var b) (lstO argN) env) h' Q := by
  obtain ⟨k, rfl⟩ := M.hp
  have F := grp_F (pl (cyc W)) m
  have ln := grp_len (pl (cyc W)) m
  have g1 : grpN (pl (cyc W)) (m + 1) = addG (grpN (pl (cyc W)) m) (pl (cyc W) m) m := rfl
  have at_ := M.at_
  have inj := M.inj
  have gn := grp_none (pl (cyc W)) (m := m) (p := pl (cyc W) m)
  rw [g1] at q
  have er : erl W m = (List.range m).filter fun i => decide (pl (cyc W) i = pl (cyc W) m) := rfl
  generalize erl W m = E at *
  generalize hms : grpN (pl (cyc W)) m = ms at *
  generalize hp : pl (cyc W) m = p at *
  rw [ok_setdM, ok_pick e2, ok_dtO, ok_pick e4, ok_lstO, ok_argN]
  refine ⟨szl (by simp), ?_⟩
  rw [show H1 ++ Ao.dt (ms.map fun q => kp q.1) (ms.map fun q => .obj (ad q.1)) :: k ++ [.lst []] = H1 ++ Ao.dt (ms.map fun q => kp q.1) (ms.map fun q => .obj (ad q.1)) :: (k ++ [.lst []]) by simp]
  rw [ok_setdR (by simp; have := szl (show m + 2 ≤ 1000 by omega); omega), val_ad (U := fun z => .obj (ad z))]
  by_cases pin : p ∈ ms.map (·.1)
  · rw [if_pos pin]
    obtain ⟨q0, hq0, eq0⟩ := List.mem_map.mp pin
    have eq0 : q0.1 = p := eq0
    obtain ⟨a1, a2⟩ := at_ q0 hq0
    rw [eq0] at a1 a2
    have qE : q0.2 = E := by rw [F q0 hq0, er, eq0]
    rw [qE] at a2
    have a3 : ∀ j, lstAt (H1 ++ Ao.dt (ms.map fun q => kp q.1) (ms.map fun q => .obj (ad q.1)) :: (k ++ [.lst []]) ++ j) (ad p) = some (nsD E) := fun j => by
      have := lstAt_app a2 ([.lst []] ++ j)
      simpa using this
    refine q _ _ (by simpa using a3 []) fun j => ?_
    have same : ∀ q ∈ ms, q.1 = p → q.2 = E := fun q hq e => by rw [F q hq, er, e]
    refine ⟨ad, ⟨(k ++ [Ao.lst []] ++ j).set (ad p - H1.length - 1) (Ao.lst (nsD (E ++ [m]))), ?_⟩, fun q hq => ?_, fun q hq q' hq' e => ?_⟩
    · rw [show H1 ++ Ao.dt (ms.map fun q => kp q.1) (ms.map fun q => .obj (ad q.1)) :: (k ++ [.lst []]) ++ j = H1 ++ Ao.dt (ms.map fun q => kp q.1) (ms.map fun q => .obj (ad q.1)) :: (k ++ [.lst []] ++ j) by simp]
      refine (set_behind a1).trans ?_
      unfold addG
      rw [if_pos pin]
      congr 2
      congr 1
      · rw [List.map_map]
        apply List.map_congr_left
        intro q hq
        simp only [Function.comp]
        split <;> rfl
      · rw [List.map_map]
        apply List.map_congr_left
        intro q hq
        simp only [Function.comp]
        split <;> rfl
    · unfold addG at hq
      rw [if_pos pin] at hq
      obtain ⟨q1, h1, e1⟩ := List.mem_map.mp hq
      by_cases c : q1.1 = p
      · rw [if_pos c] at e1
        subst e1
        dsimp only
        rw [c]
        refine ⟨a1, ?_⟩
        rw [lstAt_set (lstAt_lt (a3 j)), same q1 h1 c]
      · rw [if_neg c] at e1
        subst e1
        obtain ⟨b1, b2⟩ := at_ q1 h1
        refine ⟨b1, ?_⟩
        rw [lstAt_ne (fun z => c (by have := inj q0 hq0 q1 h1 (by rw [eq0]; exact z); rw [← this, eq0]))]
        have := lstAt_app b2 ([.lst []] ++ j)
        simpa using this
    · have key : ∀ q, q ∈ addG ms p m → ∃ q1 ∈ ms, q1.1 = q.1 := fun q hq => by
        unfold addG at hq
        rw [if_pos pin] at hq
        obtain ⟨q1, h1, e1⟩ := List.mem_map.mp hq
        refine ⟨q1, h1, ?_⟩
        rw [← e1]
        split <;> rfl
      obtain ⟨q1, h1, e1⟩ := key q hq
      obtain ⟨q2, h2, e2⟩ := key q' hq'
      rw [← e1, ← e2]
      exact inj q1 h1 q2 h2 (by rw [e1, e2]; exact e)
  · rw [if_neg pin]
    have En : E = [] := by rw [er]; exact gn pin
    subst En
    have fl : (H1 ++ Ao.dt (ms.map fun q => kp q.1) (ms.map fun q => .obj (ad q.1)) :: k).length = H1.length + k.length + 1 := by simp; omega
    have pk : putG (ms.map fun q => kp q.1) (ms.map fun q => Dt.obj (ad q.1)) (kp p) (.obj (H1 ++ Ao.dt (ms.map fun q => kp q.1) (ms.map fun q => .obj (ad q.1)) :: k).length) = ((ms.map fun q => kp q.1) ++ [kp p], (ms.map fun q => Dt.obj (ad q.1)) ++ [.obj (H1.length + k.length + 1)]) := by
      unfold putG
      rw [if_neg (fun z => pin (mem_kp.mp z)), fl]
    dsimp only
    rw [pk, fl]
    dsimp only
    have r3 : ∀ j, lstAt (H1 ++ Ao.dt ((ms.map fun q => kp q.1) ++ [kp p]) ((ms.map fun q => Dt.obj (ad q.1)) ++ [.obj (H1.length + k.length + 1)]) :: (k ++ [.lst []]) ++ j) (H1.length + k.length + 1) = some [] := fun j => by
      have := lstAt_new (h := H1 ++ Ao.dt ((ms.map fun q => kp q.1) ++ [kp p]) ((ms.map fun q => Dt.obj (ad q.1)) ++ [.obj (H1.length + k.length + 1)]) :: k) (xs := []) (j := j)
      rw [show (H1 ++ Ao.dt ((ms.map fun q => kp q.1) ++ [kp p]) ((ms.map fun q => Dt.obj (ad q.1)) ++ [.obj (H1.length + k.length + 1)]) :: k).length = H1.length + k.length + 1 by simp; omega] at this
      simpa using this
    refine q _ _ (by have := r3 []; rw [List.append_nil] at this; exact this) fun j => ?_
    have old : ∀ q ∈ ms, ad q.1 < H1.length + k.length + 1 := fun q hq => by
      have := lstAt_lt (at_ q hq).2
      omega
    refine ⟨fun z => if z = p then H1.length + k.length + 1 else ad z, ⟨k ++ Ao.lst [Dt.int (m : Nat)] :: j, ?_⟩, fun q hq => ?_, fun q hq q' hq' e => ?_⟩
    · rw [show H1 ++ Ao.dt ((ms.map fun q => kp q.1) ++ [kp p]) ((ms.map fun q => Dt.obj (ad q.1)) ++ [.obj (H1.length + k.length + 1)]) :: (k ++ [.lst []]) ++ j = H1 ++ Ao.dt ((ms.map fun q => kp q.1) ++ [kp p]) ((ms.map fun q => Dt.obj (ad q.1)) ++ [.obj (H1.length + k.length + 1)]) :: (k ++ .lst [] :: j) by simp]
      refine (set_behind (by omega)).trans ?_
      rw [show H1.length + k.length + 1 - H1.length - 1 = k.length by omega]
      unfold addG
      rw [if_neg pin]
      congr 2
      · congr 1
        · simp
        · simp only [List.map_append, List.map_cons, List.map_nil, if_true]
          congr 1
          apply List.map_congr_left
          intro q hq
          rw [if_neg (fun z => pin (List.mem_map.mpr ⟨q, hq, z⟩))]
      · simp [nsD]
    · unfold addG at hq
      rw [if_neg pin] at hq
      rcases List.mem_append.mp hq with c | c
      · have ne : ¬ q.1 = p := fun z => pin (List.mem_map.mpr ⟨q, c, z⟩)
        obtain ⟨b1, b2⟩ := at_ q c
        have o := old q c
        rw [if_neg ne]
        refine ⟨b1, ?_⟩
        rw [lstAt_ne (by omega)]
        have b3 : lstAt (H1 ++ Ao.dt (ms.map fun q => kp q.1) (ms.map fun q => .obj (ad q.1)) :: (k ++ [.lst []]) ++ j) (ad q.1) = some (nsD q.2) := by
          have := lstAt_app b2 ([.lst []] ++ j)
          simpa using this
        rw [List.append_assoc, List.cons_append] at b3 ⊢
        unfold lstAt at b3 ⊢
        rw [List.getElem?_append_right (by omega), show ad q.1 - H1.length = (ad q.1 - H1.length - 1) + 1 by omega, List.getElem?_cons_succ] at b3 ⊢
        exact b3
      · have : q = (p, [m]) := by simpa using c
        subst this
        simp only [if_true]
        refine ⟨by omega, ?_⟩
        rw [lstAt_set (lstAt_lt (r3 j))]
        simp [nsD]
    · have key : ∀ q, q ∈ addG ms p m → q.1 = p ∨ (q.1 ≠ p ∧ ∃ q1 ∈ ms, q1.1 = q.1) := fun q hq => by
        unfold addG at hq
        rw [if_neg pin] at hq
        rcases List.mem_append.mp hq with c | c
        · exact .inr ⟨fun z => pin (List.mem_map.mpr ⟨q, c, z⟩), q, c, rfl⟩
        · have : q = (p, [m]) := by simpa using c
          exact .inl (by rw [this])
      rcases key q hq with c | ⟨c, q1, h1, e1⟩ <;> rcases key q' hq' with c' | ⟨c', q2, h2, e2⟩
      · rw [c, c']
      · simp only [c, if_true, if_neg c'] at e
        have := old q2 h2
        rw [e2] at this
        omega
      · simp only [c', if_true, if_neg c] at e
        have := old q1 h1
        rw [e1] at this
        omega
      · simp only [if_neg c, if_neg c'] at e
        rw [← e1, ← e2]
        exact inj q1 h1 q2 h2 (by rw [e1, e2]; exact e)
end Mo
set_option Elab.async false
set_option linter.all false
set_option maxRecDepth 100000
set_option maxHeartbeats 4000000
/-! PxI: first_touch of a line is None. -/
namespace Mo
open PySem L2 TL
theorem touch_ok {W : List Nat} (L : Line W) (hn : W.length ≤ 899) : Gv (K51.f_first_touch [.str (Tx W)]) .non := gv_of fun h => by
  have hl := L.ltrs
  have sz := szl (show W.length ≤ 1000 by omega)
  rw [K51.f_first_touch, ok_fnM]
  simp only [K51.m_first_touch, List.map_cons, List.map_nil, List.length_cons, List.length_nil, List.replicate, List.cons_append, List.nil_append]
  rw [ok_seq, ok_sto]
  dsimp only
  rw [ok_mkO]
  show Ok (seq _ _ [some (.str (Tx W)), some (.obj h.length), none, none, none]) _ _
  rw [ok_seq, ok_forM, ok_itEL, ok_argC, ok_slc, ok_callM, ok_argC, ok_pick (i := 0) (d := .str (Tx W)) rfl, ok_argN]
  refine ⟨rfl, (placesN_ok hl (by omega) _).mono fun d h1 ⟨e, j, e1⟩ => ?_⟩
  subst e e1
  rw [ok_opN, ok_opS, ok_op1, ok_con, ok_negI, ok_isI, ok_slO lstAt_new, ok_argN]
  refine ⟨_, rfl, ?_⟩
  rw [ok_itemsLv, cut_last]
  refine forL_ind (fun ds env h' => ∃ (m : Nat) (ad : Pt → Nat) (y z w : Option Dt), m ≤ W.length ∧ ds = ((List.range W.length).drop m).map (fun i => .tup [.int ((i : Nat) : Int), ptD (pl (cyc W) i)]) ∧
      Met h (grpN (pl (cyc W)) m) h' ad ∧ env = [some (.str (Tx W)), some (.obj h.length), y, z, w]) ?_ ?_ _ _ _ ⟨0, fun _ => 0, none, none, none, Nat.zero_le _, by simp, ⟨⟨.lst (ptsD W W.length) :: j, by simp [grpN]⟩, by simp [grpN], by simp [grpN]⟩, rfl⟩
  · rintro x xs env h' ⟨m, ad, y, z, w, hm, e, M, rfl⟩
    have c : m < W.length := by
      rcases Nat.lt_or_ge m W.length with c | c
      · exact c
      · rw [List.drop_eq_nil_of_le (by simpa using c)] at e; simp at e
    rw [range_drop c, List.map_cons] at e
    obtain ⟨rfl, rfl⟩ := List.cons.inj e
    refine ⟨[some (.str (Tx W)), some (.obj h.length), some (.int (m : Nat)), some (ptD (pl (cyc W) m)), w], by simp [Pat.bd, Pat.bds], ?_⟩
    rw [ok_seq, ok_sto]
    refine setd_ok M (by omega) rfl rfl fun h1 r a1 a2 => ?_
    show Ok (seq _ _ [some (.str (Tx W)), some (.obj h.length), some (.int (m : Nat)), some (ptD (pl (cyc W) m)), some (.obj r)]) _ _
    have ln : (nsD (erl W m)).length = (erl W m).length := by simp [nsD]
    have fin : ∀ jj (F : Fl → Ah → Prop), (erl W m).length ≤ 1 → (∀ h2 ad2, Met h (grpN (pl (cyc W)) (m + 1)) h2 ad2 → F (.nx [some (.str (Tx W)), some (.obj h.length), some (.int (m : Nat)), some (ptD (pl (cyc W) m)), some (.obj r)]) h2) → Ok (drp (bm isL mApp (var 4) (argC (var 2) argN)) [some (.str (Tx W)), some (.obj h.length), some (.int (m : Nat)), some (ptD (pl (cyc W) m)), some (.obj r)]) (h1 ++ jj) F := fun jj F le q => by
      rw [ok_drp, ok_bm, ok_pick (i := 4) (d := .obj r) rfl, ok_argC, ok_pick (i := 2) (d := .int (m : Nat)) rfl, ok_argN, ok_appO]
      obtain ⟨ad2, M2⟩ := a2 jj
      refine ⟨isL_obj (lstAt_app a1 jj), _, lstAt_app a1 jj, by rw [ln]; have := szl (show 2 ≤ 1000 by omega); omega, q _ ad2 ?_⟩
      rw [show nsD (erl W m) ++ [Dt.int (m : Nat)] = nsD (erl W m ++ [m]) by simp [nsD]]
      exact M2
    rw [ok_seq, ok_ifS, ok_orT, ok_tst, ok_op2, ok_bi, ok_argC, ok_pick (i := 4) (d := .obj r) rfl, ok_argN, ok_lenO a1, ok_con, ok_gtI, ok_isB, ln]
    rcases erl_line L c with e0 | ⟨u, hu, e0, pu⟩
    · rw [e0, if_neg (by simp), ok_andT, ok_tst, ok_op2, ok_bi, ok_argC, ok_pick (i := 4) (d := .obj r) rfl, ok_argN, ok_lenO a1, ok_con, ok_eqI, ok_isB, ln, e0, if_neg (by simp), if_neg (by simp), ok_nxt]
      have := fun F => fin [] F (by rw [e0]; simp)
      rw [List.append_nil] at this
      exact this _ fun h2 ad2 M2 => ⟨m + 1, ad2, _, _, _, c, rfl, M2, rfl⟩
    · have a1' : lstAt h1 r = some [.int (u : Nat)] := by rw [a1, e0]; rfl
      rw [e0, if_neg (by simp), ok_andT, ok_tst, ok_op2, ok_bi, ok_argC, ok_pick (i := 4) (d := .obj r) rfl, ok_argN, ok_lenO a1, ok_con, ok_eqI, ok_isB, ln, e0, if_pos (by simp), ok_notT, ok_tst, ok_callM, ok_argC, ok_pick (i := 0) (d := .str (Tx W)) rfl, ok_argC, ok_op2, ok_pick (i := 4) (d := .obj r) rfl, ok_con, ok_ixO, a1']
      refine ⟨.int (u : Nat), (at0 : atI [Dt.int (u : Nat)] 0 = some (Dt.int (u : Nat))), ?_⟩
      rw [ok_argC, ok_pick (i := 2) (d := .int (m : Nat)) rfl, ok_argN]
      refine ⟨rfl, gv_fn (plain_ok (by omega) c (by omega)) fun jj => ?_⟩
      rw [ok_isB, pu, if_neg (by simp), ok_nxt]
      exact fin jj _ (by rw [e0]; simp) fun h2 ad2 M2 => ⟨m + 1, ad2, _, _, _, c, rfl, M2, rfl⟩
  · rintro env h' ⟨m, ad, y, z, w, hm, e, M, rfl⟩
    obtain ⟨k, rfl⟩ := M.hp
    dsimp only
    rw [ok_ret, ok_con]
    exact ⟨rfl, _, rfl⟩
end Mo
set_option Elab.async false
set_option linter.all false
set_option maxRecDepth 100000
set_option maxHeartbeats 4000000
/-! PxJ: the program's own reading of a text. -/
namespace Mo
open PySem L2 TL
/-- a stretch -/
def strD (q : Nat × Nat) : Dt := .tup [.str (Tx [q.1]), .int (q.2 : Nat)]
theorem stretch_ok {q : Nat × Nat} (hc : Ltr q.1) (h1 : 1 ≤ q.2) (h2 : q.2 ≤ 900) : Gv (K51.f_stretch_of [.str (Tx (wordR q))]) (strD q) := gv_of fun h => by
  obtain ⟨d, l, e, hd⟩ := numL_head q.2 h1
  have nl : (numL q.2).length ≤ 3 := numL_len (by decide) (by omega)
  have nl0 : 0 < (numL q.2).length := by rw [e]; simp
  have dg : ∀ c ∈ numL q.2, c ∈ [48, 49, 50, 51, 52, 53, 54, 55, 56, 57] := fun c m => by
    have := numL_digits q.2 c m
    simp
    omega
  have wl : (wordR q).length ≤ sizeLine := szl (by simp [wordR]; omega)
  have w1 : atI (wordR q) 1 = some d := by
    show atI (q.1 :: numL q.2) 1 = _
    rw [e]
    exact at1
  rw [K51.f_stretch_of, ok_fnM]
  simp only [K51.m_stretch_of, List.map_cons, List.map_nil, List.length_cons, List.length_nil, List.replicate, List.cons_append, List.nil_append]
  rw [ok_seq, ok_ifS, ok_orT, ok_notT, ok_tst, ok_bi, ok_argC, ok_pick (i := 0) (d := .str (Tx (wordR q))) rfl, ok_argC, ok_con, ok_argN, isi_str, ok_isB, if_neg (by simp)]
  rw [ok_orT, ok_tst, ok_op2, ok_bi, ok_argC, ok_pick (i := 0) (d := .str (Tx (wordR q))) rfl, ok_argN, ok_lenS]
  refine ⟨wl, ?_⟩
  have wl2 : (wordR q).length = (numL q.2).length + 1 := rfl
  rw [ok_con, ok_ltI, ok_isB, if_neg (by rw [decide_eq_true_eq, wl2]; omega)]
  rw [ok_orT, ok_tst, ok_op2, ok_op2, ok_pick (i := 0) (d := .str (Tx (wordR q))) rfl, ok_con, ok_ixS]
  refine ⟨q.1, at0, wl, ?_⟩
  rw [ok_con, lit_enws]
  refine ok_of (a := .bl false) (h' := h) (by
    unfold opNotIn inR
    simp only [sign_tx, tx_cps]
    rcases hc with z | z | z | z <;> rw [z] <;> rfl) ?_
  rw [ok_isB, if_neg (by simp), ok_tst, ok_op2, ok_op2, ok_pick (i := 0) (d := .str (Tx (wordR q))) rfl, ok_con, ok_ixS]
  refine ⟨d, w1, wl, ?_⟩
  rw [ok_con, lit_0, ok_eqS, ok_isB, if_neg (by simpa using hd), ok_nxt]
  dsimp only
  rw [ok_seq, ok_ifS, ok_notT, ok_tst, ok_bi, ok_argC]
  refine ok_lcA (numL q.2) (fun c => .str (Tx [c])) (fun c => .bl (decide (c ∈ [48, 49, 50, 51, 52, 53, 54, 55, 56, 57]))) ?_
  rw [ok_itS, ok_slc, ok_pick (i := 0) (d := .str (Tx (wordR q))) rfl, ok_opS, ok_con, ok_isI, ok_opN, ok_slS]
  refine ⟨wl, ?_⟩
  rw [show cutL (wordR q) (some 1) none = numL q.2 from cut1, ok_itemsTx]
  refine ⟨rfl, szl (by omega), fun c m => gv_of fun h => ?_, fun j => ?_⟩
  · rw [ok_op2, ok_pick (i := 1) (d := .str (Tx [c])) rfl, ok_con, lit_dg, ok_inS]
    exact ⟨rfl, [], by simp⟩
  · rw [ok_argN, bAll_ok, ok_isB, if_neg (by
      have : (numL q.2).all (fun c => decide (c ∈ [48, 49, 50, 51, 52, 53, 54, 55, 56, 57])) = true := List.all_eq_true.mpr fun c m => by simpa using dg c m
      rw [this]; simp), ok_nxt]
    dsimp only
    rw [ok_ret, ok_tupE, ok_argC, ok_op2, ok_pick (i := 0) (d := .str (Tx (wordR q))) rfl, ok_con, ok_ixS]
    refine ⟨q.1, at0, wl, ?_⟩
    rw [ok_argC, ok_bi, ok_argC, ok_slc, ok_pick (i := 0) (d := .str (Tx (wordR q))) rfl, ok_opS, ok_con, ok_isI, ok_opN, ok_slS]
    refine ⟨wl, ?_⟩
    rw [show cutL (wordR q) (some 1) none = numL q.2 from cut1, ok_argN, ok_intN (by omega), ok_argN]
    exact ⟨szl (by simp), rfl, j, rfl⟩
theorem toPs_str : ∀ rs : List (Nat × Nat), toPs (rs.map strD) = some (rs.map fun q => .tuple [.str (Tx [q.1]), .int (q.2 : Nat)])
  | [] => rfl
  | q :: rs => by
    show (match toP (strD q), toPs (rs.map strD) with | some p, some ps => some (p :: ps) | _, _ => none) = _
    rw [toPs_str rs]
    rfl
theorem lay_str : ∀ {rs : List (Nat × Nat)}, (∀ q ∈ rs, Ltr q.1) → PyData.canLayAll0 (rs.map fun q => .tuple [.str (Tx [q.1]), .int (q.2 : Nat)]) = true ∧ PyData.depthAll (rs.map fun q => .tuple [.str (Tx [q.1]), .int (q.2 : Nat)]) ≤ 1
  | [], _ => ⟨rfl, Nat.zero_le _⟩
  | q :: rs, h => by
    obtain ⟨h1, h2⟩ := lay_str (rs := rs) fun q m => h q (by simp [m])
    have hq := h q (by simp)
    have s1 : PyData.strOk (Tx [q.1]) = true := strok fun c m => by
      rw [List.mem_singleton.mp m]
      rcases hq with z | z | z | z <;> omega
    refine ⟨?_, ?_⟩
    · rw [List.map_cons]
      simp only [PyData.canLayAll0, PyData.canLay0, h1, s1, Bool.and_self]
    · rw [List.map_cons]
      simp only [PyData.depthAll, PyData.depth]
      omega
theorem none_in {h : Ah} {rs : List (Nat × Nat)} {Q : Dt → Ah → Prop} (hl : ∀ q ∈ rs, Ltr q.1) (h0 : rs ≠ []) (q : Q (.bl false) h) : Ok (opIn .non (.lv (rs.map strD))) h Q := by
  refine ok_of (a := .bl false) (h' := h) ?_ q
  obtain ⟨l1, l2⟩ := lay_str hl
  have an : ((rs.map fun q => PyData.tuple [.str (Tx [q.1]), .int (q.2 : Nat)]).any fun z => PyData.eqv z .none) = false := by
    rw [List.any_map, List.any_eq_false]
    intro q _
    simp [PyData.eqv]
  have e2 : toPH h (.lv (rs.map strD)) = some (.list (rs.map fun q => .tuple [.str (Tx [q.1]), .int (q.2 : Nat)])) := by
    show (match toPs (rs.map strD) with | some ps => some (PyData.list ps) | none => none) = _
    rw [toPs_str]
  have sh : SeqAt.shaped (.list (rs.map fun q => .tuple [.str (Tx [q.1]), .int (q.2 : Nat)])) = true := by
    have c1 : PyData.canLay0 (.list (rs.map fun q => .tuple [.str (Tx [q.1]), .int (q.2 : Nat)])) = true := by rw [PyData.canLay0]; exact l1
    have d1 : PyData.depth (.list (rs.map fun q => .tuple [.str (Tx [q.1]), .int (q.2 : Nat)])) ≤ 64 := by
      have : PyData.depth (.list (rs.map fun q => .tuple [.str (Tx [q.1]), .int (q.2 : Nat)])) = PyData.depthAll (rs.map fun q => .tuple [.str (Tx [q.1]), .int (q.2 : Nat)]) + 1 := by rw [PyData.depth]
      rw [this]
      omega
    unfold SeqAt.shaped
    rw [c1, decide_eq_true d1]
    rfl
  have e1 : (seqR h (.lv (rs.map strD))).bind flatDs = none := by
    cases rs with
    | nil => exact absurd rfl h0
    | cons q rs => rfl
  have e3 : inR h .non (.lv (rs.map strD)) = some false := by
    unfold inR
    simp only [e1, e2, flatD]
    simp only [toPH, toP, sh, an]
    rfl
  unfold opIn
  rw [e3]
/-- what is known of the text of a line -/
theorem text_facts {W : List Nat} (L : Line W) (h4 : 4 ≤ W.length) (hn : W.length ≤ 120) (h0 : stB W 0 = false) : (∀ q ∈ runsF W, 1 ≤ q.2 ∧ q.2 ≤ 120 ∧ Ltr q.1) ∧ (runsF W).length ≤ 120 ∧ (textP W).length ≤ 1000 ∧ Txt.split (Tx (textP W)) (Tx [32]) = (runsF W).map fun q => Tx (wordR q) := by
  obtain ⟨adj, wr, four⟩ := line_runs L h4 h0
  have ex := expand_runs W
  have one := runs_bound W [] (by simp)
  have qf : ∀ q ∈ runsF W, 1 ≤ q.2 ∧ q.2 ≤ 120 ∧ Ltr q.1 := fun q m => ⟨one q m, by have := run_le m; rw [ex] at this; omega, L.ltrs _ (by have := mem_runs one m; rw [show expand (List.foldl addR [] W) = W from ex] at this; exact this)⟩
  have rl : (runsF W).length ≤ 120 := by have := runs_le (rs := runsF W) one; rw [ex] at this; omega
  have sl := sum_le (fun q : Nat × Nat => (wordR q).length) 4 (runsF W) fun q m => by
    have : (numL q.2).length ≤ 3 := numL_len (by decide) (by have := (qf q m).2.1; omega)
    simp only [wordR, List.length_cons]
    omega
  refine ⟨qf, rl, ?_, ?_⟩
  · have : ∀ (ps : List (List Nat)), (joinL [32] ps).length ≤ (ps.map List.length).sum + ps.length := by
      intro ps
      induction ps with
      | nil => simp [joinL]
      | cons p ps ih =>
        cases ps with
        | nil => simp [joinL]
        | cons q r =>
          show (p ++ ([32] ++ joinL [32] (q :: r))).length ≤ _
          simp only [List.length_append, List.length_cons, List.length_nil, List.map_cons, List.sum_cons] at ih ⊢
          omega
    have := this ((runsF W).map wordR)
    rw [List.map_map, List.length_map] at this
    have e : (List.map (List.length ∘ wordR) (runsF W)).sum = ((runsF W).map fun q => (wordR q).length).sum := rfl
    unfold textP
    omega
  · have := split_of (x := Tx (textP W)) ((runsF W).map fun q => (q.1, numL q.2)) (by
      unfold textP
      rw [List.map_map]
      rfl) (fun e => by rw [List.map_eq_nil_iff] at e; rw [e] at four; simp at four) (fun p m => by
      obtain ⟨q, mq, rfl⟩ := List.mem_map.mp m
      intro z
      rcases List.mem_cons.mp z with z | z
      · have z : 32 = q.1 := z
        rcases (qf q mq).2.2 with e | e | e | e <;> omega
      · exact numL_free (by omega) z)
    rw [this, List.map_map]
    rfl
theorem stretches_ok {W : List Nat} (L : Line W) (h4 : 4 ≤ W.length) (hn : W.length ≤ 120) (h0 : stB W 0 = false) : Gv (K51.f_stretches_of [.str (Tx (textP W))]) (.lv ((runsF W).map strD)) := gv_of fun h => by
  obtain ⟨qf, rl, tl, spl⟩ := text_facts L h4 hn h0
  have four := (line_runs L h4 h0).2.2
  generalize hrs : runsF W = rs at *
  rw [K51.f_stretches_of, ok_fnM]
  simp only [K51.m_stretches_of, List.map_cons, List.map_nil, List.length_cons, List.length_nil, List.replicate, List.cons_append, List.nil_append]
  rw [ok_seq, ok_ifS, ok_notT, ok_tst, ok_bi, ok_argC, ok_pick (i := 0) (d := .str (Tx (textP W))) rfl, ok_argC, ok_con, ok_argN, isi_str, ok_isB, if_neg (by simp), ok_nxt]
  dsimp only
  rw [ok_seq, ok_sto]
  refine ok_lcA rs (fun q => .str (Tx (wordR q))) strD ?_
  rw [ok_itL, ok_bm, ok_pick (i := 0) (d := .str (Tx (textP W))) rfl, ok_argC, ok_con, lit_sp, ok_argN]
  refine ⟨rfl, ?_⟩
  refine ok_of (a := .lv (rs.map fun q => .str (Tx (wordR q)))) (h' := h) (by
    have s2 := szl (show 1000 ≤ 1000 by omega)
    have : (textP W).length + 2 ≤ sizeLine := by rw [sizeLine_eq]; omega
    simp [mSplit, spl, this]) ?_
  rw [ok_itemsLv]
  refine ⟨rfl, szl (by omega), fun q m => gv_of fun h => ?_, fun j => ?_⟩
  · obtain ⟨q1, q2, q3⟩ := qf q m
    rw [ok_callM, ok_argC, ok_pick (i := 2) (d := .str (Tx (wordR q))) rfl, ok_argN]
    exact ⟨rfl, gv_fn (stretch_ok q3 q1 (by omega)) fun j => ⟨rfl, j, rfl⟩⟩
  · dsimp only [List.set]
    generalize hV : Dt.lv (rs.map strD) = V
    rw [ok_ret, ok_ifE, ok_tst, ok_op2, ok_con, ok_pick (i := 1) (d := V) rfl, ← hV]
    refine none_in (fun q m => (qf q m).2.2) (fun e => by rw [e] at four; simp at four) ?_
    rw [ok_isB, if_neg (by simp), ok_pick (i := 1) (d := .lv (rs.map strD)) rfl]
    exact ⟨rfl, j, rfl⟩
end Mo
set_option Elab.async false
set_option linter.all false
set_option maxRecDepth 100000
set_option maxHeartbeats 4000000
/-! PxK: steps_of. -/
namespace Mo
open PySem L2 TL
theorem ok_lcP {γ : Type} {mi : En → Mm (List Dt)} {p : Pat} {me : En → Mm Dt} {vs : List Nat} {env : En} {h : Ah} {Q : Dt → Ah → Prop} (l : List γ) (e : γ → Dt) (g : γ → Dt)
    (hi : Ok (mi env) h fun ds h1 => ds = l.map e ∧ l.length ≤ sizeLine ∧ (∀ d ∈ l, ∃ e1, p.bd (e d) (wipeE env vs) = some e1 ∧ Gv (me e1) (g d)) ∧ ∀ j, Q (.lv (l.map g)) (h1 ++ j)) :
    Ok (lcM mi p yes me vs env) h Q :=
  ok_lcM l e (fun _ => true) g (hi.mono fun ds h1 ⟨h2, h3, h4, h5⟩ => ⟨h2, h3, fun d m => by
    obtain ⟨e1, b, g1⟩ := h4 d m
    exact ⟨e1, b, fun h => ⟨[], by simp [yes, Mm.pure]⟩, fun _ => g1⟩, fun j => by
    rw [List.filter_eq_self.mpr (by simp)]
    exact h5 j⟩)
theorem ok_sumLv {γ : Type} {h : Ah} {Q : Dt → Ah → Prop} {l : List γ} {f : γ → Int} : Ok (bSum [.lv (l.map fun i => .int (f i))]) h Q ↔ Q (.int (l.map f).sum) h := by
  have e : intsD (l.map fun i => .int (f i)) = some (l.map f) := by
    induction l with
    | nil => rfl
    | cons a l ih => simp [intsD, ih]
  have e2 : bSum [.lv (l.map fun i => .int (f i))] h = .ok (.int (l.map f).sum) h := by
    simp [bSum, bFold, lstR, lstT, e]
  unfold Ok
  rw [e2]
theorem str_prev {rs : List (Nat × Nat)} {i : Nat} (h : i < rs.length) : atI (rs.map strD) ((i : Int) - 1) = some (strD (if i = 0 then rs.getLastD (0, 0) else rs.getD (i - 1) (0, 0))) := by
  cases i with
  | zero =>
    have h0 : rs ≠ [] := fun e => by subst e; simp at h
    rw [show ((0 : Nat) : Int) - 1 = -1 by omega, atI_last (by simpa using h0), List.getLast_map]
    simp [List.getLastD_eq_getLast?, List.getLast?_eq_some_getLast h0]
  | succ i =>
    rw [show ((i + 1 : Nat) : Int) - 1 = (i : Int) by omega, atI_nat (by simp; omega)]
    simp [show i < rs.length by omega]
theorem enum_str (rs : List (Nat × Nat)) : enumD 0 (rs.map strD) = (List.range rs.length).map fun i => .tup [.int (i : Nat), strD (rs.getD i (0, 0))] := by
  rw [enum_map]
  apply List.ext_getElem
  · simp
  · intro i h1 h2
    simp at h1
    simp [h1]
def stpM : En → Mm Fl := (seq (ifS (orT (tst (op2 opIsN (var 1) (con .non))) (orT (tst (op2 opLt (bi bLen (argC (var 1) argN)) (con (.int 4)))) (tst (op2 opGt (bi bSum (argC (lcM (itL (var 1)) (.tp [(.nm 2), (.nm 3)]) yes (var 3) [2, 3]) argN)) (con (.int 120)))))) (ret (con .non)) nxt)
    (seq (ifS (tst (bi bAny (argC (lcM (itEL (argC (var 1) argN)) (.tp [(.nm 4), (.tp [(.nm 2), (.nm 3)])]) yes (op2 opEq (callM 1 K51.f_is_level (argC (op2 ixM (op2 ixM (var 1) (op2 opSub (var 4) (con (.int 1)))) (con (.int 0))) argN)) (callM 1 K51.f_is_level (argC (var 2) argN))) [4, 2, 3]) argN))) (ret (con .non)) nxt)
    (ret (bm isSt mJoin (con (.str (Str.ofString ""))) (argC (lcM (itL (var 1)) (.tp [(.nm 2), (.nm 3)]) yes (op2 opMul (var 2) (var 3)) [2, 3]) argN)))))
theorem stp_ok {W : List Nat} {rs : List (Nat × Nat)} {h : Ah} {a0 : Option Dt} {V : Dt} (eV : V = .lv (rs.map strD)) (hn : W.length ≤ 120) (adj : AdjR rs) (wr : lv (rs.getLastD (0, 0)).1 ≠ lv (rs.headD (0, 0)).1) (four : 4 ≤ rs.length) (ex : expand rs = W) (qf : ∀ q ∈ rs, 1 ≤ q.2 ∧ q.2 ≤ 120 ∧ Ltr q.1) (rl : rs.length ≤ 120) :
    Ok (stpM [a0, some V, none, none, none]) h fun f h1 => f = .rt (.str (Tx W)) ∧ ∃ j, h1 = h ++ j := by
  have sm : (rs.map fun q => ((q.2 : Nat) : Int)).sum = (W.length : Nat) := by
    rw [← ex]
    clear four wr adj ex hn eV rl qf
    induction rs with
    | nil => rfl
    | cons q rs ih =>
      simp only [expand, List.map_cons, List.sum_cons, List.flatten_cons, List.length_append, List.length_replicate] at ih ⊢
      rw [ih]
      omega
  unfold stpM
  rw [ok_seq, ok_ifS, ok_orT, ok_tst, ok_op2, ok_pick (i := 1) (d := V) rfl, ok_con, eV]
  refine ok_of (a := .bl false) (h' := h) rfl ?_
  rw [ok_isB, if_neg (by simp), ok_orT, ok_tst, ok_op2, ok_bi, ok_argC, ok_pick (i := 1) (d := .lv (rs.map strD)) rfl, ok_argN, ok_lenLv, ok_con, ok_ltI, ok_isB, List.length_map, if_neg (by simp; omega), ok_tst, ok_op2, ok_bi, ok_argC]
  refine ok_lcP rs strD (fun q => .int ((q.2 : Nat) : Int)) ?_
  rw [ok_itL, ok_pick (i := 1) (d := .lv (rs.map strD)) rfl, ok_itemsLv]
  refine ⟨rfl, szl (by omega), fun q m => ⟨[a0, some (.lv (rs.map strD)), some (.str (Tx [q.1])), some (.int (q.2 : Nat)), none], by simp [Pat.bd, Pat.bds, wipeE, strD], gv_of fun h => ?_⟩, fun j1 => ?_⟩
  · rw [ok_pick (i := 3) (d := .int (q.2 : Nat)) rfl]
    exact ⟨rfl, [], by simp⟩
  rw [ok_argN, ok_sumLv, ok_con, ok_gtI, ok_isB, sm, if_neg (by simp; omega), ok_nxt]
  dsimp only
  rw [ok_seq, ok_ifS, ok_tst, ok_bi, ok_argC]
  refine ok_lcP (List.range rs.length) (fun i => .tup [.int (i : Nat), strD (rs.getD i (0, 0))]) (fun i => Dt.bl (altB rs i)) ?_
  rw [ok_itEL, ok_argC, ok_pick (i := 1) (d := .lv (rs.map strD)) rfl, ok_argN]
  refine ⟨_, rfl, ?_⟩
  rw [ok_itemsLv, enum_str]
  refine ⟨rfl, by simpa using szl (show rs.length ≤ 1000 by omega), fun i mi => ⟨[a0, some (.lv (rs.map strD)), some (.str (Tx [(rs.getD i (0, 0)).1])), some (.int ((rs.getD i (0, 0)).2 : Nat)), some (.int (i : Nat))], by simp [Pat.bd, Pat.bds, wipeE, strD], gv_of fun h => ?_⟩, fun j2 => ?_⟩
  · have hi := List.mem_range.mp mi
    rw [ok_op2, ok_callM, ok_argC, ok_op2, ok_op2, ok_pick (i := 1) (d := .lv (rs.map strD)) rfl, ok_op2, ok_pick (i := 4) (d := .int (i : Nat)) rfl, ok_con, ok_subI, ok_ixLv]
    refine ⟨_, str_prev hi, ?_⟩
    rw [ok_con]
    refine ok_ixTup.mpr ⟨_, at0, ?_⟩
    rw [ok_argN]
    refine ⟨rfl, gv_fn level_ok fun j => ?_⟩
    rw [ok_callM, ok_argC, ok_pick (i := 2) (d := .str (Tx [(rs.getD i (0, 0)).1])) rfl, ok_argN]
    refine ⟨rfl, gv_fn level_ok fun j' => ?_⟩
    rw [ok_eqB]
    exact ⟨rfl, j ++ j', by simp⟩
  rw [ok_argN, bAny_ok, ok_isB, if_neg (by
    rw [Bool.not_eq_true, List.any_eq_false]
    intro i hi
    have hi := List.mem_range.mp hi
    cases i with
    | zero =>
      cases rs with
      | nil => simp at hi
      | cons a r => simpa [altB] using wr
    | succ i => simpa [altB] using adj i hi), ok_nxt]
  dsimp only
  rw [ok_ret, ok_bm, ok_con, lit_, ok_argC]
  refine ⟨rfl, ?_⟩
  refine ok_lcP rs strD (fun q => .str (Tx (List.replicate q.2 q.1))) ?_
  rw [ok_itL, ok_pick (i := 1) (d := .lv (rs.map strD)) rfl, ok_itemsLv]
  refine ⟨rfl, szl (by omega), fun q m => ⟨[a0, some (.lv (rs.map strD)), some (.str (Tx [q.1])), some (.int (q.2 : Nat)), none], by simp [Pat.bd, Pat.bds, wipeE, strD], gv_of fun h => ?_⟩, fun j3 => ?_⟩
  · have q2 := (qf q m).2.1
    have q3 : q.2 ≤ 1000 := by omega
    rw [ok_op2, ok_pick (i := 2) (d := .str (Tx [q.1])) rfl, ok_pick (i := 3) (d := .int (q.2 : Nat)) rfl, ok_repS q3]
    exact ⟨rfl, [], by simp⟩
  rw [ok_argN, ok_join (fun q : Nat × Nat => List.replicate q.2 q.1) (by
    have := sum_le (fun q : Nat × Nat => (List.replicate q.2 q.1).length) 120 rs fun q m => by simpa using (qf q m).2.1
    simp only [List.length_nil, Nat.mul_zero, Nat.add_zero]
    omega), join_nil, show (rs.map fun q : Nat × Nat => List.replicate q.2 q.1).flatten = W from ex]
  exact ⟨rfl, j1 ++ j2 ++ j3, by simp⟩
theorem stepsof_ok {W : List Nat} (L : Line W) (h4 : 4 ≤ W.length) (hn : W.length ≤ 120) (h0 : stB W 0 = false) : Gv (K51.f_steps_of [.str (Tx (textP W))]) (.str (Tx W)) := gv_of fun h => by
  obtain ⟨qf, rl, tl, spl⟩ := text_facts L h4 hn h0
  obtain ⟨adj, wr, four⟩ := line_runs L h4 h0
  have ex := expand_runs W
  have so := stretches_ok L h4 hn h0
  generalize hrs : runsF W = rs at *
  rw [K51.f_steps_of, ok_fnM]
  simp only [K51.m_steps_of, List.map_cons, List.map_nil, List.length_cons, List.length_nil, List.replicate, List.cons_append, List.nil_append]
  rw [ok_seq, ok_sto, ok_callM, ok_argC, ok_pick (i := 0) (d := .str (Tx (textP W))) rfl, ok_argN]
  refine ⟨rfl, gv_fn so fun j => ?_⟩
  dsimp only [List.set]
  generalize hV : Dt.lv (rs.map strD) = V
  have key := stp_ok (h := h ++ j) (a0 := some (.str (Tx (textP W)))) hV.symm hn adj wr four ex qf rl
  unfold stpM at key
  refine key.mono fun f h1 ⟨e1, j2, e2⟩ => ?_
  subst e1 e2
  exact ⟨rfl, j ++ j2, by simp⟩
end Mo
set_option Elab.async false
set_option linter.all false
set_option maxRecDepth 100000
set_option maxHeartbeats 4000000
/-! PxL: the line made. -/
namespace Mo
open PySem L2 TL
section
variable {c f : Str} {mo : En → Mm Dt} {mr : En → Mm (List Dt)} {env : En} {h k : Ah} {Q : Dt → Ah → Prop} {fs : List (Str × Dt)} {d y : Dt} {n r : Nat} {fm : List Dt → Mm Dt}
theorem ok_fld : Ok (fld c f mo env) h Q ↔ Ok (mo env) h fun d h1 => Ok (fldR c f d) h1 Q := by simp [fld]
theorem ok_fldR (e : insR c h d = some fs) (l : fs.lookup f = some y) (q : Q y h) : Ok (fldR c f d) h Q := ok_of (by unfold fldR; rw [e]; simp only [Option.bind_some, l]) q
theorem ok_gF {G : En → Ah → Prop} : Ok (gF c f mo d env) h G ↔ Ok (mo env) h fun o h1 => Ok (setF c f o d) h1 fun _ h2 => G env h2 := by simp [gF]
theorem ok_setF {U : Unit → Ah → Prop} (hl : fs.length < 1000) (q : U () (h ++ .ins c (putD f y fs) :: k)) : Ok (setF c f (.obj h.length) y) (h ++ .ins c fs :: k) U := by
  refine ok_of (a := ()) (h' := h ++ .ins c (putD f y fs) :: k) ?_ q
  unfold setF insR
  simp [hl]
theorem ok_make : Ok (make c n fm mr env) h Q ↔ Ok (mr env) h fun ds h1 => Ok (mkI c n fm ds) h1 Q := by simp [make]
theorem ok_mkI {ds : List Dt} (hn : ds.length + 1 = n) (o : Ok (fm (.obj h.length :: ds)) (h ++ [.ins c []]) fun v h2 => v = .non ∧ Q (.obj h.length) h2) : Ok (mkI c n fm ds) h Q := by
  unfold mkI
  rw [ok_bind]
  refine ok_of (a := h.length) (h' := h ++ [.ins c []]) rfl ?_
  rw [if_pos hn, ok_bind]
  refine o.mono fun v h2 ⟨e, q⟩ => ?_
  subst e
  exact q
def insM (c : Str) (d : Dt) : Mm Unit := fun h => if (insR c h d).isSome then .ok () h else .no
theorem ok_insM {U : Unit → Ah → Prop} : Ok (insM c d) h U ↔ (insR c h d).isSome = true ∧ U () h := by
  unfold Ok insM
  by_cases s : (insR c h d).isSome = true <;> simp [s]
theorem ok_prp : Ok (prp c fm mo env) h Q ↔ Ok (mo env) h fun d h1 => (insR c h1 d).isSome = true ∧ Ok (fm [d]) h1 Q := by
  show Ok (mo env >>= fun d => insM c d >>= fun _ => fm [d]) h Q ↔ _
  simp only [ok_bind, ok_insM]
theorem insR_obj : insR c h (.obj r) = match h[r]? with
    | some (.ins c' fs) => if c' = c then some fs else none
    | _ => none := rfl
theorem insR_app (e : insR c h (.obj r) = some fs) (j : Ah) : insR c (h ++ j) (.obj r) = some fs := by
  rw [insR_obj] at e ⊢
  cases q : h[r]? with
  | none => rw [q] at e; cases e
  | some o =>
    have l : r < h.length := by
      rcases Nat.lt_or_ge r h.length with l | l
      · exact l
      · rw [List.getElem?_eq_none l] at q; cases q
    rw [List.getElem?_append_left l, q]
    rw [q] at e
    exact e
theorem insR_ne {o : Ao} {r' : Nat} (ne : r' ≠ r) : insR c (h.set r' o) (.obj r) = insR c h (.obj r) := by
  rw [insR_obj, insR_obj, List.getElem?_set_ne ne]
theorem insR_new : insR c (h ++ .ins c fs :: k) (.obj h.length) = some fs := by
  unfold insR
  simp
end
def spD (W : List Nat) : List Dt := (List.range W.length).map fun i => ptD (pl (cyc W) i)
def lineF (W : List Nat) : List (Str × Dt) := [(Str.ofString "written", .str (Tx (textP W))), (Str.ofString "ways", .str (Tx W)), (Str.ofString "spots", .lv (spD W)), (Str.ofString "rounds", .int (turnZ W))]
theorem cut_sp (W : List Nat) : cutD (ptsD W W.length) none (some (-1)) = spD W := by
  unfold cutD HT.sIx
  simp only [ptsD_len]
  rw [if_pos (by omega), show (-1 + ((W.length + 1 : Nat) : Int)).toNat = W.length by omega]
  simp only [List.drop_zero, Nat.sub_zero]
  unfold ptsD spD
  rw [← List.map_take, List.take_range, Nat.min_eq_left (by omega)]
theorem put_w {a : Dt} : putD (Str.ofString "written") a [] = [(Str.ofString "written", a)] := rfl
theorem put_y {a b : Dt} : putD (Str.ofString "ways") b [(Str.ofString "written", a)] = [(Str.ofString "written", a), (Str.ofString "ways", b)] := by
  have n1 : ¬ (Str.ofString "written" = Str.ofString "ways") := by decide +kernel
  simp only [putD, if_neg n1]
theorem put_s {a b c : Dt} : putD (Str.ofString "spots") c [(Str.ofString "written", a), (Str.ofString "ways", b)] = [(Str.ofString "written", a), (Str.ofString "ways", b), (Str.ofString "spots", c)] := by
  have n1 : ¬ (Str.ofString "written" = Str.ofString "spots") := by decide +kernel
  have n2 : ¬ (Str.ofString "ways" = Str.ofString "spots") := by decide +kernel
  simp only [putD, if_neg n1, if_neg n2]
theorem put_r {a b c d : Dt} : putD (Str.ofString "rounds") d [(Str.ofString "written", a), (Str.ofString "ways", b), (Str.ofString "spots", c)] = [(Str.ofString "written", a), (Str.ofString "ways", b), (Str.ofString "spots", c), (Str.ofString "rounds", d)] := by
  have n1 : ¬ (Str.ofString "written" = Str.ofString "rounds") := by decide +kernel
  have n2 : ¬ (Str.ofString "ways" = Str.ofString "rounds") := by decide +kernel
  have n3 : ¬ (Str.ofString "spots" = Str.ofString "rounds") := by decide +kernel
  simp only [putD, if_neg n1, if_neg n2, if_neg n3]
theorem look_w {W : List Nat} : (lineF W).lookup (Str.ofString "written") = some (.str (Tx (textP W))) := by
  have n1 : (Str.ofString "written" == Str.ofString "written") = true := by decide +kernel
  simp only [lineF, List.lookup, n1]
theorem look_y {W : List Nat} : (lineF W).lookup (Str.ofString "ways") = some (.str (Tx W)) := by
  have n1 : (Str.ofString "ways" == Str.ofString "written") = false := by decide +kernel
  have n2 : (Str.ofString "ways" == Str.ofString "ways") = true := by decide +kernel
  simp only [lineF, List.lookup, n1, n2]
theorem look_s {W : List Nat} : (lineF W).lookup (Str.ofString "spots") = some (.lv (spD W)) := by
  have n1 : (Str.ofString "spots" == Str.ofString "written") = false := by decide +kernel
  have n2 : (Str.ofString "spots" == Str.ofString "ways") = false := by decide +kernel
  have n3 : (Str.ofString "spots" == Str.ofString "spots") = true := by decide +kernel
  simp only [lineF, List.lookup, n1, n2, n3]
theorem look_r {W : List Nat} : (lineF W).lookup (Str.ofString "rounds") = some (.int (turnZ W)) := by
  have n1 : (Str.ofString "rounds" == Str.ofString "written") = false := by decide +kernel
  have n2 : (Str.ofString "rounds" == Str.ofString "ways") = false := by decide +kernel
  have n3 : (Str.ofString "rounds" == Str.ofString "spots") = false := by decide +kernel
  have n4 : (Str.ofString "rounds" == Str.ofString "rounds") = true := by decide +kernel
  simp only [lineF, List.lookup, n1, n2, n3, n4]
theorem init_ok {W : List Nat} (L : Line W) (h4 : 4 ≤ W.length) (hn : W.length ≤ 120) (h0 : stB W 0 = false) (h : Ah) : Ok (K51.f_Line___init__ [.obj h.length, .str (Tx (textP W))]) (h ++ [.ins (Str.ofString "Line") []]) fun v h2 => v = .non ∧ ∃ j, h2 = h ++ .ins (Str.ofString "Line") (lineF W) :: j := by
  have cl : pl (cyc W) W.length = (0, 0) := LineG.end_ L
  rw [K51.f_Line___init__, ok_fnM]
  simp only [K51.m_Line___init__, List.map_cons, List.map_nil, List.length_cons, List.length_nil, List.replicate, List.cons_append, List.nil_append]
  rw [ok_seq, ok_sto, ok_callM, ok_argC, ok_pick (i := 1) (d := .str (Tx (textP W))) rfl, ok_argN]
  refine ⟨rfl, gv_fn (stepsof_ok L h4 hn h0) fun j1 => ?_⟩
  show Ok (seq _ _ [some (.obj h.length), some (.str (Tx (textP W))), some (.str (Tx W)), none, none]) _ _
  rw [ok_seq, ok_ifS, ok_tst, ok_op2, ok_pick (i := 2) (d := .str (Tx W)) rfl, ok_con]
  refine ok_of (a := .bl false) rfl ?_
  rw [ok_isB, if_neg (by simp), ok_nxt]
  dsimp only
  rw [ok_seq, ok_sto, ok_callM, ok_argC, ok_pick (i := 2) (d := .str (Tx W)) rfl, ok_argN]
  refine ⟨rfl, (placesN_ok L.ltrs (by omega) _).mono fun d h1 ⟨e, j2, e1⟩ => ?_⟩
  subst e e1
  generalize hH : h ++ [Ao.ins (Str.ofString "Line") []] ++ j1 = H
  show Ok (seq _ _ [some (.obj h.length), some (.str (Tx (textP W))), some (.str (Tx W)), some (.obj H.length), none]) _ _
  rw [ok_seq, ok_ifS, ok_tst, ok_op2, ok_op2, ok_pick (i := 3) (d := .obj H.length) rfl, ok_op1, ok_con, ok_negI, ok_ixO, lstAt_new]
  refine ⟨_, ptsD_last W W.length, ?_⟩
  rw [ok_tupE, ok_argC, ok_con, ok_argC, ok_con, ok_argN]
  refine ⟨szl (by simp), ?_⟩
  rw [show Dt.tup [.int 0, .int 0] = ptD (0, 0) from rfl, ok_nePt, ok_isB, if_neg (by simp [cl]), ok_nxt]
  dsimp only
  rw [ok_seq, ok_sto, ok_callM, ok_argC, ok_pick (i := 2) (d := .str (Tx W)) rfl, ok_argN]
  refine ⟨rfl, gv_fn (touch_ok L (by omega)) fun j3 => ?_⟩
  have eS : lstAt (H ++ .lst (ptsD W W.length) :: j2 ++ j3) H.length = some (ptsD W W.length) := lstAt_app lstAt_new j3
  have eH : H ++ .lst (ptsD W W.length) :: j2 ++ j3 = h ++ .ins (Str.ofString "Line") [] :: (j1 ++ .lst (ptsD W W.length) :: j2 ++ j3) := by rw [← hH]; simp
  rw [eH] at eS ⊢
  generalize j1 ++ .lst (ptsD W W.length) :: j2 ++ j3 = k at *
  generalize H.length = q at *
  show Ok (seq _ _ [some (.obj h.length), some (.str (Tx (textP W))), some (.str (Tx W)), some (.obj q), some .non]) _ _
  rw [ok_seq, ok_ifS, ok_tst, ok_op2, ok_pick (i := 4) (d := .non) rfl, ok_con, ok_notN, ok_isB, if_neg (by simp [isNon]), ok_nxt]
  dsimp only
  rw [ok_seq, ok_asg, ok_tupE, ok_argC, ok_pick (i := 1) (d := .str (Tx (textP W))) rfl, ok_argC, ok_pick (i := 2) (d := .str (Tx W)) rfl, ok_argC, ok_slc, ok_pick (i := 3) (d := .obj q) rfl, ok_opN, ok_opS, ok_op1, ok_con, ok_negI, ok_isI, ok_slO eS, ok_argN, cut_sp]
  refine ⟨szl (by simp), ?_⟩
  generalize hsp : Dt.lv (spD W) = SP
  refine ok_gT.mpr ⟨rfl, ?_⟩
  rw [ok_gsC, ok_gF, ok_pick (i := 0) (d := .obj h.length) rfl]
  refine ok_setF (by simp) ?_
  rw [ok_gsC, ok_gF, ok_pick (i := 0) (d := .obj h.length) rfl]
  refine ok_setF (by simp [putD]) ?_
  rw [ok_gsC, ok_gF, ok_pick (i := 0) (d := .obj h.length) rfl, put_w, put_y]
  refine ok_setF (by simp) ?_
  rw [ok_gsN, put_s]
  dsimp only
  rw [ok_asg, ok_op2, ok_callM, ok_argC, ok_pick (i := 2) (d := .str (Tx W)) rfl, ok_argN]
  refine ⟨rfl, gv_fn (quarters_ok L.ltrs (by omega)) fun j4 => ?_⟩
  rw [ok_con, ok_fdivI]
  refine ⟨by decide, ?_⟩
  rw [qs_turn L (by omega), ok_gF, ok_pick (i := 0) (d := .obj h.length) rfl, List.append_assoc, List.cons_append]
  refine ok_setF (by simp) ?_
  rw [put_r, ← hsp]
  exact ⟨trivial, _, rfl⟩
theorem made_ok {W : List Nat} (L : Line W) (h4 : 4 ≤ W.length) (hn : W.length ≤ 120) (h0 : stB W 0 = false) {h : Ah} {Q : Dt → Ah → Prop} (q : ∀ j, Q (.obj h.length) (h ++ .ins (Str.ofString "Line") (lineF W) :: j)) : Ok (mkI (Str.ofString "Line") 2 K51.f_Line___init__ [.str (Tx (textP W))]) h Q :=
  ok_mkI rfl ((init_ok L h4 hn h0 h).mono fun v h2 ⟨e, j, e2⟩ => ⟨e, by rw [e2]; exact q j⟩)
/-- the line at r -/
def LnAt (h : Ah) (r : Nat) (W : List Nat) : Prop := insR (Str.ofString "Line") h (.obj r) = some (lineF W)
section
variable {h : Ah} {r : Nat} {W : List Nat} {Q : Dt → Ah → Prop}
theorem LnAt.app (a : LnAt h r W) (j : Ah) : LnAt (h ++ j) r W := insR_app a j
theorem LnAt.ne (a : LnAt h r W) {r' : Nat} {o : Ao} (ne : r' ≠ r) : LnAt (h.set r' o) r W := (insR_ne ne).trans a
theorem LnAt.new {j : Ah} : LnAt (h ++ .ins (Str.ofString "Line") (lineF W) :: j) h.length W := insR_new
theorem checkline_ok (a : LnAt h r W) (q : Q .non h) : Ok (K51.f_check_line [.obj r]) h Q := by
  rw [K51.f_check_line, ok_fnM]
  simp only [K51.m_check_line, List.map_cons, List.map_nil, List.length_cons, List.length_nil, List.replicate, List.cons_append, List.nil_append]
  rw [ok_ifS, ok_notT, ok_tst, ok_bi, ok_argC, ok_pick (i := 0) (d := .obj r) rfl, ok_argC, ok_con, ok_argN]
  refine ok_of (a := .bl true) (h' := h) (by
    show (if Str.ofString "Line" = Str.ofString "Line" ∧ (insR (Str.ofString "Line") h (.obj r)).isSome = true then Rs.ok (Dt.bl true) h else Rs.no) = _
    rw [a, if_pos ⟨rfl, rfl⟩]) ?_
  rw [ok_isB, if_neg (by simp), ok_nxt]
  exact q
theorem linetext_ok (a : LnAt h r W) (q : Q (.str (Tx (textP W))) h) : Ok (K51.f_Line_text [.obj r]) h Q := by
  rw [K51.f_Line_text, ok_fnM]
  simp only [K51.m_Line_text, List.map_cons, List.map_nil, List.length_cons, List.length_nil, List.replicate, List.cons_append, List.nil_append]
  rw [ok_ret, ok_fld, ok_pick (i := 0) (d := .obj r) rfl]
  exact ok_fldR a look_w q
theorem lineturn_ok (a : LnAt h r W) (q : Q (.int (turnZ W)) h) : Ok (K51.f_Line_turn [.obj r]) h Q := by
  rw [K51.f_Line_turn, ok_fnM]
  simp only [K51.m_Line_turn, List.map_cons, List.map_nil, List.length_cons, List.length_nil, List.replicate, List.cons_append, List.nil_append]
  rw [ok_ret, ok_fld, ok_pick (i := 0) (d := .obj r) rfl]
  exact ok_fldR a look_r q
theorem certturn_ok (a : LnAt h r W) (q : Q (.tup [.tup [.str (Str.ofString "turn"), .str (Tx (textP W)), .int (turnZ W)], .non]) h) : Ok (K51.f_certify_turn [.obj r]) h Q := by
  rw [K51.f_certify_turn, ok_fnM]
  simp only [K51.m_certify_turn, List.map_cons, List.map_nil, List.length_cons, List.length_nil, List.replicate, List.cons_append, List.nil_append]
  rw [ok_seq, ok_drp, ok_callM, ok_argC, ok_pick (i := 0) (d := .obj r) rfl, ok_argN]
  refine ⟨rfl, checkline_ok a ?_⟩
  dsimp only
  rw [ok_ret, ok_tupE, ok_argC, ok_tupE, ok_argC, ok_con, ok_argC, ok_prp, ok_pick (i := 0) (d := .obj r) rfl]
  refine ⟨by rw [a]; rfl, linetext_ok a ?_⟩
  rw [ok_argC, ok_prp, ok_pick (i := 0) (d := .obj r) rfl]
  refine ⟨by rw [a]; rfl, lineturn_ok a ?_⟩
  rw [ok_argN]
  refine ⟨szl (by simp), ?_⟩
  rw [ok_argC, ok_con, ok_argN]
  exact ⟨szl (by simp), q⟩
end
end Mo
set_option Elab.async false
set_option linter.all false
set_option maxRecDepth 100000
set_option maxHeartbeats 4000000
/-! PxM: heights of the line made. -/
namespace Mo
open PySem L2 TL
theorem up_lv {c : Nat} (h : Ltr c) : (!lv c) = upB c := by
  rcases h with rfl | rfl | rfl | rfl <;> rfl
section
variable {h : Ah} {r : Nat} {W : List Nat} {Q : Dt → Ah → Prop}
theorem uprights_ok (a : LnAt h r W) (hl : Ltrs W) (hn : W.length ≤ 900) (q : ∀ j, Q (.lv ((upL W W.length).map fun i => .int (i : Nat))) (h ++ j)) : Ok (K51.f_uprights [.obj r]) h Q := by
  rw [K51.f_uprights, ok_fnM]
  simp only [K51.m_uprights, List.map_cons, List.map_nil, List.length_cons, List.length_nil, List.replicate, List.cons_append, List.nil_append]
  rw [ok_ret]
  refine ok_lcM (List.range W.length) (fun i => .tup [.int (i : Nat), .str (Tx [cyc W i])]) (fun i => upB (cyc W i)) (fun i => .int (i : Nat)) ?_
  rw [ok_itES, ok_argC, ok_fld, ok_pick (i := 0) (d := .obj r) rfl]
  refine ok_fldR a look_y ?_
  rw [ok_argN]
  refine ⟨_, rfl, ?_⟩
  rw [enum_tx]
  refine ⟨rfl, by simpa using szl (show W.length ≤ 1000 by omega), fun i mi => ⟨[some (.obj r), some (.int (i : Nat)), some (.str (Tx [cyc W i]))], by simp [Pat.bd, Pat.bds, wipeE], ?_, fun _ => gv_of fun h => ?_⟩, fun j => ?_⟩
  · have p : 0 < W.length := by have := List.mem_range.mp mi; omega
    rw [← up_lv (hl _ (cyc_mem p i))]
    refine gv_of fun h => ?_
    rw [ok_notT, ok_tst, ok_callM, ok_argC, ok_pick (i := 2) (d := .str (Tx [cyc W i])) rfl, ok_argN]
    refine ⟨rfl, gv_fn level_ok fun j => ?_⟩
    rw [ok_isB]
    exact ⟨rfl, j, rfl⟩
  · rw [ok_pick (i := 1) (d := .int (i : Nat)) rfl]
    exact ⟨rfl, [], by simp⟩
  · exact q j
theorem sp_len : (spD W).length = W.length := by simp [spD]
theorem sp_at {i : Nat} (hi : i < W.length) : atI (spD W) (i : Int) = some (ptD (pl (cyc W) i)) := by
  rw [atI_nat (by rw [sp_len]; exact hi)]
  simp [spD]
theorem spot_ok (a : LnAt h r W) (L : Line W) (hn : W.length ≤ 900) {i : Nat} (hi : i < W.length) (u : upB (cyc W i) = true) (q : Q (ptD (rowPt W i)) h) : Ok (K51.f_spot_of [.obj r, .int (i : Nat)]) h Q := by
  have e1 : pl (cyc W) ((i + 1) % W.length) = pl (cyc W) (i + 1) := by
    rcases Nat.lt_or_ge (i + 1) W.length with c | c
    · rw [Nat.mod_eq_of_lt c]
    · have : i + 1 = W.length := by omega
      rw [this, Nat.mod_self, LineG.end_ L]
      rfl
  have m1 : ((i : Int) + 1) % (W.length : Nat) = (((i + 1) % W.length : Nat) : Int) := by simp
  have l1 : (i + 1) % W.length < W.length := Nat.mod_lt _ (by omega)
  have d0 : (pl (cyc W) (i + 1)).1 = (pl (cyc W) i).1 := by
    simp only [pl]
    have : (dx (cyc W i)).1 = 0 := by
      have l := L.ltrs _ (cyc_mem (by omega) i)
      rcases l with z | z | z | z <;> rw [z] at u ⊢ <;> first | rfl | exact absurd u (by decide)
    omega
  rw [K51.f_spot_of, ok_fnM]
  simp only [K51.m_spot_of, List.map_cons, List.map_nil, List.length_cons, List.length_nil, List.replicate, List.cons_append, List.nil_append]
  rw [ok_seq, ok_par, ok_argC, ok_op2, ok_fld, ok_pick (i := 0) (d := .obj r) rfl]
  refine ok_fldR a look_s ?_
  rw [ok_pick (i := 1) (d := .int (i : Nat)) rfl, ok_ixLv]
  refine ⟨_, sp_at hi, ?_⟩
  rw [ok_argC, ok_op2, ok_fld, ok_pick (i := 0) (d := .obj r) rfl]
  refine ok_fldR a look_s ?_
  rw [ok_op2, ok_op2, ok_pick (i := 1) (d := .int (i : Nat)) rfl, ok_con, ok_addI, ok_bi, ok_argC, ok_fld, ok_pick (i := 0) (d := .obj r) rfl]
  refine ok_fldR a look_s ?_
  rw [ok_argN, ok_lenLv, ok_modI, sp_len]
  refine ⟨by omega, ?_⟩
  rw [m1, ok_ixLv]
  refine ⟨_, sp_at l1, ?_⟩
  rw [ok_argN, e1]
  refine ⟨_, _, rfl, ?_⟩
  have q2 : Q (.tup [.int (mnI (pl (cyc W) i).1 (pl (cyc W) (i + 1)).1), .int (mnI (pl (cyc W) i).2 (pl (cyc W) (i + 1)).2)]) h := by
    have : mnI (pl (cyc W) i).1 (pl (cyc W) (i + 1)).1 = (pl (cyc W) i).1 := by
      unfold mnI
      rw [d0]
      simp
    rw [this]
    exact q
  generalize pl (cyc W) i = p1 at *
  generalize pl (cyc W) (i + 1) = p2 at *
  show Ok (ret _ [some (.obj r), some (.int (i : Nat)), some (ptD p1), some (ptD p2)]) _ _
  rw [ok_ret, ok_tupE, ok_argC, ok_bi, ok_argC, ok_op2, ok_pick (i := 2) (d := ptD p1) rfl, ok_con]
  refine ok_ixTup.mpr ⟨.int p1.1, at0, ?_⟩
  rw [ok_argC, ok_op2, ok_pick (i := 3) (d := ptD p2) rfl, ok_con]
  refine ok_ixTup.mpr ⟨.int p2.1, at0, ?_⟩
  rw [ok_argN, ok_minI, ok_argC, ok_bi, ok_argC, ok_op2, ok_pick (i := 2) (d := ptD p1) rfl, ok_con]
  refine ok_ixTup.mpr ⟨.int p1.2, at1, ?_⟩
  rw [ok_argC, ok_op2, ok_pick (i := 3) (d := ptD p2) rfl, ok_con]
  refine ok_ixTup.mpr ⟨.int p2.2, at1, ?_⟩
  rw [ok_argN, ok_minI, ok_argN]
  exact ⟨szl (by simp), q2⟩
theorem heighth_ok (a : LnAt h r W) (L : Line W) (hn : W.length ≤ 900) (c : Pt) (q : ∀ j, Q (.int (heightR W c)) (h ++ j)) : Ok (K51.f_height_at_heights [.obj r, ptD c]) h Q := by
  have sz := szl (show W.length ≤ 1000 by omega)
  rw [K51.f_height_at_heights, ok_fnM]
  simp only [K51.m_height_at_heights, List.map_cons, List.map_nil, List.length_cons, List.length_nil, List.replicate, List.cons_append, List.nil_append]
  rw [ok_seq, ok_sto, ok_con]
  show Ok (seq _ _ [some (.obj r), some (ptD c), some (.int 0), none, none]) _ _
  rw [ok_seq, ok_forM, ok_itL, ok_callM, ok_argC, ok_pick (i := 0) (d := .obj r) rfl, ok_argN]
  refine ⟨rfl, uprights_ok a L.ltrs hn fun k => ?_⟩
  rw [ok_itemsLv]
  have a := a.app k
  refine forL_ind (fun ds env h' => ∃ (dn rs : List Nat) (x y : Option Dt), upL W W.length = dn ++ rs ∧ ds = rs.map (fun i => .int (i : Nat)) ∧ h' = h ++ k ∧ env = [some (.obj r), some (ptD c), some (.int ((dn.map (hT W c)).sum)), x, y]) ?_ ?_ _ _ _ ⟨[], _, none, none, by simp, rfl, rfl, rfl⟩
  · rintro d ds env h' ⟨dn, rs, x, y, eu, e, rfl, rfl⟩
    cases rs with
    | nil => simp at e
    | cons i rs =>
      obtain ⟨rfl, rfl⟩ := List.cons.inj e
      have im : i ∈ upL W W.length := by rw [eu]; simp
      have iu : i < W.length := upL_lt (W := W) (m := W.length) im
      have iB : upB (cyc W i) = true := (List.mem_filter.mp im).2
      refine ⟨[some (.obj r), some (ptD c), some (.int ((dn.map (hT W c)).sum)), some (.int (i : Nat)), y], by simp [Pat.bd, Pat.bds], ?_⟩
      rw [ok_seq, ok_sto, ok_callM, ok_argC, ok_pick (i := 0) (d := .obj r) rfl, ok_argC, ok_pick (i := 3) (d := .int (i : Nat)) rfl, ok_argN]
      refine ⟨rfl, spot_ok a L hn iu iB ?_⟩
      have fin : ∀ t : Int, t = hT W c i → ∃ (dn' rs' : List Nat) (x y : Option Dt), upL W W.length = dn' ++ rs' ∧ rs.map (fun i => Dt.int (i : Nat)) = rs'.map (fun i => .int (i : Nat)) ∧ h ++ k = h ++ k ∧ [some (Dt.obj r), some (ptD c), some (.int ((dn.map (hT W c)).sum + t)), some (.int (i : Nat)), some (ptD (rowPt W i))] = [some (.obj r), some (ptD c), some (.int ((dn'.map (hT W c)).sum)), x, y] := by
        rintro t rfl
        exact ⟨dn ++ [i], rs, some (.int (i : Nat)), some (ptD (rowPt W i)), by rw [eu]; simp, rfl, rfl, by simp⟩
      have e1 : hT W c i = if (rowPt W i).2 = c.2 ∧ c.1 < (rowPt W i).1 then (if cyc W i = 110 then 1 else -1) else 0 := rfl
      rw [e1] at fin
      generalize rowPt W i = p at *
      show Ok (ifS _ _ _ [some (.obj r), some (ptD c), some (.int ((dn.map (hT W c)).sum)), some (.int (i : Nat)), some (ptD p)]) _ _
      rw [ok_ifS, ok_andT, ok_tst, ok_op2, ok_op2, ok_pick (i := 4) (d := ptD p) rfl, ok_con]
      refine ok_ixTup.mpr ⟨.int p.2, at1, ?_⟩
      rw [ok_op2, ok_pick (i := 1) (d := ptD c) rfl, ok_con]
      refine ok_ixTup.mpr ⟨.int c.2, at1, ?_⟩
      rw [ok_eqI, ok_isB]
      by_cases c1 : p.2 = c.2
      · rw [if_pos (by simpa using c1), ok_tst, ok_op2, ok_op2, ok_pick (i := 4) (d := ptD p) rfl, ok_con]
        refine ok_ixTup.mpr ⟨.int p.1, at0, ?_⟩
        rw [ok_op2, ok_pick (i := 1) (d := ptD c) rfl, ok_con]
        refine ok_ixTup.mpr ⟨.int c.1, at0, ?_⟩
        rw [ok_gtI, ok_isB]
        by_cases c2 : c.1 < p.1
        · rw [if_pos (by simpa using c2), ok_sto, ok_op2, ok_pick (i := 2) (d := .int ((dn.map (hT W c)).sum)) rfl, ok_ifE, ok_tst, ok_op2, ok_op2, ok_fld, ok_pick (i := 0) (d := .obj r) rfl]
          refine ok_fldR a look_y ?_
          rw [ok_pick (i := 3) (d := .int (i : Nat)) rfl, ok_ixS]
          refine ⟨_, at_cyc iu, sz, ?_⟩
          rw [ok_con, lit_n, ok_eqS, ok_isB]
          by_cases c3 : cyc W i = 110
          · rw [if_pos (by simpa using c3), ok_con, ok_addI]
            exact fin 1 (by simp [c1, c2, c3])
          · rw [if_neg (by simpa using c3), ok_op1, ok_con, ok_negI, ok_addI]
            exact fin (-1) (by simp [c1, c2, c3])
        · rw [if_neg (by simpa using c2), ok_nxt]
          have := fin 0 (by simp [c2])
          simpa using this
      · rw [if_neg (by simpa using c1), if_neg (by simp), ok_nxt]
        have := fin 0 (by simp [c1])
        simpa using this
  · rintro env h' ⟨dn, rs, x, y, eu, e, rfl, rfl⟩
    have : rs = [] := by simpa using e.symm
    subst this
    rw [List.append_nil] at eu
    dsimp only
    rw [ok_ret, ok_pick (i := 2) (d := .int ((dn.map (hT W c)).sum)) rfl, ← eu, heightR_up]
    exact q k
end
theorem integer_ok {i : Int} : Gv (K51.f_is_integer [.int i]) (.bl true) := gv_of fun h => by
  rw [K51.f_is_integer, ok_fnM]
  simp only [K51.m_is_integer, List.map_cons, List.map_nil, List.length_cons, List.length_nil, List.replicate, List.cons_append, List.nil_append]
  rw [ok_ret, ok_andV, ok_bi, ok_argC, ok_pick (i := 0) (d := .int i) rfl, ok_argC, ok_con, ok_argN]
  refine ok_of (a := .bl true) (h' := h) rfl ?_
  rw [ok_isB, if_pos rfl, ok_notV, ok_bi, ok_argC, ok_pick (i := 0) (d := .int i) rfl, ok_argC, ok_con, ok_argN]
  refine ok_of (a := .bl false) (h' := h) rfl ?_
  rw [ok_isB]
  exact ⟨rfl, [], by simp⟩
theorem cell_ok {c : Pt} : Gv (K51.f_is_cell [ptD c]) (.bl true) := gv_of fun h => by
  rw [K51.f_is_cell, ok_fnM]
  simp only [K51.m_is_cell, List.map_cons, List.map_nil, List.length_cons, List.length_nil, List.replicate, List.cons_append, List.nil_append]
  rw [ok_ret, ok_andV, ok_bi, ok_argC, ok_pick (i := 0) (d := ptD c) rfl, ok_argC, ok_con, ok_argN]
  refine isi_tup.mpr ?_
  rw [ok_isB, if_pos rfl, ok_andV, ok_op2, ok_bi, ok_argC, ok_pick (i := 0) (d := ptD c) rfl, ok_argN]
  refine ok_of (a := .int 2) (h' := h) rfl ?_
  rw [ok_con, ok_eqI, ok_isB, if_pos (by simp), ok_andV, ok_callM, ok_argC, ok_op2, ok_pick (i := 0) (d := ptD c) rfl, ok_con]
  refine ok_ixTup.mpr ⟨.int c.1, at0, ?_⟩
  rw [ok_argN]
  refine ⟨rfl, gv_fn integer_ok fun j1 => ?_⟩
  rw [ok_isB, if_pos rfl, ok_callM, ok_argC, ok_op2, ok_pick (i := 0) (d := ptD c) rfl, ok_con]
  refine ok_ixTup.mpr ⟨.int c.2, at1, ?_⟩
  rw [ok_argN]
  exact ⟨rfl, gv_fn integer_ok fun j2 => ⟨rfl, j1 ++ j2, by simp⟩⟩
theorem checkcell_ok {c : Pt} : Gv (K51.f_check_cell [ptD c]) .non := gv_of fun h => by
  rw [K51.f_check_cell, ok_fnM]
  simp only [K51.m_check_cell, List.map_cons, List.map_nil, List.length_cons, List.length_nil, List.replicate, List.cons_append, List.nil_append]
  rw [ok_ifS, ok_notT, ok_tst, ok_callM, ok_argC, ok_pick (i := 0) (d := ptD c) rfl, ok_argN]
  refine ⟨rfl, gv_fn cell_ok fun j => ?_⟩
  rw [ok_isB, if_neg (by simp), ok_nxt]
  exact ⟨trivial, j, rfl⟩
theorem certheight_ok {h : Ah} {r : Nat} {W : List Nat} {Q : Dt → Ah → Prop} (a : LnAt h r W) (L : Line W) (hn : W.length ≤ 900) (c : Pt) (q : ∀ j, Q (.tup [.tup [.str (Str.ofString "height"), .str (Tx (textP W)), ptD c, .int (heightR W c)], .non]) (h ++ j)) : Ok (K51.f_certify_height [.obj r, ptD c]) h Q := by
  rw [K51.f_certify_height, ok_fnM]
  simp only [K51.m_certify_height, List.map_cons, List.map_nil, List.length_cons, List.length_nil, List.replicate, List.cons_append, List.nil_append]
  rw [ok_seq, ok_drp, ok_callM, ok_argC, ok_pick (i := 0) (d := .obj r) rfl, ok_argN]
  refine ⟨rfl, checkline_ok a ?_⟩
  dsimp only
  rw [ok_seq, ok_drp, ok_callM, ok_argC, ok_pick (i := 1) (d := ptD c) rfl, ok_argN]
  refine ⟨rfl, gv_fn checkcell_ok fun j => ?_⟩
  have a := a.app j
  dsimp only
  rw [ok_ret, ok_tupE, ok_argC, ok_tupE, ok_argC, ok_con, ok_argC, ok_prp, ok_pick (i := 0) (d := .obj r) rfl]
  refine ⟨by rw [a]; rfl, linetext_ok a ?_⟩
  rw [ok_argC, ok_pick (i := 1) (d := ptD c) rfl, ok_argC, ok_callM, ok_argC, ok_pick (i := 0) (d := .obj r) rfl, ok_argC, ok_pick (i := 1) (d := ptD c) rfl, ok_argN]
  refine ⟨rfl, heighth_ok a L hn c fun j2 => ?_⟩
  rw [ok_argN]
  refine ⟨szl (by simp), ?_⟩
  rw [ok_argC, ok_con, ok_argN]
  refine ⟨szl (by simp), ?_⟩
  rw [List.append_assoc]
  exact q (j ++ j2)
end Mo
set_option Elab.async false
set_option linter.all false
set_option maxRecDepth 100000
set_option maxHeartbeats 4000000
/-! PxN: what was told, and what is shown. -/
namespace Mo
open PySem L2 TL
section
variable {h : Ah} {env : En} {Q : Dt → Ah → Prop} {mb : En → Mm Dt} {w : Str}
theorem ok_gotE : Ok (gotE w mb env) h Q ↔ Ok (mb env) h fun d h1 => Q (.lv [.str w, d]) h1 := by simp [gotE]
theorem ok_isTrue {a : Bool} : Ok (opIsB (.bl a) (.bl true)) h Q ↔ Q (.bl a) h := by
  have e : opIsB (.bl a) (.bl true) h = .ok (.bl a) h := by
    unfold opIsB
    cases a <;> rfl
  unfold Ok
  rw [e]
theorem ok_addOL {r : Nat} {xs b : List Dt} (e : lstAt h r = some xs) : Ok (opAdd (.obj r) (.lv b)) h Q ↔ xs.length + b.length ≤ sizeLine ∧ Q (.lv (xs ++ b)) h := by
  unfold lstAt at e
  cases q : h[r]? with
  | none => rw [q] at e; cases e
  | some o =>
    cases o with
    | lst ys =>
      rw [q] at e; cases e
      unfold Ok opAdd
      by_cases c : xs.length + b.length ≤ sizeLine <;> simp [lstT, q, c]
    | _ => rw [q] at e; cases e
end
theorem shown_gv {asked proof : Dt} {a : Bool} (g : Gv (K51.f_accepts [asked, proof]) (.bl a)) : Gv (K51.f__law_is_shown [asked, proof]) (.bl a) := gv_of fun h => by
  rw [K51.f__law_is_shown, ok_fnM]
  simp only [K51.m__law_is_shown, List.map_cons, List.map_nil, List.length_cons, List.length_nil, List.replicate, List.cons_append, List.nil_append]
  rw [ok_ret, ok_op2, ok_callM, ok_argC, ok_pick (i := 0) (d := asked) rfl, ok_argC, ok_pick (i := 1) (d := proof) rfl, ok_argN]
  refine ⟨rfl, gv_fn g fun j => ?_⟩
  rw [ok_con, ok_isTrue]
  exact ⟨rfl, j, rfl⟩
theorem show_ok {p : PyData} (hs : p.showable = true) (hd : p.hasDict = false) (dp : p.depth ≤ 60) (ls : p.leavesShort 1921 = true) (bk : p.bulk ≤ 8000) : showOk p = true := by
  have := PyData.shown_le_bulk 1921 (by decide) p ls
  unfold showOk
  rw [hs, hd]
  simp only [Bool.not_false, Bool.and_self, Bool.true_and, Bool.and_eq_true, decide_eq_true_eq]
  refine ⟨dp, ?_⟩
  rw [sizeLine_eq]
  have : (1921 + 2) * p.bulk ≤ (1921 + 2) * 8000 := Nat.mul_le_mul_left _ bk
  omega
/-- what was told of a claim -/
def toldX (due : Dt) : Dt := .lv [.str (Str.ofString "told"), .tup [due, .non]]
def chkM : En → Mm Fl := ifS (orT (tst (op2 opNe (bi bRepr (argC (var 5) argN)) (bi bRepr (argC (op2 opMul (lstE (argC (lstE (argC (con (.str (Str.ofString "told"))) (argC (tupE (argC (var 6) (argC (con .non) argN))) argN))) argN)) (con (.int 2))) argN)))) (notT (tst (callM 2 K51.f__law_is_shown (argC (var 6) (argC (con .non) argN)))))) (ret (con (.bl false))) nxt
theorem chk_ok {env : En} {h : Ah} {t : Nat} {due : Dt} {p : PyData} {F : Fl → Ah → Prop} (e5 : env[5]? = some (some (.obj t))) (e6 : env[6]? = some (some due)) (el : lstAt h t = some [toldX due, toldX due]) (ep : toP (toldX due) = some p) (sh : showOk (.list [p, p]) = true)
    (g : Gv (K51.f_accepts [due, .non]) (.bl true)) (q : ∀ j, F (.nx env) (h ++ j)) : Ok (chkM env) h F := by
  unfold chkM
  have ps : toPs [toldX due, toldX due] = some [p, p] := by
    simp only [toPs, ep]
  rw [ok_ifS, ok_orT, ok_tst, ok_op2, ok_bi, ok_argC, ok_pick e5, ok_argN]
  refine ok_of (a := .str (PyData.shown (.list [p, p]))) (h' := h) (by
    have : toPH h (.obj t) = some (.list [p, p]) := by
      unfold lstAt at el
      cases z : h[t]? with
      | none => rw [z] at el; cases el
      | some o =>
        cases o with
        | lst ys =>
          rw [z] at el
          cases el
          simp only [toPH, z, ps]
        | _ => rw [z] at el; cases el
    simp only [bRepr, this, sh, if_true]) ?_
  rw [ok_bi, ok_argC, ok_op2, ok_lstE, ok_argC, ok_lstE, ok_argC, ok_con, ok_argC, ok_tupE, ok_argC, ok_pick e6, ok_argC, ok_con, ok_argN]
  refine ⟨szl (by simp), ?_⟩
  rw [ok_argN]
  refine ⟨szl (by simp), ?_⟩
  rw [ok_argN]
  refine ⟨szl (by simp), ?_⟩
  rw [ok_con]
  refine ok_of (a := .lv [toldX due, toldX due]) (h' := h) (by
    have := szl (show 2 ≤ 1000 by omega)
    show (if -(2 ^ 63) ≤ (2 : Int) ∧ (2 : Int) < 2 ^ 63 ∧ 1 * 2 ≤ sizeLine then Rs.ok (Dt.lv [toldX due, toldX due]) h else Rs.no) = _
    rw [if_pos ⟨by decide, by decide, by omega⟩]) ?_
  rw [ok_argN]
  refine ok_of (a := .str (PyData.shown (.list [p, p]))) (h' := h) (by
    have : toPH h (.lv [toldX due, toldX due]) = some (.list [p, p]) := by
      show (match toPs [toldX due, toldX due] with | some ps => some (PyData.list ps) | none => none) = _
      rw [ps]
    simp only [bRepr, this, sh, if_true]) ?_
  rw [ok_neS, ok_isB, if_neg (by simp), ok_notT, ok_tst, ok_callM, ok_argC, ok_pick e6, ok_argC, ok_con, ok_argN]
  refine ⟨rfl, gv_fn (shown_gv g) fun j => ?_⟩
  rw [ok_isB, if_neg (by simp), ok_nxt]
  exact q j
theorem dxb (c : Nat) : (-1 ≤ (dx c).1 ∧ (dx c).1 ≤ 1) ∧ (-1 ≤ (dx c).2 ∧ (dx c).2 ≤ 1) := by
  unfold dx
  split
  · simp
  · split
    · simp
    · split <;> simp
theorem plb (g : Nat → Nat) : ∀ i : Nat, (-(i : Int) ≤ (pl g i).1 ∧ (pl g i).1 ≤ i) ∧ (-(i : Int) ≤ (pl g i).2 ∧ (pl g i).2 ≤ i)
  | 0 => by simp [pl]
  | i + 1 => by
    have ih := plb g i
    have := dxb (g i)
    simp only [pl]
    omega
theorem sumb {f : Nat → Int} : ∀ {l : List Nat}, (∀ i ∈ l, -1 ≤ f i ∧ f i ≤ 1) → -(l.length : Int) ≤ (l.map f).sum ∧ (l.map f).sum ≤ l.length
  | [], _ => by simp
  | a :: l, h => by
    have h1 := h a (by simp)
    have h2 := sumb (l := l) fun i m => h i (by simp [m])
    rw [List.map_cons, List.sum_cons, List.length_cons]
    omega
theorem heightb (W : List Nat) (c : Pt) : -(W.length : Int) ≤ heightR W c ∧ heightR W c ≤ W.length := by
  have := sumb (f := hR W c) (l := List.range W.length) fun i _ => by
    unfold hR
    split
    · split <;> simp
    · simp
  rw [List.length_range] at this
  exact this
theorem log_small {i : Int} (h1 : -(2 ^ 100) < i) (h2 : i < 2 ^ 100) : i.natAbs.log2 < 1920 := by
  have : i.natAbs.log2 < 100 := log2_lt (by omega) (by omega)
  omega
theorem leaf_int {i : Int} (h : i.natAbs.log2 < 1920) : PyData.leavesShort 1921 (.int i) = true := by
  have : (PyData.shown (.int i)).length ≤ 1921 := by
    simp only [PyData.shown]
    rw [PySem.ofString_length]
    exact PySem.int_text_length_le (k := 1920) (by decide) h
  simpa only [PyData.leavesShort, decide_eq_true_eq] using this
theorem leaf_tx {l : List Nat} (h : ∀ c ∈ l, c < 128) : PyData.leavesShort 1921 (.str (Tx l)) = true := by
  simp only [PyData.leavesShort, List.all_eq_true, decide_eq_true_eq]
  intro c m
  have := h c m
  omega
theorem told_turn {W : List Nat} (hl : Ltrs W) (tl : (textP W).length ≤ 1000) {i : Int} (h1 : -(2 ^ 100) < i) (h2 : i < 2 ^ 100) : ∃ p, toP (toldX (.tup [.str (Str.ofString "turn"), .str (Tx (textP W)), .int i])) = some p ∧ showOk (.list [p, p]) = true := by
  refine ⟨.list [.str (Str.ofString "told"), .tuple [.tuple [.str (Str.ofString "turn"), .str (Tx (textP W)), .int i], .none]], rfl, ?_⟩
  have lg := log_small h1 h2
  have l1 : PyData.leavesShort 1921 (.str (Str.ofString "told")) = true := by decide +kernel
  have l2 : PyData.leavesShort 1921 (.str (Str.ofString "turn")) = true := by decide +kernel
  have l3 := leaf_tx (text_small hl)
  have l4 := leaf_int lg
  have b1 : PyData.bulk (.str (Str.ofString "told")) = 4 := by decide +kernel
  have b2 : PyData.bulk (.str (Str.ofString "turn")) = 4 := by decide +kernel
  have b3 : PyData.bulk (.str (Tx (textP W))) ≤ 1000 := tl
  refine show_ok ?_ ?_ ?_ ?_ ?_
  · simp only [PyData.showable, PyData.showableAll, lg, decide_true, Bool.and_self]
  · simp only [PyData.hasDict, PyData.hasDictAll, Bool.or_self]
  · simp only [PyData.depth, PyData.depthAll]
    omega
  · rw [PyData.leavesShort]
    simp only [PyData.leavesShortAll]
    have : PyData.leavesShort 1921 (.list [.str (Str.ofString "told"), .tuple [.tuple [.str (Str.ofString "turn"), .str (Tx (textP W)), .int i], .none]]) = true := by
      have e1 : PyData.leavesShort 1921 (.tuple [.str (Str.ofString "turn"), .str (Tx (textP W)), .int i]) = true := by
        rw [PyData.leavesShort]
        simp only [PyData.leavesShortAll, l2, l3, l4, Bool.and_self]
      have e2 : PyData.leavesShort 1921 (.tuple [.tuple [.str (Str.ofString "turn"), .str (Tx (textP W)), .int i], .none]) = true := by
        rw [PyData.leavesShort]
        simp only [PyData.leavesShortAll, e1, Bool.and_self, Bool.true_and]
        rfl
      rw [PyData.leavesShort]
      simp only [PyData.leavesShortAll, l1, e2, Bool.and_self]
    simp only [this, Bool.and_self]
  · have e : PyData.bulk (.list [.str (Str.ofString "told"), .tuple [.tuple [.str (Str.ofString "turn"), .str (Tx (textP W)), .int i], .none]]) ≤ 1100 := by
      have : PyData.bulk (.list [.str (Str.ofString "told"), .tuple [.tuple [.str (Str.ofString "turn"), .str (Tx (textP W)), .int i], .none]]) = PyData.bulk (.str (Str.ofString "told")) + 1 + ((PyData.bulk (.str (Str.ofString "turn")) + 1 + (PyData.bulk (.str (Tx (textP W))) + 1 + (0 + 1 + 0))) + 1 + (0 + 1 + 0) + 1 + 0) := by
        simp only [PyData.bulk, PyData.bulkAll]
      rw [this, b1, b2]
      omega
    generalize hp : PyData.list [.str (Str.ofString "told"), .tuple [.tuple [.str (Str.ofString "turn"), .str (Tx (textP W)), .int i], .none]] = p at *
    have : PyData.bulk (.list [p, p]) = p.bulk + 1 + (p.bulk + 1 + 0) := by simp only [PyData.bulk, PyData.bulkAll]
    rw [this]
    omega
theorem told_height {W : List Nat} (hl : Ltrs W) (tl : (textP W).length ≤ 1000) {c : Pt} {i : Int} (h1 : -(2 ^ 100) < i) (h2 : i < 2 ^ 100) (c1 : -(2 ^ 100) < c.1) (c2 : c.1 < 2 ^ 100) (c3 : -(2 ^ 100) < c.2) (c4 : c.2 < 2 ^ 100) : ∃ p, toP (toldX (.tup [.str (Str.ofString "height"), .str (Tx (textP W)), ptD c, .int i])) = some p ∧ showOk (.list [p, p]) = true := by
  refine ⟨.list [.str (Str.ofString "told"), .tuple [.tuple [.str (Str.ofString "height"), .str (Tx (textP W)), .tuple [.int c.1, .int c.2], .int i], .none]], rfl, ?_⟩
  have lg := log_small h1 h2
  have lc := log_small c1 c2
  have ld := log_small c3 c4
  have l1 : PyData.leavesShort 1921 (.str (Str.ofString "told")) = true := by decide +kernel
  have l2 : PyData.leavesShort 1921 (.str (Str.ofString "height")) = true := by decide +kernel
  have l3 := leaf_tx (text_small hl)
  have l4 := leaf_int lg
  have l5 := leaf_int lc
  have l6 := leaf_int ld
  have b1 : PyData.bulk (.str (Str.ofString "told")) = 4 := by decide +kernel
  have b2 : PyData.bulk (.str (Str.ofString "height")) = 6 := by decide +kernel
  have b3 : PyData.bulk (.str (Tx (textP W))) ≤ 1000 := tl
  refine show_ok ?_ ?_ ?_ ?_ ?_
  · simp only [PyData.showable, PyData.showableAll, lg, lc, ld, decide_true, Bool.and_self]
  · simp only [PyData.hasDict, PyData.hasDictAll, Bool.or_self]
  · simp only [PyData.depth, PyData.depthAll]
    omega
  · rw [PyData.leavesShort]
    simp only [PyData.leavesShortAll]
    have : PyData.leavesShort 1921 (.list [.str (Str.ofString "told"), .tuple [.tuple [.str (Str.ofString "height"), .str (Tx (textP W)), .tuple [.int c.1, .int c.2], .int i], .none]]) = true := by
      have e0 : PyData.leavesShort 1921 (.tuple [.int c.1, .int c.2]) = true := by
        rw [PyData.leavesShort]
        simp only [PyData.leavesShortAll, l5, l6, Bool.and_self]
      have e1 : PyData.leavesShort 1921 (.tuple [.str (Str.ofString "height"), .str (Tx (textP W)), .tuple [.int c.1, .int c.2], .int i]) = true := by
        rw [PyData.leavesShort]
        simp only [PyData.leavesShortAll, l2, l3, l4, e0, Bool.and_self]
      have e2 : PyData.leavesShort 1921 (.tuple [.tuple [.str (Str.ofString "height"), .str (Tx (textP W)), .tuple [.int c.1, .int c.2], .int i], .none]) = true := by
        rw [PyData.leavesShort]
        simp only [PyData.leavesShortAll, e1, Bool.and_self, Bool.true_and]
        rfl
      rw [PyData.leavesShort]
      simp only [PyData.leavesShortAll, l1, e2, Bool.and_self]
    simp only [this, Bool.and_self]
  · have e : PyData.bulk (.list [.str (Str.ofString "told"), .tuple [.tuple [.str (Str.ofString "height"), .str (Tx (textP W)), .tuple [.int c.1, .int c.2], .int i], .none]]) ≤ 1100 := by
      have : PyData.bulk (.list [.str (Str.ofString "told"), .tuple [.tuple [.str (Str.ofString "height"), .str (Tx (textP W)), .tuple [.int c.1, .int c.2], .int i], .none]]) = PyData.bulk (.str (Str.ofString "told")) + 1 + ((PyData.bulk (.str (Str.ofString "height")) + 1 + (PyData.bulk (.str (Tx (textP W))) + 1 + ((0 + 1 + (0 + 1 + 0)) + 1 + (0 + 1 + 0)))) + 1 + (0 + 1 + 0) + 1 + 0) := by
        simp only [PyData.bulk, PyData.bulkAll]
      rw [this, b1, b2]
      omega
    generalize hp : PyData.list [.str (Str.ofString "told"), .tuple [.tuple [.str (Str.ofString "height"), .str (Tx (textP W)), .tuple [.int c.1, .int c.2], .int i], .none]] = p at *
    have : PyData.bulk (.list [p, p]) = p.bulk + 1 + (p.bulk + 1 + 0) := by simp only [PyData.bulk, PyData.bulkAll]
    rw [this]
    omega
end Mo
set_option Elab.async false
set_option linter.all false
set_option maxRecDepth 100000
set_option maxHeartbeats 4000000
/-! PxO66: k66, the law. -/
namespace Mo
open PySem L2 TL
theorem knd_c {c : Pt} : Knd (ptD c) ∧ Shp 50 (ptD c) ∧ ∀ x y, ptD c = .tup [x, y] → Knd x ∧ Knd y := ⟨.tup, (shp_tup (n := 49) (shps_cons shp_int (shps_cons shp_int shps_nil))), fun x y e => by
  simp [ptD] at e
  rw [← e.1, ← e.2]
  exact ⟨.int, .int⟩⟩
theorem acc_turn {W : List Nat} (L : Line W) (h4 : 4 ≤ W.length) (hn : W.length ≤ 120) (h0 : stB W 0 = false) : Gv (K51.f_accepts [.tup [.str (Str.ofString "turn"), .str (Tx (textP W)), .int (turnZ W)], .non]) (.bl true) := by
  have := accepts_turn L h4 hn h0 (x := .int (turnZ W)) (cert := .non) .int shp_int
  simpa [isNon, turnIs] using this
theorem acc_height {W : List Nat} (L : Line W) (h4 : 4 ≤ W.length) (hn : W.length ≤ 120) (h0 : stB W 0 = false) (c : Pt) : Gv (K51.f_accepts [.tup [.str (Str.ofString "height"), .str (Tx (textP W)), ptD c, .int (heightR W c)], .non]) (.bl true) := by
  have := accepts_height L h4 hn h0 (d := ptD c) (x := .int (heightR W c)) (cert := .non) .int shp_int knd_c.1 knd_c.2.1 knd_c.2.2
  simpa [isNon, htIs, ptD] using this
/-- the cells are near, or as far as told -/
theorem pts_small {W : List Nat} (hn : W.length ≤ 900) {d : Dt} (m : d ∈ ptsD W W.length ++ [Dt.tup [.int (10 ^ (20 : Int).toNat), .int 0], .tup [.int 0, .int (-7)]]) : ∃ p : Pt, d = ptD p ∧ (-(2 ^ 90) < p.1 ∧ p.1 < 2 ^ 90) ∧ (-(2 ^ 90) < p.2 ∧ p.2 < 2 ^ 90) := by
  rcases List.mem_append.mp m with m | m
  · obtain ⟨i, mi, rfl⟩ := List.mem_map.mp m
    have hi : i < W.length + 1 := List.mem_range.mp mi
    have b := plb (cyc W) i
    exact ⟨_, rfl, ⟨by omega, by omega⟩, by omega, by omega⟩
  · simp only [List.mem_cons, List.not_mem_nil, or_false] at m
    rcases m with e | e
    · exact ⟨(10 ^ (20 : Int).toNat, 0), e, ⟨by decide +kernel, by decide +kernel⟩, by decide +kernel, by decide +kernel⟩
    · exact ⟨(0, -7), e, ⟨by decide +kernel, by decide +kernel⟩, by decide +kernel, by decide +kernel⟩
theorem right_ok {h : Ah} {r : Nat} (R : Reel h r 0) : Ok (K51.f__law_right [.obj r]) h fun d _ => d = .bl true := by
  rw [K51.f__law_right, ok_fnM]
  simp only [K51.m__law_right, List.map_cons, List.map_nil, List.length_cons, List.length_nil, List.replicate, List.cons_append, List.nil_append]
  rw [ok_seq, ok_forM, ok_itR1, ok_argC, ok_con, ok_argN]
  refine ⟨_, rfl, ⟨by omega, by omega⟩, ?_⟩
  refine forL_ind (fun ds env h' => ∃ (m : Nat) (a1 a2 a3 a4 a5 a6 a7 a8 a9 a10 : Option Dt), m + ds.length = 4 ∧ Reel h' r (200 * m) ∧ env = [some (.obj r), a1, a2, a3, a4, a5, a6, a7, a8, a9, a10]) ?_ ?_ _ _ _ ⟨0, _, _, _, _, _, _, _, _, _, _, rfl, R.mono (by omega), rfl⟩
  · rintro x xs env h' ⟨m, a1, a2, a3, a4, a5, a6, a7, a8, a9, a10, hm, R1, rfl⟩
    simp only [List.length_cons] at hm
    refine ⟨[some (.obj r), some x, a2, a3, a4, a5, a6, a7, a8, a9, a10], by simp [Pat.bd], ?_⟩
    rw [ok_seq, ok_sto, ok_callM, ok_argC, ok_pick (i := 0) (d := .obj r) rfl, ok_argN]
    refine ⟨rfl, (other_ok R1 (by omega)).mono fun d2 h2 ⟨W, e2, L, lW, b0, R2⟩ => ?_⟩
    subst e2
    show Ok (seq _ _ [some (.obj r), some x, some (.str (Tx W)), a3, a4, a5, a6, a7, a8, a9, a10]) _ _
    rw [ok_seq, ok_sto, ok_callM, ok_argC, ok_pick (i := 2) (d := .str (Tx W)) rfl, ok_argN]
    refine ⟨rfl, gv_fn (text_ok L.ltrs (by omega)) fun j2 => ?_⟩
    have R3 := R2.app j2
    generalize h2 ++ j2 = h3 at R3
    obtain ⟨qf, rl, tl, spl⟩ := text_facts L lW.1 (by omega) b0
    clear qf rl spl
    have at1 := acc_turn L lW.1 (by omega) b0
    have ah1 := acc_height L lW.1 (by omega) b0
    have mk : ∀ {h : Ah} {Q : Dt → Ah → Prop}, (∀ j, Q (.obj h.length) (h ++ .ins (Str.ofString "Line") (lineF W) :: j)) → Ok (mkI (Str.ofString "Line") 2 K51.f_Line___init__ [.str (Tx (textP W))]) h Q := fun q => made_ok L lW.1 (by omega) b0 q
    have ct : ∀ {h : Ah} {r : Nat} {Q : Dt → Ah → Prop}, LnAt h r W → Q (.tup [.tup [.str (Str.ofString "turn"), .str (Tx (textP W)), .int (turnZ W)], .non]) h → Ok (K51.f_certify_turn [.obj r]) h Q := fun a q => certturn_ok a q
    have ch : ∀ {h : Ah} {r : Nat} {Q : Dt → Ah → Prop}, LnAt h r W → ∀ (c : Pt), (∀ j, Q (.tup [.tup [.str (Str.ofString "height"), .str (Tx (textP W)), ptD c, .int (heightR W c)], .non]) (h ++ j)) → Ok (K51.f_certify_height [.obj r, ptD c]) h Q := fun a c q => certheight_ok a L (by omega) c q
    have tt := told_turn L.ltrs tl (i := turnZ W) (by have := turn_bound W; omega) (by have := turn_bound W; omega)
    have th : ∀ (c : Pt), -(2 ^ 100) < c.1 → c.1 < 2 ^ 100 → -(2 ^ 100) < c.2 → c.2 < 2 ^ 100 → ∃ p, toP (toldX (.tup [.str (Str.ofString "height"), .str (Tx (textP W)), ptD c, .int (heightR W c)])) = some p ∧ showOk (.list [p, p]) = true := fun c c1 c2 c3 c4 => told_height L.ltrs tl (i := heightR W c) (by have := heightb W c; omega) (by have := heightb W c; omega) c1 c2 c3 c4
    generalize Tx (textP W) = T at *
    show Ok (seq _ _ [some (.obj r), some x, some (.str (Tx W)), some (.str T), a4, a5, a6, a7, a8, a9, a10]) _ _
    rw [ok_seq, ok_sto, ok_make, ok_argC, ok_pick (i := 3) (d := .str T) rfl, ok_argN]
    refine mk fun j3 => ?_
    have rq : r ≠ h3.length := by
      obtain ⟨g, s, c, e, -⟩ := R3.ex
      have := lstAt_lt e
      omega
    have A4 : LnAt (h3 ++ .ins (Str.ofString "Line") (lineF W) :: j3) h3.length W := LnAt.new
    have R4 : Reel (h3 ++ .ins (Str.ofString "Line") (lineF W) :: j3) r (200 * m + 50) := R3.app _
    generalize h3 ++ .ins (Str.ofString "Line") (lineF W) :: j3 = h4 at A4 R4
    generalize h3.length = l at rq A4
    show Ok (seq _ _ [some (.obj r), some x, some (.str (Tx W)), some (.str T), some (.obj l), a5, a6, a7, a8, a9, a10]) _ _
    rw [ok_seq, ok_sto, ok_lstO, ok_argC, ok_gotE, ok_callM, ok_argC, ok_pick (i := 4) (d := .obj l) rfl, ok_argN]
    refine ⟨rfl, ct A4 ?_⟩
    rw [ok_argN]
    refine ⟨szl (by simp), ?_⟩
    generalize hdue : Dt.tup [.str (Str.ofString "turn"), .str T, .int (turnZ W)] = due at *
    show Ok (seq _ _ [some (.obj r), some x, some (.str (Tx W)), some (.str T), some (.obj l), some (.obj h4.length), a6, a7, a8, a9, a10]) (h4 ++ [.lst [toldX due]]) _
    rw [ok_seq, ok_drp, ok_bm, ok_pick (i := 5) (d := .obj h4.length) rfl, ok_argC, ok_gotE, ok_callK, ok_argC, ok_pick (i := 4) (d := .obj l) rfl, ok_argN]
    refine ⟨isL_obj lstAt_new, ⟨rfl, rfl⟩, ct (A4.app _) ?_⟩
    rw [ok_argN, ok_appO]
    refine ⟨_, lstAt_new, by have := szl (show 2 ≤ 1000 by omega); simp only [List.length_cons, List.length_nil]; omega, ?_⟩
    rw [set_new]
    have R5 : Reel (h4 ++ .lst ([toldX due] ++ [toldX due]) :: []) r (200 * m + 50) := R4.app _
    have A5 : LnAt (h4 ++ .lst ([toldX due] ++ [toldX due]) :: []) l W := A4.app _
    have T5 : lstAt (h4 ++ .lst ([toldX due] ++ [toldX due]) :: []) h4.length = some [toldX due, toldX due] := lstAt_new
    show Ok (seq _ _ [some (.obj r), some x, some (.str (Tx W)), some (.str T), some (.obj l), some (.obj h4.length), a6, a7, a8, a9, a10]) (h4 ++ .lst ([toldX due] ++ [toldX due]) :: []) _
    generalize h4 ++ .lst ([toldX due] ++ [toldX due]) :: [] = h5 at R5 A5 T5
    generalize h4.length = t at T5
    rw [ok_seq, ok_sto, ok_tupE, ok_argC, ok_con, ok_argC, ok_pick (i := 3) (d := .str T) rfl, ok_argC, ok_callM, ok_argC, ok_pick (i := 2) (d := .str (Tx W)) rfl, ok_argN]
    refine ⟨rfl, gv_fn (lawturn_ok L.ltrs (by omega)) fun j6 => ?_⟩
    rw [ok_argN, hdue]
    refine ⟨szl (by simp), ?_⟩
    show Ok (seq chkM _ [some (.obj r), some x, some (.str (Tx W)), some (.str T), some (.obj l), some (.obj t), some due, a7, a8, a9, a10]) _ _
    rw [ok_seq]
    obtain ⟨p, tp, ts⟩ := tt
    refine chk_ok (t := t) (due := due) rfl rfl (lstAt_app T5 j6) tp ts at1 fun j7 => ?_
    have R7 := (R5.app j6).app j7
    have A7 := (A5.app j6).app j7
    generalize h5 ++ j6 ++ j7 = h7 at R7 A7
    clear tp ts T5 R5 A5 R4 A4 at1
    dsimp only
    rw [ok_forM, ok_itR1, ok_argC, ok_con, ok_argN]
    refine ⟨_, rfl, ⟨by omega, by omega⟩, ?_⟩
    refine forL_ind (fun ds env h' => ∃ (m2 : Nat) (a5 a6 a7 a8 a9 a10 : Option Dt), m2 + ds.length = 6 ∧ Reel h' r (200 * m + 50 + 10 * m2) ∧ LnAt h' l W ∧ env = [some (.obj r), some x, some (.str (Tx W)), some (.str T), some (.obj l), a5, a6, a7, a8, a9, a10]) ?_ ?_ _ _ _ ⟨0, _, _, _, _, _, _, rfl, R7.mono (by omega), A7, rfl⟩
    · clear R7 A7 a7 a8 a9 a10 ct hdue due
      rintro y ys env h8 ⟨m2, a5, a6, a7, a8, a9, a10, hm2, R8, A8, rfl⟩
      simp only [List.length_cons] at hm2
      refine ⟨[some (.obj r), some x, some (.str (Tx W)), some (.str T), some (.obj l), a5, a6, some y, a8, a9, a10], by simp [Pat.bd], ?_⟩
      rw [ok_seq, ok_asg, ok_callM, ok_argC, ok_pick (i := 0) (d := .obj r) rfl, ok_argC, ok_op2, ok_callM, ok_argC, ok_pick (i := 2) (d := .str (Tx W)) rfl, ok_argN]
      refine ⟨rfl, (spots_ok L.ltrs (by omega) h8).mono fun d9 h9 ⟨e9, j9, e9'⟩ => ?_⟩
      subst e9 e9'
      rw [ok_lstE, ok_argC, ok_tupE, ok_argC, ok_op2, ok_con, ok_con, ok_powI]
      refine ⟨by decide +kernel, ?_⟩
      rw [ok_argC, ok_con, ok_argN]
      refine ⟨szl (by simp), ?_⟩
      rw [ok_argC, ok_tupE, ok_argC, ok_con, ok_argC, ok_op1, ok_con, ok_negI, ok_argN]
      refine ⟨szl (by simp), ?_⟩
      rw [ok_argN]
      refine ⟨szl (by simp), ?_⟩
      have pn := ptsD_len W W.length
      rw [ok_addOL lstAt_new]
      refine ⟨by simp only [pn, List.length_cons, List.length_nil]; exact szl (by omega), ?_⟩
      rw [ok_argN]
      have R9 : Reel (h8 ++ .lst (ptsD W W.length) :: j9) r (200 * m + 50 + 10 * m2) := R8.app _
      have A9 : LnAt (h8 ++ .lst (ptsD W W.length) :: j9) l W := A8.app _
      generalize h8 ++ .lst (ptsD W W.length) :: j9 = h9 at R9 A9
      refine ⟨rfl, (any_ok2 R9 (by simp) (by simp [pn]; omega) (by omega)).mono fun d10 h10 ⟨md, o, e10, R10⟩ => ?_⟩
      have A10 : LnAt h10 l W := by rw [e10]; exact A9.ne rq
      clear e10 R9 A9
      obtain ⟨p, rfl, ⟨p1, p2⟩, p3, p4⟩ := pts_small (by omega) md
      clear md
      refine ok_gT.mpr ⟨rfl, ?_⟩
      rw [ok_gsC, ok_gN, ok_gsC, ok_gN, ok_gsN]
      show Ok (seq _ _ [some (.obj r), some x, some (.str (Tx W)), some (.str T), some (.obj l), a5, a6, some y, some (.int p.1), some (.int p.2), a10]) _ _
      rw [ok_seq, ok_sto, ok_tupE, ok_argC, ok_op2, ok_pick (i := 8) (d := .int p.1) rfl, ok_callM, ok_argC, ok_pick (i := 0) (d := .obj r) rfl, ok_argC, ok_con, ok_argN]
      refine ⟨rfl, call_roll2 R10 (by decide) (by decide) (by omega) fun k1 o1 l1 R11 => ?_⟩
      have A11 : LnAt (h10.set r o1) l W := A10.ne rq
      rw [ok_subI, ok_argC, ok_op2, ok_pick (i := 9) (d := .int p.2) rfl, ok_callM, ok_argC, ok_pick (i := 0) (d := .obj r) rfl, ok_argC, ok_con, ok_argN]
      refine ⟨rfl, call_roll2 R11 (by decide) (by decide) (by omega) fun k2 o2 l2 R12 => ?_⟩
      have A12 : LnAt ((h10.set r o1).set r o2) l W := A11.ne rq
      rw [ok_subI, ok_argN]
      refine ⟨szl (by simp), ?_⟩
      have c1 : -(2 ^ 100) < p.1 - (k1 : Int) := by omega
      have c2 : p.1 - (k1 : Int) < 2 ^ 100 := by omega
      have c3 : -(2 ^ 100) < p.2 - (k2 : Int) := by omega
      have c4 : p.2 - (k2 : Int) < 2 ^ 100 := by omega
      obtain ⟨P, tp, ts⟩ := th (p.1 - (k1 : Int), p.2 - (k2 : Int)) c1 c2 c3 c4
      generalize (h10.set r o1).set r o2 = h12 at R12 A12
      generalize hc : ((p.1 - (k1 : Int), p.2 - (k2 : Int)) : Pt) = c at tp
      show Ok (seq _ _ [some (.obj r), some x, some (.str (Tx W)), some (.str T), some (.obj l), a5, a6, some y, some (.int p.1), some (.int p.2), some (ptD (p.1 - (k1 : Int), p.2 - (k2 : Int)))]) _ _
      rw [hc]
      clear hc c1 c2 c3 c4
      have ah := ah1 c
      have lh := heights_eq L c
      rw [ok_seq, ok_sto, ok_lstO, ok_argC, ok_gotE, ok_callM, ok_argC, ok_pick (i := 4) (d := .obj l) rfl, ok_argC, ok_pick (i := 10) (d := ptD c) rfl, ok_argN]
      refine ⟨rfl, ch A12 c fun j13 => ?_⟩
      rw [ok_argN]
      refine ⟨szl (by simp), ?_⟩
      have R13 := R12.app j13
      have A13 := A12.app j13
      generalize h12 ++ j13 = h13 at R13 A13
      generalize hdue : Dt.tup [.str (Str.ofString "height"), .str T, ptD c, .int (heightR W c)] = due at *
      show Ok (seq _ _ [some (.obj r), some x, some (.str (Tx W)), some (.str T), some (.obj l), some (.obj h13.length), a6, some y, some (.int p.1), some (.int p.2), some (ptD c)]) (h13 ++ [.lst [toldX due]]) _
      rw [ok_seq, ok_drp, ok_bm, ok_pick (i := 5) (d := .obj h13.length) rfl, ok_argC, ok_gotE, ok_callK, ok_argC, ok_pick (i := 10) (d := ptD c) rfl, ok_argC, ok_pick (i := 4) (d := .obj l) rfl, ok_argN]
      refine ⟨isL_obj lstAt_new, ⟨rfl, rfl⟩, ch (A13.app _) c fun j14 => ?_⟩
      rw [hdue, ok_argN, ok_appO]
      rw [List.append_assoc, List.cons_append, List.nil_append]
      refine ⟨_, lstAt_new, by have := szl (show 2 ≤ 1000 by omega); simp only [List.length_cons, List.length_nil]; omega, ?_⟩
      rw [set_new]
      have R14 : Reel (h13 ++ .lst ([toldX due] ++ [toldX due]) :: j14) r (200 * m + 50 + 10 * m2 + 1 + 1 + 1) := R13.app _
      have A14 : LnAt (h13 ++ .lst ([toldX due] ++ [toldX due]) :: j14) l W := A13.app _
      have T14 : lstAt (h13 ++ .lst ([toldX due] ++ [toldX due]) :: j14) h13.length = some [toldX due, toldX due] := lstAt_new
      show Ok (seq _ _ [some (.obj r), some x, some (.str (Tx W)), some (.str T), some (.obj l), some (.obj h13.length), a6, some y, some (.int p.1), some (.int p.2), some (ptD c)]) (h13 ++ .lst ([toldX due] ++ [toldX due]) :: j14) _
      generalize h13 ++ .lst ([toldX due] ++ [toldX due]) :: j14 = h14 at R14 A14 T14
      generalize h13.length = t at T14
      rw [ok_seq, ok_sto, ok_tupE, ok_argC, ok_con, ok_argC, ok_pick (i := 3) (d := .str T) rfl, ok_argC, ok_pick (i := 10) (d := ptD c) rfl, ok_argC, ok_callM, ok_argC, ok_pick (i := 2) (d := .str (Tx W)) rfl, ok_argC, ok_pick (i := 10) (d := ptD c) rfl, ok_argN]
      refine ⟨rfl, gv_fn (lawheight_ok L.ltrs (by omega) c) fun j15 => ?_⟩
      rw [ok_argN, ← lh, hdue]
      refine ⟨szl (by simp), ?_⟩
      show Ok (chkM [some (.obj r), some x, some (.str (Tx W)), some (.str T), some (.obj l), some (.obj t), some due, some y, some (.int p.1), some (.int p.2), some (ptD c)]) _ _
      refine chk_ok (t := t) (due := due) rfl rfl (lstAt_app T14 j15) tp ts ah fun j16 => ?_
      exact ⟨m2 + 1, _, _, _, _, _, _, by omega, ((R14.app j15).app j16).mono (by omega), (A14.app j15).app j16, rfl⟩
    · rintro env h8 ⟨m2, a5, a6, a7, a8, a9, a10, hm2, R8, A8, rfl⟩
      exact ⟨m + 1, _, _, _, _, _, _, _, _, _, _, by omega, R8.mono (by simp at hm2; omega), rfl⟩
  · rintro env h' ⟨m, a1, a2, a3, a4, a5, a6, a7, a8, a9, a10, hm, R1, rfl⟩
    dsimp only
    rw [ok_ret, ok_con]
theorem law_ok (ns : List Int) (hn : ns.length ≤ 63) : ∃ h', K51.f_law [.wl (ns.map Mo.Dt.int)] [] = .ok (.bl true) h' := by
  have key : Ok (K51.f_law [.wl (ns.map Mo.Dt.int)]) [] fun d _ => d = .bl true := by
    rw [K51.f_law, ok_fnM]
    simp only [K51.m_law, List.map_cons, List.map_nil, List.length_cons, List.length_nil, List.replicate, List.cons_append, List.nil_append]
    rw [ok_seq, ok_forM, ok_itR1, ok_argC, ok_bi, ok_argC, ok_con, ok_argC, ok_bi, ok_argC, ok_bi, ok_argC, ok_pick (i := 0) (d := .wl (ns.map Mo.Dt.int)) rfl, ok_argN, ok_lenWl, ok_argC, ok_con, ok_argN, ok_minI, ok_argN, ok_maxI, ok_argN, List.length_map]
    generalize hk : (if (if (6 : Int) < (ns.length : Nat) then (6 : Int) else (ns.length : Nat)) > 2 then (if (6 : Int) < (ns.length : Nat) then (6 : Int) else (ns.length : Nat)) else 2) = k
    have k0 : 0 ≤ k := by rw [← hk]; split <;> split <;> omega
    have k1 : k ≤ 6 := by rw [← hk]; split <;> split <;> omega
    refine ⟨k, rfl, ⟨by omega, by omega⟩, ?_⟩
    refine forL_ind (fun ds env h' => (∀ d ∈ ds, ∃ i : Nat, d = .int (i : Int) ∧ i < 6) ∧ ∃ e, env = [some (.wl (ns.map Mo.Dt.int)), e]) ?_ ?_ _ _ _ ⟨fun d md => ?_, none, rfl⟩
    · rintro x xs env h' ⟨hi, e, rfl⟩
      obtain ⟨i, rfl, i6⟩ := hi x (by simp)
      refine ⟨[some (.wl (ns.map Mo.Dt.int)), some (.int (i : Int))], by simp [Pat.bd], ?_⟩
      rw [ok_ifS, ok_notT, ok_tst, ok_callM, ok_argC, ok_callM, ok_argC, ok_pick (i := 0) (d := .wl (ns.map Mo.Dt.int)) rfl, ok_argC, ok_pick (i := 1) (d := .int (i : Int)) rfl, ok_argN]
      refine ⟨rfl, (reel_ok (by omega) (by omega)).mono fun d h2 ⟨e2, R2⟩ => ?_⟩
      subst e2
      rw [ok_argN]
      refine ⟨rfl, (right_ok R2).mono fun d h3 e3 => ?_⟩
      subst e3
      rw [ok_isB, if_neg (by simp), ok_nxt]
      exact ⟨fun d md => hi d (by simp [md]), _, rfl⟩
    · rintro env h' ⟨-, e, rfl⟩
      dsimp only
      rw [ok_ret, ok_con]
    · rw [rng_eq] at md
      obtain ⟨i, mi, rfl⟩ := List.mem_map.mp md
      have := List.mem_range.mp mi
      exact ⟨i, rfl, by omega⟩
  obtain ⟨a, h', e, rfl⟩ := ok_iff.mp key
  exact ⟨h', e⟩
end Mo
set_option Elab.async false
set_option linter.all false
set_option maxRecDepth 100000
set_option maxHeartbeats 4000000
namespace K51
open PySem PySem.Spec PyProof.Rows L2 Mo
def top (i : Nat) : Stmt := PySem.Challenge.pw_rimsheets_k66_certified_turns_and_height.main.body.getD i (.Pass ⟨0, 0, 0, 0⟩)
structure Fc (w : World) (K : PySem.W.Frag) (mg : Str → Option Value) : Prop where
  d__law_reel : ∃ fd, FnPa K "_law_reel" "_law_reel" (top 85) fd
  d__law_roll : ∃ fd, FnPa K "_law_roll" "_law_roll" (top 86) fd
  d__law_long : ∃ fd, FnPa K "_law_long" "_law_long" (top 88) fd
  d__law_side : ∃ fd, FnPa K "_law_side" "_law_side" (top 94) fd
  d__law_rim : ∃ fd, FnPa K "_law_rim" "_law_rim" (top 95) fd
  d__law_base : ∃ fd, FnPa K "_law_base" "_law_base" (top 96) fd
  d__law_spots : ∃ fd, FnPa K "_law_spots" "_law_spots" (top 90) fd
  d__law_is_line : ∃ fd, FnPa K "_law_is_line" "_law_is_line" (top 91) fd
  d__law_turned : ∃ fd, FnPa K "_law_turned" "_law_turned" (top 93) fd
  d__law_begun : ∃ fd, FnPa K "_law_begun" "_law_begun" (top 92) fd
  d__law_drawn : ∃ fd, FnPa K "_law_drawn" "_law_drawn" (top 97) fd
  d__law_other : ∃ fd, FnPa K "_law_other" "_law_other" (top 98) fd
  d__law_text : ∃ fd, FnPa K "_law_text" "_law_text" (top 89) fd
  d_stretch_of : ∃ fd, FnPa K "stretch_of" "stretch_of" (top 15) fd
  d_stretches_of : ∃ fd, FnPa K "stretches_of" "stretches_of" (top 18) fd
  d_is_level : ∃ fd, FnPa K "is_level" "is_level" (top 16) fd
  d_steps_of : ∃ fd, FnPa K "steps_of" "steps_of" (top 19) fd
  d_places_of_names : ∃ fd, FnPa K "places_of_names" "places_of" (top 20) fd
  d_is_plain : ∃ fd, FnPa K "is_plain" "is_plain" (top 23) fd
  d_first_touch : ∃ fd, FnPa K "first_touch" "first_touch" (top 24) fd
  d_turned_left : ∃ fd, FnPa K "turned_left" "turned_left" (top 17) fd
  d_quarters_of : ∃ fd, FnPa K "quarters_of" "quarters_of" (top 22) fd
  d_Line___init__ : ∃ fd, FnM K "Line" "__init__" "Line.__init__" ((clsBody (top 26)).getD 0 (.Pass ⟨0, 0, 0, 0⟩)) fd
  d_check_line : ∃ fd, FnPa K "check_line" "check_line" (top 27) fd
  d_Line_text : ∃ fd, FnR K "Line" "text" "Line.text" ((clsBody (top 26)).getD 1 (.Pass ⟨0, 0, 0, 0⟩)) fd
  d_Line_turn : ∃ fd, FnR K "Line" "turn" "Line.turn" ((clsBody (top 26)).getD 5 (.Pass ⟨0, 0, 0, 0⟩)) fd
  d_certify_turn : ∃ fd, FnPa K "certify_turn" "certify_turn" (top 35) fd
  d__law_turn : ∃ fd, FnPa K "_law_turn" "_law_turn" (top 99) fd
  d_long_in : ∃ fd, FnPa K "long_in" "long_in" (top 47) fd
  d_steps_in : ∃ fd, FnPa K "steps_in" "steps_in" (top 48) fd
  d_places_of : ∃ fd, FnPa K "places_of_checklines" "places_of" (top 49) fd
  d_is_straight : ∃ fd, FnPa K "is_straight" "is_straight" (top 51) fd
  d_is_line : ∃ fd, FnPa K "is_line" "is_line" (top 52) fd
  d_is_whole : ∃ fd, FnPa K "is_whole" "is_whole" (top 45) fd
  d_turn_of : ∃ fd, FnPa K "turn_of" "turn_of" (top 53) fd
  d_rows_of : ∃ fd, FnPa K "rows_of" "rows_of" (top 54) fd
  d_height_at : ∃ fd, FnPa K "height_at_checklines" "height_at" (top 55) fd
  d_is_pair : ∃ fd, FnPa K "is_pair" "is_pair" (top 46) fd
  d_is_number_right : ∃ fd, FnPa K "is_number_right" "is_number_right" (top 80) fd
  d_accepts : ∃ fd, FnPa K "accepts" "accepts" (top 83) fd
  d__law_is_shown : ∃ fd, FnPa K "_law_is_shown" "_law_is_shown" (top 102) fd
  d__law_any : ∃ fd, FnPa K "_law_any" "_law_any" (top 87) fd
  d_is_integer : ∃ fd, FnPa K "is_integer" "is_integer" (top 13) fd
  d_is_cell : ∃ fd, FnPa K "is_cell" "is_cell" (top 14) fd
  d_check_cell : ∃ fd, FnPa K "check_cell" "check_cell" (top 28) fd
  d_uprights : ∃ fd, FnPa K "uprights" "uprights" (top 30) fd
  d_spot_of : ∃ fd, FnPa K "spot_of" "spot_of" (top 29) fd
  d_height_at_heights : ∃ fd, FnPa K "height_at_heights" "height_at" (top 32) fd
  d_certify_height : ∃ fd, FnPa K "certify_height" "certify_height" (top 36) fd
  d__law_height : ∃ fd, FnPa K "_law_height" "_law_height" (top 100) fd
  d__law_right : ∃ fd, FnPa K "_law_right" "_law_right" (top 103) fd
  d_law : ∃ fd, FnPa K "law" "law" (top 104) fd
  d__law_got : ∃ fd, FnPa K "_law_got" "_law_got" (top 101) fd
  g__law_reel : mg "_law_reel" = some (.ref (He.ga K "_law_reel"))
  g__law_roll : mg "_law_roll" = some (.ref (He.ga K "_law_roll"))
  g__law_long : mg "_law_long" = some (.ref (He.ga K "_law_long"))
  g__law_side : mg "_law_side" = some (.ref (He.ga K "_law_side"))
  g__law_rim : mg "_law_rim" = some (.ref (He.ga K "_law_rim"))
  g__law_base : mg "_law_base" = some (.ref (He.ga K "_law_base"))
  g__law_spots : mg "_law_spots" = some (.ref (He.ga K "_law_spots"))
  g__law_is_line : mg "_law_is_line" = some (.ref (He.ga K "_law_is_line"))
  g__law_turned : mg "_law_turned" = some (.ref (He.ga K "_law_turned"))
  g__law_begun : mg "_law_begun" = some (.ref (He.ga K "_law_begun"))
  g__law_drawn : mg "_law_drawn" = some (.ref (He.ga K "_law_drawn"))
  g__law_other : mg "_law_other" = some (.ref (He.ga K "_law_other"))
  g__law_text : mg "_law_text" = some (.ref (He.ga K "_law_text"))
  g_stretch_of : mg "stretch_of" = some (.ref (He.ga K "stretch_of"))
  g_stretches_of : mg "stretches_of" = some (.ref (He.ga K "stretches_of"))
  g_is_level : mg "is_level" = some (.ref (He.ga K "is_level"))
  g_steps_of : mg "steps_of" = some (.ref (He.ga K "steps_of"))
  g_places_of_names : mg "places_of_names" = some (.ref (He.ga K "places_of_names"))
  g_is_plain : mg "is_plain" = some (.ref (He.ga K "is_plain"))
  g_first_touch : mg "first_touch" = some (.ref (He.ga K "first_touch"))
  g_turned_left : mg "turned_left" = some (.ref (He.ga K "turned_left"))
  g_quarters_of : mg "quarters_of" = some (.ref (He.ga K "quarters_of"))
  g_check_line : mg "check_line" = some (.ref (He.ga K "check_line"))
  g_certify_turn : mg "certify_turn" = some (.ref (He.ga K "certify_turn"))
  g__law_turn : mg "_law_turn" = some (.ref (He.ga K "_law_turn"))
  g_long_in : mg "long_in" = some (.ref (He.ga K "long_in"))
  g_steps_in : mg "steps_in" = some (.ref (He.ga K "steps_in"))
  g_places_of : mg "places_of_checklines" = some (.ref (He.ga K "places_of_checklines"))
  g_is_straight : mg "is_straight" = some (.ref (He.ga K "is_straight"))
  g_is_line : mg "is_line" = some (.ref (He.ga K "is_line"))
  g_is_whole : mg "is_whole" = some (.ref (He.ga K "is_whole"))
  g_turn_of : mg "turn_of" = some (.ref (He.ga K "turn_of"))
  g_rows_of : mg "rows_of" = some (.ref (He.ga K "rows_of"))
  g_height_at : mg "height_at_checklines" = some (.ref (He.ga K "height_at_checklines"))
  g_is_pair : mg "is_pair" = some (.ref (He.ga K "is_pair"))
  g_is_number_right : mg "is_number_right" = some (.ref (He.ga K "is_number_right"))
  g_accepts : mg "accepts" = some (.ref (He.ga K "accepts"))
  g__law_is_shown : mg "_law_is_shown" = some (.ref (He.ga K "_law_is_shown"))
  g__law_any : mg "_law_any" = some (.ref (He.ga K "_law_any"))
  g_is_integer : mg "is_integer" = some (.ref (He.ga K "is_integer"))
  g_is_cell : mg "is_cell" = some (.ref (He.ga K "is_cell"))
  g_check_cell : mg "check_cell" = some (.ref (He.ga K "check_cell"))
  g_uprights : mg "uprights" = some (.ref (He.ga K "uprights"))
  g_spot_of : mg "spot_of" = some (.ref (He.ga K "spot_of"))
  g_height_at_heights : mg "height_at_heights" = some (.ref (He.ga K "height_at_heights"))
  g_certify_height : mg "certify_height" = some (.ref (He.ga K "certify_height"))
  g__law_height : mg "_law_height" = some (.ref (He.ga K "_law_height"))
  g__law_right : mg "_law_right" = some (.ref (He.ga K "_law_right"))
  g_law : mg "law" = some (.ref (He.ga K "law"))
  g__law_got : mg "_law_got" = some (.ref (He.ga K "_law_got"))
  g_Line : mg "Line" = some (.ref (He.ga K "Line"))
  cls_Line : Cls K (He.ga K "Line")
  na_Line_rounds : NoAttr K (He.ga K "Line") "rounds"
  na_Line_spots : NoAttr K (He.ga K "Line") "spots"
  na_Line_ways : NoAttr K (He.ga K "Line") "ways"
  na_Line_written : NoAttr K (He.ga K "Line") "written"
  mk_Line : Mk K (He.ga K "Line") (He.ma K (He.ga K "Line") "__init__")
  is_Line : IsC K "Line"
  pr_Line_text : PropOf K (He.ga K "Line") "text" (prO K "Line" "text") (prG K "Line" "text")
  pr_Line_turn : PropOf K (He.ga K "Line") "turn" (prO K "Line" "turn") (prG K "Line" "turn")
  n_abs : mg "abs" = none
  n_all : mg "all" = none
  n_any : mg "any" = none
  n_bool : mg "bool" = none
  n_divmod : mg "divmod" = none
  n_enumerate : mg "enumerate" = none
  n_int : mg "int" = none
  n_isinstance : mg "isinstance" = none
  n_len : mg "len" = none
  n_max : mg "max" = none
  n_min : mg "min" = none
  n_range : mg "range" = none
  n_repr : mg "repr" = none
  n_str : mg "str" = none
  n_sum : mg "sum" = none
  n_tuple : mg "tuple" = none
  n_zip : mg "zip" = none
  c_AROUND : ∃ t, mg "AROUND" = some (.str "enws" t)
  c_DIGITS : ∃ t, mg "DIGITS" = some (.str "0123456789" t)
  c_FEWEST_STRETCHES : ∃ t, mg "FEWEST_STRETCHES" = some (.int 4 t)
  c_LEVEL : ∃ t, mg "LEVEL" = some (.str "ew" t)
  c_MOST_FIGURES : ∃ t, mg "MOST_FIGURES" = some (.int 3 t)
  c_MOST_STEPS : ∃ t, mg "MOST_STEPS" = some (.int 120 t)
  c_UPRIGHT : ∃ t, mg "UPRIGHT" = some (.str "ns" t)
  c_WAYS : ∃ t, mg "WAYS" = some (.str "enws" t)
  t_MORE_SIZES : KTab K w (He.ga K "MORE_SIZES") tb_MORE_SIZES
  g_MORE_SIZES : mg "MORE_SIZES" = some (.ref (He.ga K "MORE_SIZES"))
  t_MOVES : KTab K w (He.ga K "MOVES") tb_MOVES
  g_MOVES : mg "MOVES" = some (.ref (He.ga K "MOVES"))
  t_SHIFTS : KTab K w (He.ga K "SHIFTS") tb_SHIFTS
  g_SHIFTS : mg "SHIFTS" = some (.ref (He.ga K "SHIFTS"))
  t_SIZES : KTab K w (He.ga K "SIZES") tb_SIZES
  g_SIZES : mg "SIZES" = some (.ref (He.ga K "SIZES"))
section
variable {P : Program} {w : World} {K : PySem.W.Frag} {mg : Str → Option Value} {base : Heap}
abbrev N__law_got : List Str := ["_law_act", "_law_back"]
abbrev st__law_got : Stmt := top 101
theorem sc__law_got : FnScope N__law_got ["_law_act"] (defScope st__law_got) := ⟨rfl, rfl, rfl, by decide +kernel, rfl, by decide +kernel, by decide +kernel⟩
abbrev N__law_reel : List Str := ["_law_script", "_law_turn_here", "_law_stirred", "_law_size_here", "_law_great"]
abbrev st__law_reel : Stmt := top 85
theorem sc__law_reel : FnScope N__law_reel ["_law_script", "_law_turn_here"] (defScope st__law_reel) := ⟨rfl, rfl, rfl, by decide +kernel, rfl, by decide +kernel, by decide +kernel⟩
theorem go__law_reel (C : Fc w K mg) (B : Lams base K mg) {fd : FuncData} (F : FnPa K "_law_reel" "_law_reel" st__law_reel fd) : FnG P w K mg base 1 (He.ga K "_law_reel") fd ["_law_script", "_law_turn_here"] f__law_reel := by
  refine fnG F sc__law_reel (fun cdv A outer s H E hgd hr => ?_)
  exact (mss_cons (ms_set (i := 2) sc__law_reel.nd rfl (Or.inl rfl) (me_op o_add me_int (me_op o_mul me_int (me_var 1))))
    (mss_cons (ms_for (p := (.nm 3)) PassesOwn.never rfl (mi_list (me_slice s_all (me_var 0) mo_none (mo_some me_int))) (pg_name (i := 3) sc__law_reel.nd rfl (Or.inl rfl)) (mss_one (ms_set (i := 2) sc__law_reel.nd rfl (Or.inl rfl) (me_op o_mod (me_Ty b_int rfl C.n_int boot_int (ma_cons (me_op o_add (me_op o_add (me_op o_mul (me_var 2) me_int) (me_op o_mod (me_Ty b_int rfl C.n_int boot_int (ma_cons (me_var 3) ma_nil)) me_int)) me_int) ma_nil)) me_int))))
    (mss_cons (ms_set (i := 4) sc__law_reel.nd rfl (Or.inl rfl) (me_if (PW.pt (mw_and (mt_cmp o_lt (me_var 1) (me_B b_len rfl C.n_len boot_len (ma_cons (me_var 0) ma_nil)) (nomark _)) (mw_and1 (mt_cmp o_ge (me_B b_abs rfl C.n_abs boot_abs (ma_cons (me_ix i_seq (me_var 0) (me_var 1) (fun _ _ => rfl)) ma_nil)) (me_op o_pow me_int me_int) (nomark _))))) (me_B b_abs rfl C.n_abs boot_abs (ma_cons (me_ix i_seq (me_var 0) (me_var 1) (fun _ _ => rfl)) ma_nil)) me_int))
    (mss_one (ms_ret (me_lstO (ma_cons (me_var 4) (ma_cons (me_var 2) (ma_cons me_int ma_nil)))))))))
theorem ok__law_reel (C : Fc w K mg) (B : Lams base K mg) : FnH P w K mg base 1 "_law_reel" ["_law_script", "_law_turn_here"] f__law_reel := by
  obtain ⟨fd, F⟩ := C.d__law_reel
  exact ⟨⟨fd, go__law_reel C B F, F.bindsN fun _ _ _ _ _ _ us hl => match us, hl with | [_, _], _ => rfl⟩, F.kp, C.g__law_reel⟩
abbrev N__law_roll : List Str := ["_law_reel_here", "_law_many", "_law_stirred", "_law_by", "_law_figure"]
abbrev st__law_roll : Stmt := top 86
theorem sc__law_roll : FnScope N__law_roll ["_law_reel_here", "_law_many"] (defScope st__law_roll) := ⟨rfl, rfl, rfl, by decide +kernel, rfl, by decide +kernel, by decide +kernel⟩
theorem go__law_roll (C : Fc w K mg) (B : Lams base K mg) {fd : FuncData} (F : FnPa K "_law_roll" "_law_roll" st__law_roll fd) : FnG P w K mg base 1 (He.ga K "_law_roll") fd ["_law_reel_here", "_law_many"] f__law_roll := by
  refine fnG F sc__law_roll (fun cdv A outer s H E hgd hr => ?_)
  exact (mss_cons (ms_asg (me_op o_add (me_ix i_seq (me_var 0) me_int (fun _ _ => rfl)) me_int) (mg_sub (me_var 0) me_int st_list))
    (mss_cons (ms_set (i := 2) sc__law_roll.nd rfl (Or.inl rfl) (me_Ty b_int rfl C.n_int boot_int (ma_cons (me_ix i_seq (me_var 0) me_int (fun _ _ => rfl)) ma_nil)))
    (mss_cons (ms_set (i := 3) sc__law_roll.nd rfl (Or.inl rfl) (me_op o_add (me_op o_mod (me_Ty b_int rfl C.n_int boot_int (ma_cons (me_var 2) ma_nil)) me_int) me_int))
    (mss_cons (ms_asg (me_op o_mod (me_Ty b_int rfl C.n_int boot_int (ma_cons (me_op o_add (me_op o_add (me_op o_mul (me_var 2) (me_var 3)) (me_op o_mul me_int (me_ix i_seq (me_var 0) me_int (fun _ _ => rfl)))) me_int) ma_nil)) me_int) (mg_sub (me_var 0) me_int st_list))
    (mss_cons (ms_if (mt_cmp o_gt (me_ix i_seq (me_var 0) me_int (fun _ _ => rfl)) me_int (nomark _)) (mss_cons (ms_asg (me_B b_divmod rfl C.n_divmod boot_divmod (ma_cons (me_ix i_seq (me_var 0) me_int (fun _ _ => rfl)) (ma_cons (me_var 1) ma_nil))) (mg_tup rfl (mgs_cons (mg_sub (me_var 0) me_int st_list) (mgs_cons (mg_name (i := 4) sc__law_roll.nd rfl (Or.inl rfl)) mgs_nil))))
    (mss_one (ms_ret (me_var 4)))) mss_nil)
    (mss_one (ms_ret (me_op o_mod (me_Ty b_int rfl C.n_int boot_int (ma_cons (me_op o_fdiv (me_ix i_seq (me_var 0) me_int (fun _ _ => rfl)) me_int) ma_nil)) (me_var 1)))))))))
theorem ok__law_roll (C : Fc w K mg) (B : Lams base K mg) : FnH P w K mg base 1 "_law_roll" ["_law_reel_here", "_law_many"] f__law_roll := by
  obtain ⟨fd, F⟩ := C.d__law_roll
  exact ⟨⟨fd, go__law_roll C B F, F.bindsN fun _ _ _ _ _ _ us hl => match us, hl with | [_, _], _ => rfl⟩, F.kp, C.g__law_roll⟩
abbrev N__law_long : List Str := ["_law_text_here", "_law_word"]
abbrev st__law_long : Stmt := top 88
theorem sc__law_long : FnScope N__law_long ["_law_text_here"] (defScope st__law_long) := ⟨rfl, rfl, rfl, by decide +kernel, rfl, by decide +kernel, by decide +kernel⟩
theorem go__law_long (C : Fc w K mg) (B : Lams base K mg) {fd : FuncData} (F : FnPa K "_law_long" "_law_long" st__law_long fd) : FnG P w K mg base 1 (He.ga K "_law_long") fd ["_law_text_here"] f__law_long := by
  refine fnG F sc__law_long (fun cdv A outer s H E hgd hr => ?_)
  exact (mss_one (ms_ret (me_bm (fun _ _ _ r v h => isSt_ok r v h) PySem.F.plainAttrs_str PySem.F.slot_str_join PySem.F.type_str_join m_join me_str (ma_cons (me_lc (p := (.nm 1)) (own := [("_law_word", 1)]) rfl sc__law_long.nd (by decide) (mi_list (me_bm (fun _ _ _ r v h => isSt_ok r v h) PySem.F.plainAttrs_str PySem.F.slot_str_split PySem.F.type_str_split m_split (me_var 0) (ma_cons me_str ma_nil))) (blkOk_by (N := N__law_long) (sc := defScope st__law_long) (own := [("_law_word", 1)]) (by decide +kernel)) (fun _ _ _ _ _ => (pg_name (i := 1) sc__law_long.nd rfl (Or.inl rfl))) (fun _ _ _ _ _ => mts_nil) (fun _ _ _ _ _ => (me_op o_mul (me_ix i_seq (me_var 1) me_int (fun _ _ => rfl)) (me_Ty b_int rfl C.n_int boot_int (ma_cons (me_slice s_all (me_var 1) (mo_some me_int) mo_none) ma_nil))))) ma_nil))))
theorem ok__law_long (C : Fc w K mg) (B : Lams base K mg) : FnH P w K mg base 1 "_law_long" ["_law_text_here"] f__law_long := by
  obtain ⟨fd, F⟩ := C.d__law_long
  exact ⟨⟨fd, go__law_long C B F, F.bindsN fun _ _ _ _ _ _ us hl => match us, hl with | [_], _ => rfl⟩, F.kp, C.g__law_long⟩
abbrev N__law_side : List Str := ["_law_row", "_law_found", "_law_here", "_law_there", "_law_bend"]
abbrev st__law_side : Stmt := top 94
theorem sc__law_side : FnScope N__law_side ["_law_row"] (defScope st__law_side) := ⟨rfl, rfl, rfl, by decide +kernel, rfl, by decide +kernel, by decide +kernel⟩
theorem go__law_side (C : Fc w K mg) (B : Lams base K mg) {fd : FuncData} (F : FnPa K "_law_side" "_law_side" st__law_side fd) : FnG P w K mg base 1 (He.ga K "_law_side") fd ["_law_row"] f__law_side := by
  refine fnG F sc__law_side (fun cdv A outer s H E hgd hr => ?_)
  exact (mss_cons (ms_set (i := 1) sc__law_side.nd rfl (Or.inl rfl) (me_ix i_seq (me_var 0) me_int (fun _ _ => rfl)))
    (mss_cons (ms_for (p := (.tp [(.nm 2), (.nm 3)])) PassesOwn.never rfl (mi_zipS (pi_zipS rfl C.n_zip (ma_cons (me_var 0) (ma_cons (me_slice s_all (me_var 0) (mo_some me_int) mo_none) ma_nil)))) (pg_tup rfl (pgs_cons (pg_name (i := 2) sc__law_side.nd rfl (Or.inl rfl)) (pgs_cons (pg_name (i := 3) sc__law_side.nd rfl (Or.inl rfl)) pgs_nil))) (mss_cons (ms_set (i := 4) sc__law_side.nd rfl (Or.inl rfl) (me_op o_mod (me_Ty b_int rfl C.n_int boot_int (ma_cons (me_op o_sub (me_bm (fun _ _ _ r v h => isSt_ok r v h) PySem.F.plainAttrs_str PySem.F.slot_str_index PySem.F.type_str_index m_sindex me_str (ma_cons (me_var 3) ma_nil)) (me_bm (fun _ _ _ r v h => isSt_ok r v h) PySem.F.plainAttrs_str PySem.F.slot_str_index PySem.F.type_str_index m_sindex me_str (ma_cons (me_var 2) ma_nil))) ma_nil)) me_int))
    (mss_one (ms_set (i := 1) sc__law_side.nd rfl (Or.inl rfl) (me_op o_add (me_var 1) (me_ix i_seq (me_lst (ma_cons (me_if (mt_cmp (o_eq (un64 hr)) (me_var 4) me_int (nomark _)) me_str (me_op o_add (me_var 2) (me_var 3))) (ma_cons (me_var 3) ma_nil))) (me_Ty b_int rfl C.n_int boot_int (ma_cons (me_cmp (o_eq (un64 hr)) (me_var 4) me_int (nomark _)) ma_nil)) (fun _ _ => rfl)))))))
    (mss_one (ms_ret (me_op o_add (me_var 1) (me_ix i_seq (me_var 0) (me_un u_neg me_int) (fun _ _ => rfl)))))))
theorem ok__law_side (C : Fc w K mg) (B : Lams base K mg) : FnH P w K mg base 1 "_law_side" ["_law_row"] f__law_side := by
  obtain ⟨fd, F⟩ := C.d__law_side
  exact ⟨⟨fd, go__law_side C B F, F.bindsN fun _ _ _ _ _ _ us hl => match us, hl with | [_], _ => rfl⟩, F.kp, C.g__law_side⟩
abbrev N__law_rim : List Str := ["_law_row", "_law_back", "_law_way", "_law_there"]
abbrev st__law_rim : Stmt := top 95
theorem sc__law_rim : FnScope N__law_rim ["_law_row"] (defScope st__law_rim) := ⟨rfl, rfl, rfl, by decide +kernel, rfl, by decide +kernel, by decide +kernel⟩
theorem go__law_rim (C : Fc w K mg) (B : Lams base K mg) {fd : FuncData} (F : FnPa K "_law_rim" "_law_rim" st__law_rim fd) : FnG P w K mg base 2 (He.ga K "_law_rim") fd ["_law_row"] f__law_rim := by
  have h__law_side := ok__law_side (P := P) (base := base) C B
  refine fnG F sc__law_rim (fun cdv A outer s H E hgd hr => ?_)
  exact (mss_cons (ms_set (i := 1) sc__law_rim.nd rfl (Or.inl rfl) (me_bm (fun _ _ _ r v h => isSt_ok r v h) PySem.F.plainAttrs_str PySem.F.slot_str_join PySem.F.type_str_join m_join me_str (ma_cons (me_lc (p := (.nm 2)) (own := [("_law_way", 2)]) rfl sc__law_rim.nd (by decide) (mi_str (me_revS (me_var 0))) (blkOk_by (N := N__law_rim) (sc := defScope st__law_rim) (own := [("_law_way", 2)]) (by decide +kernel)) (fun _ _ _ _ _ => (pg_name (i := 2) sc__law_rim.nd rfl (Or.inl rfl))) (fun _ _ _ _ _ => mts_nil) (fun _ _ _ _ _ => (me_ix i_seq me_str (me_bm (fun _ _ _ r v h => isSt_ok r v h) PySem.F.plainAttrs_str PySem.F.slot_str_index PySem.F.type_str_index m_sindex me_str (ma_cons (me_var 2) ma_nil)) (fun _ _ => rfl)))) ma_nil)))
    (mss_cons (ms_set (i := 3) sc__law_rim.nd rfl (Or.inl rfl) (me_op o_add (me_callH h__law_side hgd hr (ma_cons (me_var 0) ma_nil)) (me_ix i_seq me_str (me_bm (fun _ _ _ r v h => isSt_ok r v h) PySem.F.plainAttrs_str PySem.F.slot_str_index PySem.F.type_str_index m_sindex me_str (ma_cons (me_ix i_seq (me_var 0) (me_un u_neg me_int) (fun _ _ => rfl)) ma_nil)) (fun _ _ => rfl))))
    (mss_one (ms_ret (me_op o_add (me_op o_add (me_var 3) (me_callH h__law_side hgd hr (ma_cons (me_var 1) ma_nil))) (me_ix i_seq me_str (me_bm (fun _ _ _ r v h => isSt_ok r v h) PySem.F.plainAttrs_str PySem.F.slot_str_index PySem.F.type_str_index m_sindex me_str (ma_cons (me_ix i_seq (me_var 1) (me_un u_neg me_int) (fun _ _ => rfl)) ma_nil)) (fun _ _ => rfl)))))))
theorem ok__law_rim (C : Fc w K mg) (B : Lams base K mg) : FnH P w K mg base 2 "_law_rim" ["_law_row"] f__law_rim := by
  obtain ⟨fd, F⟩ := C.d__law_rim
  exact ⟨⟨fd, go__law_rim C B F, F.bindsN fun _ _ _ _ _ _ us hl => match us, hl with | [_], _ => rfl⟩, F.kp, C.g__law_rim⟩
abbrev N__law_base : List Str := ["_law_reel_here", "_law_way", "_law_wide", "_law_high", "_law_over", "_law_deep"]
abbrev st__law_base : Stmt := top 96
theorem sc__law_base : FnScope N__law_base ["_law_reel_here"] (defScope st__law_base) := ⟨rfl, rfl, rfl, by decide +kernel, rfl, by decide +kernel, by decide +kernel⟩
theorem go__law_base (C : Fc w K mg) (B : Lams base K mg) {fd : FuncData} (F : FnPa K "_law_base" "_law_base" st__law_base fd) : FnG P w K mg base 3 (He.ga K "_law_base") fd ["_law_reel_here"] f__law_base := by
  have h__law_roll := ok__law_roll (P := P) (base := base) C B
  have h__law_long := ok__law_long (P := P) (base := base) C B
  have h__law_rim := ok__law_rim (P := P) (base := base) C B
  refine fnG F sc__law_base (fun cdv A outer s H E hgd hr => ?_)
  exact (mss_cons (ms_set (i := 1) sc__law_base.nd rfl (Or.inl rfl) (me_callH h__law_roll hgd hr (ma_cons (me_var 0) (ma_cons me_int ma_nil))))
    (mss_cons (ms_if (mt_cmp (o_eq (un64 hr)) (me_var 1) me_int (nomark _)) (mss_cons (ms_par (i := 2) (j := 3) rfl sc__law_base.nd rfl rfl (by decide) rfl rfl (ma_cons (me_op o_add me_int (me_callH h__law_roll hgd hr (ma_cons (me_var 0) (ma_cons me_int ma_nil)))) (ma_cons (me_op o_add me_int (me_callH h__law_roll hgd hr (ma_cons (me_var 0) (ma_cons me_int ma_nil)))) ma_nil)) rfl)
    (mss_one (ms_ret (me_op o_add (me_op o_add (me_op o_add (me_op o_mul me_str (me_var 2)) (me_op o_mul me_str (me_var 3))) (me_op o_mul me_str (me_var 2))) (me_op o_mul me_str (me_var 3)))))) mss_nil)
    (mss_cons (ms_if (mt_cmp (o_eq (un64 hr)) (me_var 1) me_int (nomark _)) (mss_one (ms_ret (me_callH h__law_long hgd hr (ma_cons me_str ma_nil)))) mss_nil)
    (mss_cons (ms_par (i := 2) (j := 3) rfl sc__law_base.nd rfl rfl (by decide) rfl rfl (ma_cons (me_op o_add me_int (me_callH h__law_roll hgd hr (ma_cons (me_var 0) (ma_cons me_int ma_nil)))) (ma_cons (me_op o_add me_int (me_callH h__law_roll hgd hr (ma_cons (me_var 0) (ma_cons me_int ma_nil)))) ma_nil)) rfl)
    (mss_cons (ms_par (i := 4) (j := 5) rfl sc__law_base.nd rfl rfl (by decide) rfl rfl (ma_cons (me_op o_add me_int (me_callH h__law_roll hgd hr (ma_cons (me_var 0) (ma_cons (me_op o_sub (me_var 2) me_int) ma_nil)))) (ma_cons (me_op o_add (me_op o_add (me_var 3) me_int) (me_callH h__law_roll hgd hr (ma_cons (me_var 0) (ma_cons me_int ma_nil)))) ma_nil)) rfl)
    (mss_one (ms_ret (me_callH h__law_rim hgd hr (ma_cons (me_op o_add (me_op o_add (me_op o_add (me_op o_mul me_str (me_var 2)) (me_op o_mul me_str (me_var 3))) (me_op o_mul me_str (me_var 4))) (me_op o_mul me_str (me_var 5))) ma_nil)))))))))
theorem ok__law_base (C : Fc w K mg) (B : Lams base K mg) : FnH P w K mg base 3 "_law_base" ["_law_reel_here"] f__law_base := by
  obtain ⟨fd, F⟩ := C.d__law_base
  exact ⟨⟨fd, go__law_base C B F, F.bindsN fun _ _ _ _ _ _ us hl => match us, hl with | [_], _ => rfl⟩, F.kp, C.g__law_base⟩
abbrev N__law_spots : List Str := ["_law_ways", "_law_found", "_law_x", "_law_y", "_law_way"]
abbrev st__law_spots : Stmt := top 90
theorem sc__law_spots : FnScope N__law_spots ["_law_ways"] (defScope st__law_spots) := ⟨rfl, rfl, rfl, by decide +kernel, rfl, by decide +kernel, by decide +kernel⟩
theorem go__law_spots (C : Fc w K mg) (B : Lams base K mg) {fd : FuncData} (F : FnPa K "_law_spots" "_law_spots" st__law_spots fd) : FnG P w K mg base 1 (He.ga K "_law_spots") fd ["_law_ways"] f__law_spots := by
  refine fnG F sc__law_spots (fun cdv A outer s H E hgd hr => ?_)
  exact (mss_cons (ms_par3 (i := 1) (j := 2) (l := 3) rfl sc__law_spots.nd rfl rfl rfl (by decide) (by decide) (by decide) rfl rfl rfl (ma_cons (me_lstO (ma_cons (me_tup (ma_cons me_int (ma_cons me_int ma_nil))) ma_nil)) (ma_cons me_int (ma_cons me_int ma_nil))) rfl)
    (mss_cons (ms_for (p := (.nm 4)) PassesOwn.never rfl (mi_str (me_var 0)) (pg_name (i := 4) sc__law_spots.nd rfl (Or.inl rfl)) (mss_cons (ms_par (i := 2) (j := 3) rfl sc__law_spots.nd rfl rfl (by decide) rfl rfl (ma_cons (me_op o_add (me_var 2) (me_dget2 (un1 hr) (pe_dget2 (un1 hr) (me_disp (l := [((con (.str "e")), (con (.int 1))), ((con (.str "w")), (op1 unNeg (con (.int 1))))]) (mps_cons me_str me_int (mps_cons me_str (me_un u_neg me_int) mps_nil)) rfl rfl (by simp) (by decide)) (me_var 4) me_int ⟨rfl, rfl, rfl, rfl⟩))) (ma_cons (me_op o_add (me_var 3) (me_dget2 (un1 hr) (pe_dget2 (un1 hr) (me_disp (l := [((con (.str "n")), (con (.int 1))), ((con (.str "s")), (op1 unNeg (con (.int 1))))]) (mps_cons me_str me_int (mps_cons me_str (me_un u_neg me_int) mps_nil)) rfl rfl (by simp) (by decide)) (me_var 4) me_int ⟨rfl, rfl, rfl, rfl⟩))) ma_nil)) rfl)
    (mss_one (ms_expr (me_bm (fun _ _ _ r v h => isL_ok r v h) PySem.F.plainAttrs_list PySem.F.slot_list_append PySem.F.type_list_append m_app (me_var 1) (ma_cons (me_tup (ma_cons (me_var 2) (ma_cons (me_var 3) ma_nil))) ma_nil))))))
    (mss_one (ms_ret (me_var 1)))))
theorem ok__law_spots (C : Fc w K mg) (B : Lams base K mg) : FnH P w K mg base 1 "_law_spots" ["_law_ways"] f__law_spots := by
  obtain ⟨fd, F⟩ := C.d__law_spots
  exact ⟨⟨fd, go__law_spots C B F, F.bindsN fun _ _ _ _ _ _ us hl => match us, hl with | [_], _ => rfl⟩, F.kp, C.g__law_spots⟩
abbrev N__law_is_line : List Str := ["_law_ways", "_law_spots_here", "_law_met", "_law_at", "_law_lot", "_law_is_straight"]
abbrev st__law_is_line : Stmt := top 91
theorem sc__law_is_line : FnScope N__law_is_line ["_law_ways"] (defScope st__law_is_line) := ⟨rfl, rfl, rfl, by decide +kernel, rfl, by decide +kernel, by decide +kernel⟩
theorem go__law_is_line (C : Fc w K mg) (B : Lams base K mg) {fd : FuncData} (F : FnPa K "_law_is_line" "_law_is_line" st__law_is_line fd) : FnG P w K mg base 2 (He.ga K "_law_is_line") fd ["_law_ways"] f__law_is_line := by
  have h__law_spots := ok__law_spots (P := P) (base := base) C B
  refine fnG F sc__law_is_line (fun cdv A outer s H E hgd hr => ?_)
  exact (mss_cons (ms_par (i := 1) (j := 2) rfl sc__law_is_line.nd rfl rfl (by decide) rfl rfl (ma_cons (me_callH h__law_spots hgd hr (ma_cons (me_var 0) ma_nil)) (ma_cons me_dnewT ma_nil)) rfl)
    (mss_cons (ms_if (mt_cmp (o_ne (un64 hr)) (me_ix i_seq (me_var 1) (me_un u_neg me_int) (fun _ _ => rfl)) (me_tup (ma_cons me_int (ma_cons me_int ma_nil))) (nomark _)) (mss_one (ms_ret me_bl)) mss_nil)
    (mss_cons (ms_for (p := (.nm 3)) PassesOwn.never rfl (mi_range1 rfl C.n_range (ma_cons (me_B b_len rfl C.n_len boot_len (ma_cons (me_var 0) ma_nil)) ma_nil)) (pg_name (i := 3) sc__law_is_line.nd rfl (Or.inl rfl)) (mss_one (ms_asg (me_op o_add (me_dget2 (un1 hr) (pe_dget2 (un1 hr) (me_var 2) (me_ix i_seq (me_var 1) (me_var 3) (fun _ _ => rfl)) (me_lst ma_nil) ⟨rfl, rfl, rfl, rfl⟩)) (me_lst (ma_cons (me_var 3) ma_nil))) (mg_sub (me_var 2) (me_ix i_seq (me_var 1) (me_var 3) (fun _ _ => rfl)) (st_dict (un1 hr))))))
    (mss_cons (ms_for (p := (.nm 4)) PassesOwn.never rfl (mi_valuesT (me_var 2)) (pg_name (i := 4) sc__law_is_line.nd rfl (Or.inl rfl)) (mss_cons (ms_set (i := 5) sc__law_is_line.nd rfl (Or.inl rfl) (me_B (b_all rfl) rfl C.n_all boot_all (ma_cons (me_lc (p := (.nm 3)) (own := [("_law_at", 3)]) rfl sc__law_is_line.nd (by decide) (mi_list (me_var 4)) (blkOk_by (N := N__law_is_line) (sc := defScope st__law_is_line) (own := [("_law_at", 3)]) (by decide +kernel)) (fun _ _ _ _ _ => (pg_name (i := 3) sc__law_is_line.nd rfl (Or.inl rfl))) (fun _ _ _ _ _ => mts_nil) (fun _ _ _ _ _ => (me_cmp (o_eq (un64 hr)) (me_ix i_seq (me_var 0) (me_op o_sub (me_var 3) me_int) (fun _ _ => rfl)) (me_ix i_seq (me_var 0) (me_var 3) (fun _ _ => rfl)) (nomark _)))) ma_nil)))
    (mss_one (ms_if (PW.pt (mw_or (mt_cmp o_gt (me_B b_len rfl C.n_len boot_len (ma_cons (me_var 4) ma_nil)) me_int (nomark _)) (mw_or1 (PW.pt (mw_and (mt_cmp (o_eq (un64 hr)) (me_B b_len rfl C.n_len boot_len (ma_cons (me_var 4) ma_nil)) me_int (nomark _)) (mw_and1 (mt_not (PW.pt (mw_and (mt_val (me_var 5)) (mw_and1 (mt_cmp (o_ne (un64 hr)) (me_cmp (o_in (un65 hr)) (me_ix i_seq (me_var 0) (me_ix i_seq (me_var 4) me_int (fun _ _ => rfl)) (fun _ _ => rfl)) me_str (by with_unfolding_all rfl)) (me_cmp (o_in (un65 hr)) (me_ix i_seq (me_var 0) (me_ix i_seq (me_var 4) me_int (fun _ _ => rfl)) (fun _ _ => rfl)) me_str (by with_unfolding_all rfl)) (nomark _)))))))))))) (mss_one (ms_ret me_bl)) mss_nil))))
    (mss_one (ms_ret me_bl))))))
theorem ok__law_is_line (C : Fc w K mg) (B : Lams base K mg) : FnH P w K mg base 2 "_law_is_line" ["_law_ways"] f__law_is_line := by
  obtain ⟨fd, F⟩ := C.d__law_is_line
  exact ⟨⟨fd, go__law_is_line C B F, F.bindsN fun _ _ _ _ _ _ us hl => match us, hl with | [_], _ => rfl⟩, F.kp, C.g__law_is_line⟩
abbrev N__law_turned : List Str := ["_law_ways", "_law_way"]
abbrev st__law_turned : Stmt := top 93
theorem sc__law_turned : FnScope N__law_turned ["_law_ways"] (defScope st__law_turned) := ⟨rfl, rfl, rfl, by decide +kernel, rfl, by decide +kernel, by decide +kernel⟩
theorem go__law_turned (C : Fc w K mg) (B : Lams base K mg) {fd : FuncData} (F : FnPa K "_law_turned" "_law_turned" st__law_turned fd) : FnG P w K mg base 1 (He.ga K "_law_turned") fd ["_law_ways"] f__law_turned := by
  refine fnG F sc__law_turned (fun cdv A outer s H E hgd hr => ?_)
  exact (mss_one (ms_ret (me_bm (fun _ _ _ r v h => isSt_ok r v h) PySem.F.plainAttrs_str PySem.F.slot_str_join PySem.F.type_str_join m_join me_str (ma_cons (me_lc (p := (.nm 1)) (own := [("_law_way", 1)]) rfl sc__law_turned.nd (by decide) (mi_str (me_var 0)) (blkOk_by (N := N__law_turned) (sc := defScope st__law_turned) (own := [("_law_way", 1)]) (by decide +kernel)) (fun _ _ _ _ _ => (pg_name (i := 1) sc__law_turned.nd rfl (Or.inl rfl))) (fun _ _ _ _ _ => mts_nil) (fun _ _ _ _ _ => (me_ix i_seq me_str (me_bm (fun _ _ _ r v h => isSt_ok r v h) PySem.F.plainAttrs_str PySem.F.slot_str_index PySem.F.type_str_index m_sindex me_str (ma_cons (me_var 1) ma_nil)) (fun _ _ => rfl)))) ma_nil))))
theorem ok__law_turned (C : Fc w K mg) (B : Lams base K mg) : FnH P w K mg base 1 "_law_turned" ["_law_ways"] f__law_turned := by
  obtain ⟨fd, F⟩ := C.d__law_turned
  exact ⟨⟨fd, go__law_turned C B F, F.bindsN fun _ _ _ _ _ _ us hl => match us, hl with | [_], _ => rfl⟩, F.kp, C.g__law_turned⟩
abbrev N__law_begun : List Str := ["_law_ways", "_law_turn_here", "_law_spots_here", "_law_at"]
abbrev st__law_begun : Stmt := top 92
theorem sc__law_begun : FnScope N__law_begun ["_law_ways", "_law_turn_here"] (defScope st__law_begun) := ⟨rfl, rfl, rfl, by decide +kernel, rfl, by decide +kernel, by decide +kernel⟩
theorem go__law_begun (C : Fc w K mg) (B : Lams base K mg) {fd : FuncData} (F : FnPa K "_law_begun" "_law_begun" st__law_begun fd) : FnG P w K mg base 1 (He.ga K "_law_begun") fd ["_law_ways", "_law_turn_here"] f__law_begun := by
  refine fnG F sc__law_begun (fun cdv A outer s H E hgd hr => ?_)
  exact (mss_cons (ms_setLc (i := 2) (p := (.nm 3)) (own := [("_law_at", 3)]) rfl sc__law_begun.nd (by decide) rfl rfl (sw_true rfl rfl rfl (by decide +kernel)) (mi_range1 rfl C.n_range (ma_cons (me_B b_len rfl C.n_len boot_len (ma_cons (me_var 0) ma_nil)) ma_nil)) (blkOk_by (N := N__law_begun) (sc := defScope st__law_begun) (own := [("_law_at", 3)]) (by decide +kernel)) (fun _ _ _ _ _ => (pg_name (i := 3) sc__law_begun.nd rfl (Or.inl rfl))) (fun _ _ _ _ _ => (mts_one (mt_cmp (o_ne (un64 hr)) (me_ix i_seq (me_var 0) (me_op o_sub (me_var 3) me_int) (fun _ _ => rfl)) (me_ix i_seq (me_var 0) (me_var 3) (fun _ _ => rfl)) (nomark _)))) (fun _ _ _ _ _ => (me_var 3)))
    (mss_cons (ms_set (i := 3) sc__law_begun.nd rfl (Or.inl rfl) (me_ix i_seq (me_var 2) (me_op o_mod (me_Ty b_int rfl C.n_int boot_int (ma_cons (me_var 1) ma_nil)) (me_B b_len rfl C.n_len boot_len (ma_cons (me_var 2) ma_nil))) (fun _ _ => rfl)))
    (mss_one (ms_ret (me_op o_add (me_slice s_all (me_var 0) (mo_some (me_var 3)) mo_none) (me_slice s_all (me_var 0) mo_none (mo_some (me_var 3))))))))
theorem ok__law_begun (C : Fc w K mg) (B : Lams base K mg) : FnH P w K mg base 1 "_law_begun" ["_law_ways", "_law_turn_here"] f__law_begun := by
  obtain ⟨fd, F⟩ := C.d__law_begun
  exact ⟨⟨fd, go__law_begun C B F, F.bindsN fun _ _ _ _ _ _ us hl => match us, hl with | [_, _], _ => rfl⟩, F.kp, C.g__law_begun⟩
abbrev N__law_drawn : List Str := ["_law_reel_here", "_law_most", "_law_ways", "_law_turn_here", "_law_at", "_law_round_it", "_law_later", "_law_way"]
abbrev st__law_drawn : Stmt := top 97
theorem sc__law_drawn : FnScope N__law_drawn ["_law_reel_here", "_law_most"] (defScope st__law_drawn) := ⟨rfl, rfl, rfl, by decide +kernel, rfl, by decide +kernel, by decide +kernel⟩
theorem go__law_drawn (C : Fc w K mg) (B : Lams base K mg) {fd : FuncData} (F : FnPa K "_law_drawn" "_law_drawn" st__law_drawn fd) : FnG P w K mg base 4 (He.ga K "_law_drawn") fd ["_law_reel_here", "_law_most"] f__law_drawn := by
  have h__law_base := ok__law_base (P := P) (base := base) C B
  have h__law_roll := ok__law_roll (P := P) (base := base) C B
  have h__law_is_line := ok__law_is_line (P := P) (base := base) C B
  have h__law_turned := ok__law_turned (P := P) (base := base) C B
  have h__law_begun := ok__law_begun (P := P) (base := base) C B
  refine fnG F sc__law_drawn (fun cdv A outer s H E hgd hr => ?_)
  exact (mss_cons (ms_set (i := 2) sc__law_drawn.nd rfl (Or.inl rfl) (me_callH h__law_base hgd hr (ma_cons (me_var 0) ma_nil)))
    (mss_cons (ms_for (p := (.nm 3)) PassesOwn.never rfl (mi_range1 rfl C.n_range (ma_cons (me_callH h__law_roll hgd hr (ma_cons (me_var 0) (ma_cons (me_var 1) ma_nil))) ma_nil)) (pg_name (i := 3) sc__law_drawn.nd rfl (Or.inl rfl)) (mss_cons (ms_set (i := 4) sc__law_drawn.nd rfl (Or.inl rfl) (me_callH h__law_roll hgd hr (ma_cons (me_var 0) (ma_cons (me_B b_len rfl C.n_len boot_len (ma_cons (me_var 2) ma_nil)) ma_nil))))
    (mss_cons (ms_set (i := 5) sc__law_drawn.nd rfl (Or.inl rfl) (me_dix (un1 hr) (me_disp (l := [((con (.str "e")), (con (.str "sen"))), ((con (.str "n")), (con (.str "enw"))), ((con (.str "w")), (con (.str "nws"))), ((con (.str "s")), (con (.str "wse")))]) (mps_cons me_str me_str (mps_cons me_str me_str (mps_cons me_str me_str (mps_cons me_str me_str mps_nil)))) rfl rfl (by simp) (by decide)) (me_ix i_seq (me_var 2) (me_var 4) (fun _ _ => rfl)) (fun _ _ => rfl)))
    (mss_cons (ms_set (i := 6) sc__law_drawn.nd rfl (Or.inl rfl) (me_op o_add (me_op o_add (me_slice s_all (me_var 2) mo_none (mo_some (me_var 4))) (me_var 5)) (me_slice s_all (me_var 2) (mo_some (me_op o_add (me_var 4) me_int)) mo_none)))
    (mss_one (ms_set (i := 2) sc__law_drawn.nd rfl (Or.inl rfl) (me_if (PW.pt (mw_and (mt_cmp o_lt (me_B b_len rfl C.n_len boot_len (ma_cons (me_var 6) ma_nil)) me_int (nomark _)) (mw_and1 (mt_val (me_callH h__law_is_line hgd hr (ma_cons (me_var 6) ma_nil)))))) (me_var 6) (me_var 2))))))))
    (mss_cons (ms_for (p := (.nm 3)) PassesOwn.never rfl (mi_range1 rfl C.n_range (ma_cons (me_callH h__law_roll hgd hr (ma_cons (me_var 0) (ma_cons me_int ma_nil))) ma_nil)) (pg_name (i := 3) sc__law_drawn.nd rfl (Or.inl rfl)) (mss_one (ms_set (i := 2) sc__law_drawn.nd rfl (Or.inl rfl) (me_callH h__law_turned hgd hr (ma_cons (me_var 2) ma_nil)))))
    (mss_cons (ms_if (mt_cmp (o_eq (un64 hr)) (me_callH h__law_roll hgd hr (ma_cons (me_var 0) (ma_cons me_int ma_nil))) me_int (nomark _)) (mss_one (ms_set (i := 2) sc__law_drawn.nd rfl (Or.inl rfl) (me_bm (fun _ _ _ r v h => isSt_ok r v h) PySem.F.plainAttrs_str PySem.F.slot_str_join PySem.F.type_str_join m_join me_str (ma_cons (me_lc (p := (.nm 7)) (own := [("_law_way", 7)]) rfl sc__law_drawn.nd (by decide) (mi_str (me_revS (me_var 2))) (blkOk_by (N := N__law_drawn) (sc := defScope st__law_drawn) (own := [("_law_way", 7)]) (by decide +kernel)) (fun _ _ _ _ _ => (pg_name (i := 7) sc__law_drawn.nd rfl (Or.inl rfl))) (fun _ _ _ _ _ => mts_nil) (fun _ _ _ _ _ => (me_ix i_seq me_str (me_bm (fun _ _ _ r v h => isSt_ok r v h) PySem.F.plainAttrs_str PySem.F.slot_str_index PySem.F.type_str_index m_sindex me_str (ma_cons (me_var 7) ma_nil)) (fun _ _ => rfl)))) ma_nil)))) mss_nil)
    (mss_one (ms_ret (me_callH h__law_begun hgd hr (ma_cons (me_var 2) (ma_cons (me_callH h__law_roll hgd hr (ma_cons (me_var 0) (ma_cons me_int ma_nil))) ma_nil)))))))))
theorem ok__law_drawn (C : Fc w K mg) (B : Lams base K mg) : FnH P w K mg base 4 "_law_drawn" ["_law_reel_here", "_law_most"] f__law_drawn := by
  obtain ⟨fd, F⟩ := C.d__law_drawn
  exact ⟨⟨fd, go__law_drawn C B F, F.bindsN fun _ _ _ _ _ _ us hl => match us, hl with | [_, _], _ => rfl⟩, F.kp, C.g__law_drawn⟩
abbrev N__law_other : List Str := ["_law_reel_here", "_law_way", "_law_size", "_law_ways", "_law_each", "_law_turn_here"]
abbrev st__law_other : Stmt := top 98
theorem sc__law_other : FnScope N__law_other ["_law_reel_here"] (defScope st__law_other) := ⟨rfl, rfl, rfl, by decide +kernel, rfl, by decide +kernel, by decide +kernel⟩
theorem go__law_other (C : Fc w K mg) (B : Lams base K mg) {fd : FuncData} (F : FnPa K "_law_other" "_law_other" st__law_other fd) : FnG P w K mg base 5 (He.ga K "_law_other") fd ["_law_reel_here"] f__law_other := by
  have h__law_roll := ok__law_roll (P := P) (base := base) C B
  have h__law_drawn := ok__law_drawn (P := P) (base := base) C B
  have h__law_long := ok__law_long (P := P) (base := base) C B
  have h__law_turned := ok__law_turned (P := P) (base := base) C B
  have h__law_begun := ok__law_begun (P := P) (base := base) C B
  refine fnG F sc__law_other (fun cdv A outer s H E hgd hr => ?_)
  exact (mss_cons (ms_par (i := 1) (j := 2) rfl sc__law_other.nd rfl rfl (by decide) rfl rfl (ma_cons (me_callH h__law_roll hgd hr (ma_cons (me_var 0) (ma_cons me_int ma_nil))) (ma_cons (me_op o_add me_int (me_callH h__law_roll hgd hr (ma_cons (me_var 0) (ma_cons me_int ma_nil)))) ma_nil)) rfl)
    (mss_cons (ms_if (mt_cmp (o_eq (un64 hr)) (me_var 1) me_int (nomark _)) (mss_one (ms_ret (me_callH h__law_drawn hgd hr (ma_cons (me_var 0) (ma_cons me_int ma_nil))))) mss_nil)
    (mss_cons (ms_if (mt_cmp (o_eq (un64 hr)) (me_var 1) me_int (nomark _)) (mss_one (ms_set (i := 3) sc__law_other.nd rfl (Or.inl rfl) (me_bm (fun _ _ _ r v h => isSt_ok r v h) PySem.F.plainAttrs_str PySem.F.slot_str_join PySem.F.type_str_join m_join me_str (ma_cons (me_lc (p := (.nm 4)) (own := [("_law_each", 4)]) rfl sc__law_other.nd (by decide) (mi_str (me_revS (me_callH h__law_drawn hgd hr (ma_cons (me_var 0) (ma_cons me_int ma_nil))))) (blkOk_by (N := N__law_other) (sc := defScope st__law_other) (own := [("_law_each", 4)]) (by decide +kernel)) (fun _ _ _ _ _ => (pg_name (i := 4) sc__law_other.nd rfl (Or.inl rfl))) (fun _ _ _ _ _ => mts_nil) (fun _ _ _ _ _ => (me_ix i_seq me_str (me_bm (fun _ _ _ r v h => isSt_ok r v h) PySem.F.plainAttrs_str PySem.F.slot_str_index PySem.F.type_str_index m_sindex me_str (ma_cons (me_var 4) ma_nil)) (fun _ _ => rfl)))) ma_nil)))) (mss_one (ms_if (mt_cmp (o_eq (un64 hr)) (me_var 1) me_int (nomark _)) (mss_one (ms_set (i := 3) sc__law_other.nd rfl (Or.inl rfl) (me_op o_add (me_op o_add (me_op o_add (me_op o_add (me_op o_add (me_op o_mul me_str (me_op o_add (me_var 2) me_int)) (me_op o_mul me_str (me_var 2))) me_str) (me_op o_mul me_str (me_op o_add (me_var 2) me_int))) (me_op o_mul me_str (me_var 2))) me_str))) (mss_one (ms_set (i := 3) sc__law_other.nd rfl (Or.inl rfl) (me_callH h__law_long hgd hr (ma_cons me_str ma_nil)))))))
    (mss_cons (ms_for (p := (.nm 5)) PassesOwn.never rfl (mi_range1 rfl C.n_range (ma_cons (me_callH h__law_roll hgd hr (ma_cons (me_var 0) (ma_cons me_int ma_nil))) ma_nil)) (pg_name (i := 5) sc__law_other.nd rfl (Or.inl rfl)) (mss_one (ms_set (i := 3) sc__law_other.nd rfl (Or.inl rfl) (me_callH h__law_turned hgd hr (ma_cons (me_var 3) ma_nil)))))
    (mss_one (ms_ret (me_callH h__law_begun hgd hr (ma_cons (me_var 3) (ma_cons (me_callH h__law_roll hgd hr (ma_cons (me_var 0) (ma_cons me_int ma_nil))) ma_nil)))))))))
theorem ok__law_other (C : Fc w K mg) (B : Lams base K mg) : FnH P w K mg base 5 "_law_other" ["_law_reel_here"] f__law_other := by
  obtain ⟨fd, F⟩ := C.d__law_other
  exact ⟨⟨fd, go__law_other C B F, F.bindsN fun _ _ _ _ _ _ us hl => match us, hl with | [_], _ => rfl⟩, F.kp, C.g__law_other⟩
abbrev N__law_text : List Str := ["_law_ways", "_law_found", "_law_way"]
abbrev st__law_text : Stmt := top 89
theorem sc__law_text : FnScope N__law_text ["_law_ways"] (defScope st__law_text) := ⟨rfl, rfl, rfl, by decide +kernel, rfl, by decide +kernel, by decide +kernel⟩
theorem go__law_text (C : Fc w K mg) (B : Lams base K mg) {fd : FuncData} (F : FnPa K "_law_text" "_law_text" st__law_text fd) : FnG P w K mg base 1 (He.ga K "_law_text") fd ["_law_ways"] f__law_text := by
  refine fnG F sc__law_text (fun cdv A outer s H E hgd hr => ?_)
  exact (mss_cons (ms_set (i := 1) sc__law_text.nd rfl (Or.inl rfl) (me_lstO ma_nil))
    (mss_cons (ms_for (p := (.nm 2)) PassesOwn.never rfl (mi_str (me_var 0)) (pg_name (i := 2) sc__law_text.nd rfl (Or.inl rfl)) (mss_one (ms_if (PW.pt (mw_and (mt_cmp (o_ne (un64 hr)) (me_var 1) (me_lst ma_nil) (nomark _)) (mw_and1 (mt_cmp (o_eq (un64 hr)) (me_ix i_seq (me_ix i_seq (me_var 1) (me_un u_neg me_int) (fun _ _ => rfl)) me_int (fun _ _ => rfl)) (me_var 2) (nomark _))))) (mss_one (ms_asg (me_op o_add (me_var 2) (me_Ty b_str rfl C.n_str boot_str (ma_cons (me_op o_add (me_Ty b_int rfl C.n_int boot_int (ma_cons (me_slice s_all (me_ix i_seq (me_var 1) (me_un u_neg me_int) (fun _ _ => rfl)) (mo_some me_int) mo_none) ma_nil)) me_int) ma_nil))) (mg_sub (me_var 1) (me_un u_neg me_int) st_list))) (mss_one (ms_expr (me_bm (fun _ _ _ r v h => isL_ok r v h) PySem.F.plainAttrs_list PySem.F.slot_list_append PySem.F.type_list_append m_app (me_var 1) (ma_cons (me_op o_add (me_var 2) me_str) ma_nil)))))))
    (mss_one (ms_ret (me_bm (fun _ _ _ r v h => isSt_ok r v h) PySem.F.plainAttrs_str PySem.F.slot_str_join PySem.F.type_str_join m_join me_str (ma_cons (me_var 1) ma_nil))))))
theorem ok__law_text (C : Fc w K mg) (B : Lams base K mg) : FnH P w K mg base 1 "_law_text" ["_law_ways"] f__law_text := by
  obtain ⟨fd, F⟩ := C.d__law_text
  exact ⟨⟨fd, go__law_text C B F, F.bindsN fun _ _ _ _ _ _ us hl => match us, hl with | [_], _ => rfl⟩, F.kp, C.g__law_text⟩
abbrev N_stretch_of : List Str := ["word", "sign"]
abbrev st_stretch_of : Stmt := top 15
theorem sc_stretch_of : FnScope N_stretch_of ["word"] (defScope st_stretch_of) := ⟨rfl, rfl, rfl, by decide +kernel, rfl, by decide +kernel, by decide +kernel⟩
theorem go_stretch_of (C : Fc w K mg) (B : Lams base K mg) {fd : FuncData} (F : FnPa K "stretch_of" "stretch_of" st_stretch_of fd) : FnG P w K mg base 1 (He.ga K "stretch_of") fd ["word"] f_stretch_of := by
  refine fnG F sc_stretch_of (fun cdv A outer s H E hgd hr => ?_)
  exact (mss_cons (ms_if (PW.pt (mw_or (mt_not (mt_val (me_B b_isi rfl C.n_isinstance boot_isinstance (ma_cons (me_var 0) (ma_cons (me_con (t := tC (.ty "str")) (pe_bltn (v := .ty "str") rfl C.n_str boot_str rfl) fun _ => rfl) ma_nil))))) (mw_or (mt_cmp o_lt (me_B b_len rfl C.n_len boot_len (ma_cons (me_var 0) ma_nil)) me_int (nomark _)) (mw_or (mt_cmp (o_notin (un65 hr)) (me_ix i_seq (me_var 0) me_int (fun _ _ => rfl)) (me_gstr rfl C.c_WAYS) (by with_unfolding_all rfl)) (mw_or1 (mt_cmp (o_eq (un64 hr)) (me_ix i_seq (me_var 0) me_int (fun _ _ => rfl)) me_str (nomark _))))))) (mss_one (ms_ret me_non)) mss_nil)
    (mss_cons (ms_if (mt_not (mt_val (me_B (b_all rfl) rfl C.n_all boot_all (ma_cons (me_lc (p := (.nm 1)) (own := [("sign", 1)]) rfl sc_stretch_of.nd (by decide) (mi_str (me_slice s_all (me_var 0) (mo_some me_int) mo_none)) (blkOk_by (N := N_stretch_of) (sc := defScope st_stretch_of) (own := [("sign", 1)]) (by decide +kernel)) (fun _ _ _ _ _ => (pg_name (i := 1) sc_stretch_of.nd rfl (Or.inl rfl))) (fun _ _ _ _ _ => mts_nil) (fun _ _ _ _ _ => (me_cmp (o_in (un65 hr)) (me_var 1) me_str (by with_unfolding_all rfl)))) ma_nil)))) (mss_one (ms_ret me_non)) mss_nil)
    (mss_one (ms_ret (me_tup (ma_cons (me_ix i_seq (me_var 0) me_int (fun _ _ => rfl)) (ma_cons (me_Ty b_int rfl C.n_int boot_int (ma_cons (me_slice s_all (me_var 0) (mo_some me_int) mo_none) ma_nil)) ma_nil)))))))
theorem ok_stretch_of (C : Fc w K mg) (B : Lams base K mg) : FnH P w K mg base 1 "stretch_of" ["word"] f_stretch_of := by
  obtain ⟨fd, F⟩ := C.d_stretch_of
  exact ⟨⟨fd, go_stretch_of C B F, F.bindsN fun _ _ _ _ _ _ us hl => match us, hl with | [_], _ => rfl⟩, F.kp, C.g_stretch_of⟩
abbrev N_stretches_of : List Str := ["text", "found", "word"]
abbrev st_stretches_of : Stmt := top 18
theorem sc_stretches_of : FnScope N_stretches_of ["text"] (defScope st_stretches_of) := ⟨rfl, rfl, rfl, by decide +kernel, rfl, by decide +kernel, by decide +kernel⟩
theorem go_stretches_of (C : Fc w K mg) (B : Lams base K mg) {fd : FuncData} (F : FnPa K "stretches_of" "stretches_of" st_stretches_of fd) : FnG P w K mg base 2 (He.ga K "stretches_of") fd ["text"] f_stretches_of := by
  have h_stretch_of := ok_stretch_of (P := P) (base := base) C B
  refine fnG F sc_stretches_of (fun cdv A outer s H E hgd hr => ?_)
  exact (mss_cons (ms_if (mt_not (mt_val (me_B b_isi rfl C.n_isinstance boot_isinstance (ma_cons (me_var 0) (ma_cons (me_con (t := tC (.ty "str")) (pe_bltn (v := .ty "str") rfl C.n_str boot_str rfl) fun _ => rfl) ma_nil))))) (mss_one (ms_ret me_non)) mss_nil)
    (mss_cons (ms_setLc (i := 1) (p := (.nm 2)) (own := [("word", 2)]) rfl sc_stretches_of.nd (by decide) rfl rfl (sw_true rfl rfl rfl (by decide +kernel)) (mi_list (me_bm (fun _ _ _ r v h => isSt_ok r v h) PySem.F.plainAttrs_str PySem.F.slot_str_split PySem.F.type_str_split m_split (me_var 0) (ma_cons me_str ma_nil))) (blkOk_by (N := N_stretches_of) (sc := defScope st_stretches_of) (own := [("word", 2)]) (by decide +kernel)) (fun _ _ _ _ _ => (pg_name (i := 2) sc_stretches_of.nd rfl (Or.inl rfl))) (fun _ _ _ _ _ => mts_nil) (fun _ _ _ _ _ => (me_callH h_stretch_of hgd hr (ma_cons (me_var 2) ma_nil))))
    (mss_one (ms_ret (me_if (mt_cmp (o_in (un65 hr)) me_non (me_var 1) (by with_unfolding_all rfl)) me_non (me_var 1))))))
theorem ok_stretches_of (C : Fc w K mg) (B : Lams base K mg) : FnH P w K mg base 2 "stretches_of" ["text"] f_stretches_of := by
  obtain ⟨fd, F⟩ := C.d_stretches_of
  exact ⟨⟨fd, go_stretches_of C B F, F.bindsN fun _ _ _ _ _ _ us hl => match us, hl with | [_], _ => rfl⟩, F.kp, C.g_stretches_of⟩
abbrev N_is_level : List Str := ["way"]
abbrev st_is_level : Stmt := top 16
theorem sc_is_level : FnScope N_is_level ["way"] (defScope st_is_level) := ⟨rfl, rfl, rfl, by decide +kernel, rfl, by decide +kernel, by decide +kernel⟩
theorem go_is_level (C : Fc w K mg) (B : Lams base K mg) {fd : FuncData} (F : FnPa K "is_level" "is_level" st_is_level fd) : FnG P w K mg base 1 (He.ga K "is_level") fd ["way"] f_is_level := by
  refine fnG F sc_is_level (fun cdv A outer s H E hgd hr => ?_)
  exact (mss_one (ms_ret (me_cmp (o_in (un65 hr)) (me_var 0) me_str (by with_unfolding_all rfl))))
theorem ok_is_level (C : Fc w K mg) (B : Lams base K mg) : FnH P w K mg base 1 "is_level" ["way"] f_is_level := by
  obtain ⟨fd, F⟩ := C.d_is_level
  exact ⟨⟨fd, go_is_level C B F, F.bindsN fun _ _ _ _ _ _ us hl => match us, hl with | [_], _ => rfl⟩, F.kp, C.g_is_level⟩
abbrev N_steps_of : List Str := ["text", "found", "way", "number", "k"]
abbrev st_steps_of : Stmt := top 19
theorem sc_steps_of : FnScope N_steps_of ["text"] (defScope st_steps_of) := ⟨rfl, rfl, rfl, by decide +kernel, rfl, by decide +kernel, by decide +kernel⟩
theorem go_steps_of (C : Fc w K mg) (B : Lams base K mg) {fd : FuncData} (F : FnPa K "steps_of" "steps_of" st_steps_of fd) : FnG P w K mg base 3 (He.ga K "steps_of") fd ["text"] f_steps_of := by
  have h_stretches_of := ok_stretches_of (P := P) (base := base) C B
  have h_is_level := ok_is_level (P := P) (base := base) C B
  refine fnG F sc_steps_of (fun cdv A outer s H E hgd hr => ?_)
  exact (mss_cons (ms_set (i := 1) sc_steps_of.nd rfl (Or.inr rfl) (me_callH h_stretches_of hgd hr (ma_cons (me_var 0) ma_nil)))
    (mss_cons (ms_if (PW.pt (mw_or (mt_cmp o_isN (me_var 1) me_non (nomark _)) (mw_or (mt_cmp o_lt (me_B b_len rfl C.n_len boot_len (ma_cons (me_var 1) ma_nil)) me_int (nomark _)) (mw_or1 (mt_cmp o_gt (me_B (b_sum rfl) rfl C.n_sum boot_sum (ma_cons (me_lc (p := (.tp [(.nm 2), (.nm 3)])) (own := [("way", 2), ("number", 3)]) rfl sc_steps_of.nd (by decide) (mi_list (me_var 1)) (blkOk_by (N := N_steps_of) (sc := defScope st_steps_of) (own := [("way", 2), ("number", 3)]) (by decide +kernel)) (fun _ _ _ _ _ => (pg_tup rfl (pgs_cons (pg_name (i := 2) sc_steps_of.nd rfl (Or.inl rfl)) (pgs_cons (pg_name (i := 3) sc_steps_of.nd rfl (Or.inl rfl)) pgs_nil)))) (fun _ _ _ _ _ => mts_nil) (fun _ _ _ _ _ => (me_var 3))) ma_nil)) (me_gint rfl C.c_MOST_STEPS) (nomark _)))))) (mss_one (ms_ret me_non)) mss_nil)
    (mss_cons (ms_if (mt_val (me_B (b_any rfl) rfl C.n_any boot_any (ma_cons (me_lc (p := (.tp [(.nm 4), (.tp [(.nm 2), (.nm 3)])])) (own := [("k", 4), ("way", 2), ("number", 3)]) rfl sc_steps_of.nd (by decide) (mi_enum rfl C.n_enumerate (ma_cons (me_var 1) ma_nil)) (blkOk_by (N := N_steps_of) (sc := defScope st_steps_of) (own := [("k", 4), ("way", 2), ("number", 3)]) (by decide +kernel)) (fun _ _ _ _ _ => (pg_tup rfl (pgs_cons (pg_name (i := 4) sc_steps_of.nd rfl (Or.inl rfl)) (pgs_cons (pg_tup rfl (pgs_cons (pg_name (i := 2) sc_steps_of.nd rfl (Or.inl rfl)) (pgs_cons (pg_name (i := 3) sc_steps_of.nd rfl (Or.inl rfl)) pgs_nil))) pgs_nil)))) (fun _ _ _ _ _ => mts_nil) (fun _ _ _ _ _ => (me_cmp (o_eq (un64 hr)) (me_callH h_is_level hgd hr (ma_cons (me_ix i_seq (me_ix i_seq (me_var 1) (me_op o_sub (me_var 4) me_int) (fun _ _ => rfl)) me_int (fun _ _ => rfl)) ma_nil)) (me_callH h_is_level hgd hr (ma_cons (me_var 2) ma_nil)) (nomark _)))) ma_nil))) (mss_one (ms_ret me_non)) mss_nil)
    (mss_one (ms_ret (me_bm (fun _ _ _ r v h => isSt_ok r v h) PySem.F.plainAttrs_str PySem.F.slot_str_join PySem.F.type_str_join m_join me_str (ma_cons (me_lc (p := (.tp [(.nm 2), (.nm 3)])) (own := [("way", 2), ("number", 3)]) rfl sc_steps_of.nd (by decide) (mi_list (me_var 1)) (blkOk_by (N := N_steps_of) (sc := defScope st_steps_of) (own := [("way", 2), ("number", 3)]) (by decide +kernel)) (fun _ _ _ _ _ => (pg_tup rfl (pgs_cons (pg_name (i := 2) sc_steps_of.nd rfl (Or.inl rfl)) (pgs_cons (pg_name (i := 3) sc_steps_of.nd rfl (Or.inl rfl)) pgs_nil)))) (fun _ _ _ _ _ => mts_nil) (fun _ _ _ _ _ => (me_op o_mul (me_var 2) (me_var 3)))) ma_nil)))))))
theorem ok_steps_of (C : Fc w K mg) (B : Lams base K mg) : FnH P w K mg base 3 "steps_of" ["text"] f_steps_of := by
  obtain ⟨fd, F⟩ := C.d_steps_of
  exact ⟨⟨fd, go_steps_of C B F, F.bindsN fun _ _ _ _ _ _ us hl => match us, hl with | [_], _ => rfl⟩, F.kp, C.g_steps_of⟩
abbrev N_places_of_names : List Str := ["steps", "found", "way", "shift"]
abbrev st_places_of_names : Stmt := top 20
theorem sc_places_of_names : FnScope N_places_of_names ["steps"] (defScope st_places_of_names) := ⟨rfl, rfl, rfl, by decide +kernel, rfl, by decide +kernel, by decide +kernel⟩
theorem go_places_of_names (C : Fc w K mg) (B : Lams base K mg) {fd : FuncData} (F : FnPa K "places_of_names" "places_of" st_places_of_names fd) : FnG P w K mg base 1 (He.ga K "places_of_names") fd ["steps"] f_places_of_names := by
  refine fnG F sc_places_of_names (fun cdv A outer s H E hgd hr => ?_)
  exact (mss_cons (ms_set (i := 1) sc_places_of_names.nd rfl (Or.inl rfl) (me_lstO (ma_cons (me_tup (ma_cons me_int (ma_cons me_int ma_nil))) ma_nil)))
    (mss_cons (ms_for (p := (.nm 2)) PassesOwn.never rfl (mi_str (me_var 0)) (pg_name (i := 2) sc_places_of_names.nd rfl (Or.inl rfl)) (mss_cons (ms_set (i := 3) sc_places_of_names.nd rfl (Or.inl rfl) (me_kix C.t_SHIFTS rfl C.g_SHIFTS (me_var 2) (fun _ _ => rfl)))
    (mss_one (ms_expr (me_bm (fun _ _ _ r v h => isL_ok r v h) PySem.F.plainAttrs_list PySem.F.slot_list_append PySem.F.type_list_append m_app (me_var 1) (ma_cons (me_tup (ma_cons (me_op o_add (me_ix i_seq (me_ix i_seq (me_var 1) (me_un u_neg me_int) (fun _ _ => rfl)) me_int (fun _ _ => rfl)) (me_ix i_seq (me_var 3) me_int (fun _ _ => rfl))) (ma_cons (me_op o_add (me_ix i_seq (me_ix i_seq (me_var 1) (me_un u_neg me_int) (fun _ _ => rfl)) me_int (fun _ _ => rfl)) (me_ix i_seq (me_var 3) me_int (fun _ _ => rfl))) ma_nil))) ma_nil))))))
    (mss_one (ms_ret (me_var 1)))))
theorem ok_places_of_names (C : Fc w K mg) (B : Lams base K mg) : FnH P w K mg base 1 "places_of_names" ["steps"] f_places_of_names := by
  obtain ⟨fd, F⟩ := C.d_places_of_names
  exact ⟨⟨fd, go_places_of_names C B F, F.bindsN fun _ _ _ _ _ _ us hl => match us, hl with | [_], _ => rfl⟩, F.kp, C.g_places_of_names⟩
abbrev N_is_plain : List Str := ["steps", "first", "second"]
abbrev st_is_plain : Stmt := top 23
theorem sc_is_plain : FnScope N_is_plain ["steps", "first", "second"] (defScope st_is_plain) := ⟨rfl, rfl, rfl, by decide +kernel, rfl, by decide +kernel, by decide +kernel⟩
theorem go_is_plain (C : Fc w K mg) (B : Lams base K mg) {fd : FuncData} (F : FnPa K "is_plain" "is_plain" st_is_plain fd) : FnG P w K mg base 2 (He.ga K "is_plain") fd ["steps", "first", "second"] f_is_plain := by
  have h_is_level := ok_is_level (P := P) (base := base) C B
  refine fnG F sc_is_plain (fun cdv A outer s H E hgd hr => ?_)
  exact (mss_cons (ms_if (PW.pt (mw_or (mt_cmp (o_ne (un64 hr)) (me_ix i_seq (me_var 0) (me_op o_sub (me_var 1) me_int) (fun _ _ => rfl)) (me_ix i_seq (me_var 0) (me_var 1) (fun _ _ => rfl)) (nomark _)) (mw_or1 (mt_cmp (o_ne (un64 hr)) (me_ix i_seq (me_var 0) (me_op o_sub (me_var 2) me_int) (fun _ _ => rfl)) (me_ix i_seq (me_var 0) (me_var 2) (fun _ _ => rfl)) (nomark _))))) (mss_one (ms_ret me_bl)) mss_nil)
    (mss_one (ms_ret (me_cmp (o_ne (un64 hr)) (me_callH h_is_level hgd hr (ma_cons (me_ix i_seq (me_var 0) (me_var 1) (fun _ _ => rfl)) ma_nil)) (me_callH h_is_level hgd hr (ma_cons (me_ix i_seq (me_var 0) (me_var 2) (fun _ _ => rfl)) ma_nil)) (nomark _)))))
theorem ok_is_plain (C : Fc w K mg) (B : Lams base K mg) : FnH P w K mg base 2 "is_plain" ["steps", "first", "second"] f_is_plain := by
  obtain ⟨fd, F⟩ := C.d_is_plain
  exact ⟨⟨fd, go_is_plain C B F, F.bindsN fun _ _ _ _ _ _ us hl => match us, hl with | [_, _, _], _ => rfl⟩, F.kp, C.g_is_plain⟩
abbrev N_first_touch : List Str := ["steps", "seen", "k", "place", "before"]
abbrev st_first_touch : Stmt := top 24
theorem sc_first_touch : FnScope N_first_touch ["steps"] (defScope st_first_touch) := ⟨rfl, rfl, rfl, by decide +kernel, rfl, by decide +kernel, by decide +kernel⟩
theorem go_first_touch (C : Fc w K mg) (B : Lams base K mg) {fd : FuncData} (F : FnPa K "first_touch" "first_touch" st_first_touch fd) : FnG P w K mg base 3 (He.ga K "first_touch") fd ["steps"] f_first_touch := by
  have h_places_of_names := ok_places_of_names (P := P) (base := base) C B
  have h_is_plain := ok_is_plain (P := P) (base := base) C B
  refine fnG F sc_first_touch (fun cdv A outer s H E hgd hr => ?_)
  exact (mss_cons (ms_set (i := 1) sc_first_touch.nd rfl (Or.inl rfl) me_dnewT)
    (mss_cons (ms_for (p := (.tp [(.nm 2), (.nm 3)])) PassesOwn.never rfl (mi_enum rfl C.n_enumerate (ma_cons (me_slice s_all (me_callH h_places_of_names hgd hr (ma_cons (me_var 0) ma_nil)) mo_none (mo_some (me_un u_neg me_int))) ma_nil)) (pg_tup rfl (pgs_cons (pg_name (i := 2) sc_first_touch.nd rfl (Or.inl rfl)) (pgs_cons (pg_name (i := 3) sc_first_touch.nd rfl (Or.inl rfl)) pgs_nil))) (mss_cons (ms_set (i := 4) sc_first_touch.nd rfl (Or.inl rfl) (me_setd (un1 hr) (pe_setdT (un1 hr) (me_var 1) (me_var 3) (me_lstO ma_nil) ⟨rfl, rfl, rfl, rfl⟩)))
    (mss_cons (ms_if (PW.pt (mw_or (mt_cmp o_gt (me_B b_len rfl C.n_len boot_len (ma_cons (me_var 4) ma_nil)) me_int (nomark _)) (mw_or1 (PW.pt (mw_and (mt_cmp (o_eq (un64 hr)) (me_B b_len rfl C.n_len boot_len (ma_cons (me_var 4) ma_nil)) me_int (nomark _)) (mw_and1 (mt_not (mt_val (me_callH h_is_plain hgd hr (ma_cons (me_var 0) (ma_cons (me_ix i_seq (me_var 4) me_int (fun _ _ => rfl)) (ma_cons (me_var 2) ma_nil)))))))))))) (mss_one (ms_ret (me_var 3))) mss_nil)
    (mss_one (ms_expr (me_bm (fun _ _ _ r v h => isL_ok r v h) PySem.F.plainAttrs_list PySem.F.slot_list_append PySem.F.type_list_append m_app (me_var 4) (ma_cons (me_var 2) ma_nil)))))))
    (mss_one (ms_ret me_non))))
theorem ok_first_touch (C : Fc w K mg) (B : Lams base K mg) : FnH P w K mg base 3 "first_touch" ["steps"] f_first_touch := by
  obtain ⟨fd, F⟩ := C.d_first_touch
  exact ⟨⟨fd, go_first_touch C B F, F.bindsN fun _ _ _ _ _ _ us hl => match us, hl with | [_], _ => rfl⟩, F.kp, C.g_first_touch⟩
abbrev N_turned_left : List Str := ["way"]
abbrev st_turned_left : Stmt := top 17
theorem sc_turned_left : FnScope N_turned_left ["way"] (defScope st_turned_left) := ⟨rfl, rfl, rfl, by decide +kernel, rfl, by decide +kernel, by decide +kernel⟩
theorem go_turned_left (C : Fc w K mg) (B : Lams base K mg) {fd : FuncData} (F : FnPa K "turned_left" "turned_left" st_turned_left fd) : FnG P w K mg base 1 (He.ga K "turned_left") fd ["way"] f_turned_left := by
  refine fnG F sc_turned_left (fun cdv A outer s H E hgd hr => ?_)
  exact (mss_one (ms_ret (me_ix i_seq (me_gstr rfl C.c_WAYS) (me_op o_mod (me_op o_add (me_bm (fun _ _ _ r v h => isSt_ok r v h) PySem.F.plainAttrs_str PySem.F.slot_str_index PySem.F.type_str_index m_sindex (me_gstr rfl C.c_WAYS) (ma_cons (me_var 0) ma_nil)) me_int) me_int) (fun _ _ => rfl))))
theorem ok_turned_left (C : Fc w K mg) (B : Lams base K mg) : FnH P w K mg base 1 "turned_left" ["way"] f_turned_left := by
  obtain ⟨fd, F⟩ := C.d_turned_left
  exact ⟨⟨fd, go_turned_left C B F, F.bindsN fun _ _ _ _ _ _ us hl => match us, hl with | [_], _ => rfl⟩, F.kp, C.g_turned_left⟩
abbrev N_quarters_of : List Str := ["steps", "found", "k", "way"]
abbrev st_quarters_of : Stmt := top 22
theorem sc_quarters_of : FnScope N_quarters_of ["steps"] (defScope st_quarters_of) := ⟨rfl, rfl, rfl, by decide +kernel, rfl, by decide +kernel, by decide +kernel⟩
theorem go_quarters_of (C : Fc w K mg) (B : Lams base K mg) {fd : FuncData} (F : FnPa K "quarters_of" "quarters_of" st_quarters_of fd) : FnG P w K mg base 2 (He.ga K "quarters_of") fd ["steps"] f_quarters_of := by
  have h_turned_left := ok_turned_left (P := P) (base := base) C B
  refine fnG F sc_quarters_of (fun cdv A outer s H E hgd hr => ?_)
  exact (mss_cons (ms_set (i := 1) sc_quarters_of.nd rfl (Or.inl rfl) me_int)
    (mss_cons (ms_for (p := (.tp [(.nm 2), (.nm 3)])) PassesOwn.never rfl (mi_enumS rfl C.n_enumerate (ma_cons (me_var 0) ma_nil)) (pg_tup rfl (pgs_cons (pg_name (i := 2) sc_quarters_of.nd rfl (Or.inl rfl)) (pgs_cons (pg_name (i := 3) sc_quarters_of.nd rfl (Or.inl rfl)) pgs_nil))) (mss_one (ms_if (mt_cmp (o_ne (un64 hr)) (me_ix i_seq (me_var 0) (me_op o_sub (me_var 2) me_int) (fun _ _ => rfl)) (me_var 3) (nomark _)) (mss_one (ms_set (i := 1) sc_quarters_of.nd rfl (Or.inl rfl) (me_op o_add (me_var 1) (me_if (mt_cmp (o_eq (un64 hr)) (me_callH h_turned_left hgd hr (ma_cons (me_ix i_seq (me_var 0) (me_op o_sub (me_var 2) me_int) (fun _ _ => rfl)) ma_nil)) (me_var 3) (nomark _)) me_int (me_un u_neg me_int))))) mss_nil)))
    (mss_one (ms_ret (me_var 1)))))
theorem ok_quarters_of (C : Fc w K mg) (B : Lams base K mg) : FnH P w K mg base 2 "quarters_of" ["steps"] f_quarters_of := by
  obtain ⟨fd, F⟩ := C.d_quarters_of
  exact ⟨⟨fd, go_quarters_of C B F, F.bindsN fun _ _ _ _ _ _ us hl => match us, hl with | [_], _ => rfl⟩, F.kp, C.g_quarters_of⟩
abbrev N_Line___init__ : List Str := ["self", "text", "ways", "spots", "touch"]
abbrev st_Line___init__ : Stmt := (clsBody (top 26)).getD 0 (.Pass ⟨0, 0, 0, 0⟩)
theorem sc_Line___init__ : FnScope N_Line___init__ ["self", "text"] (defScope st_Line___init__) := ⟨rfl, rfl, rfl, by decide +kernel, rfl, by decide +kernel, by decide +kernel⟩
theorem go_Line___init__ (C : Fc w K mg) (B : Lams base K mg) {fd : FuncData} (F : FnM K "Line" "__init__" "Line.__init__" st_Line___init__ fd) : FnG P w K mg base 4 (He.ma K (He.ga K "Line") "__init__") fd ["self", "text"] f_Line___init__ := by
  have h_steps_of := ok_steps_of (P := P) (base := base) C B
  have h_places_of_names := ok_places_of_names (P := P) (base := base) C B
  have h_first_touch := ok_first_touch (P := P) (base := base) C B
  have h_quarters_of := ok_quarters_of (P := P) (base := base) C B
  refine fnG F sc_Line___init__ (fun cdv A outer s H E hgd hr => ?_)
  exact (mss_cons (ms_set (i := 2) sc_Line___init__.nd rfl (Or.inl rfl) (me_callH h_steps_of hgd hr (ma_cons (me_var 1) ma_nil)))
    (mss_cons (ms_if (mt_cmp o_isN (me_var 2) me_non (nomark _)) mss_never mss_nil)
    (mss_cons (ms_set (i := 3) sc_Line___init__.nd rfl (Or.inl rfl) (me_callH h_places_of_names hgd hr (ma_cons (me_var 2) ma_nil)))
    (mss_cons (ms_if (mt_cmp (o_ne (un64 hr)) (me_ix i_seq (me_var 3) (me_un u_neg me_int) (fun _ _ => rfl)) (me_tup (ma_cons me_int (ma_cons me_int ma_nil))) (nomark _)) mss_never mss_nil)
    (mss_cons (ms_set (i := 4) sc_Line___init__.nd rfl (Or.inl rfl) (me_callH h_first_touch hgd hr (ma_cons (me_var 2) ma_nil)))
    (mss_cons (ms_if (mt_cmp o_notN (me_var 4) me_non (nomark _)) mss_never mss_nil)
    (mss_cons (ms_asg (me_tup (ma_cons (me_var 1) (ma_cons (me_var 2) (ma_cons (me_slice s_all (me_var 3) mo_none (mo_some (me_un u_neg me_int))) ma_nil)))) (mg_tup rfl (mgs_cons (mg_fld C.cls_Line C.na_Line_written (me_var 0)) (mgs_cons (mg_fld C.cls_Line C.na_Line_ways (me_var 0)) (mgs_cons (mg_fld C.cls_Line C.na_Line_spots (me_var 0)) mgs_nil)))))
    (mss_one (ms_asg (me_op o_fdiv (me_callH h_quarters_of hgd hr (ma_cons (me_var 2) ma_nil)) me_int) (mg_fld C.cls_Line C.na_Line_rounds (me_var 0)))))))))))
theorem ok_Line___init__ (C : Fc w K mg) (B : Lams base K mg) : MkH P w K mg base 4 "Line" ["self", "text"] f_Line___init__ := by
  obtain ⟨fd, F⟩ := C.d_Line___init__
  exact ⟨⟨fd, go_Line___init__ C B F, F.bindsN fun _ _ _ _ _ _ us hl => match us, hl with | [_, _], _ => rfl⟩, C.mk_Line, C.g_Line⟩
abbrev N_check_line : List Str := ["line"]
abbrev st_check_line : Stmt := top 27
theorem sc_check_line : FnScope N_check_line ["line"] (defScope st_check_line) := ⟨rfl, rfl, rfl, by decide +kernel, rfl, by decide +kernel, by decide +kernel⟩
theorem go_check_line (C : Fc w K mg) (B : Lams base K mg) {fd : FuncData} (F : FnPa K "check_line" "check_line" st_check_line fd) : FnG P w K mg base 1 (He.ga K "check_line") fd ["line"] f_check_line := by
  refine fnG F sc_check_line (fun cdv A outer s H E hgd hr => ?_)
  exact (mss_one (ms_if (mt_not (mt_val (me_B (b_isC C.is_Line) rfl C.n_isinstance boot_isinstance (ma_cons (me_var 0) (ma_cons (me_cls rfl C.g_Line) ma_nil))))) mss_never mss_nil))
theorem ok_check_line (C : Fc w K mg) (B : Lams base K mg) : FnH P w K mg base 1 "check_line" ["line"] f_check_line := by
  obtain ⟨fd, F⟩ := C.d_check_line
  exact ⟨⟨fd, go_check_line C B F, F.bindsN fun _ _ _ _ _ _ us hl => match us, hl with | [_], _ => rfl⟩, F.kp, C.g_check_line⟩
abbrev N_Line_text : List Str := ["self"]
abbrev st_Line_text : Stmt := (clsBody (top 26)).getD 1 (.Pass ⟨0, 0, 0, 0⟩)
theorem sc_Line_text : FnScope N_Line_text ["self"] (defScope st_Line_text) := ⟨rfl, rfl, rfl, by decide +kernel, rfl, by decide +kernel, by decide +kernel⟩
theorem go_Line_text (C : Fc w K mg) (B : Lams base K mg) {fd : FuncData} (F : FnR K "Line" "text" "Line.text" st_Line_text fd) : FnG P w K mg base 1 (prG K "Line" "text") fd ["self"] f_Line_text := by
  refine fnG F sc_Line_text (fun cdv A outer s H E hgd hr => ?_)
  exact (mss_one (ms_ret (me_fld C.cls_Line C.na_Line_written (me_var 0))))
theorem ok_Line_text (C : Fc w K mg) (B : Lams base K mg) : PrH P w K mg base 1 "Line" "text" "self" f_Line_text := by
  obtain ⟨fd, F⟩ := C.d_Line_text
  exact ⟨⟨fd, go_Line_text C B F, F.bindsN fun _ _ _ _ _ _ us hl => match us, hl with | [_], _ => rfl⟩, C.cls_Line, C.pr_Line_text⟩
abbrev N_Line_turn : List Str := ["self"]
abbrev st_Line_turn : Stmt := (clsBody (top 26)).getD 5 (.Pass ⟨0, 0, 0, 0⟩)
theorem sc_Line_turn : FnScope N_Line_turn ["self"] (defScope st_Line_turn) := ⟨rfl, rfl, rfl, by decide +kernel, rfl, by decide +kernel, by decide +kernel⟩
theorem go_Line_turn (C : Fc w K mg) (B : Lams base K mg) {fd : FuncData} (F : FnR K "Line" "turn" "Line.turn" st_Line_turn fd) : FnG P w K mg base 1 (prG K "Line" "turn") fd ["self"] f_Line_turn := by
  refine fnG F sc_Line_turn (fun cdv A outer s H E hgd hr => ?_)
  exact (mss_one (ms_ret (me_fld C.cls_Line C.na_Line_rounds (me_var 0))))
theorem ok_Line_turn (C : Fc w K mg) (B : Lams base K mg) : PrH P w K mg base 1 "Line" "turn" "self" f_Line_turn := by
  obtain ⟨fd, F⟩ := C.d_Line_turn
  exact ⟨⟨fd, go_Line_turn C B F, F.bindsN fun _ _ _ _ _ _ us hl => match us, hl with | [_], _ => rfl⟩, C.cls_Line, C.pr_Line_turn⟩
abbrev N_certify_turn : List Str := ["line"]
abbrev st_certify_turn : Stmt := top 35
theorem sc_certify_turn : FnScope N_certify_turn ["line"] (defScope st_certify_turn) := ⟨rfl, rfl, rfl, by decide +kernel, rfl, by decide +kernel, by decide +kernel⟩
theorem go_certify_turn (C : Fc w K mg) (B : Lams base K mg) {fd : FuncData} (F : FnPa K "certify_turn" "certify_turn" st_certify_turn fd) : FnG P w K mg base 3 (He.ga K "certify_turn") fd ["line"] f_certify_turn := by
  have h_check_line := ok_check_line (P := P) (base := base) C B
  have h_Line_turn := ok_Line_turn (P := P) (base := base) C B
  have h_Line_text := ok_Line_text (P := P) (base := base) C B
  refine fnG F sc_certify_turn (fun cdv A outer s H E hgd hr => ?_)
  exact (mss_cons (ms_expr (me_callH h_check_line hgd hr (ma_cons (me_var 0) ma_nil)))
    (mss_one (ms_ret (me_tup (ma_cons (me_tup (ma_cons me_str (ma_cons (me_propH h_Line_text hgd hr (me_var 0)) (ma_cons (me_propH h_Line_turn hgd hr (me_var 0)) ma_nil)))) (ma_cons me_non ma_nil))))))
theorem ok_certify_turn (C : Fc w K mg) (B : Lams base K mg) : FnH P w K mg base 3 "certify_turn" ["line"] f_certify_turn := by
  obtain ⟨fd, F⟩ := C.d_certify_turn
  exact ⟨⟨fd, go_certify_turn C B F, F.bindsN fun _ _ _ _ _ _ us hl => match us, hl with | [_], _ => rfl⟩, F.kp, C.g_certify_turn⟩
theorem kw_certify_turn_0 (C : Fc w K mg) (B : Lams base K mg) : FnKw P w K mg base 3 "certify_turn" ["line"] ["line"] [0] f_certify_turn := by
  obtain ⟨fd, F⟩ := C.d_certify_turn
  exact ⟨⟨fd, go_certify_turn C B F, kwBinds F fun _ _ _ _ _ _ us hl => match us, hl with | [_], _ => rfl⟩, F.kp, C.g_certify_turn⟩
abbrev N__law_turn : List Str := ["_law_ways", "_law_bends", "_law_at"]
abbrev st__law_turn : Stmt := top 99
theorem sc__law_turn : FnScope N__law_turn ["_law_ways"] (defScope st__law_turn) := ⟨rfl, rfl, rfl, by decide +kernel, rfl, by decide +kernel, by decide +kernel⟩
theorem go__law_turn (C : Fc w K mg) (B : Lams base K mg) {fd : FuncData} (F : FnPa K "_law_turn" "_law_turn" st__law_turn fd) : FnG P w K mg base 1 (He.ga K "_law_turn") fd ["_law_ways"] f__law_turn := by
  refine fnG F sc__law_turn (fun cdv A outer s H E hgd hr => ?_)
  exact (mss_cons (ms_setLc (i := 1) (p := (.nm 2)) (own := [("_law_at", 2)]) rfl sc__law_turn.nd (by decide) rfl rfl (sw_true rfl rfl rfl (by decide +kernel)) (mi_range1 rfl C.n_range (ma_cons (me_B b_len rfl C.n_len boot_len (ma_cons (me_var 0) ma_nil)) ma_nil)) (blkOk_by (N := N__law_turn) (sc := defScope st__law_turn) (own := [("_law_at", 2)]) (by decide +kernel)) (fun _ _ _ _ _ => (pg_name (i := 2) sc__law_turn.nd rfl (Or.inl rfl))) (fun _ _ _ _ _ => mts_nil) (fun _ _ _ _ _ => (me_op o_mod (me_Ty b_int rfl C.n_int boot_int (ma_cons (me_op o_sub (me_bm (fun _ _ _ r v h => isSt_ok r v h) PySem.F.plainAttrs_str PySem.F.slot_str_index PySem.F.type_str_index m_sindex me_str (ma_cons (me_ix i_seq (me_var 0) (me_var 2) (fun _ _ => rfl)) ma_nil)) (me_bm (fun _ _ _ r v h => isSt_ok r v h) PySem.F.plainAttrs_str PySem.F.slot_str_index PySem.F.type_str_index m_sindex me_str (ma_cons (me_ix i_seq (me_var 0) (me_op o_sub (me_var 2) me_int) (fun _ _ => rfl)) ma_nil))) ma_nil)) me_int)))
    (mss_one (ms_ret (me_op o_fdiv (me_op o_sub (me_bm (fun _ _ _ r v h => isL_ok r v h) PySem.F.plainAttrs_list PySem.F.slot_list_count PySem.F.type_list_count m_lcount (me_var 1) (ma_cons me_int ma_nil)) (me_bm (fun _ _ _ r v h => isL_ok r v h) PySem.F.plainAttrs_list PySem.F.slot_list_count PySem.F.type_list_count m_lcount (me_var 1) (ma_cons me_int ma_nil))) me_int))))
theorem ok__law_turn (C : Fc w K mg) (B : Lams base K mg) : FnH P w K mg base 1 "_law_turn" ["_law_ways"] f__law_turn := by
  obtain ⟨fd, F⟩ := C.d__law_turn
  exact ⟨⟨fd, go__law_turn C B F, F.bindsN fun _ _ _ _ _ _ us hl => match us, hl with | [_], _ => rfl⟩, F.kp, C.g__law_turn⟩
abbrev N_long_in : List Str := ["word", "figures", "sign"]
abbrev st_long_in : Stmt := top 47
theorem sc_long_in : FnScope N_long_in ["word"] (defScope st_long_in) := ⟨rfl, rfl, rfl, by decide +kernel, rfl, by decide +kernel, by decide +kernel⟩
theorem go_long_in (C : Fc w K mg) (B : Lams base K mg) {fd : FuncData} (F : FnPa K "long_in" "long_in" st_long_in fd) : FnG P w K mg base 1 (He.ga K "long_in") fd ["word"] f_long_in := by
  refine fnG F sc_long_in (fun cdv A outer s H E hgd hr => ?_)
  exact (mss_cons (ms_set (i := 1) sc_long_in.nd rfl (Or.inl rfl) (me_slice s_all (me_var 0) (mo_some me_int) mo_none))
    (mss_cons (ms_if (PW.pt (mw_or (mt_cmp (o_notin (un65 hr)) (me_slice s_all (me_var 0) mo_none (mo_some me_int)) (me_tup (ma_cons me_str (ma_cons me_str (ma_cons me_str (ma_cons me_str ma_nil))))) (by with_unfolding_all rfl)) (mw_or (mt_not (mt_chain o_lt o_le me_int (me_B b_len rfl C.n_len boot_len (ma_cons (me_var 1) ma_nil)) (me_gint rfl C.c_MOST_FIGURES))) (mw_or1 (mt_cmp (o_eq (un64 hr)) (me_ix i_seq (me_var 1) me_int (fun _ _ => rfl)) me_str (nomark _)))))) (mss_one (ms_ret me_int)) mss_nil)
    (mss_one (ms_ret (me_if (mt_val (me_B (b_all rfl) rfl C.n_all boot_all (ma_cons (me_lc (p := (.nm 2)) (own := [("sign", 2)]) rfl sc_long_in.nd (by decide) (mi_str (me_var 1)) (blkOk_by (N := N_long_in) (sc := defScope st_long_in) (own := [("sign", 2)]) (by decide +kernel)) (fun _ _ _ _ _ => (pg_name (i := 2) sc_long_in.nd rfl (Or.inl rfl))) (fun _ _ _ _ _ => mts_nil) (fun _ _ _ _ _ => (me_cmp (o_in (un65 hr)) (me_var 2) (me_gstr rfl C.c_DIGITS) (by with_unfolding_all rfl)))) ma_nil))) (me_Ty b_int rfl C.n_int boot_int (ma_cons (me_var 1) ma_nil)) me_int)))))
theorem ok_long_in (C : Fc w K mg) (B : Lams base K mg) : FnH P w K mg base 1 "long_in" ["word"] f_long_in := by
  obtain ⟨fd, F⟩ := C.d_long_in
  exact ⟨⟨fd, go_long_in C B F, F.bindsN fun _ _ _ _ _ _ us hl => match us, hl with | [_], _ => rfl⟩, F.kp, C.g_long_in⟩
abbrev N_steps_in : List Str := ["text", "most", "words", "word", "levels", "at", "steps"]
abbrev st_steps_in : Stmt := top 48
theorem sc_steps_in : FnScope N_steps_in ["text", "most"] (defScope st_steps_in) := ⟨rfl, rfl, rfl, by decide +kernel, rfl, by decide +kernel, by decide +kernel⟩
theorem go_steps_in (C : Fc w K mg) (B : Lams base K mg) {fd : FuncData} (F : FnPa K "steps_in" "steps_in" st_steps_in fd) : FnG P w K mg base 2 (He.ga K "steps_in") fd ["text", "most"] f_steps_in := by
  have h_long_in := ok_long_in (P := P) (base := base) C B
  refine fnG F sc_steps_in (fun cdv A outer s H E hgd hr => ?_)
  exact (mss_cons (ms_if (mt_not (mt_val (me_B b_isi rfl C.n_isinstance boot_isinstance (ma_cons (me_var 0) (ma_cons (me_con (t := tC (.ty "str")) (pe_bltn (v := .ty "str") rfl C.n_str boot_str rfl) fun _ => rfl) ma_nil))))) (mss_one (ms_ret me_str)) mss_nil)
    (mss_cons (ms_set (i := 2) sc_steps_in.nd rfl (Or.inl rfl) (me_bm (fun _ _ _ r v h => isSt_ok r v h) PySem.F.plainAttrs_str PySem.F.slot_str_split PySem.F.type_str_split m_split (me_var 0) (ma_cons me_str ma_nil)))
    (mss_cons (ms_if (PW.pt (mw_or (mt_cmp o_lt (me_B b_len rfl C.n_len boot_len (ma_cons (me_var 2) ma_nil)) (me_gint rfl C.c_FEWEST_STRETCHES) (nomark _)) (mw_or1 (mt_not (mt_val (me_B (b_all rfl) rfl C.n_all boot_all (ma_cons (me_lc (p := (.nm 3)) (own := [("word", 3)]) rfl sc_steps_in.nd (by decide) (mi_list (me_var 2)) (blkOk_by (N := N_steps_in) (sc := defScope st_steps_in) (own := [("word", 3)]) (by decide +kernel)) (fun _ _ _ _ _ => (pg_name (i := 3) sc_steps_in.nd rfl (Or.inl rfl))) (fun _ _ _ _ _ => mts_nil) (fun _ _ _ _ _ => (me_cmp o_gt (me_callH h_long_in hgd hr (ma_cons (me_var 3) ma_nil)) me_int (nomark _)))) ma_nil))))))) (mss_one (ms_ret me_str)) mss_nil)
    (mss_cons (ms_set (i := 4) sc_steps_in.nd rfl (Or.inr rfl) (me_lc (p := (.nm 3)) (own := [("word", 3)]) rfl sc_steps_in.nd (by decide) (mi_list (me_var 2)) (blkOk_by (N := N_steps_in) (sc := defScope st_steps_in) (own := [("word", 3)]) (by decide +kernel)) (fun _ _ _ _ _ => (pg_name (i := 3) sc_steps_in.nd rfl (Or.inl rfl))) (fun _ _ _ _ _ => mts_nil) (fun _ _ _ _ _ => (me_cmp (o_in (un65 hr)) (me_ix i_seq (me_var 3) me_int (fun _ _ => rfl)) (me_gstr rfl C.c_LEVEL) (by with_unfolding_all rfl)))))
    (mss_cons (ms_if (mt_val (me_B (b_any rfl) rfl C.n_any boot_any (ma_cons (me_lc (p := (.nm 5)) (own := [("at", 5)]) rfl sc_steps_in.nd (by decide) (mi_range1 rfl C.n_range (ma_cons (me_B b_len rfl C.n_len boot_len (ma_cons (me_var 4) ma_nil)) ma_nil)) (blkOk_by (N := N_steps_in) (sc := defScope st_steps_in) (own := [("at", 5)]) (by decide +kernel)) (fun _ _ _ _ _ => (pg_name (i := 5) sc_steps_in.nd rfl (Or.inl rfl))) (fun _ _ _ _ _ => mts_nil) (fun _ _ _ _ _ => (me_cmp (o_eq (un64 hr)) (me_ix i_seq (me_var 4) (me_op o_sub (me_var 5) me_int) (fun _ _ => rfl)) (me_ix i_seq (me_var 4) (me_var 5) (fun _ _ => rfl)) (nomark _)))) ma_nil))) (mss_one (ms_ret me_str)) mss_nil)
    (mss_cons (ms_set (i := 6) sc_steps_in.nd rfl (Or.inl rfl) (me_bm (fun _ _ _ r v h => isSt_ok r v h) PySem.F.plainAttrs_str PySem.F.slot_str_join PySem.F.type_str_join m_join me_str (ma_cons (me_lc (p := (.nm 3)) (own := [("word", 3)]) rfl sc_steps_in.nd (by decide) (mi_list (me_var 2)) (blkOk_by (N := N_steps_in) (sc := defScope st_steps_in) (own := [("word", 3)]) (by decide +kernel)) (fun _ _ _ _ _ => (pg_name (i := 3) sc_steps_in.nd rfl (Or.inl rfl))) (fun _ _ _ _ _ => mts_nil) (fun _ _ _ _ _ => (me_op o_mul (me_ix i_seq (me_var 3) me_int (fun _ _ => rfl)) (me_callH h_long_in hgd hr (ma_cons (me_var 3) ma_nil))))) ma_nil)))
    (mss_one (ms_ret (me_if (mt_cmp o_le (me_B b_len rfl C.n_len boot_len (ma_cons (me_var 6) ma_nil)) (me_var 1) (nomark _)) (me_var 6) me_str)))))))))
theorem ok_steps_in (C : Fc w K mg) (B : Lams base K mg) : FnH P w K mg base 2 "steps_in" ["text", "most"] f_steps_in := by
  obtain ⟨fd, F⟩ := C.d_steps_in
  exact ⟨⟨fd, go_steps_in C B F, F.bindsN fun _ _ _ _ _ _ us hl => match us, hl with | [_, _], _ => rfl⟩, F.kp, C.g_steps_in⟩
abbrev N_places_of : List Str := ["steps", "found", "letter", "x", "y"]
abbrev st_places_of : Stmt := top 49
theorem sc_places_of : FnScope N_places_of ["steps"] (defScope st_places_of) := ⟨rfl, rfl, rfl, by decide +kernel, rfl, by decide +kernel, by decide +kernel⟩
theorem go_places_of (C : Fc w K mg) (B : Lams base K mg) {fd : FuncData} (F : FnPa K "places_of_checklines" "places_of" st_places_of fd) : FnG P w K mg base 1 (He.ga K "places_of_checklines") fd ["steps"] f_places_of := by
  refine fnG F sc_places_of (fun cdv A outer s H E hgd hr => ?_)
  exact (mss_cons (ms_set (i := 1) sc_places_of.nd rfl (Or.inl rfl) (me_lstO (ma_cons (me_tup (ma_cons me_int (ma_cons me_int ma_nil))) ma_nil)))
    (mss_cons (ms_for (p := (.nm 2)) PassesOwn.never rfl (mi_str (me_var 0)) (pg_name (i := 2) sc_places_of.nd rfl (Or.inl rfl)) (mss_cons (ms_asg (me_ix i_seq (me_var 1) (me_un u_neg me_int) (fun _ _ => rfl)) (mg_tup rfl (mgs_cons (mg_name (i := 3) sc_places_of.nd rfl (Or.inl rfl)) (mgs_cons (mg_name (i := 4) sc_places_of.nd rfl (Or.inl rfl)) mgs_nil))))
    (mss_one (ms_expr (me_bm (fun _ _ _ r v h => isL_ok r v h) PySem.F.plainAttrs_list PySem.F.slot_list_append PySem.F.type_list_append m_app (me_var 1) (ma_cons (me_tup (ma_cons (me_op o_add (me_var 3) (me_ix i_seq (me_kix C.t_MOVES rfl C.g_MOVES (me_var 2) (fun _ _ => rfl)) me_int (fun _ _ => rfl))) (ma_cons (me_op o_add (me_var 4) (me_ix i_seq (me_kix C.t_MOVES rfl C.g_MOVES (me_var 2) (fun _ _ => rfl)) me_int (fun _ _ => rfl))) ma_nil))) ma_nil))))))
    (mss_one (ms_ret (me_var 1)))))
theorem ok_places_of (C : Fc w K mg) (B : Lams base K mg) : FnH P w K mg base 1 "places_of_checklines" ["steps"] f_places_of := by
  obtain ⟨fd, F⟩ := C.d_places_of
  exact ⟨⟨fd, go_places_of C B F, F.bindsN fun _ _ _ _ _ _ us hl => match us, hl with | [_], _ => rfl⟩, F.kp, C.g_places_of⟩
abbrev N_is_straight : List Str := ["steps", "at"]
abbrev st_is_straight : Stmt := top 51
theorem sc_is_straight : FnScope N_is_straight ["steps", "at"] (defScope st_is_straight) := ⟨rfl, rfl, rfl, by decide +kernel, rfl, by decide +kernel, by decide +kernel⟩
theorem go_is_straight (C : Fc w K mg) (B : Lams base K mg) {fd : FuncData} (F : FnPa K "is_straight" "is_straight" st_is_straight fd) : FnG P w K mg base 1 (He.ga K "is_straight") fd ["steps", "at"] f_is_straight := by
  refine fnG F sc_is_straight (fun cdv A outer s H E hgd hr => ?_)
  exact (mss_one (ms_ret (me_cmp (o_eq (un64 hr)) (me_ix i_seq (me_var 0) (me_op o_sub (me_var 1) me_int) (fun _ _ => rfl)) (me_ix i_seq (me_var 0) (me_var 1) (fun _ _ => rfl)) (nomark _))))
theorem ok_is_straight (C : Fc w K mg) (B : Lams base K mg) : FnH P w K mg base 1 "is_straight" ["steps", "at"] f_is_straight := by
  obtain ⟨fd, F⟩ := C.d_is_straight
  exact ⟨⟨fd, go_is_straight C B F, F.bindsN fun _ _ _ _ _ _ us hl => match us, hl with | [_, _], _ => rfl⟩, F.kp, C.g_is_straight⟩
abbrev N_is_line : List Str := ["steps", "places", "met", "at", "place", "spots", "one", "other"]
abbrev st_is_line : Stmt := top 52
theorem sc_is_line : FnScope N_is_line ["steps"] (defScope st_is_line) := ⟨rfl, rfl, rfl, by decide +kernel, rfl, by decide +kernel, by decide +kernel⟩
theorem go_is_line (C : Fc w K mg) (B : Lams base K mg) {fd : FuncData} (F : FnPa K "is_line" "is_line" st_is_line fd) : FnG P w K mg base 2 (He.ga K "is_line") fd ["steps"] f_is_line := by
  have h_places_of := ok_places_of (P := P) (base := base) C B
  have h_is_straight := ok_is_straight (P := P) (base := base) C B
  refine fnG F sc_is_line (fun cdv A outer s H E hgd hr => ?_)
  exact (mss_cons (ms_par (i := 1) (j := 2) rfl sc_is_line.nd rfl rfl (by decide) rfl rfl (ma_cons (me_callH h_places_of hgd hr (ma_cons (me_var 0) ma_nil)) (ma_cons me_dnewT ma_nil)) rfl)
    (mss_cons (ms_if (mt_cmp (o_ne (un64 hr)) (me_ix i_seq (me_var 1) (me_un u_neg me_int) (fun _ _ => rfl)) (me_tup (ma_cons me_int (ma_cons me_int ma_nil))) (nomark _)) (mss_one (ms_ret me_bl)) mss_nil)
    (mss_cons (ms_for (p := (.tp [(.nm 3), (.nm 4)])) PassesOwn.never rfl (mi_enum rfl C.n_enumerate (ma_cons (me_slice s_all (me_var 1) mo_none (mo_some (me_un u_neg me_int))) ma_nil)) (pg_tup rfl (pgs_cons (pg_name (i := 3) sc_is_line.nd rfl (Or.inl rfl)) (pgs_cons (pg_name (i := 4) sc_is_line.nd rfl (Or.inl rfl)) pgs_nil))) (mss_one (ms_expr (me_bm (fun _ _ _ r v h => isL_ok r v h) PySem.F.plainAttrs_list PySem.F.slot_list_append PySem.F.type_list_append m_app (me_setd (un1 hr) (pe_setdT (un1 hr) (me_var 2) (me_var 4) (me_lstO ma_nil) ⟨rfl, rfl, rfl, rfl⟩)) (ma_cons (me_var 3) ma_nil)))))
    (mss_cons (ms_for (p := (.nm 5)) PassesOwn.never rfl (mi_valuesT (me_var 2)) (pg_name (i := 5) sc_is_line.nd rfl (Or.inl rfl)) (mss_cons (ms_if (mt_cmp o_gt (me_B b_len rfl C.n_len boot_len (ma_cons (me_var 5) ma_nil)) me_int (nomark _)) (mss_one (ms_ret me_bl)) mss_nil)
    (mss_one (ms_if (mt_cmp (o_eq (un64 hr)) (me_B b_len rfl C.n_len boot_len (ma_cons (me_var 5) ma_nil)) me_int (nomark _)) (mss_cons (ms_asg (me_var 5) (mg_unl rfl (mgs_cons (mg_name (i := 6) sc_is_line.nd rfl (Or.inl rfl)) (mgs_cons (mg_name (i := 7) sc_is_line.nd rfl (Or.inl rfl)) mgs_nil))))
    (mss_cons (ms_if (PW.pt (mw_or (mt_not (mt_val (me_callH h_is_straight hgd hr (ma_cons (me_var 0) (ma_cons (me_var 6) ma_nil))))) (mw_or1 (mt_not (mt_val (me_callH h_is_straight hgd hr (ma_cons (me_var 0) (ma_cons (me_var 7) ma_nil)))))))) (mss_one (ms_ret me_bl)) mss_nil)
    (mss_one (ms_if (mt_cmp (o_eq (un64 hr)) (me_cmp (o_in (un65 hr)) (me_ix i_seq (me_var 0) (me_var 6) (fun _ _ => rfl)) (me_gstr rfl C.c_LEVEL) (by with_unfolding_all rfl)) (me_cmp (o_in (un65 hr)) (me_ix i_seq (me_var 0) (me_var 7) (fun _ _ => rfl)) (me_gstr rfl C.c_LEVEL) (by with_unfolding_all rfl)) (nomark _)) (mss_one (ms_ret me_bl)) mss_nil)))) mss_nil))))
    (mss_one (ms_ret me_bl))))))
theorem ok_is_line (C : Fc w K mg) (B : Lams base K mg) : FnH P w K mg base 2 "is_line" ["steps"] f_is_line := by
  obtain ⟨fd, F⟩ := C.d_is_line
  exact ⟨⟨fd, go_is_line C B F, F.bindsN fun _ _ _ _ _ _ us hl => match us, hl with | [_], _ => rfl⟩, F.kp, C.g_is_line⟩
abbrev N_is_whole : List Str := ["value"]
abbrev st_is_whole : Stmt := top 45
theorem sc_is_whole : FnScope N_is_whole ["value"] (defScope st_is_whole) := ⟨rfl, rfl, rfl, by decide +kernel, rfl, by decide +kernel, by decide +kernel⟩
theorem go_is_whole (C : Fc w K mg) (B : Lams base K mg) {fd : FuncData} (F : FnPa K "is_whole" "is_whole" st_is_whole fd) : FnG P w K mg base 1 (He.ga K "is_whole") fd ["value"] f_is_whole := by
  refine fnG F sc_is_whole (fun cdv A outer s H E hgd hr => ?_)
  exact (mss_one (ms_ret (me_and (me_B b_isi rfl C.n_isinstance boot_isinstance (ma_cons (me_var 0) (ma_cons (me_con (t := tC (.ty "int")) (pe_bltn (v := .ty "int") rfl C.n_int boot_int rfl) fun _ => rfl) ma_nil))) (me_one (me_not (me_B b_isi rfl C.n_isinstance boot_isinstance (ma_cons (me_var 0) (ma_cons (me_con (t := tC (.ty "bool")) (pe_bltn (v := .ty "bool") rfl C.n_bool boot_bool rfl) fun _ => rfl) ma_nil))))))))
theorem ok_is_whole (C : Fc w K mg) (B : Lams base K mg) : FnH P w K mg base 1 "is_whole" ["value"] f_is_whole := by
  obtain ⟨fd, F⟩ := C.d_is_whole
  exact ⟨⟨fd, go_is_whole C B F, F.bindsN fun _ _ _ _ _ _ us hl => match us, hl with | [_], _ => rfl⟩, F.kp, C.g_is_whole⟩
abbrev N_turn_of : List Str := ["steps", "quarters", "at", "around"]
abbrev st_turn_of : Stmt := top 53
theorem sc_turn_of : FnScope N_turn_of ["steps"] (defScope st_turn_of) := ⟨rfl, rfl, rfl, by decide +kernel, rfl, by decide +kernel, by decide +kernel⟩
theorem go_turn_of (C : Fc w K mg) (B : Lams base K mg) {fd : FuncData} (F : FnPa K "turn_of" "turn_of" st_turn_of fd) : FnG P w K mg base 1 (He.ga K "turn_of") fd ["steps"] f_turn_of := by
  refine fnG F sc_turn_of (fun cdv A outer s H E hgd hr => ?_)
  exact (mss_cons (ms_set (i := 1) sc_turn_of.nd rfl (Or.inl rfl) me_int)
    (mss_cons (ms_for (p := (.nm 2)) PassesOwn.never rfl (mi_range1 rfl C.n_range (ma_cons (me_B b_len rfl C.n_len boot_len (ma_cons (me_var 0) ma_nil)) ma_nil)) (pg_name (i := 2) sc_turn_of.nd rfl (Or.inl rfl)) (mss_cons (ms_set (i := 3) sc_turn_of.nd rfl (Or.inl rfl) (me_op o_mod (me_Ty b_int rfl C.n_int boot_int (ma_cons (me_op o_sub (me_bm (fun _ _ _ r v h => isSt_ok r v h) PySem.F.plainAttrs_str PySem.F.slot_str_index PySem.F.type_str_index m_sindex (me_gstr rfl C.c_AROUND) (ma_cons (me_ix i_seq (me_var 0) (me_var 2) (fun _ _ => rfl)) ma_nil)) (me_bm (fun _ _ _ r v h => isSt_ok r v h) PySem.F.plainAttrs_str PySem.F.slot_str_index PySem.F.type_str_index m_sindex (me_gstr rfl C.c_AROUND) (ma_cons (me_ix i_seq (me_var 0) (me_op o_sub (me_var 2) me_int) (fun _ _ => rfl)) ma_nil))) ma_nil)) me_int))
    (mss_one (ms_aug (i := 1) sc_turn_of.nd rfl (Or.inl rfl) (me_dget2 (un1 hr) (pe_dget2 (un1 hr) (me_disp (l := [((con (.int 0)), (con (.int 0))), ((con (.int 1)), (con (.int 1))), ((con (.int 3)), (op1 unNeg (con (.int 1))))]) (mps_cons me_int me_int (mps_cons me_int me_int (mps_cons me_int (me_un u_neg me_int) mps_nil))) rfl rfl (by simp) (by decide)) (me_var 3) me_int ⟨rfl, rfl, rfl, rfl⟩)) o_iadd))))
    (mss_one (ms_ret (me_op o_fdiv (me_var 1) me_int)))))
theorem ok_turn_of (C : Fc w K mg) (B : Lams base K mg) : FnH P w K mg base 1 "turn_of" ["steps"] f_turn_of := by
  obtain ⟨fd, F⟩ := C.d_turn_of
  exact ⟨⟨fd, go_turn_of C B F, F.bindsN fun _ _ _ _ _ _ us hl => match us, hl with | [_], _ => rfl⟩, F.kp, C.g_turn_of⟩
abbrev N_rows_of : List Str := ["steps", "places", "found", "at", "letter"]
abbrev st_rows_of : Stmt := top 54
theorem sc_rows_of : FnScope N_rows_of ["steps"] (defScope st_rows_of) := ⟨rfl, rfl, rfl, by decide +kernel, rfl, by decide +kernel, by decide +kernel⟩
theorem go_rows_of (C : Fc w K mg) (B : Lams base K mg) {fd : FuncData} (F : FnPa K "rows_of" "rows_of" st_rows_of fd) : FnG P w K mg base 2 (He.ga K "rows_of") fd ["steps"] f_rows_of := by
  have h_places_of := ok_places_of (P := P) (base := base) C B
  refine fnG F sc_rows_of (fun cdv A outer s H E hgd hr => ?_)
  exact (mss_cons (ms_par (i := 1) (j := 2) rfl sc_rows_of.nd rfl rfl (by decide) rfl rfl (ma_cons (me_callH h_places_of hgd hr (ma_cons (me_var 0) ma_nil)) (ma_cons me_dnewK ma_nil)) rfl)
    (mss_cons (ms_for (p := (.tp [(.nm 3), (.nm 4)])) PassesOwn.never rfl (mi_enumS rfl C.n_enumerate (ma_cons (me_var 0) ma_nil)) (pg_tup rfl (pgs_cons (pg_name (i := 3) sc_rows_of.nd rfl (Or.inl rfl)) (pgs_cons (pg_name (i := 4) sc_rows_of.nd rfl (Or.inl rfl)) pgs_nil))) (mss_one (ms_if (mt_cmp (o_in (un65 hr)) (me_var 4) (me_gstr rfl C.c_UPRIGHT) (by with_unfolding_all rfl)) (mss_one (ms_asg (me_tup (ma_cons (me_ix i_seq (me_ix i_seq (me_var 1) (me_var 3) (fun _ _ => rfl)) me_int (fun _ _ => rfl)) (ma_cons (me_B (b_min2 rfl) rfl C.n_min boot_min (ma_cons (me_ix i_seq (me_ix i_seq (me_var 1) (me_var 3) (fun _ _ => rfl)) me_int (fun _ _ => rfl)) (ma_cons (me_ix i_seq (me_ix i_seq (me_var 1) (me_op o_add (me_var 3) me_int) (fun _ _ => rfl)) me_int (fun _ _ => rfl)) ma_nil))) ma_nil))) (mg_sub (me_var 2) (me_var 3) (st_dict (un1 hr))))) mss_nil)))
    (mss_one (ms_ret (me_var 2)))))
theorem ok_rows_of (C : Fc w K mg) (B : Lams base K mg) : FnH P w K mg base 2 "rows_of" ["steps"] f_rows_of := by
  obtain ⟨fd, F⟩ := C.d_rows_of
  exact ⟨⟨fd, go_rows_of C B F, F.bindsN fun _ _ _ _ _ _ us hl => match us, hl with | [_], _ => rfl⟩, F.kp, C.g_rows_of⟩
abbrev N_height_at : List Str := ["steps", "cell", "total", "at", "x", "y"]
abbrev st_height_at : Stmt := top 55
theorem sc_height_at : FnScope N_height_at ["steps", "cell"] (defScope st_height_at) := ⟨rfl, rfl, rfl, by decide +kernel, rfl, by decide +kernel, by decide +kernel⟩
theorem go_height_at (C : Fc w K mg) (B : Lams base K mg) {fd : FuncData} (F : FnPa K "height_at_checklines" "height_at" st_height_at fd) : FnG P w K mg base 3 (He.ga K "height_at_checklines") fd ["steps", "cell"] f_height_at := by
  have h_rows_of := ok_rows_of (P := P) (base := base) C B
  refine fnG F sc_height_at (fun cdv A outer s H E hgd hr => ?_)
  exact (mss_cons (ms_set (i := 2) sc_height_at.nd rfl (Or.inl rfl) me_int)
    (mss_cons (ms_for (p := (.tp [(.nm 3), (.tp [(.nm 4), (.nm 5)])])) PassesOwn.never rfl (mi_items (me_callH h_rows_of hgd hr (ma_cons (me_var 0) ma_nil))) (pg_tup rfl (pgs_cons (pg_name (i := 3) sc_height_at.nd rfl (Or.inl rfl)) (pgs_cons (pg_tup rfl (pgs_cons (pg_name (i := 4) sc_height_at.nd rfl (Or.inl rfl)) (pgs_cons (pg_name (i := 5) sc_height_at.nd rfl (Or.inl rfl)) pgs_nil))) pgs_nil))) (mss_one (ms_if (PW.pt (mw_and (mt_cmp (o_eq (un64 hr)) (me_var 5) (me_ix i_seq (me_var 1) me_int (fun _ _ => rfl)) (nomark _)) (mw_and1 (mt_cmp o_gt (me_var 4) (me_ix i_seq (me_var 1) me_int (fun _ _ => rfl)) (nomark _))))) (mss_one (ms_aug (i := 2) sc_height_at.nd rfl (Or.inl rfl) (me_if (mt_cmp (o_eq (un64 hr)) (me_ix i_seq (me_var 0) (me_var 3) (fun _ _ => rfl)) me_str (nomark _)) me_int (me_un u_neg me_int)) o_iadd)) mss_nil)))
    (mss_one (ms_ret (me_var 2)))))
theorem ok_height_at (C : Fc w K mg) (B : Lams base K mg) : FnH P w K mg base 3 "height_at_checklines" ["steps", "cell"] f_height_at := by
  obtain ⟨fd, F⟩ := C.d_height_at
  exact ⟨⟨fd, go_height_at C B F, F.bindsN fun _ _ _ _ _ _ us hl => match us, hl with | [_, _], _ => rfl⟩, F.kp, C.g_height_at⟩
abbrev N_is_pair : List Str := ["value"]
abbrev st_is_pair : Stmt := top 46
theorem sc_is_pair : FnScope N_is_pair ["value"] (defScope st_is_pair) := ⟨rfl, rfl, rfl, by decide +kernel, rfl, by decide +kernel, by decide +kernel⟩
theorem go_is_pair (C : Fc w K mg) (B : Lams base K mg) {fd : FuncData} (F : FnPa K "is_pair" "is_pair" st_is_pair fd) : FnG P w K mg base 2 (He.ga K "is_pair") fd ["value"] f_is_pair := by
  have h_is_whole := ok_is_whole (P := P) (base := base) C B
  refine fnG F sc_is_pair (fun cdv A outer s H E hgd hr => ?_)
  exact (mss_one (ms_ret (me_and (me_B b_isi rfl C.n_isinstance boot_isinstance (ma_cons (me_var 0) (ma_cons (me_con (t := tC (.ty "tuple")) (pe_bltn (v := .ty "tuple") rfl C.n_tuple boot_tuple rfl) fun _ => rfl) ma_nil))) (me_and (me_cmp (o_eq (un64 hr)) (me_B b_len rfl C.n_len boot_len (ma_cons (me_var 0) ma_nil)) me_int (nomark _)) (me_and (me_callH h_is_whole hgd hr (ma_cons (me_ix i_seq (me_var 0) me_int (fun _ _ => rfl)) ma_nil)) (me_one (me_callH h_is_whole hgd hr (ma_cons (me_ix i_seq (me_var 0) me_int (fun _ _ => rfl)) ma_nil))))))))
theorem ok_is_pair (C : Fc w K mg) (B : Lams base K mg) : FnH P w K mg base 2 "is_pair" ["value"] f_is_pair := by
  obtain ⟨fd, F⟩ := C.d_is_pair
  exact ⟨⟨fd, go_is_pair C B F, F.bindsN fun _ _ _ _ _ _ us hl => match us, hl with | [_], _ => rfl⟩, F.kp, C.g_is_pair⟩
abbrev N_is_number_right : List Str := ["steps", "claim", "word", "number"]
abbrev st_is_number_right : Stmt := top 80
theorem sc_is_number_right : FnScope N_is_number_right ["steps", "claim"] (defScope st_is_number_right) := ⟨rfl, rfl, rfl, by decide +kernel, rfl, by decide +kernel, by decide +kernel⟩
theorem go_is_number_right (C : Fc w K mg) (B : Lams base K mg) {fd : FuncData} (F : FnPa K "is_number_right" "is_number_right" st_is_number_right fd) : FnG P w K mg base 4 (He.ga K "is_number_right") fd ["steps", "claim"] f_is_number_right := by
  have h_is_whole := ok_is_whole (P := P) (base := base) C B
  have h_turn_of := ok_turn_of (P := P) (base := base) C B
  have h_height_at := ok_height_at (P := P) (base := base) C B
  have h_is_pair := ok_is_pair (P := P) (base := base) C B
  refine fnG F sc_is_number_right (fun cdv A outer s H E hgd hr => ?_)
  exact (mss_cons (ms_par (i := 2) (j := 3) rfl sc_is_number_right.nd rfl rfl (by decide) rfl rfl (ma_cons (me_ix i_seq (me_var 1) me_int (fun _ _ => rfl)) (ma_cons (me_ix i_seq (me_var 1) (me_un u_neg me_int) (fun _ _ => rfl)) ma_nil)) rfl)
    (mss_cons (ms_if (mt_not (mt_val (me_callH h_is_whole hgd hr (ma_cons (me_var 3) ma_nil)))) (mss_one (ms_ret me_bl)) mss_nil)
    (mss_cons (ms_if (mt_cmp (o_eq (un64 hr)) (me_var 2) me_str (nomark _)) (mss_one (ms_ret (me_cmp (o_eq (un64 hr)) (me_callH h_turn_of hgd hr (ma_cons (me_var 0) ma_nil)) (me_var 3) (nomark _)))) mss_nil)
    (mss_cons (ms_if (mt_cmp (o_eq (un64 hr)) (me_var 2) me_str (nomark _)) mss_never mss_nil)
    (mss_cons (ms_if (mt_cmp (o_eq (un64 hr)) (me_var 2) me_str (nomark _)) (mss_one (ms_ret (me_and (me_callH h_is_pair hgd hr (ma_cons (me_ix i_seq (me_var 1) me_int (fun _ _ => rfl)) ma_nil)) (me_one (me_cmp (o_eq (un64 hr)) (me_callH h_height_at hgd hr (ma_cons (me_var 0) (ma_cons (me_ix i_seq (me_var 1) me_int (fun _ _ => rfl)) ma_nil))) (me_var 3) (nomark _)))))) mss_nil)
    mss_never)))))
theorem ok_is_number_right (C : Fc w K mg) (B : Lams base K mg) : FnH P w K mg base 4 "is_number_right" ["steps", "claim"] f_is_number_right := by
  obtain ⟨fd, F⟩ := C.d_is_number_right
  exact ⟨⟨fd, go_is_number_right C B F, F.bindsN fun _ _ _ _ _ _ us hl => match us, hl with | [_, _], _ => rfl⟩, F.kp, C.g_is_number_right⟩
abbrev N_accepts : List Str := ["claim", "certificate", "word", "steps"]
abbrev st_accepts : Stmt := top 83
theorem sc_accepts : FnScope N_accepts ["claim", "certificate"] (defScope st_accepts) := ⟨rfl, rfl, rfl, by decide +kernel, rfl, by decide +kernel, by decide +kernel⟩
theorem go_accepts (C : Fc w K mg) (B : Lams base K mg) {fd : FuncData} (F : FnPa K "accepts" "accepts" st_accepts fd) : FnG P w K mg base 5 (He.ga K "accepts") fd ["claim", "certificate"] f_accepts := by
  have h_steps_in := ok_steps_in (P := P) (base := base) C B
  have h_is_line := ok_is_line (P := P) (base := base) C B
  have h_is_number_right := ok_is_number_right (P := P) (base := base) C B
  refine fnG F sc_accepts (fun cdv A outer s H E hgd hr => ?_)
  exact (mss_cons (ms_if (PW.pt (mw_or (mt_not (mt_val (me_B b_isi rfl C.n_isinstance boot_isinstance (ma_cons (me_var 0) (ma_cons (me_con (t := tC (.ty "tuple")) (pe_bltn (v := .ty "tuple") rfl C.n_tuple boot_tuple rfl) fun _ => rfl) ma_nil))))) (mw_or (mt_cmp (o_eqE (un64 hr)) (me_var 0) (me_tup ma_nil) (nomark _)) (mw_or1 (mt_not (mt_val (me_B b_isi rfl C.n_isinstance boot_isinstance (ma_cons (me_ix i_seq (me_var 0) me_int (fun _ _ => rfl)) (ma_cons (me_con (t := tC (.ty "str")) (pe_bltn (v := .ty "str") rfl C.n_str boot_str rfl) fun _ => rfl) ma_nil))))))))) (mss_one (ms_ret me_bl)) mss_nil)
    (mss_cons (ms_set (i := 2) sc_accepts.nd rfl (Or.inl rfl) (me_ix i_seq (me_var 0) me_int (fun _ _ => rfl)))
    (mss_cons (ms_if (mt_cmp (o_ne (un64 hr)) (me_B b_len rfl C.n_len boot_len (ma_cons (me_var 0) ma_nil)) (me_kget C.t_SIZES rfl C.g_SIZES (me_var 2) (me_kget C.t_MORE_SIZES rfl C.g_MORE_SIZES (me_var 2) me_int ⟨rfl, rfl, rfl, rfl⟩) ⟨rfl, rfl, rfl, rfl⟩) (nomark _)) (mss_one (ms_ret me_bl)) mss_nil)
    (mss_cons (ms_set (i := 3) sc_accepts.nd rfl (Or.inl rfl) (me_callH h_steps_in hgd hr (ma_cons (me_ix i_seq (me_var 0) me_int (fun _ _ => rfl)) (ma_cons (me_gint rfl C.c_MOST_STEPS) ma_nil))))
    (mss_cons (ms_if (PW.pt (mw_or (mt_cmp (o_eq (un64 hr)) (me_var 3) me_str (nomark _)) (mw_or1 (mt_not (mt_val (me_callH h_is_line hgd hr (ma_cons (me_var 3) ma_nil))))))) (mss_one (ms_ret me_bl)) mss_nil)
    (mss_cons (ms_if (mt_cmp (o_eq (un64 hr)) (me_var 2) me_str (nomark _)) mss_never mss_nil)
    (mss_cons (ms_if (mt_cmp (o_eq (un64 hr)) (me_var 2) me_str (nomark _)) mss_never mss_nil)
    (mss_cons (ms_if (mt_cmp o_notN (me_var 1) me_non (nomark _)) (mss_one (ms_ret me_bl)) mss_nil)
    (mss_cons (ms_if (mt_cmp (o_in (un65 hr)) (me_var 2) (me_tup (ma_cons me_str (ma_cons me_str (ma_cons me_str (ma_cons me_str ma_nil))))) (by with_unfolding_all rfl)) (mss_one (ms_ret (me_callH h_is_number_right hgd hr (ma_cons (me_var 3) (ma_cons (me_var 0) ma_nil))))) mss_nil)
    mss_never)))))))))
theorem ok_accepts (C : Fc w K mg) (B : Lams base K mg) : FnH P w K mg base 5 "accepts" ["claim", "certificate"] f_accepts := by
  obtain ⟨fd, F⟩ := C.d_accepts
  exact ⟨⟨fd, go_accepts C B F, F.bindsN fun _ _ _ _ _ _ us hl => match us, hl with | [_, _], _ => rfl⟩, F.kp, C.g_accepts⟩
abbrev N__law_is_shown : List Str := ["_law_asked", "_law_proof"]
abbrev st__law_is_shown : Stmt := top 102
theorem sc__law_is_shown : FnScope N__law_is_shown ["_law_asked", "_law_proof"] (defScope st__law_is_shown) := ⟨rfl, rfl, rfl, by decide +kernel, rfl, by decide +kernel, by decide +kernel⟩
theorem go__law_is_shown (C : Fc w K mg) (B : Lams base K mg) {fd : FuncData} (F : FnPa K "_law_is_shown" "_law_is_shown" st__law_is_shown fd) : FnG P w K mg base 6 (He.ga K "_law_is_shown") fd ["_law_asked", "_law_proof"] f__law_is_shown := by
  have h_accepts := ok_accepts (P := P) (base := base) C B
  refine fnG F sc__law_is_shown (fun cdv A outer s H E hgd hr => ?_)
  exact (mss_one (ms_ret (me_cmp o_isB (me_callH h_accepts hgd hr (ma_cons (me_var 0) (ma_cons (me_var 1) ma_nil))) me_bl (nomark _))))
theorem ok__law_is_shown (C : Fc w K mg) (B : Lams base K mg) : FnH P w K mg base 6 "_law_is_shown" ["_law_asked", "_law_proof"] f__law_is_shown := by
  obtain ⟨fd, F⟩ := C.d__law_is_shown
  exact ⟨⟨fd, go__law_is_shown C B F, F.bindsN fun _ _ _ _ _ _ us hl => match us, hl with | [_, _], _ => rfl⟩, F.kp, C.g__law_is_shown⟩
abbrev N__law_any : List Str := ["_law_reel_here", "_law_things"]
abbrev st__law_any : Stmt := top 87
theorem sc__law_any : FnScope N__law_any ["_law_reel_here", "_law_things"] (defScope st__law_any) := ⟨rfl, rfl, rfl, by decide +kernel, rfl, by decide +kernel, by decide +kernel⟩
theorem go__law_any (C : Fc w K mg) (B : Lams base K mg) {fd : FuncData} (F : FnPa K "_law_any" "_law_any" st__law_any fd) : FnG P w K mg base 2 (He.ga K "_law_any") fd ["_law_reel_here", "_law_things"] f__law_any := by
  have h__law_roll := ok__law_roll (P := P) (base := base) C B
  refine fnG F sc__law_any (fun cdv A outer s H E hgd hr => ?_)
  exact (mss_one (ms_ret (me_ix i_seq (me_var 1) (me_callH h__law_roll hgd hr (ma_cons (me_var 0) (ma_cons (me_B b_len rfl C.n_len boot_len (ma_cons (me_var 1) ma_nil)) ma_nil))) (fun _ _ => rfl))))
theorem ok__law_any (C : Fc w K mg) (B : Lams base K mg) : FnH P w K mg base 2 "_law_any" ["_law_reel_here", "_law_things"] f__law_any := by
  obtain ⟨fd, F⟩ := C.d__law_any
  exact ⟨⟨fd, go__law_any C B F, F.bindsN fun _ _ _ _ _ _ us hl => match us, hl with | [_, _], _ => rfl⟩, F.kp, C.g__law_any⟩
abbrev N_is_integer : List Str := ["value"]
abbrev st_is_integer : Stmt := top 13
theorem sc_is_integer : FnScope N_is_integer ["value"] (defScope st_is_integer) := ⟨rfl, rfl, rfl, by decide +kernel, rfl, by decide +kernel, by decide +kernel⟩
theorem go_is_integer (C : Fc w K mg) (B : Lams base K mg) {fd : FuncData} (F : FnPa K "is_integer" "is_integer" st_is_integer fd) : FnG P w K mg base 1 (He.ga K "is_integer") fd ["value"] f_is_integer := by
  refine fnG F sc_is_integer (fun cdv A outer s H E hgd hr => ?_)
  exact (mss_one (ms_ret (me_and (me_B b_isi rfl C.n_isinstance boot_isinstance (ma_cons (me_var 0) (ma_cons (me_con (t := tC (.ty "int")) (pe_bltn (v := .ty "int") rfl C.n_int boot_int rfl) fun _ => rfl) ma_nil))) (me_one (me_not (me_B b_isi rfl C.n_isinstance boot_isinstance (ma_cons (me_var 0) (ma_cons (me_con (t := tC (.ty "bool")) (pe_bltn (v := .ty "bool") rfl C.n_bool boot_bool rfl) fun _ => rfl) ma_nil))))))))
theorem ok_is_integer (C : Fc w K mg) (B : Lams base K mg) : FnH P w K mg base 1 "is_integer" ["value"] f_is_integer := by
  obtain ⟨fd, F⟩ := C.d_is_integer
  exact ⟨⟨fd, go_is_integer C B F, F.bindsN fun _ _ _ _ _ _ us hl => match us, hl with | [_], _ => rfl⟩, F.kp, C.g_is_integer⟩
abbrev N_is_cell : List Str := ["value"]
abbrev st_is_cell : Stmt := top 14
theorem sc_is_cell : FnScope N_is_cell ["value"] (defScope st_is_cell) := ⟨rfl, rfl, rfl, by decide +kernel, rfl, by decide +kernel, by decide +kernel⟩
theorem go_is_cell (C : Fc w K mg) (B : Lams base K mg) {fd : FuncData} (F : FnPa K "is_cell" "is_cell" st_is_cell fd) : FnG P w K mg base 2 (He.ga K "is_cell") fd ["value"] f_is_cell := by
  have h_is_integer := ok_is_integer (P := P) (base := base) C B
  refine fnG F sc_is_cell (fun cdv A outer s H E hgd hr => ?_)
  exact (mss_one (ms_ret (me_and (me_B b_isi rfl C.n_isinstance boot_isinstance (ma_cons (me_var 0) (ma_cons (me_con (t := tC (.ty "tuple")) (pe_bltn (v := .ty "tuple") rfl C.n_tuple boot_tuple rfl) fun _ => rfl) ma_nil))) (me_and (me_cmp (o_eq (un64 hr)) (me_B b_len rfl C.n_len boot_len (ma_cons (me_var 0) ma_nil)) me_int (nomark _)) (me_and (me_callH h_is_integer hgd hr (ma_cons (me_ix i_seq (me_var 0) me_int (fun _ _ => rfl)) ma_nil)) (me_one (me_callH h_is_integer hgd hr (ma_cons (me_ix i_seq (me_var 0) me_int (fun _ _ => rfl)) ma_nil))))))))
theorem ok_is_cell (C : Fc w K mg) (B : Lams base K mg) : FnH P w K mg base 2 "is_cell" ["value"] f_is_cell := by
  obtain ⟨fd, F⟩ := C.d_is_cell
  exact ⟨⟨fd, go_is_cell C B F, F.bindsN fun _ _ _ _ _ _ us hl => match us, hl with | [_], _ => rfl⟩, F.kp, C.g_is_cell⟩
abbrev N_check_cell : List Str := ["cell"]
abbrev st_check_cell : Stmt := top 28
theorem sc_check_cell : FnScope N_check_cell ["cell"] (defScope st_check_cell) := ⟨rfl, rfl, rfl, by decide +kernel, rfl, by decide +kernel, by decide +kernel⟩
theorem go_check_cell (C : Fc w K mg) (B : Lams base K mg) {fd : FuncData} (F : FnPa K "check_cell" "check_cell" st_check_cell fd) : FnG P w K mg base 3 (He.ga K "check_cell") fd ["cell"] f_check_cell := by
  have h_is_cell := ok_is_cell (P := P) (base := base) C B
  refine fnG F sc_check_cell (fun cdv A outer s H E hgd hr => ?_)
  exact (mss_one (ms_if (mt_not (mt_val (me_callH h_is_cell hgd hr (ma_cons (me_var 0) ma_nil)))) mss_never mss_nil))
theorem ok_check_cell (C : Fc w K mg) (B : Lams base K mg) : FnH P w K mg base 3 "check_cell" ["cell"] f_check_cell := by
  obtain ⟨fd, F⟩ := C.d_check_cell
  exact ⟨⟨fd, go_check_cell C B F, F.bindsN fun _ _ _ _ _ _ us hl => match us, hl with | [_], _ => rfl⟩, F.kp, C.g_check_cell⟩
abbrev N_uprights : List Str := ["line", "k", "way"]
abbrev st_uprights : Stmt := top 30
theorem sc_uprights : FnScope N_uprights ["line"] (defScope st_uprights) := ⟨rfl, rfl, rfl, by decide +kernel, rfl, by decide +kernel, by decide +kernel⟩
theorem go_uprights (C : Fc w K mg) (B : Lams base K mg) {fd : FuncData} (F : FnPa K "uprights" "uprights" st_uprights fd) : FnG P w K mg base 2 (He.ga K "uprights") fd ["line"] f_uprights := by
  have h_is_level := ok_is_level (P := P) (base := base) C B
  refine fnG F sc_uprights (fun cdv A outer s H E hgd hr => ?_)
  exact (mss_one (ms_ret (me_lc (p := (.tp [(.nm 1), (.nm 2)])) (own := [("k", 1), ("way", 2)]) rfl sc_uprights.nd (by decide) (mi_enumS rfl C.n_enumerate (ma_cons (me_fld C.cls_Line C.na_Line_ways (me_var 0)) ma_nil)) (blkOk_by (N := N_uprights) (sc := defScope st_uprights) (own := [("k", 1), ("way", 2)]) (by decide +kernel)) (fun _ _ _ _ _ => (pg_tup rfl (pgs_cons (pg_name (i := 1) sc_uprights.nd rfl (Or.inl rfl)) (pgs_cons (pg_name (i := 2) sc_uprights.nd rfl (Or.inl rfl)) pgs_nil)))) (fun _ _ _ _ _ => (mts_one (mt_not (mt_val (me_callH h_is_level hgd hr (ma_cons (me_var 2) ma_nil)))))) (fun _ _ _ _ _ => (me_var 1)))))
theorem ok_uprights (C : Fc w K mg) (B : Lams base K mg) : FnH P w K mg base 2 "uprights" ["line"] f_uprights := by
  obtain ⟨fd, F⟩ := C.d_uprights
  exact ⟨⟨fd, go_uprights C B F, F.bindsN fun _ _ _ _ _ _ us hl => match us, hl with | [_], _ => rfl⟩, F.kp, C.g_uprights⟩
abbrev N_spot_of : List Str := ["line", "step", "here", "there"]
abbrev st_spot_of : Stmt := top 29
theorem sc_spot_of : FnScope N_spot_of ["line", "step"] (defScope st_spot_of) := ⟨rfl, rfl, rfl, by decide +kernel, rfl, by decide +kernel, by decide +kernel⟩
theorem go_spot_of (C : Fc w K mg) (B : Lams base K mg) {fd : FuncData} (F : FnPa K "spot_of" "spot_of" st_spot_of fd) : FnG P w K mg base 1 (He.ga K "spot_of") fd ["line", "step"] f_spot_of := by
  refine fnG F sc_spot_of (fun cdv A outer s H E hgd hr => ?_)
  exact (mss_cons (ms_par (i := 2) (j := 3) rfl sc_spot_of.nd rfl rfl (by decide) rfl rfl (ma_cons (me_ix i_seq (me_fld C.cls_Line C.na_Line_spots (me_var 0)) (me_var 1) (fun _ _ => rfl)) (ma_cons (me_ix i_seq (me_fld C.cls_Line C.na_Line_spots (me_var 0)) (me_op o_mod (me_op o_add (me_var 1) me_int) (me_B b_len rfl C.n_len boot_len (ma_cons (me_fld C.cls_Line C.na_Line_spots (me_var 0)) ma_nil))) (fun _ _ => rfl)) ma_nil)) rfl)
    (mss_one (ms_ret (me_tup (ma_cons (me_B (b_min2 rfl) rfl C.n_min boot_min (ma_cons (me_ix i_seq (me_var 2) me_int (fun _ _ => rfl)) (ma_cons (me_ix i_seq (me_var 3) me_int (fun _ _ => rfl)) ma_nil))) (ma_cons (me_B (b_min2 rfl) rfl C.n_min boot_min (ma_cons (me_ix i_seq (me_var 2) me_int (fun _ _ => rfl)) (ma_cons (me_ix i_seq (me_var 3) me_int (fun _ _ => rfl)) ma_nil))) ma_nil))))))
theorem ok_spot_of (C : Fc w K mg) (B : Lams base K mg) : FnH P w K mg base 1 "spot_of" ["line", "step"] f_spot_of := by
  obtain ⟨fd, F⟩ := C.d_spot_of
  exact ⟨⟨fd, go_spot_of C B F, F.bindsN fun _ _ _ _ _ _ us hl => match us, hl with | [_, _], _ => rfl⟩, F.kp, C.g_spot_of⟩
abbrev N_height_at_heights : List Str := ["line", "cell", "found", "step", "spot"]
abbrev st_height_at_heights : Stmt := top 32
theorem sc_height_at_heights : FnScope N_height_at_heights ["line", "cell"] (defScope st_height_at_heights) := ⟨rfl, rfl, rfl, by decide +kernel, rfl, by decide +kernel, by decide +kernel⟩
theorem go_height_at_heights (C : Fc w K mg) (B : Lams base K mg) {fd : FuncData} (F : FnPa K "height_at_heights" "height_at" st_height_at_heights fd) : FnG P w K mg base 3 (He.ga K "height_at_heights") fd ["line", "cell"] f_height_at_heights := by
  have h_uprights := ok_uprights (P := P) (base := base) C B
  have h_spot_of := ok_spot_of (P := P) (base := base) C B
  refine fnG F sc_height_at_heights (fun cdv A outer s H E hgd hr => ?_)
  exact (mss_cons (ms_set (i := 2) sc_height_at_heights.nd rfl (Or.inl rfl) me_int)
    (mss_cons (ms_for (p := (.nm 3)) PassesOwn.never rfl (mi_list (me_callH h_uprights hgd hr (ma_cons (me_var 0) ma_nil))) (pg_name (i := 3) sc_height_at_heights.nd rfl (Or.inl rfl)) (mss_cons (ms_set (i := 4) sc_height_at_heights.nd rfl (Or.inl rfl) (me_callH h_spot_of hgd hr (ma_cons (me_var 0) (ma_cons (me_var 3) ma_nil))))
    (mss_one (ms_if (PW.pt (mw_and (mt_cmp (o_eq (un64 hr)) (me_ix i_seq (me_var 4) me_int (fun _ _ => rfl)) (me_ix i_seq (me_var 1) me_int (fun _ _ => rfl)) (nomark _)) (mw_and1 (mt_cmp o_gt (me_ix i_seq (me_var 4) me_int (fun _ _ => rfl)) (me_ix i_seq (me_var 1) me_int (fun _ _ => rfl)) (nomark _))))) (mss_one (ms_set (i := 2) sc_height_at_heights.nd rfl (Or.inl rfl) (me_op o_add (me_var 2) (me_if (mt_cmp (o_eq (un64 hr)) (me_ix i_seq (me_fld C.cls_Line C.na_Line_ways (me_var 0)) (me_var 3) (fun _ _ => rfl)) me_str (nomark _)) me_int (me_un u_neg me_int))))) mss_nil))))
    (mss_one (ms_ret (me_var 2)))))
theorem ok_height_at_heights (C : Fc w K mg) (B : Lams base K mg) : FnH P w K mg base 3 "height_at_heights" ["line", "cell"] f_height_at_heights := by
  obtain ⟨fd, F⟩ := C.d_height_at_heights
  exact ⟨⟨fd, go_height_at_heights C B F, F.bindsN fun _ _ _ _ _ _ us hl => match us, hl with | [_, _], _ => rfl⟩, F.kp, C.g_height_at_heights⟩
abbrev N_certify_height : List Str := ["line", "cell"]
abbrev st_certify_height : Stmt := top 36
theorem sc_certify_height : FnScope N_certify_height ["line", "cell"] (defScope st_certify_height) := ⟨rfl, rfl, rfl, by decide +kernel, rfl, by decide +kernel, by decide +kernel⟩
theorem go_certify_height (C : Fc w K mg) (B : Lams base K mg) {fd : FuncData} (F : FnPa K "certify_height" "certify_height" st_certify_height fd) : FnG P w K mg base 4 (He.ga K "certify_height") fd ["line", "cell"] f_certify_height := by
  have h_check_line := ok_check_line (P := P) (base := base) C B
  have h_check_cell := ok_check_cell (P := P) (base := base) C B
  have h_height_at_heights := ok_height_at_heights (P := P) (base := base) C B
  have h_Line_text := ok_Line_text (P := P) (base := base) C B
  refine fnG F sc_certify_height (fun cdv A outer s H E hgd hr => ?_)
  exact (mss_cons (ms_expr (me_callH h_check_line hgd hr (ma_cons (me_var 0) ma_nil)))
    (mss_cons (ms_expr (me_callH h_check_cell hgd hr (ma_cons (me_var 1) ma_nil)))
    (mss_one (ms_ret (me_tup (ma_cons (me_tup (ma_cons me_str (ma_cons (me_propH h_Line_text hgd hr (me_var 0)) (ma_cons (me_var 1) (ma_cons (me_callH h_height_at_heights hgd hr (ma_cons (me_var 0) (ma_cons (me_var 1) ma_nil))) ma_nil))))) (ma_cons me_non ma_nil)))))))
theorem ok_certify_height (C : Fc w K mg) (B : Lams base K mg) : FnH P w K mg base 4 "certify_height" ["line", "cell"] f_certify_height := by
  obtain ⟨fd, F⟩ := C.d_certify_height
  exact ⟨⟨fd, go_certify_height C B F, F.bindsN fun _ _ _ _ _ _ us hl => match us, hl with | [_, _], _ => rfl⟩, F.kp, C.g_certify_height⟩
theorem kw_certify_height_1_0 (C : Fc w K mg) (B : Lams base K mg) : FnKw P w K mg base 4 "certify_height" ["line", "cell"] ["cell", "line"] [1, 0] f_certify_height := by
  obtain ⟨fd, F⟩ := C.d_certify_height
  exact ⟨⟨fd, go_certify_height C B F, kwBinds F fun _ _ _ _ _ _ us hl => match us, hl with | [_, _], _ => rfl⟩, F.kp, C.g_certify_height⟩
abbrev N__law_height : List Str := ["_law_ways", "_law_square", "_law_spots_here", "_law_found", "_law_at"]
abbrev st__law_height : Stmt := top 100
theorem sc__law_height : FnScope N__law_height ["_law_ways", "_law_square"] (defScope st__law_height) := ⟨rfl, rfl, rfl, by decide +kernel, rfl, by decide +kernel, by decide +kernel⟩
theorem go__law_height (C : Fc w K mg) (B : Lams base K mg) {fd : FuncData} (F : FnPa K "_law_height" "_law_height" st__law_height fd) : FnG P w K mg base 2 (He.ga K "_law_height") fd ["_law_ways", "_law_square"] f__law_height := by
  have h__law_spots := ok__law_spots (P := P) (base := base) C B
  refine fnG F sc__law_height (fun cdv A outer s H E hgd hr => ?_)
  exact (mss_cons (ms_par (i := 2) (j := 3) rfl sc__law_height.nd rfl rfl (by decide) rfl rfl (ma_cons (me_callH h__law_spots hgd hr (ma_cons (me_var 0) ma_nil)) (ma_cons me_int ma_nil)) rfl)
    (mss_cons (ms_for (p := (.nm 4)) PassesOwn.never rfl (mi_range1 rfl C.n_range (ma_cons (me_B b_len rfl C.n_len boot_len (ma_cons (me_var 0) ma_nil)) ma_nil)) (pg_name (i := 4) sc__law_height.nd rfl (Or.inl rfl)) (mss_one (ms_if (PW.pt (mw_and (mt_cmp (o_in (un65 hr)) (me_ix i_seq (me_var 0) (me_var 4) (fun _ _ => rfl)) me_str (by with_unfolding_all rfl)) (mw_and (mt_cmp (o_eq (un64 hr)) (me_B (b_min2 rfl) rfl C.n_min boot_min (ma_cons (me_ix i_seq (me_ix i_seq (me_var 2) (me_var 4) (fun _ _ => rfl)) me_int (fun _ _ => rfl)) (ma_cons (me_ix i_seq (me_ix i_seq (me_var 2) (me_op o_add (me_var 4) me_int) (fun _ _ => rfl)) me_int (fun _ _ => rfl)) ma_nil))) (me_ix i_seq (me_var 1) me_int (fun _ _ => rfl)) (nomark _)) (mw_and1 (mt_cmp o_gt (me_ix i_seq (me_ix i_seq (me_var 2) (me_var 4) (fun _ _ => rfl)) me_int (fun _ _ => rfl)) (me_ix i_seq (me_var 1) me_int (fun _ _ => rfl)) (nomark _)))))) (mss_one (ms_set (i := 3) sc__law_height.nd rfl (Or.inl rfl) (me_op o_add (me_var 3) (me_if (mt_cmp (o_eq (un64 hr)) (me_ix i_seq (me_var 0) (me_var 4) (fun _ _ => rfl)) me_str (nomark _)) me_int (me_un u_neg me_int))))) mss_nil)))
    (mss_one (ms_ret (me_var 3)))))
theorem ok__law_height (C : Fc w K mg) (B : Lams base K mg) : FnH P w K mg base 2 "_law_height" ["_law_ways", "_law_square"] f__law_height := by
  obtain ⟨fd, F⟩ := C.d__law_height
  exact ⟨⟨fd, go__law_height C B F, F.bindsN fun _ _ _ _ _ _ us hl => match us, hl with | [_, _], _ => rfl⟩, F.kp, C.g__law_height⟩
abbrev N__law_right : List Str := ["_law_reel_here", "_law_part", "_law_ways", "_law_text_here", "_law_mine", "_law_told", "_law_due", "_law_turn_here", "_law_x", "_law_y", "_law_square"]
abbrev st__law_right : Stmt := top 103
theorem sc__law_right : FnScope N__law_right ["_law_reel_here"] (defScope st__law_right) := ⟨rfl, rfl, rfl, by decide +kernel, rfl, by decide +kernel, by decide +kernel⟩
theorem go__law_right (C : Fc w K mg) (B : Lams base K mg) {fd : FuncData} (F : FnPa K "_law_right" "_law_right" st__law_right fd) : FnG P w K mg base 7 (He.ga K "_law_right") fd ["_law_reel_here"] f__law_right := by
  have h__law_other := ok__law_other (P := P) (base := base) C B
  have h__law_text := ok__law_text (P := P) (base := base) C B
  have h_Line___init__ := ok_Line___init__ (P := P) (base := base) C B
  have h_certify_turn := ok_certify_turn (P := P) (base := base) C B
  have h__law_turn := ok__law_turn (P := P) (base := base) C B
  have h__law_is_shown := ok__law_is_shown (P := P) (base := base) C B
  have h__law_any := ok__law_any (P := P) (base := base) C B
  have h__law_spots := ok__law_spots (P := P) (base := base) C B
  have h__law_roll := ok__law_roll (P := P) (base := base) C B
  have h_certify_height := ok_certify_height (P := P) (base := base) C B
  have h__law_height := ok__law_height (P := P) (base := base) C B
  obtain ⟨fd__law_got, F__law_got⟩ := C.d__law_got
  have k_certify_turn_0 := kw_certify_turn_0 (P := P) (base := base) C B
  have k_certify_height_1_0 := kw_certify_height_1_0 (P := P) (base := base) C B
  refine fnGL F sc__law_right (fun A outer s H E hgd hr => ?_)
  exact (mss_cons (ms_for (p := (.nm 1)) PassesOwn.never rfl (mi_range1 rfl C.n_range (ma_cons me_int ma_nil)) (pg_name (i := 1) sc__law_right.nd rfl (Or.inl rfl)) (mss_cons (ms_set (i := 2) sc__law_right.nd rfl (Or.inl rfl) (me_callH h__law_other hgd hr (ma_cons (me_var 0) ma_nil)))
    (mss_cons (ms_set (i := 3) sc__law_right.nd rfl (Or.inl rfl) (me_callH h__law_text hgd hr (ma_cons (me_var 2) ma_nil)))
    (mss_cons (ms_set (i := 4) sc__law_right.nd rfl (Or.inr rfl) (me_makeH h_Line___init__ hgd hr (ma_cons (me_var 3) ma_nil)))
    (mss_cons (ms_set (i := 5) sc__law_right.nd rfl (Or.inl rfl) (me_lstO (ma_cons (me_got (k := 3) (x := "_law_got") (a := "_law_act") (b := "_law_back") (w := "told") (mb := (callM 1 f_certify_turn (argC (var 4) argN))) (Ng := N__law_got) rfl C.g__law_got F__law_got.kp F__law_got (F__law_got.bindsN fun _ _ _ _ _ _ us hl => match us, hl with | [_], _ => rfl) sc__law_got rfl rfl (by decide) rfl rfl (B "_law_right" (List.Mem.head _)) rfl (lt_mem (List.Mem.head _)) (lt_one rfl) hgd (hr.mono (by decide)) (LamX.lamS_by (sc := defScope st__law_right) (by decide +kernel)) rfl (fun _ _ _ _ _ => rfl) (fun A outer s H f c' hgd hr => (me_callH h_certify_turn hgd hr (ma_cons (me_var 4) ma_nil)))) ma_nil)))
    (mss_cons (ms_expr (me_bm (fun _ _ _ r v h => isL_ok r v h) PySem.F.plainAttrs_list PySem.F.slot_list_append PySem.F.type_list_append m_app (me_var 5) (ma_cons (me_got (k := 3) (x := "_law_got") (a := "_law_act") (b := "_law_back") (w := "told") (mb := (callK 1 [0] f_certify_turn (argC (var 4) argN))) (Ng := N__law_got) rfl C.g__law_got F__law_got.kp F__law_got (F__law_got.bindsN fun _ _ _ _ _ _ us hl => match us, hl with | [_], _ => rfl) sc__law_got rfl rfl (by decide) rfl rfl (B "_law_right" (List.Mem.head _)) rfl (lt_mem (List.Mem.head _)) (lt_one rfl) hgd (hr.mono (by decide)) (LamX.lamS_by (sc := defScope st__law_right) (by decide +kernel)) rfl (fun _ _ _ _ _ => rfl) (fun A outer s H f c' hgd hr => (me_callKw k_certify_turn_0 hgd hr (mk_cons (me_var 4) mk_nil)))) ma_nil)))
    (mss_cons (ms_set (i := 6) sc__law_right.nd rfl (Or.inl rfl) (me_tup (ma_cons me_str (ma_cons (me_var 3) (ma_cons (me_callH h__law_turn hgd hr (ma_cons (me_var 2) ma_nil)) ma_nil)))))
    (mss_cons (ms_if (PW.pt (mw_or (mt_cmp (o_ne (un64 hr)) (me_B (b_repr hgd (un64 hr)) rfl C.n_repr boot_repr (ma_cons (me_var 5) ma_nil)) (me_B (b_repr hgd (un64 hr)) rfl C.n_repr boot_repr (ma_cons (me_op o_mul (me_lst (ma_cons (me_lst (ma_cons me_str (ma_cons (me_tup (ma_cons (me_var 6) (ma_cons me_non ma_nil))) ma_nil))) ma_nil)) me_int) ma_nil)) (nomark _)) (mw_or1 (mt_not (mt_val (me_callH h__law_is_shown hgd hr (ma_cons (me_var 6) (ma_cons me_non ma_nil)))))))) (mss_one (ms_ret me_bl)) mss_nil)
    (mss_one (ms_for (p := (.nm 7)) PassesOwn.never rfl (mi_range1 rfl C.n_range (ma_cons me_int ma_nil)) (pg_name (i := 7) sc__law_right.nd rfl (Or.inl rfl)) (mss_cons (ms_asg (me_callH h__law_any hgd hr (ma_cons (me_var 0) (ma_cons (me_op o_add (me_callH h__law_spots hgd hr (ma_cons (me_var 2) ma_nil)) (me_lst (ma_cons (me_tup (ma_cons (me_op o_pow me_int me_int) (ma_cons me_int ma_nil))) (ma_cons (me_tup (ma_cons me_int (ma_cons (me_un u_neg me_int) ma_nil))) ma_nil)))) ma_nil))) (mg_tup rfl (mgs_cons (mg_name (i := 8) sc__law_right.nd rfl (Or.inl rfl)) (mgs_cons (mg_name (i := 9) sc__law_right.nd rfl (Or.inl rfl)) mgs_nil))))
    (mss_cons (ms_set (i := 10) sc__law_right.nd rfl (Or.inr rfl) (me_tup (ma_cons (me_op o_sub (me_var 8) (me_callH h__law_roll hgd hr (ma_cons (me_var 0) (ma_cons me_int ma_nil)))) (ma_cons (me_op o_sub (me_var 9) (me_callH h__law_roll hgd hr (ma_cons (me_var 0) (ma_cons me_int ma_nil)))) ma_nil))))
    (mss_cons (ms_set (i := 5) sc__law_right.nd rfl (Or.inl rfl) (me_lstO (ma_cons (me_got (k := 4) (x := "_law_got") (a := "_law_act") (b := "_law_back") (w := "told") (mb := (callM 2 f_certify_height (argC (var 4) (argC (var 10) argN)))) (Ng := N__law_got) rfl C.g__law_got F__law_got.kp F__law_got (F__law_got.bindsN fun _ _ _ _ _ _ us hl => match us, hl with | [_], _ => rfl) sc__law_got rfl rfl (by decide) rfl rfl (B "_law_right" (List.Mem.head _)) rfl (lt_mem (List.Mem.head _)) (lt_one rfl) hgd (hr.mono (by decide)) (LamX.lamS_by (sc := defScope st__law_right) (by decide +kernel)) rfl (fun _ _ _ _ _ => rfl) (fun A outer s H f c' hgd hr => (me_callH h_certify_height hgd hr (ma_cons (me_var 4) (ma_cons (me_var 10) ma_nil))))) ma_nil)))
    (mss_cons (ms_expr (me_bm (fun _ _ _ r v h => isL_ok r v h) PySem.F.plainAttrs_list PySem.F.slot_list_append PySem.F.type_list_append m_app (me_var 5) (ma_cons (me_got (k := 4) (x := "_law_got") (a := "_law_act") (b := "_law_back") (w := "told") (mb := (callK 2 [1, 0] f_certify_height (argC (var 10) (argC (var 4) argN)))) (Ng := N__law_got) rfl C.g__law_got F__law_got.kp F__law_got (F__law_got.bindsN fun _ _ _ _ _ _ us hl => match us, hl with | [_], _ => rfl) sc__law_got rfl rfl (by decide) rfl rfl (B "_law_right" (List.Mem.head _)) rfl (lt_mem (List.Mem.head _)) (lt_one rfl) hgd (hr.mono (by decide)) (LamX.lamS_by (sc := defScope st__law_right) (by decide +kernel)) rfl (fun _ _ _ _ _ => rfl) (fun A outer s H f c' hgd hr => (me_callKw k_certify_height_1_0 hgd hr (mk_cons (me_var 10) (mk_cons (me_var 4) mk_nil))))) ma_nil)))
    (mss_cons (ms_set (i := 6) sc__law_right.nd rfl (Or.inl rfl) (me_tup (ma_cons me_str (ma_cons (me_var 3) (ma_cons (me_var 10) (ma_cons (me_callH h__law_height hgd hr (ma_cons (me_var 2) (ma_cons (me_var 10) ma_nil))) ma_nil))))))
    (mss_one (ms_if (PW.pt (mw_or (mt_cmp (o_ne (un64 hr)) (me_B (b_repr hgd (un64 hr)) rfl C.n_repr boot_repr (ma_cons (me_var 5) ma_nil)) (me_B (b_repr hgd (un64 hr)) rfl C.n_repr boot_repr (ma_cons (me_op o_mul (me_lst (ma_cons (me_lst (ma_cons me_str (ma_cons (me_tup (ma_cons (me_var 6) (ma_cons me_non ma_nil))) ma_nil))) ma_nil)) me_int) ma_nil)) (nomark _)) (mw_or1 (mt_not (mt_val (me_callH h__law_is_shown hgd hr (ma_cons (me_var 6) (ma_cons me_non ma_nil)))))))) (mss_one (ms_ret me_bl)) mss_nil)))))))))))))))))
    (mss_one (ms_ret me_bl)))
theorem ok__law_right (C : Fc w K mg) (B : Lams base K mg) : FnH P w K mg base 7 "_law_right" ["_law_reel_here"] f__law_right := by
  obtain ⟨fd, F⟩ := C.d__law_right
  exact ⟨⟨fd, go__law_right C B F, F.bindsN fun _ _ _ _ _ _ us hl => match us, hl with | [_], _ => rfl⟩, F.kp, C.g__law_right⟩
abbrev N_law : List Str := ["_law_script", "_law_turn_here"]
abbrev st_law : Stmt := top 104
theorem sc_law : FnScope N_law ["_law_script"] (defScope st_law) := ⟨rfl, rfl, rfl, by decide +kernel, rfl, by decide +kernel, by decide +kernel⟩
theorem go_law (C : Fc w K mg) (B : Lams base K mg) {fd : FuncData} (F : FnPa K "law" "law" st_law fd) : FnG P w K mg base 8 (He.ga K "law") fd ["_law_script"] f_law := by
  have h__law_right := ok__law_right (P := P) (base := base) C B
  have h__law_reel := ok__law_reel (P := P) (base := base) C B
  refine fnG F sc_law (fun cdv A outer s H E hgd hr => ?_)
  exact (mss_cons (ms_for (p := (.nm 1)) PassesOwn.never rfl (mi_range1 rfl C.n_range (ma_cons (me_B (b_max2 rfl) rfl C.n_max boot_max (ma_cons me_int (ma_cons (me_B (b_min2 rfl) rfl C.n_min boot_min (ma_cons (me_B b_len rfl C.n_len boot_len (ma_cons (me_var 0) ma_nil)) (ma_cons me_int ma_nil))) ma_nil))) ma_nil)) (pg_name (i := 1) sc_law.nd rfl (Or.inl rfl)) (mss_one (ms_if (mt_not (mt_val (me_callH h__law_right hgd hr (ma_cons (me_callH h__law_reel hgd hr (ma_cons (me_var 0) (ma_cons (me_var 1) ma_nil))) ma_nil)))) (mss_one (ms_ret me_bl)) mss_nil)))
    (mss_one (ms_ret me_bl)))
theorem ok_law (C : Fc w K mg) (B : Lams base K mg) : FnH P w K mg base 8 "law" ["_law_script"] f_law := by
  obtain ⟨fd, F⟩ := C.d_law
  exact ⟨⟨fd, go_law C B F, F.bindsN fun _ _ _ _ _ _ us hl => match us, hl with | [_], _ => rfl⟩, F.kp, C.g_law⟩
end
end K51
set_option Elab.async false
set_option linter.all false
set_option maxRecDepth 100000
set_option maxHeartbeats 0
namespace K51
open PySem PySem.Spec PyProof.Rows L2 Mo
def dd__law_reel : He.DefD := ⟨("_law_reel", none), "_law_reel", "_law_reel", defArgs st__law_reel, defBody st__law_reel, defScope st__law_reel, [], []⟩
def dd__law_roll : He.DefD := ⟨("_law_roll", none), "_law_roll", "_law_roll", defArgs st__law_roll, defBody st__law_roll, defScope st__law_roll, [], []⟩
def dd__law_long : He.DefD := ⟨("_law_long", none), "_law_long", "_law_long", defArgs st__law_long, defBody st__law_long, defScope st__law_long, [], []⟩
def dd__law_side : He.DefD := ⟨("_law_side", none), "_law_side", "_law_side", defArgs st__law_side, defBody st__law_side, defScope st__law_side, [], []⟩
def dd__law_rim : He.DefD := ⟨("_law_rim", none), "_law_rim", "_law_rim", defArgs st__law_rim, defBody st__law_rim, defScope st__law_rim, [], []⟩
def dd__law_base : He.DefD := ⟨("_law_base", none), "_law_base", "_law_base", defArgs st__law_base, defBody st__law_base, defScope st__law_base, [], []⟩
def dd__law_spots : He.DefD := ⟨("_law_spots", none), "_law_spots", "_law_spots", defArgs st__law_spots, defBody st__law_spots, defScope st__law_spots, [], []⟩
def dd__law_is_line : He.DefD := ⟨("_law_is_line", none), "_law_is_line", "_law_is_line", defArgs st__law_is_line, defBody st__law_is_line, defScope st__law_is_line, [], []⟩
def dd__law_turned : He.DefD := ⟨("_law_turned", none), "_law_turned", "_law_turned", defArgs st__law_turned, defBody st__law_turned, defScope st__law_turned, [], []⟩
def dd__law_begun : He.DefD := ⟨("_law_begun", none), "_law_begun", "_law_begun", defArgs st__law_begun, defBody st__law_begun, defScope st__law_begun, [], []⟩
def dd__law_drawn : He.DefD := ⟨("_law_drawn", none), "_law_drawn", "_law_drawn", defArgs st__law_drawn, defBody st__law_drawn, defScope st__law_drawn, [], []⟩
def dd__law_other : He.DefD := ⟨("_law_other", none), "_law_other", "_law_other", defArgs st__law_other, defBody st__law_other, defScope st__law_other, [], []⟩
def dd__law_text : He.DefD := ⟨("_law_text", none), "_law_text", "_law_text", defArgs st__law_text, defBody st__law_text, defScope st__law_text, [], []⟩
def dd_stretch_of : He.DefD := ⟨("stretch_of", none), "stretch_of", "stretch_of", defArgs st_stretch_of, defBody st_stretch_of, defScope st_stretch_of, [], []⟩
def dd_stretches_of : He.DefD := ⟨("stretches_of", none), "stretches_of", "stretches_of", defArgs st_stretches_of, defBody st_stretches_of, defScope st_stretches_of, [], []⟩
def dd_is_level : He.DefD := ⟨("is_level", none), "is_level", "is_level", defArgs st_is_level, defBody st_is_level, defScope st_is_level, [], []⟩
def dd_steps_of : He.DefD := ⟨("steps_of", none), "steps_of", "steps_of", defArgs st_steps_of, defBody st_steps_of, defScope st_steps_of, [], []⟩
def dd_places_of_names : He.DefD := ⟨("places_of_names", none), "places_of", "places_of", defArgs st_places_of_names, defBody st_places_of_names, defScope st_places_of_names, [], []⟩
def dd_is_plain : He.DefD := ⟨("is_plain", none), "is_plain", "is_plain", defArgs st_is_plain, defBody st_is_plain, defScope st_is_plain, [], []⟩
def dd_first_touch : He.DefD := ⟨("first_touch", none), "first_touch", "first_touch", defArgs st_first_touch, defBody st_first_touch, defScope st_first_touch, [], []⟩
def dd_turned_left : He.DefD := ⟨("turned_left", none), "turned_left", "turned_left", defArgs st_turned_left, defBody st_turned_left, defScope st_turned_left, [], []⟩
def dd_quarters_of : He.DefD := ⟨("quarters_of", none), "quarters_of", "quarters_of", defArgs st_quarters_of, defBody st_quarters_of, defScope st_quarters_of, [], []⟩
def dd_check_line : He.DefD := ⟨("check_line", none), "check_line", "check_line", defArgs st_check_line, defBody st_check_line, defScope st_check_line, [], []⟩
def dd_certify_turn : He.DefD := ⟨("certify_turn", none), "certify_turn", "certify_turn", defArgs st_certify_turn, defBody st_certify_turn, defScope st_certify_turn, [], []⟩
def dd__law_turn : He.DefD := ⟨("_law_turn", none), "_law_turn", "_law_turn", defArgs st__law_turn, defBody st__law_turn, defScope st__law_turn, [], []⟩
def dd_long_in : He.DefD := ⟨("long_in", none), "long_in", "long_in", defArgs st_long_in, defBody st_long_in, defScope st_long_in, [], []⟩
def dd_steps_in : He.DefD := ⟨("steps_in", none), "steps_in", "steps_in", defArgs st_steps_in, defBody st_steps_in, defScope st_steps_in, [], []⟩
def dd_places_of : He.DefD := ⟨("places_of_checklines", none), "places_of", "places_of", defArgs st_places_of, defBody st_places_of, defScope st_places_of, [], []⟩
def dd_is_straight : He.DefD := ⟨("is_straight", none), "is_straight", "is_straight", defArgs st_is_straight, defBody st_is_straight, defScope st_is_straight, [], []⟩
def dd_is_line : He.DefD := ⟨("is_line", none), "is_line", "is_line", defArgs st_is_line, defBody st_is_line, defScope st_is_line, [], []⟩
def dd_is_whole : He.DefD := ⟨("is_whole", none), "is_whole", "is_whole", defArgs st_is_whole, defBody st_is_whole, defScope st_is_whole, [], []⟩
def dd_turn_of : He.DefD := ⟨("turn_of", none), "turn_of", "turn_of", defArgs st_turn_of, defBody st_turn_of, defScope st_turn_of, [], []⟩
def dd_rows_of : He.DefD := ⟨("rows_of", none), "rows_of", "rows_of", defArgs st_rows_of, defBody st_rows_of, defScope st_rows_of, [], []⟩
def dd_height_at : He.DefD := ⟨("height_at_checklines", none), "height_at", "height_at", defArgs st_height_at, defBody st_height_at, defScope st_height_at, [], []⟩
def dd_is_pair : He.DefD := ⟨("is_pair", none), "is_pair", "is_pair", defArgs st_is_pair, defBody st_is_pair, defScope st_is_pair, [], []⟩
def dd_is_number_right : He.DefD := ⟨("is_number_right", none), "is_number_right", "is_number_right", defArgs st_is_number_right, defBody st_is_number_right, defScope st_is_number_right, [], []⟩
def dd_accepts : He.DefD := ⟨("accepts", none), "accepts", "accepts", defArgs st_accepts, defBody st_accepts, defScope st_accepts, [], []⟩
def dd__law_is_shown : He.DefD := ⟨("_law_is_shown", none), "_law_is_shown", "_law_is_shown", defArgs st__law_is_shown, defBody st__law_is_shown, defScope st__law_is_shown, [], []⟩
def dd__law_any : He.DefD := ⟨("_law_any", none), "_law_any", "_law_any", defArgs st__law_any, defBody st__law_any, defScope st__law_any, [], []⟩
def dd_is_integer : He.DefD := ⟨("is_integer", none), "is_integer", "is_integer", defArgs st_is_integer, defBody st_is_integer, defScope st_is_integer, [], []⟩
def dd_is_cell : He.DefD := ⟨("is_cell", none), "is_cell", "is_cell", defArgs st_is_cell, defBody st_is_cell, defScope st_is_cell, [], []⟩
def dd_check_cell : He.DefD := ⟨("check_cell", none), "check_cell", "check_cell", defArgs st_check_cell, defBody st_check_cell, defScope st_check_cell, [], []⟩
def dd_uprights : He.DefD := ⟨("uprights", none), "uprights", "uprights", defArgs st_uprights, defBody st_uprights, defScope st_uprights, [], []⟩
def dd_spot_of : He.DefD := ⟨("spot_of", none), "spot_of", "spot_of", defArgs st_spot_of, defBody st_spot_of, defScope st_spot_of, [], []⟩
def dd_height_at_heights : He.DefD := ⟨("height_at_heights", none), "height_at", "height_at", defArgs st_height_at_heights, defBody st_height_at_heights, defScope st_height_at_heights, [], []⟩
def dd_certify_height : He.DefD := ⟨("certify_height", none), "certify_height", "certify_height", defArgs st_certify_height, defBody st_certify_height, defScope st_certify_height, [], []⟩
def dd__law_height : He.DefD := ⟨("_law_height", none), "_law_height", "_law_height", defArgs st__law_height, defBody st__law_height, defScope st__law_height, [], []⟩
def dd__law_right : He.DefD := ⟨("_law_right", none), "_law_right", "_law_right", defArgs st__law_right, defBody st__law_right, defScope st__law_right, [], []⟩
def dd_law : He.DefD := ⟨("law", none), "law", "law", defArgs st_law, defBody st_law, defScope st_law, [], []⟩
def dd__law_got : He.DefD := ⟨("_law_got", none), "_law_got", "_law_got", defArgs st__law_got, defBody st__law_got, defScope st__law_got, [], []⟩
def dd_Line___init__ : He.DefD := ⟨("Line", some "__init__"), "__init__", "Line.__init__", defArgs st_Line___init__, defBody st_Line___init__, defScope st_Line___init__, [], []⟩
def pp_Line_text : PrD := ⟨"Line", "text", "Line.text", defArgs st_Line_text, defBody st_Line_text, defScope st_Line_text⟩
def pp_Line_turn : PrD := ⟨"Line", "turn", "Line.turn", defArgs st_Line_turn, defBody st_Line_turn, defScope st_Line_turn⟩
def hfn0 : List He.DefD := [dd__law_reel, dd__law_roll, dd__law_long, dd__law_side, dd__law_rim, dd__law_base, dd__law_spots, dd__law_is_line, dd__law_turned, dd__law_begun, dd__law_drawn, dd__law_other, dd__law_text, dd_stretch_of, dd_stretches_of, dd_is_level, dd_steps_of, dd_places_of_names, dd_is_plain, dd_first_touch, dd_turned_left, dd_quarters_of, dd_check_line, dd_certify_turn, dd__law_turn]
def hfn1 : List He.DefD := [dd_long_in, dd_steps_in, dd_places_of, dd_is_straight, dd_is_line, dd_is_whole, dd_turn_of, dd_rows_of, dd_height_at, dd_is_pair, dd_is_number_right, dd_accepts, dd__law_is_shown, dd__law_any, dd_is_integer, dd_is_cell, dd_check_cell, dd_uprights, dd_spot_of, dd_height_at_heights, dd_certify_height, dd__law_height, dd__law_right, dd_law, dd__law_got]
def hfn2 : List He.DefD := [dd_Line___init__]
def hfn : List He.DefD := hfn0 ++ hfn1 ++ hfn2
def hfa0 : List He.Fa := [.glo "_law_reel", .glo "_law_roll", .glo "_law_long", .glo "_law_side", .glo "_law_rim", .glo "_law_base", .glo "_law_spots", .glo "_law_is_line", .glo "_law_turned", .glo "_law_begun", .glo "_law_drawn", .glo "_law_other", .glo "_law_text", .glo "stretch_of", .glo "stretches_of", .glo "is_level", .glo "steps_of", .glo "places_of_names", .glo "is_plain", .glo "first_touch", .glo "turned_left", .glo "quarters_of", .glo "check_line", .glo "certify_turn", .glo "_law_turn"]
def hfa1 : List He.Fa := [.glo "long_in", .glo "steps_in", .glo "places_of_checklines", .glo "is_straight", .glo "is_line", .glo "is_whole", .glo "turn_of", .glo "rows_of", .glo "height_at_checklines", .glo "is_pair", .glo "is_number_right", .glo "accepts", .glo "_law_is_shown", .glo "_law_any", .glo "is_integer", .glo "is_cell", .glo "check_cell", .glo "uprights", .glo "spot_of", .glo "height_at_heights", .glo "certify_height", .glo "_law_height", .glo "_law_right", .glo "law", .glo "_law_got"]
def hfa2 : List He.Fa := [.glo "MORE_SIZES", .glo "MOVES", .glo "SHIFTS", .glo "SIZES", .glo "Line", .free "abs", .free "all", .free "any", .free "bool", .free "divmod", .free "enumerate", .free "int", .free "isinstance", .free "len", .free "max", .free "min", .free "range", .free "repr", .free "str", .free "sum", .free "tuple", .free "zip", .str "AROUND" "enws", .str "DIGITS" "0123456789", .int "FEWEST_STRETCHES" 4]
def hfa3 : List He.Fa := [.str "LEVEL" "ew", .int "MOST_FIGURES" 3, .int "MOST_STEPS" 120, .str "UPRIGHT" "ns", .str "WAYS" "enws", .cls "Line", .noat "Line" "rounds", .noat "Line" "spots", .noat "Line" "ways", .noat "Line" "written", .mkr "Line"]
def hfa : List He.Fa := hfa0 ++ hfa1 ++ hfa2 ++ hfa3
def hlo0 : List Str := ["_wall", "__name__", "WrongValue", "NoAnswer", "InvalidText", "InvalidCell", "NotALine", "NotClosed", "Touches", "MOST_STEPS", "WAYS", "SHIFTS", "is_integer", "is_cell", "stretch_of", "is_level", "turned_left", "stretches_of", "steps_of", "places_of", "places_of_names", "quarters_of", "is_plain", "first_touch", "Line"]
def hlo1 : List Str := ["check_line", "check_cell", "spot_of", "uprights", "height_at", "height_at_heights", "certify_turn", "certify_height", "LEVEL", "UPRIGHT", "DIGITS", "MOVES", "AROUND", "FEWEST_STRETCHES", "MOST_FIGURES", "is_whole", "is_pair", "long_in", "steps_in", "places_of_checklines", "is_straight", "is_line", "turn_of", "rows_of", "height_at_checklines"]
def hlo2 : List Str := ["is_bar", "mates_in", "are_apart", "is_sheet", "count_of", "may_pair", "ahead_of", "behind", "pieces_of", "piece_at", "covering", "leaf_at", "steps_apart", "beside", "posts_of", "is_low", "SIZES", "MORE_SIZES", "is_natural", "shows_none", "shows_unlike", "is_number_right", "is_sheet_right", "are_pairs", "accepts"]
def hlo3 : List Str := ["_law_reel", "_law_roll", "_law_any", "_law_long", "_law_text", "_law_spots", "_law_is_line", "_law_begun", "_law_turned", "_law_side", "_law_rim", "_law_base", "_law_drawn", "_law_other", "_law_turn", "_law_height", "_law_got", "_law_is_shown", "_law_right"]
def hlo : List Str := hlo0 ++ hlo1 ++ hlo2 ++ hlo3
def hpr0 : List PrD := [pp_Line_text, pp_Line_turn]
def hpr : List PrD := hpr0
def hnm0 : List Str := ["Line", "MORE_SIZES", "MOVES", "SHIFTS", "SIZES", "_law_any", "_law_base", "_law_begun", "_law_drawn", "_law_got", "_law_height", "_law_is_line", "_law_is_shown", "_law_long", "_law_other", "_law_reel", "_law_right", "_law_rim", "_law_roll", "_law_side", "_law_spots", "_law_text", "_law_turn", "_law_turned", "accepts"]
def hnm1 : List Str := ["certify_height", "certify_turn", "check_cell", "check_line", "first_touch", "height_at_checklines", "height_at_heights", "is_cell", "is_integer", "is_level", "is_line", "is_number_right", "is_pair", "is_plain", "is_straight", "is_whole", "law", "long_in", "places_of_checklines", "places_of_names", "quarters_of", "rows_of", "spot_of", "steps_in", "steps_of"]
def hnm2 : List Str := ["stretch_of", "stretches_of", "turn_of", "turned_left", "uprights"]
def hnm : List Str := hnm0 ++ hnm1 ++ hnm2
def hts : List He.Tab := [(fun K => He.ga K "MORE_SIZES", ["none", "unlike", "leaf", "apart", "posts"]), (fun K => He.ga K "MOVES", ["e", "n", "w", "s"]), (fun K => He.ga K "SHIFTS", ["e", "n", "w", "s"]), (fun K => He.ga K "SIZES", ["turn", "height", "sheets", "sheet", "with"])]
def hlam : List He.Defn := [("_law_right", none)]
def hbs (K : PySem.W.Frag) : Bool := tabB K (He.ga K "MORE_SIZES") tb_MORE_SIZES && tabB K (He.ga K "MOVES") tb_MOVES && tabB K (He.ga K "SHIFTS") tb_SHIFTS && tabB K (He.ga K "SIZES") tb_SIZES && isCB K "Line"
abbrev RR : PySem.W.OpenRow := PySem.W.OpenLaw.row PySem.Challenge.rw_rimsheets_k66_certified_turns_and_height
abbrev hk : PySem.W.Hook := hookZ hnm 4 hfa hfn hts hlam hbs hpr
def hob (s : PySem.W.SharedT) : AlY := obsZ hnm 4 hfa hfn hts hlam hbs hpr (HandSHeadRun.getT s)
theorem hob_eq (s : PySem.W.SharedT) : hob s = hk.obs s.abs := obsZ_eq (HandSHeadRun.getT_eq s)
end K51
namespace K51
open PySem PySem.W PySem.Calls PyProof.Rows HandSHeadRun Mo
noncomputable abbrev RUN (w : World) (os : OsState) : Option SharedT := endF (stepQ (denQ tabQ) RR.prog w) 6700 RR.prog w os
theorem join3 {S α β γ : Type} {x : Option S} {f : S → α} {g : S → β} {k : S → γ} {a : α} {b : β} {c : γ} (p : x.map f = some a) (q : x.map g = some b) (r : x.map k = some c) : x.map (fun s => (f s, g s, k s)) = some (a, b, c) := by
  cases x with
  | none => cases p
  | some s => cases p; cases q; cases r; rfl
theorem hA0 (w : World) (os : OsState) : (RUN (w.withFollow "special-get-raises" false) os).map (fun s => looksF RR.prog (PySem.W.boot_heap (w.withFollow "special-get-raises" false).params) s.abs) = some true := by
  kernel_rfl
theorem hB0 (w : World) (os : OsState) : (RUN (w.withFollow "special-get-raises" false) os).map (fun s => seenQ (view RR.prog [104]) hlo (importedModules RR.prog.main.body) (fun s => xlAt (view RR.prog [104]) [] s && recOk RR.toRowW.records s) s.abs) = some (openGood (view RR.prog [104]) hlo) := by
  kernel_rfl
theorem hC0 (w : World) (os : OsState) : (RUN (w.withFollow "special-get-raises" false) os).map hob = some (valY hfn hts hpr (w.withFollow "special-get-raises" false)) := by
  kernel_rfl
theorem hA1 (w : World) (os : OsState) : (RUN (w.withFollow "special-get-raises" true) os).map (fun s => looksF RR.prog (PySem.W.boot_heap (w.withFollow "special-get-raises" true).params) s.abs) = some true := by
  kernel_rfl
theorem hB1 (w : World) (os : OsState) : (RUN (w.withFollow "special-get-raises" true) os).map (fun s => seenQ (view RR.prog [104]) hlo (importedModules RR.prog.main.body) (fun s => xlAt (view RR.prog [104]) [] s && recOk RR.toRowW.records s) s.abs) = some (openGood (view RR.prog [104]) hlo) := by
  kernel_rfl
theorem hC1 (w : World) (os : OsState) : (RUN (w.withFollow "special-get-raises" true) os).map hob = some (valY hfn hts hpr (w.withFollow "special-get-raises" true)) := by
  kernel_rfl
theorem hrunf (w : World) : RunEq RR (view RR.prog [104]) hk hob 6700 hlo (w.withFollow "special-get-raises" false) := fun os => join3 (hA0 w os) (hB0 w os) (hC0 w os)
theorem hrunt (w : World) : RunEq RR (view RR.prog [104]) hk hob 6700 hlo (w.withFollow "special-get-raises" true) := fun os => join3 (hA1 w os) (hB1 w os) (hC1 w os)
theorem hrun (w : World) : RunEq RR (view RR.prog [104]) hk hob 6700 hlo w := PySem.W.byRow2 "special-get-raises" hrunf hrunt w
end K51
namespace K51
open PySem PySem.Spec PyProof.Rows L2 Mo
theorem facts {w : World} {K : PySem.W.Frag} {h : Heap} {mg : Str → Option Value} (X : K.In h) (G : h.Ns mainGlobals mg) (c : SaysY hfa hfn hts hlam hbs hpr w h K) : Fc w K mg := by
  have d := c.x.t.d
  have b := c.x.more
  simp only [hbs, Bool.and_eq_true] at b
  exact {
    d__law_reel := d.def_ 0 (d := dd__law_reel) rfl
    d__law_roll := d.def_ 1 (d := dd__law_roll) rfl
    d__law_long := d.def_ 2 (d := dd__law_long) rfl
    d__law_side := d.def_ 3 (d := dd__law_side) rfl
    d__law_rim := d.def_ 4 (d := dd__law_rim) rfl
    d__law_base := d.def_ 5 (d := dd__law_base) rfl
    d__law_spots := d.def_ 6 (d := dd__law_spots) rfl
    d__law_is_line := d.def_ 7 (d := dd__law_is_line) rfl
    d__law_turned := d.def_ 8 (d := dd__law_turned) rfl
    d__law_begun := d.def_ 9 (d := dd__law_begun) rfl
    d__law_drawn := d.def_ 10 (d := dd__law_drawn) rfl
    d__law_other := d.def_ 11 (d := dd__law_other) rfl
    d__law_text := d.def_ 12 (d := dd__law_text) rfl
    d_stretch_of := d.def_ 13 (d := dd_stretch_of) rfl
    d_stretches_of := d.def_ 14 (d := dd_stretches_of) rfl
    d_is_level := d.def_ 15 (d := dd_is_level) rfl
    d_steps_of := d.def_ 16 (d := dd_steps_of) rfl
    d_places_of_names := d.def_ 17 (d := dd_places_of_names) rfl
    d_is_plain := d.def_ 18 (d := dd_is_plain) rfl
    d_first_touch := d.def_ 19 (d := dd_first_touch) rfl
    d_turned_left := d.def_ 20 (d := dd_turned_left) rfl
    d_quarters_of := d.def_ 21 (d := dd_quarters_of) rfl
    d_check_line := d.def_ 22 (d := dd_check_line) rfl
    d_certify_turn := d.def_ 23 (d := dd_certify_turn) rfl
    d__law_turn := d.def_ 24 (d := dd__law_turn) rfl
    d_long_in := d.def_ 25 (d := dd_long_in) rfl
    d_steps_in := d.def_ 26 (d := dd_steps_in) rfl
    d_places_of := d.def_ 27 (d := dd_places_of) rfl
    d_is_straight := d.def_ 28 (d := dd_is_straight) rfl
    d_is_line := d.def_ 29 (d := dd_is_line) rfl
    d_is_whole := d.def_ 30 (d := dd_is_whole) rfl
    d_turn_of := d.def_ 31 (d := dd_turn_of) rfl
    d_rows_of := d.def_ 32 (d := dd_rows_of) rfl
    d_height_at := d.def_ 33 (d := dd_height_at) rfl
    d_is_pair := d.def_ 34 (d := dd_is_pair) rfl
    d_is_number_right := d.def_ 35 (d := dd_is_number_right) rfl
    d_accepts := d.def_ 36 (d := dd_accepts) rfl
    d__law_is_shown := d.def_ 37 (d := dd__law_is_shown) rfl
    d__law_any := d.def_ 38 (d := dd__law_any) rfl
    d_is_integer := d.def_ 39 (d := dd_is_integer) rfl
    d_is_cell := d.def_ 40 (d := dd_is_cell) rfl
    d_check_cell := d.def_ 41 (d := dd_check_cell) rfl
    d_uprights := d.def_ 42 (d := dd_uprights) rfl
    d_spot_of := d.def_ 43 (d := dd_spot_of) rfl
    d_height_at_heights := d.def_ 44 (d := dd_height_at_heights) rfl
    d_certify_height := d.def_ 45 (d := dd_certify_height) rfl
    d__law_height := d.def_ 46 (d := dd__law_height) rfl
    d__law_right := d.def_ 47 (d := dd__law_right) rfl
    d_law := d.def_ 48 (d := dd_law) rfl
    d__law_got := d.def_ 49 (d := dd__law_got) rfl
    d_Line___init__ := d.def_ 50 (d := dd_Line___init__) rfl
    d_Line_text := c.getter 0 (d := pp_Line_text) rfl
    pr_Line_text := c.prop 0 (d := pp_Line_text) rfl
    d_Line_turn := c.getter 1 (d := pp_Line_turn) rfl
    pr_Line_turn := c.prop 1 (d := pp_Line_turn) rfl
    g__law_reel := He.glo_ok X G (d.fact 0 (f := .glo "_law_reel") rfl)
    g__law_roll := He.glo_ok X G (d.fact 1 (f := .glo "_law_roll") rfl)
    g__law_long := He.glo_ok X G (d.fact 2 (f := .glo "_law_long") rfl)
    g__law_side := He.glo_ok X G (d.fact 3 (f := .glo "_law_side") rfl)
    g__law_rim := He.glo_ok X G (d.fact 4 (f := .glo "_law_rim") rfl)
    g__law_base := He.glo_ok X G (d.fact 5 (f := .glo "_law_base") rfl)
    g__law_spots := He.glo_ok X G (d.fact 6 (f := .glo "_law_spots") rfl)
    g__law_is_line := He.glo_ok X G (d.fact 7 (f := .glo "_law_is_line") rfl)
    g__law_turned := He.glo_ok X G (d.fact 8 (f := .glo "_law_turned") rfl)
    g__law_begun := He.glo_ok X G (d.fact 9 (f := .glo "_law_begun") rfl)
    g__law_drawn := He.glo_ok X G (d.fact 10 (f := .glo "_law_drawn") rfl)
    g__law_other := He.glo_ok X G (d.fact 11 (f := .glo "_law_other") rfl)
    g__law_text := He.glo_ok X G (d.fact 12 (f := .glo "_law_text") rfl)
    g_stretch_of := He.glo_ok X G (d.fact 13 (f := .glo "stretch_of") rfl)
    g_stretches_of := He.glo_ok X G (d.fact 14 (f := .glo "stretches_of") rfl)
    g_is_level := He.glo_ok X G (d.fact 15 (f := .glo "is_level") rfl)
    g_steps_of := He.glo_ok X G (d.fact 16 (f := .glo "steps_of") rfl)
    g_places_of_names := He.glo_ok X G (d.fact 17 (f := .glo "places_of_names") rfl)
    g_is_plain := He.glo_ok X G (d.fact 18 (f := .glo "is_plain") rfl)
    g_first_touch := He.glo_ok X G (d.fact 19 (f := .glo "first_touch") rfl)
    g_turned_left := He.glo_ok X G (d.fact 20 (f := .glo "turned_left") rfl)
    g_quarters_of := He.glo_ok X G (d.fact 21 (f := .glo "quarters_of") rfl)
    g_check_line := He.glo_ok X G (d.fact 22 (f := .glo "check_line") rfl)
    g_certify_turn := He.glo_ok X G (d.fact 23 (f := .glo "certify_turn") rfl)
    g__law_turn := He.glo_ok X G (d.fact 24 (f := .glo "_law_turn") rfl)
    g_long_in := He.glo_ok X G (d.fact 25 (f := .glo "long_in") rfl)
    g_steps_in := He.glo_ok X G (d.fact 26 (f := .glo "steps_in") rfl)
    g_places_of := He.glo_ok X G (d.fact 27 (f := .glo "places_of_checklines") rfl)
    g_is_straight := He.glo_ok X G (d.fact 28 (f := .glo "is_straight") rfl)
    g_is_line := He.glo_ok X G (d.fact 29 (f := .glo "is_line") rfl)
    g_is_whole := He.glo_ok X G (d.fact 30 (f := .glo "is_whole") rfl)
    g_turn_of := He.glo_ok X G (d.fact 31 (f := .glo "turn_of") rfl)
    g_rows_of := He.glo_ok X G (d.fact 32 (f := .glo "rows_of") rfl)
    g_height_at := He.glo_ok X G (d.fact 33 (f := .glo "height_at_checklines") rfl)
    g_is_pair := He.glo_ok X G (d.fact 34 (f := .glo "is_pair") rfl)
    g_is_number_right := He.glo_ok X G (d.fact 35 (f := .glo "is_number_right") rfl)
    g_accepts := He.glo_ok X G (d.fact 36 (f := .glo "accepts") rfl)
    g__law_is_shown := He.glo_ok X G (d.fact 37 (f := .glo "_law_is_shown") rfl)
    g__law_any := He.glo_ok X G (d.fact 38 (f := .glo "_law_any") rfl)
    g_is_integer := He.glo_ok X G (d.fact 39 (f := .glo "is_integer") rfl)
    g_is_cell := He.glo_ok X G (d.fact 40 (f := .glo "is_cell") rfl)
    g_check_cell := He.glo_ok X G (d.fact 41 (f := .glo "check_cell") rfl)
    g_uprights := He.glo_ok X G (d.fact 42 (f := .glo "uprights") rfl)
    g_spot_of := He.glo_ok X G (d.fact 43 (f := .glo "spot_of") rfl)
    g_height_at_heights := He.glo_ok X G (d.fact 44 (f := .glo "height_at_heights") rfl)
    g_certify_height := He.glo_ok X G (d.fact 45 (f := .glo "certify_height") rfl)
    g__law_height := He.glo_ok X G (d.fact 46 (f := .glo "_law_height") rfl)
    g__law_right := He.glo_ok X G (d.fact 47 (f := .glo "_law_right") rfl)
    g_law := He.glo_ok X G (d.fact 48 (f := .glo "law") rfl)
    g__law_got := He.glo_ok X G (d.fact 49 (f := .glo "_law_got") rfl)
    g_MORE_SIZES := He.glo_ok X G (d.fact 50 (f := .glo "MORE_SIZES") rfl)
    g_MOVES := He.glo_ok X G (d.fact 51 (f := .glo "MOVES") rfl)
    g_SHIFTS := He.glo_ok X G (d.fact 52 (f := .glo "SHIFTS") rfl)
    g_SIZES := He.glo_ok X G (d.fact 53 (f := .glo "SIZES") rfl)
    g_Line := He.glo_ok X G (d.fact 54 (f := .glo "Line") rfl)
    n_abs := He.free_ok X G (d.fact 55 (f := .free "abs") rfl)
    n_all := He.free_ok X G (d.fact 56 (f := .free "all") rfl)
    n_any := He.free_ok X G (d.fact 57 (f := .free "any") rfl)
    n_bool := He.free_ok X G (d.fact 58 (f := .free "bool") rfl)
    n_divmod := He.free_ok X G (d.fact 59 (f := .free "divmod") rfl)
    n_enumerate := He.free_ok X G (d.fact 60 (f := .free "enumerate") rfl)
    n_int := He.free_ok X G (d.fact 61 (f := .free "int") rfl)
    n_isinstance := He.free_ok X G (d.fact 62 (f := .free "isinstance") rfl)
    n_len := He.free_ok X G (d.fact 63 (f := .free "len") rfl)
    n_max := He.free_ok X G (d.fact 64 (f := .free "max") rfl)
    n_min := He.free_ok X G (d.fact 65 (f := .free "min") rfl)
    n_range := He.free_ok X G (d.fact 66 (f := .free "range") rfl)
    n_repr := He.free_ok X G (d.fact 67 (f := .free "repr") rfl)
    n_str := He.free_ok X G (d.fact 68 (f := .free "str") rfl)
    n_sum := He.free_ok X G (d.fact 69 (f := .free "sum") rfl)
    n_tuple := He.free_ok X G (d.fact 70 (f := .free "tuple") rfl)
    n_zip := He.free_ok X G (d.fact 71 (f := .free "zip") rfl)
    c_AROUND := He.str_ok X G (d.fact 72 (f := .str "AROUND" "enws") rfl)
    c_DIGITS := He.str_ok X G (d.fact 73 (f := .str "DIGITS" "0123456789") rfl)
    c_FEWEST_STRETCHES := He.int_ok X G (d.fact 74 (f := .int "FEWEST_STRETCHES" 4) rfl)
    c_LEVEL := He.str_ok X G (d.fact 75 (f := .str "LEVEL" "ew") rfl)
    c_MOST_FIGURES := He.int_ok X G (d.fact 76 (f := .int "MOST_FIGURES" 3) rfl)
    c_MOST_STEPS := He.int_ok X G (d.fact 77 (f := .int "MOST_STEPS" 120) rfl)
    c_UPRIGHT := He.str_ok X G (d.fact 78 (f := .str "UPRIGHT" "ns") rfl)
    c_WAYS := He.str_ok X G (d.fact 79 (f := .str "WAYS" "enws") rfl)
    cls_Line := He.cls_ok (d.fact 80 (f := .cls "Line") rfl)
    na_Line_rounds := He.noat_ok (d.fact 81 (f := .noat "Line" "rounds") rfl)
    na_Line_spots := He.noat_ok (d.fact 82 (f := .noat "Line" "spots") rfl)
    na_Line_ways := He.noat_ok (d.fact 83 (f := .noat "Line" "ways") rfl)
    na_Line_written := He.noat_ok (d.fact 84 (f := .noat "Line" "written") rfl)
    mk_Line := He.mkr_ok (d.fact 85 (f := .mkr "Line") rfl)
    t_MORE_SIZES := ⟨c.x.t.tab 0 rfl, b.1.1.1.1⟩
    t_MOVES := ⟨c.x.t.tab 1 rfl, b.1.1.1.2⟩
    t_SHIFTS := ⟨c.x.t.tab 2 rfl, b.1.1.2⟩
    t_SIZES := ⟨c.x.t.tab 3 rfl, b.1.2⟩
    is_Line := isCB_ok b.2 }
end K51
open PySem PySem.W PySem.Calls PyProof.Rows
theorem K51_of (hlaw : ∀ ns : List Int, ns.length ≤ 63 → ∃ h', K51.f_law [.wl (ns.map Mo.Dt.int)] [] = .ok (.bl true) h') : PySem.Challenge.rw_rimsheets_k66_certified_turns_and_height.Holds := by
  w_on; o_law
  refine HandSHeadRun.head_any (r := OpenLaw.row PySem.Challenge.rw_rimsheets_k66_certified_turns_and_height) (q := view (OpenLaw.row PySem.Challenge.rw_rimsheets_k66_certified_turns_and_height).prog [104]) (H := K51.hk) (ob := K51.hob) (M := 6700) (loose := K51.hlo) (d := HandSHeadRun.topDef (OpenLaw.row PySem.Challenge.rw_rimsheets_k66_certified_turns_and_height).prog 104) (kwd := []) K51.hob_eq
    (by kernel_rfl) (fun s => by kernel_rfl) K51.hrun (by kernel_rfl) (by kernel_rfl) (by kernel_rfl) (by rfl) (by first | assumption | decide +kernel) (by decide +kernel) ⟨rfl, rfl, rfl, rfl, rfl, by decide +kernel⟩ ?hw ?hc
  case hw => w_witness2
  case hc =>
    refine Mo.walk_G (l := PySem.Challenge.rw_rimsheets_k66_certified_turns_and_height) (n := 63) (k := 8) (x := "_law_script") rfl (by decide) (by kernel_rfl) ⟨rfl, by decide, by decide⟩ ?F
    intro w mg fa h Y G hmg0
    obtain ⟨K, KX, c⟩ := Y
    have hmg : mg ("law" : PySem.Str) = some (.ref fa) := by
      have e : (HandSHeadRun.topDef (OpenLaw.row PySem.Challenge.rw_rimsheets_k66_certified_turns_and_height).prog 104).name = ("law" : PySem.Str) := by kernel_rfl
      rw [← e]
      exact hmg0
    have C := K51.facts KX G c
    obtain ⟨fd, F⟩ := C.d_law
    have e := hmg.symm.trans C.g_law
    cases e
    have b := L2.FunD.bindsA (ps := ["_law_script"]) F fun _ _ _ _ _ _ us hl => match us, hl with | [_], _ => rfl
    exact ⟨K, fd, K51.f_law, KX, c.lam rfl, fun s v => b s [v] rfl, hlaw, fun base _ _ B => K51.go_law C B F⟩
theorem PySem.Challenge.cw_rimsheets_k66_certified_turns_and_height_holds : PySem.Challenge.rw_rimsheets_k66_certified_turns_and_height.Holds :=
  K51_of Mo.law_ok
