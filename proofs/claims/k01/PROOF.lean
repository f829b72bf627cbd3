import PyProof.Rows.All
import Wide.All
import OpenK.AllK
import Wide.FinOn
import HandS.Lambda
import HandS.HeadHook4
import HandS.ForMost
import HandS.Walk
import HandS.HeadHook1
import HandS.ExcInit
import HandS.Defaults
import HandS.TupAny
import HandS.Wide
import HandS.Deep
import HandS.IsInst
import HandS.SortRule
import HandS.SortInts
import HandS.Replace
import HandS.SetFor
import HandS.TupLen
import HandS.Conv
import HandS.More
import HandS.Small
import HandS.HeadEnd
import HandS.EndTab
import HandS.NestedK
import HandS.NoneIn
import HandS.SetKeys
import HandS.HeadHook3
import PyProof.DictMoreH
import HandS.Style
import PyProof.Draws
import PyProof.EnumMake
import PyProof.ZipIter
import HandS.DictComp
import KE.KDictPairs
import HandS.Text
import PyProof.EqAt
import PyProof.NeKinds
import HandS.Property
import KE.KAssignIn
import HandS.WordsExc
import HandS.TupLe
import HandS.ExcIs
import HandS.ExcField
import KE.KExcInit
import PyProof.ExcBaseAll.ArithmeticError
import HandS.ExcValue
import KE.DataFind
import PyProof.ReprBulk
import HandS.Head0
import HandS.Head1
import HandS.Head2
import PySem.Challenge.RW_rimsheets_k01_constants_and_errors
set_option Elab.async false
set_option linter.all false
/-! Mo0: the defs of the law that hold lambdas (by the law's own text), and the tables of their code objects. -/
namespace Mo
open PySem L2
def lamDefs : List Str := []
def LT (K : PySem.W.Frag) : List (Addr × Str) := lamDefs.map fun n => ((He.cT K (n, none)).2, n ++ ".<locals>." ++ "<lambda>")
end Mo
set_option Elab.async false
set_option linter.all false
set_option maxRecDepth 100000
set_option maxHeartbeats 4000000
/-! Mo1: abstract data, abstract heap, the monad, what represents what. -/
namespace Mo
open PySem L2

inductive Dt where
  | non | bl (b : Bool) | int (i : Int) | str (x : Str) | ty (n : String) | adr (a : Addr) | cl (c : Str)
  | tup (xs : List Dt) | lv (xs : List Dt) | wl (xs : List Dt) | wt (xs : List Dt)
  | dk (ks : List Key) (vs : List Dt) | dt (ks : List (List Key)) (vs : List Dt)
  | exc (c : Str) (ns : List Str) (ds : List Dt)
  | obj (i : Nat)

inductive Ao where
  | dead | lst (xs : List Dt) | dk (ks : List Key) (vs : List Dt) | dt (ks : List (List Key)) (vs : List Dt)
  | ins (c : Str) (fs : List (Str × Dt))

abbrev Ah := List Ao
structure Xv where
  cls : Addr
  fs : Option (List (Str × Dt))

inductive Rs (α : Type) where
  | ok (a : α) (h : Ah) | exn (x : Xv) (h : Ah) | no

def Mm (α : Type) : Type := Ah → Rs α
def Mm.pure {α : Type} (a : α) : Mm α := fun h => .ok a h
def Mm.bind {α β : Type} (m : Mm α) (f : α → Mm β) : Mm β := fun h => match m h with
  | .ok a h' => f a h'
  | .exn x h' => .exn x h'
  | .no => .no
instance : Monad Mm where
  pure := Mm.pure
  bind := Mm.bind
def Mm.no {α : Type} : Mm α := fun _ => .no

structure Sx where
  ρ : List Addr
  h : Ah
  H : Hp
def Sx.mut (s : Sx) (a : Addr) : Prop := ∃ (i : Nat) (o : Ao), s.ρ[i]? = some a ∧ s.h[i]? = some o ∧ o ≠ .dead
/-- a cell that does not change any more -/
def Fx (s : Sx) (a : Addr) (u : HO) : Prop := Rd s.H a u ∧ ¬ s.mut a
abbrev H0 : Hp := fun _ => none

mutual
def Rep (K : PySem.W.Frag) (s : Sx) : Dt → V → Prop
  | .non, v => v = .non
  | .bl b, v => v = .bl b
  | .int i, v => v = .int i
  | .str x, v => v = .str x
  | .ty n, v => v = .ty n
  | .adr a, v => v = .ref a
  | .cl c, v => v = .ref (He.ga K c)
  | .tup ds, v => ∃ a vs, v = .ref a ∧ (s.H a = some (.tup vs) ∧ ¬ s.mut a) ∧ Reps K s ds vs
  | .wt ds, v => ∃ a vs, v = .ref a ∧ SqT K H0 a vs ∧ Reps K s ds vs
  | .lv ds, v => ∃ a vs, v = .ref a ∧ (s.H a = some (.lst vs) ∧ ¬ s.mut a) ∧ Reps K s ds vs
  | .wl ds, v => ∃ a vs, v = .ref a ∧ (Fx s a (.lst vs) ∨ SqL K H0 a vs) ∧ Reps K s ds vs
  | .dk ks ds, v => ∃ a vs, v = .ref a ∧ Fx s a (.dK (ks.zip vs)) ∧ ks.length = vs.length ∧ Reps K s ds vs
  | .dt ks ds, v => ∃ a vs, v = .ref a ∧ Fx s a (.dT (ks.zip vs)) ∧ ks.length = vs.length ∧ Reps K s ds vs
  | .exc c ns ds, v => ∃ a, v = .ref a ∧ ((ns = [] ∧ ds = [] ∧ s.H a = some (exo a (He.ga K c) none) ∧ ¬ s.mut a) ∨
      ∃ dx vs, (s.H a = some (exo a (He.ga K c) (some dx)) ∧ ¬ s.mut a) ∧ (s.H dx = some (exd dx (ns.zip vs)) ∧ ¬ s.mut dx) ∧ ns.length = vs.length ∧ Reps K s ds vs)
  | .obj i, v => ∃ a, s.ρ[i]? = some a ∧ v = .ref a
def Reps (K : PySem.W.Frag) (s : Sx) : List Dt → List V → Prop
  | [], vs => vs = []
  | d :: ds, vs => ∃ v r, vs = v :: r ∧ Rep K s d v ∧ Reps K s ds r
end

/-- no table of code objects -/
def NoT (o : HO) : Prop := ∀ ps, o ≠ .tbl ps
def RepF (K : PySem.W.Frag) (s : Sx) : List (Str × Dt) → List (Str × V) → Prop
  | [], vs => vs = []
  | (n, d) :: ds, vs => ∃ v r, vs = (n, v) :: r ∧ Rep K s d v ∧ RepF K s ds r
def ORep (K : PySem.W.Frag) (s : Sx) (a : Addr) : Ao → Prop
  | .dead => ∃ u, s.H a = some u ∧ NoT u
  | .lst ds => ∃ vs, s.H a = some (.lst vs) ∧ Reps K s ds vs
  | .dk ks ds => ∃ vs, s.H a = some (.dK (ks.zip vs)) ∧ ks.length = vs.length ∧ Reps K s ds vs
  | .dt ks ds => ∃ vs, s.H a = some (.dT (ks.zip vs)) ∧ ks.length = vs.length ∧ Reps K s ds vs
  | .ins c fs => ∃ dx vs, s.H a = some (.ins (He.ga K c) dx vs) ∧ (s.H dx = some (.own a) ∧ ¬ s.mut dx) ∧ RepF K s fs vs

structure HRel (K : PySem.W.Frag) (s : Sx) : Prop where
  len : s.ρ.length = s.h.length
  nd : s.ρ.Nodup
  ob : ∀ (i : Nat) a o, s.ρ[i]? = some a → s.h[i]? = some o → ORep K s a o
  tb : LamX.Tabs (LT K) s.H

/-- a cell stays, or a dict is locked for good -/
def Fz (o o' : HO) : Prop := o' = o ∨ ∃ ob, o' = .frz ob o ∧ ((∃ kvs, o = .dK kvs) ∨ ∃ kvs, o = .dT kvs)
theorem Fz.trans {o p q : HO} (h : Fz o p) (k : Fz p q) : Fz o q := by
  rcases h with rfl | ⟨ob, rfl, h⟩
  · exact k
  · rcases k with rfl | ⟨ob', _, ⟨_, z⟩ | ⟨_, z⟩⟩
    · exact .inr ⟨ob, rfl, h⟩
    · cases z
    · cases z
theorem Fz.not {o p : HO} (h : Fz o p) (n : NoT o) : NoT p := by
  rcases h with rfl | ⟨ob, rfl, h⟩
  · exact n
  · exact fun ps z => nomatch z
structure Ext (s s' : Sx) : Prop where
  pre : ∀ (i : Nat) a, s.ρ[i]? = some a → s'.ρ[i]? = some a
  fix : ∀ a o, s.H a = some o → ¬ s.mut a → NoT o → (∃ o', s'.H a = some o' ∧ Fz o o') ∧ ¬ s'.mut a
theorem Ext.mk' {s s' : Sx} (pre : ∀ (i : Nat) a, s.ρ[i]? = some a → s'.ρ[i]? = some a) (fix : ∀ a o, s.H a = some o → ¬ s.mut a → s'.H a = some o ∧ ¬ s'.mut a) : Ext s s' :=
  ⟨pre, fun a o h k _ => ⟨⟨o, (fix a o h k).1, .inl rfl⟩, (fix a o h k).2⟩⟩
theorem Ext.refl (s : Sx) : Ext s s := .mk' (fun _ _ h => h) (fun _ _ h k => ⟨h, k⟩)
theorem Ext.trans {s s1 s2 : Sx} (x : Ext s s1) (y : Ext s1 s2) : Ext s s2 := by
  refine ⟨fun i a h => y.pre i a (x.pre i a h), fun a o h k n => ?_⟩
  obtain ⟨⟨o1, h1, f1⟩, k1⟩ := x.fix a o h k n
  obtain ⟨⟨o2, h2, f2⟩, k2⟩ := y.fix a o1 h1 k1 (f1.not n)
  exact ⟨⟨o2, h2, f1.trans f2⟩, k2⟩
def isDc : HO → Bool
  | .dK _ => true
  | .dT _ => true
  | .tbl _ => true
  | _ => false
theorem Ext.keep {s s' : Sx} (x : Ext s s') {a : Addr} {o : HO} (h : s.H a = some o ∧ ¬ s.mut a) (hd : isDc o = false) : s'.H a = some o ∧ ¬ s'.mut a := by
  obtain ⟨⟨o1, h1, f1⟩, k1⟩ := x.fix a o h.1 h.2 (fun ps z => by rw [z] at hd; cases hd)
  rcases f1 with rfl | ⟨ob, _, ⟨_, rfl⟩ | ⟨_, rfl⟩⟩
  · exact ⟨h1, k1⟩
  · cases hd
  · cases hd
theorem Fx.ext {s s' : Sx} {a : Addr} {u : HO} (x : Ext s s') (h : Fx s a u) (hu : NoT u := by intro _ z; cases z) : Fx s' a u := by
  obtain ⟨h | ⟨o, h⟩, k⟩ := h
  · obtain ⟨⟨o1, h1, f1⟩, k1⟩ := x.fix a _ h k hu
    rcases f1 with rfl | ⟨ob, rfl, _⟩
    · exact ⟨.inl h1, k1⟩
    · exact ⟨.inr ⟨ob, h1⟩, k1⟩
  · obtain ⟨h1, k1⟩ := x.keep ⟨h, k⟩ rfl
    exact ⟨.inr ⟨o, h1⟩, k1⟩

mutual
theorem Rep.ext {K : PySem.W.Frag} {s s' : Sx} (x : Ext s s') : ∀ {d : Dt} {v : V}, Rep K s d v → Rep K s' d v
  | .non, v, h => h
  | .bl b, v, h => h
  | .int i, v, h => h
  | .str y, v, h => h
  | .ty n, v, h => h
  | .adr a, v, h => h
  | .cl c, v, h => h
  | .tup ds, v, h => by
    obtain ⟨a, vs, e, k, r⟩ := h
    exact ⟨a, vs, e, x.keep k rfl, Reps.ext x r⟩
  | .wt ds, v, h => by
    obtain ⟨a, vs, e, k, r⟩ := h
    exact ⟨a, vs, e, k, Reps.ext x r⟩
  | .lv ds, v, h => by
    obtain ⟨a, vs, e, k, r⟩ := h
    exact ⟨a, vs, e, x.keep k rfl, Reps.ext x r⟩
  | .wl ds, v, h => by
    obtain ⟨a, vs, e, k, r⟩ := h
    exact ⟨a, vs, e, k.imp (fun q => q.ext x) id, Reps.ext x r⟩
  | .dk ks ds, v, h => by
    obtain ⟨a, vs, e, k, l, r⟩ := h
    exact ⟨a, vs, e, k.ext x, l, Reps.ext x r⟩
  | .dt ks ds, v, h => by
    obtain ⟨a, vs, e, k, l, r⟩ := h
    exact ⟨a, vs, e, k.ext x, l, Reps.ext x r⟩
  | .exc c ns ds, v, h => by
    obtain ⟨a, e, h⟩ := h
    refine ⟨a, e, ?_⟩
    rcases h with ⟨h1, h2, k⟩ | ⟨dx, vs, k1, k2, l, r⟩
    · exact .inl ⟨h1, h2, x.keep k rfl⟩
    · exact .inr ⟨dx, vs, x.keep k1 rfl, x.keep k2 rfl, l, Reps.ext x r⟩
  | .obj i, v, h => by
    obtain ⟨a, e, r⟩ := h
    exact ⟨a, x.pre i a e, r⟩
theorem Reps.ext {K : PySem.W.Frag} {s s' : Sx} (x : Ext s s') : ∀ {ds : List Dt} {vs : List V}, Reps K s ds vs → Reps K s' ds vs
  | [], vs, h => h
  | d :: ds, vs, h => by
    obtain ⟨v, r, e, h1, h2⟩ := h
    exact ⟨v, r, e, Rep.ext x h1, Reps.ext x h2⟩
end

section
variable {K : PySem.W.Frag} {s s' : Sx}
theorem Reps.length : ∀ {ds : List Dt} {vs : List V}, Reps K s ds vs → vs.length = ds.length
  | [], vs, h => by cases h; rfl
  | d :: ds, vs, h => by
    obtain ⟨v, r, rfl, h1, h2⟩ := h
    simp [Reps.length h2]
theorem Reps.cons {d : Dt} {ds : List Dt} {v : V} {vs : List V} (h : Rep K s d v) (k : Reps K s ds vs) : Reps K s (d :: ds) (v :: vs) := ⟨v, vs, rfl, h, k⟩
theorem Reps.nil : Reps K s [] [] := rfl
theorem Reps.append : ∀ {ds es : List Dt} {vs ws : List V}, Reps K s ds vs → Reps K s es ws → Reps K s (ds ++ es) (vs ++ ws)
  | [], _, _, _, h, k => by cases h; exact k
  | d :: ds, es, vs, ws, h, k => by
    obtain ⟨v, r, rfl, h1, h2⟩ := h
    exact ⟨v, _, rfl, h1, Reps.append h2 k⟩
theorem Reps.get : ∀ {ds : List Dt} {vs : List V} {i : Nat} {d : Dt}, Reps K s ds vs → ds[i]? = some d → ∃ v, vs[i]? = some v ∧ Rep K s d v
  | [], _, _, _, h, e => by simp at e
  | d :: ds, vs, 0, _, h, e => by
    obtain ⟨v, r, rfl, h1, h2⟩ := h
    simp at e; subst e
    exact ⟨v, rfl, h1⟩
  | d :: ds, vs, i + 1, _, h, e => by
    obtain ⟨v, r, rfl, h1, h2⟩ := h
    obtain ⟨w, e1, e2⟩ := Reps.get (i := i) h2 (by simpa using e)
    exact ⟨w, by simpa using e1, e2⟩
theorem Reps.getV : ∀ {ds : List Dt} {vs : List V} {i : Nat} {v : V}, Reps K s ds vs → vs[i]? = some v → ∃ d, ds[i]? = some d ∧ Rep K s d v
  | [], _, _, _, h, e => by cases h; simp at e
  | d :: ds, vs, 0, _, h, e => by
    obtain ⟨v, r, rfl, h1, h2⟩ := h
    simp at e; subst e
    exact ⟨d, rfl, h1⟩
  | d :: ds, vs, i + 1, _, h, e => by
    obtain ⟨v, r, rfl, h1, h2⟩ := h
    obtain ⟨w, e1, e2⟩ := Reps.getV (i := i) h2 (by simpa using e)
    exact ⟨w, by simpa using e1, e2⟩
theorem Reps.set {d : Dt} {v : V} (r : Rep K s d v) : ∀ {ds : List Dt} {vs : List V} (i : Nat), Reps K s ds vs → Reps K s (ds.set i d) (vs.set i v)
  | [], _, _, h => by cases h; exact rfl
  | _ :: _, _, 0, h => by
    obtain ⟨_, _, rfl, h1, h2⟩ := h
    exact ⟨v, _, rfl, r, h2⟩
  | _ :: _, _, i + 1, h => by
    obtain ⟨w, _, rfl, h1, h2⟩ := h
    exact ⟨w, _, rfl, h1, Reps.set r i h2⟩
theorem Reps.take : ∀ {ds : List Dt} {vs : List V} (n : Nat), Reps K s ds vs → Reps K s (ds.take n) (vs.take n)
  | [], _, _, h => by cases h; simp; exact rfl
  | _ :: _, _, 0, h => by simp; exact rfl
  | _ :: _, _, n + 1, h => by
    obtain ⟨w, _, rfl, h1, h2⟩ := h
    exact ⟨w, _, rfl, h1, Reps.take n h2⟩
theorem Reps.drop : ∀ {ds : List Dt} {vs : List V} (n : Nat), Reps K s ds vs → Reps K s (ds.drop n) (vs.drop n)
  | [], _, _, h => by cases h; simp; exact rfl
  | _ :: _, _, 0, h => h
  | _ :: _, _, n + 1, h => by
    obtain ⟨w, _, rfl, h1, h2⟩ := h
    exact Reps.drop n h2
theorem Reps.reverse : ∀ {ds : List Dt} {vs : List V}, Reps K s ds vs → Reps K s ds.reverse vs.reverse
  | [], _, h => by cases h; exact rfl
  | _ :: _, _, h => by
    obtain ⟨w, _, rfl, h1, h2⟩ := h
    simp only [List.reverse_cons]
    exact Reps.append (Reps.reverse h2) (Reps.cons h1 Reps.nil)
theorem HRel.live (r : HRel K s) {i : Nat} {a : Addr} {o : Ao} (e : s.ρ[i]? = some a) (k : s.h[i]? = some o) : ∃ u, s.H a = some u ∧ NoT u := by
  have q := r.ob i a o e k
  cases o with
  | dead => exact q
  | lst ds => obtain ⟨vs, e, _⟩ := q; exact ⟨_, e, fun _ z => nomatch z⟩
  | dk ks ds => obtain ⟨vs, e, _⟩ := q; exact ⟨_, e, fun _ z => nomatch z⟩
  | dt ks ds => obtain ⟨vs, e, _⟩ := q; exact ⟨_, e, fun _ z => nomatch z⟩
  | ins c fs => obtain ⟨dx, vs, e, _⟩ := q; exact ⟨_, e, fun _ z => nomatch z⟩
theorem HRel.at (r : HRel K s) {i : Nat} {a : Addr} (e : s.ρ[i]? = some a) : ∃ o, s.h[i]? = some o := by
  have h1 := (List.getElem?_eq_some_iff.mp e).1
  rw [r.len] at h1
  exact ⟨_, List.getElem?_eq_getElem h1⟩
theorem HRel.fresh (r : HRel K s) {p : Addr} (hp : s.H p = none) {i : Nat} : s.ρ[i]? ≠ some p := fun e => by
  obtain ⟨o, k⟩ := r.at e
  obtain ⟨u, q, _⟩ := r.live e k
  rw [hp] at q; cases q
theorem HRel.nomut (r : HRel K s) {p : Addr} (hp : s.H p = none) : ¬ s.mut p := fun ⟨_, _, e, _, _⟩ => r.fresh hp e
/-- what is mutable holds what the heap says -/
theorem HRel.inj (r : HRel K s) {i j : Nat} {a : Addr} (e : s.ρ[i]? = some a) (k : s.ρ[j]? = some a) : i = j := by
  obtain ⟨hi, e1⟩ := List.getElem?_eq_some_iff.mp e
  obtain ⟨hj, e2⟩ := List.getElem?_eq_some_iff.mp k
  exact (List.getElem_inj r.nd).mp (e1.trans e2.symm)
theorem RepF.ext (x : Ext s s') : ∀ {fs : List (Str × Dt)} {vs : List (Str × V)}, RepF K s fs vs → RepF K s' fs vs
  | [], _, h => h
  | (n, d) :: fs, _, h => by
    obtain ⟨v, r, e, h1, h2⟩ := h
    exact ⟨v, r, e, Rep.ext x h1, RepF.ext x h2⟩
theorem RepF.lookup (f : Str) : ∀ {fs : List (Str × Dt)} {vs : List (Str × V)}, RepF K s fs vs → (fs.lookup f = none ∧ vs.lookup f = none) ∨ ∃ d v, fs.lookup f = some d ∧ vs.lookup f = some v ∧ Rep K s d v
  | [], _, h => by cases h; exact .inl ⟨rfl, rfl⟩
  | (n, d) :: fs, _, h => by
    obtain ⟨v, r, rfl, h1, h2⟩ := h
    by_cases e : f == n
    · refine .inr ⟨d, v, ?_, ?_, h1⟩ <;> simp [List.lookup_cons, e]
    · have := RepF.lookup f h2
      simpa [List.lookup_cons, e] using this
/-- ORep goes on -/
theorem ORep.ext {a : Addr} {o : Ao} (x : Ext s s') (h : ORep K s a o) (e : s'.H a = s.H a) : ORep K s' a o := by
  cases o with
  | dead => obtain ⟨u, q, n⟩ := h; exact ⟨u, by rw [e]; exact q, n⟩
  | lst ds => obtain ⟨vs, q, r⟩ := h; exact ⟨vs, by rw [e]; exact q, Reps.ext x r⟩
  | dk ks ds => obtain ⟨vs, q, l, r⟩ := h; exact ⟨vs, by rw [e]; exact q, l, Reps.ext x r⟩
  | dt ks ds => obtain ⟨vs, q, l, r⟩ := h; exact ⟨vs, by rw [e]; exact q, l, Reps.ext x r⟩
  | ins c fs => obtain ⟨dx, vs, q, l, r⟩ := h; exact ⟨dx, vs, by rw [e]; exact q, x.keep l rfl, RepF.ext x r⟩

/-- the tables stay where something else is written -/
theorem tabs_upd {T : List (Addr × Str)} {H : Hp} (t : LamX.Tabs T H) {a : Addr} {u : HO} (h1 : ∀ ps, H a ≠ some (.tbl ps)) (h2 : ∀ φ, H a ≠ some (.ext φ)) : LamX.Tabs T (upd H a u) := fun p hp => by
  obtain ⟨ps, e1, e2, e3⟩ := t p hp
  refine ⟨ps, ?_, e2, fun pos cv hc => ?_⟩
  · rw [upd_ne (fun z => h1 ps (by rw [← z]; exact e1))]; exact e1
  · obtain ⟨c, e4, e5⟩ := e3 pos cv hc
    exact ⟨c, e4, by rw [upd_ne (fun z => h2 _ (by rw [← z]; exact e5))]; exact e5⟩
theorem tabs_new {T : List (Addr × Str)} {H : Hp} (t : LamX.Tabs T H) {a : Addr} {u : HO} (h : H a = none) : LamX.Tabs T (upd H a u) := tabs_upd t (fun _ z => by rw [h] at z; cases z) (fun _ z => by rw [h] at z; cases z)
theorem HRel.noTab (r : HRel K s) {i : Nat} {a : Addr} {o : Ao} (e : s.ρ[i]? = some a) (k : s.h[i]? = some o) (ho : o ≠ .dead) : (∀ ps, s.H a ≠ some (.tbl ps)) ∧ ∀ φ, s.H a ≠ some (.ext φ) := by
  have q := r.ob i a o e k
  cases o with
  | dead => exact (ho rfl).elim
  | lst ds => obtain ⟨vs, e, _⟩ := q; rw [e]; exact ⟨fun _ z => (nomatch z), fun _ z => (nomatch z)⟩
  | dk ks ds => obtain ⟨vs, e, _⟩ := q; rw [e]; exact ⟨fun _ z => (nomatch z), fun _ z => (nomatch z)⟩
  | dt ks ds => obtain ⟨vs, e, _⟩ := q; rw [e]; exact ⟨fun _ z => (nomatch z), fun _ z => (nomatch z)⟩
  | ins c fs => obtain ⟨dx, vs, e, _⟩ := q; rw [e]; exact ⟨fun _ z => (nomatch z), fun _ z => (nomatch z)⟩

/-! ### a new cell that is a value -/
def Sx.new (s : Sx) (p : Addr) (u : HO) : Sx := ⟨s.ρ, s.h, upd s.H p u⟩
theorem new_ext (r : HRel K s) {p : Addr} {u : HO} (hp : s.H p = none) : Ext s (s.new p u) :=
  .mk' (fun _ _ h => h) fun a o h k => ⟨by show upd s.H p u a = some o; rw [upd_ne (ne_of_none h hp)]; exact h, k⟩
theorem new_rel (r : HRel K s) {p : Addr} {u : HO} (hp : s.H p = none) : HRel K (s.new p u) := by
  refine ⟨r.len, r.nd, fun i a o e k => ?_, tabs_new r.tb hp⟩
  refine (r.ob i a o e k).ext (new_ext r hp) ?_
  show upd s.H p u a = s.H a
  exact upd_ne fun z => r.fresh hp (z ▸ e)
theorem new_fx (r : HRel K s) {p : Addr} {u : HO} (hp : s.H p = none) : Fx (s.new p u) p u := ⟨.inl upd_same, fun ⟨i, o, e, _⟩ => r.fresh hp e⟩

/-! ### a new tracked object -/
def Sx.add (s : Sx) (p : Addr) (u : HO) (o : Ao) : Sx := ⟨s.ρ ++ [p], s.h ++ [o], upd s.H p u⟩
theorem add_ext (r : HRel K s) {p : Addr} {u : HO} {o : Ao} (hp : s.H p = none) : Ext s (s.add p u o) := by
  refine .mk' (fun i a h => ?_) fun a v h k => ⟨by show upd s.H p u a = some v; rw [upd_ne (ne_of_none h hp)]; exact h, ?_⟩
  · show (s.ρ ++ [p])[i]? = some a
    rw [List.getElem?_append_left (List.getElem?_eq_some_iff.mp h).1]; exact h
  · rintro ⟨i, o', e, e2, q⟩
    have e : (s.ρ ++ [p])[i]? = some a := e
    have e2 : (s.h ++ [o])[i]? = some o' := e2
    by_cases hi : i < s.ρ.length
    · rw [List.getElem?_append_left hi] at e
      rw [List.getElem?_append_left (by rw [← r.len]; exact hi)] at e2
      exact k ⟨i, o', e, e2, q⟩
    · rw [List.getElem?_append_right (by omega)] at e
      have : i - s.ρ.length = 0 := by
        have := (List.getElem?_eq_some_iff.mp e).1
        simp at this; omega
      rw [this] at e
      simp at e
      subst e
      rw [hp] at h; cases h
theorem add_rel (r : HRel K s) {p : Addr} {u : HO} {o : Ao} (hp : s.H p = none) (ho : ORep K (s.add p u o) p o) : HRel K (s.add p u o) := by
  refine ⟨by show (s.ρ ++ [p]).length = (s.h ++ [o]).length; simp [r.len], ?_, fun i a o' e e2 => ?_, tabs_new r.tb hp⟩
  · show (s.ρ ++ [p]).Nodup
    refine List.nodup_append.mpr ⟨r.nd, by simp, fun a ha b hb => ?_⟩
    simp at hb; subst hb
    rintro rfl
    obtain ⟨i, hi, e⟩ := List.getElem_of_mem ha
    exact r.fresh hp (i := i) (by rw [List.getElem?_eq_getElem hi, e])
  · have e : (s.ρ ++ [p])[i]? = some a := e
    have e2 : (s.h ++ [o])[i]? = some o' := e2
    by_cases hi : i < s.ρ.length
    · rw [List.getElem?_append_left hi] at e
      rw [List.getElem?_append_left (by rw [← r.len]; exact hi)] at e2
      refine (r.ob i a o' e e2).ext (add_ext r hp) ?_
      show upd s.H p u a = s.H a
      exact upd_ne fun z => r.fresh hp (z ▸ e)
    · rw [List.getElem?_append_right (by omega)] at e
      have h0 : i - s.ρ.length = 0 := by
        have := (List.getElem?_eq_some_iff.mp e).1
        simp at this; omega
      rw [h0] at e
      simp at e
      subst e
      rw [List.getElem?_append_right (by rw [← r.len]; omega), ← r.len, h0] at e2
      simp at e2
      subst e2
      exact ho
theorem add_at (r : HRel K s) {p : Addr} {u : HO} {o : Ao} : (s.add p u o).ρ[s.h.length]? = some p := by
  show (s.ρ ++ [p])[s.h.length]? = some p
  rw [← r.len]; simp

/-! ### a tracked object changes -/
def Sx.put (s : Sx) (i : Nat) (a : Addr) (u : HO) (o : Ao) : Sx := ⟨s.ρ, s.h.set i o, upd s.H a u⟩
theorem put_ext (r : HRel K s) {i : Nat} {a : Addr} {u : HO} {o o' : Ao} (e : s.ρ[i]? = some a) (k : s.h[i]? = some o) (ho : o ≠ .dead) : Ext s (s.put i a u o') := by
  refine .mk' (fun _ _ h => h) fun b v h q => ?_
  have hb : b ≠ a := fun z => q (z ▸ ⟨i, o, e, k, ho⟩)
  refine ⟨by show upd s.H a u b = some v; rw [upd_ne hb]; exact h, ?_⟩
  rintro ⟨j, o2, e1, e2, q2⟩
  have e2 : (s.h.set i o')[j]? = some o2 := e2
  have e1 : s.ρ[j]? = some b := e1
  have hj : i ≠ j := fun z => by
    subst z
    rw [e] at e1
    exact hb (Option.some.inj e1).symm
  rw [List.getElem?_set_ne hj] at e2
  exact q ⟨j, o2, e1, e2, q2⟩
theorem put_rel (r : HRel K s) {i : Nat} {a : Addr} {u : HO} {o o' : Ao} (e : s.ρ[i]? = some a) (k : s.h[i]? = some o) (ho : o ≠ .dead) (hn : ORep K (s.put i a u o') a o') : HRel K (s.put i a u o') := by
  refine ⟨by show s.ρ.length = (s.h.set i o').length; simp [r.len], r.nd, fun j b o2 e1 e2 => ?_, tabs_upd r.tb (r.noTab e k ho).1 (r.noTab e k ho).2⟩
  have e2 : (s.h.set i o')[j]? = some o2 := e2
  have e1 : s.ρ[j]? = some b := e1
  by_cases hj : i = j
  · subst hj
    rw [e] at e1; cases e1
    rw [List.getElem?_set_self (List.getElem?_eq_some_iff.mp k).1] at e2
    cases e2
    exact hn
  · rw [List.getElem?_set_ne hj] at e2
    refine (r.ob j b o2 e1 e2).ext (put_ext r e k ho) ?_
    show upd s.H a u b = s.H b
    exact upd_ne fun z => hj (r.inj e (z ▸ e1))

/-! ### a tracked object becomes a value -/
def Sx.die (s : Sx) (i : Nat) : Sx := ⟨s.ρ, s.h.set i .dead, s.H⟩
theorem die_ext (r : HRel K s) (i : Nat) : Ext s (s.die i) := by
  refine .mk' (fun _ _ h => h) fun b v h q => ⟨h, ?_⟩
  rintro ⟨j, o2, e1, e2, q2⟩
  have e2 : (s.h.set i .dead)[j]? = some o2 := e2
  have e1 : s.ρ[j]? = some b := e1
  by_cases hj : i = j
  · subst hj
    by_cases hl : i < s.h.length
    · rw [List.getElem?_set_self hl] at e2; cases e2; exact q2 rfl
    · rw [List.getElem?_eq_none (by simpa using hl)] at e2; cases e2
  · rw [List.getElem?_set_ne hj] at e2
    exact q ⟨j, o2, e1, e2, q2⟩
theorem die_rel (r : HRel K s) (i : Nat) : HRel K (s.die i) := by
  refine ⟨by show s.ρ.length = (s.h.set i .dead).length; simp [r.len], r.nd, fun j b o2 e1 e2 => ?_, r.tb⟩
  have e2 : (s.h.set i .dead)[j]? = some o2 := e2
  have e1 : s.ρ[j]? = some b := e1
  by_cases hj : i = j
  · subst hj
    obtain ⟨o, k⟩ := r.at e1
    rw [List.getElem?_set_self (List.getElem?_eq_some_iff.mp k).1] at e2
    cases e2
    exact r.live e1 k
  · rw [List.getElem?_set_ne hj] at e2
    exact (r.ob j b o2 e1 e2).ext (die_ext r i) rfl
theorem die_fx (r : HRel K s) {i : Nat} {a : Addr} {u : HO} (e : s.ρ[i]? = some a) (q : s.H a = some u) : Fx (s.die i) a u := by
  refine ⟨.inl q, ?_⟩
  rintro ⟨j, o2, e1, e2, q2⟩
  have e2 : (s.h.set i .dead)[j]? = some o2 := e2
  have e1 : s.ρ[j]? = some a := e1
  have := r.inj e e1
  subst this
  rw [List.getElem?_set_self (by have := (List.getElem?_eq_some_iff.mp e).1; rw [r.len] at this; exact this)] at e2
  cases e2; exact q2 rfl
end

/-! ### a dict that is a value is locked -/
section
variable {K : PySem.W.Frag} {s s' : Sx}
theorem lock_ext {a : Addr} {u : HO} {od : Obj} (e : s.H a = some u) (hd : (∃ kvs, u = .dK kvs) ∨ ∃ kvs, u = .dT kvs) : Ext s (s.new a (.frz od u)) := by
  refine ⟨fun _ _ h => h, fun b o h k _ => ⟨?_, k⟩⟩
  by_cases hb : b = a
  · subst hb
    rw [e] at h; cases h
    exact ⟨_, upd_same, .inr ⟨od, rfl, hd⟩⟩
  · exact ⟨o, by show upd s.H a _ b = some o; rw [upd_ne hb]; exact h, .inl rfl⟩
theorem lock_rel (r : HRel K s) {a : Addr} {u : HO} {od : Obj} (e : s.H a = some u) (nm : ¬ s.mut a) (hd : (∃ kvs, u = .dK kvs) ∨ ∃ kvs, u = .dT kvs) : HRel K (s.new a (.frz od u)) := by
  refine ⟨r.len, r.nd, fun i b o e1 e2 => ?_, tabs_upd r.tb (fun _ z => ?_) fun _ z => ?_⟩
  rotate_left
  · rw [e] at z; rcases hd with ⟨_, rfl⟩ | ⟨_, rfl⟩ <;> cases z
  · rw [e] at z; rcases hd with ⟨_, rfl⟩ | ⟨_, rfl⟩ <;> cases z
  by_cases ho : o = .dead
  · subst ho
    by_cases hb : b = a
    · subst hb; exact ⟨_, upd_same, fun _ z => nomatch z⟩
    · obtain ⟨w, q, n⟩ := r.ob i b _ e1 e2
      exact ⟨w, by show upd s.H a _ b = _; rw [upd_ne hb]; exact q, n⟩
  · refine (r.ob i b o e1 e2).ext (lock_ext e hd) ?_
    show upd s.H a _ b = s.H b
    exact upd_ne fun z => nm (z ▸ ⟨i, o, e1, e2, ho⟩)
end
/-! ### exceptions, what is behind -/
def XRep (K : PySem.W.Frag) (s : Sx) (x : Xv) (c : Value) (dd : Option Addr) : Prop := c = .ref x.cls ∧ match x.fs with
  | none => dd = none
  | some fs => ∃ a vs, dd = some a ∧ Fx s a (.xd vs) ∧ RepF K s fs vs

def After {α : Type} (K : PySem.W.Frag) (E : XK) (s : Sx) (r : Rs α) (k : α → Sx → Prop) : Prop := match r with
  | .ok a h' => ∀ s', s'.h = h' → Ext s s' → HRel K s' → k a s'
  | .exn x h' => ∀ s' c dd, s'.h = h' → Ext s s' → HRel K s' → XRep K s' x c dd → E c dd s'.H
  | .no => False
section
variable {K : PySem.W.Frag} {E : XK} {s s' : Sx} {α β : Type}
theorem After.ext {r : Rs α} {k : α → Sx → Prop} (x : Ext s s') (h : After K E s r k) : After K E s' r k := by
  cases r with
  | ok a h' => exact fun s2 e y q => h s2 e (x.trans y) q
  | exn xv h' => exact fun s2 c dd e y q z => h s2 c dd e (x.trans y) q z
  | no => exact h
theorem After.bind {m : Mm α} {f : α → Mm β} {k : β → Sx → Prop} (h : After K E s ((m >>= f) s.h) k) : After K E s (m s.h) (fun a s1 => After K E s1 (f a s1.h) k) := by
  have e : (m >>= f) s.h = (match m s.h with | .ok a h' => f a h' | .exn x h' => .exn x h' | .no => .no) := rfl
  rw [e] at h
  cases q : m s.h with
  | ok a h' =>
    rw [q] at h
    intro s1 e1 x r
    subst e1
    exact After.ext x h
  | exn xv h' => rw [q] at h; exact h
  | no => rw [q] at h; exact h
theorem After.mono {r : Rs α} {k k' : α → Sx → Prop} (h : After K E s r k) (q : ∀ a s', Ext s s' → HRel K s' → k a s' → k' a s') : After K E s r k' := by
  cases r with
  | ok a h' => exact fun s2 e x r => q a s2 x r (h s2 e x r)
  | exn xv h' => exact h
  | no => exact h
end
end Mo
set_option Elab.async false
set_option linter.all false
set_option maxRecDepth 100000
set_option maxHeartbeats 4000000
/-! Mo2: readings by monadic functions; rules of the structure. -/
namespace Mo
open PySem L2 PySem.Spec PyProof.Rows
abbrev En := List (Option Dt)
inductive Fl where
  | nx (e : En) | bk (e : En) | ct (e : En) | rt (d : Dt)
structure Envs (K : PySem.W.Frag) (s : Sx) (env : En) (σ : L2.St) : Prop where
  len : env.length = σ.length
  get : ∀ (i : Nat) d, env[i]? = some (some d) → ∃ v, σ[i]? = some (some v) ∧ Rep K s d v

def tE (K : PySem.W.Frag) (E : XK) (m : En → Mm Dt) : TE := fun σ H Q => ∃ s env, s.H = H ∧ HRel K s ∧ Envs K s env σ ∧ After K E s (m env s.h) (fun d s' => ∀ v, Rep K s' d v → Q v s'.H)
def tT (K : PySem.W.Frag) (E : XK) (m : En → Mm Bool) : TT := fun σ H Q => ∃ s env, s.H = H ∧ HRel K s ∧ Envs K s env σ ∧ After K E s (m env s.h) (fun b s' => Q b s'.H)
def tA (K : PySem.W.Frag) (E : XK) (m : En → Mm (List Dt)) : TA := fun σ H Q => ∃ s env, s.H = H ∧ HRel K s ∧ Envs K s env σ ∧ After K E s (m env s.h) (fun ds s' => ∀ vs, Reps K s' ds vs → Q vs s'.H)
def tO (K : PySem.W.Frag) (E : XK) (m : En → Mm (Option Int)) : TO := fun σ H Q => ∃ s env, s.H = H ∧ HRel K s ∧ Envs K s env σ ∧ After K E s (m env s.h) (fun b s' => Q b s'.H)
def tG (K : PySem.W.Frag) (E : XK) (m : Dt → En → Mm En) : TG := fun v σ H Q => ∃ s env d, s.H = H ∧ HRel K s ∧ Envs K s env σ ∧ Rep K s d v ∧ After K E s (m d env s.h) (fun env' s' => ∀ σ', Envs K s' env' σ' → Q σ' s'.H)
def tGs (K : PySem.W.Frag) (E : XK) (m : List Dt → En → Mm En) : TGs := fun vs σ H Q => ∃ s env ds, s.H = H ∧ HRel K s ∧ Envs K s env σ ∧ Reps K s ds vs ∧ After K E s (m ds env s.h) (fun env' s' => ∀ σ', Envs K s' env' σ' → Q σ' s'.H)
def flK (K : PySem.W.Frag) (D : Ends) : Fl → Sx → Prop
  | .nx e, s' => ∀ σ', Envs K s' e σ' → D.nx σ' s'.H
  | .bk e, s' => ∀ σ', Envs K s' e σ' → D.bk σ' s'.H
  | .ct e, s' => ∀ σ', Envs K s' e σ' → D.ct σ' s'.H
  | .rt d, s' => ∀ v, Rep K s' d v → D.rt v s'.H
def tS (K : PySem.W.Frag) (E : XK) (m : En → Mm Fl) : TS := fun D σ H => ∃ s env, s.H = H ∧ HRel K s ∧ Envs K s env σ ∧ After K E s (m env s.h) (flK K D)
/-- a def that lets no exception out -/
def spM (K : PySem.W.Frag) (n : Nat) (fm : List Dt → Mm Dt) : Sp := fun vs H Q _ => ∃ s ds, s.H = H ∧ ds.length = n ∧ HRel K s ∧ Reps K s ds vs ∧ After K E0 s (fm ds s.h) (fun d s' => ∀ v, Rep K s' d v → Q v s'.H)
/-- operations on values -/
def rM (K : PySem.W.Frag) (E : XK) (g : Dt → Dt → Mm Dt) : R2 := fun x y H Q => ∃ s d e, s.H = H ∧ HRel K s ∧ Rep K s d x ∧ Rep K s e y ∧ After K E s (g d e s.h) (fun z s' => ∀ v, Rep K s' z v → Q v s'.H)
def uM (K : PySem.W.Frag) (E : XK) (g : Dt → Mm Dt) : V → Hp → VK → Prop := fun x H Q => ∃ s d, s.H = H ∧ HRel K s ∧ Rep K s d x ∧ After K E s (g d s.h) (fun z s' => ∀ v, Rep K s' z v → Q v s'.H)
def cM (K : PySem.W.Frag) (E : XK) (g : List Dt → Mm Dt) : List V → Hp → VK → Prop := fun xs H Q => ∃ s ds, s.H = H ∧ HRel K s ∧ Reps K s ds xs ∧ After K E s (g ds s.h) (fun z s' => ∀ v, Rep K s' z v → Q v s'.H)
def mM (K : PySem.W.Frag) (E : XK) (g : Dt → List Dt → Mm Dt) : V → List V → Hp → VK → Prop := fun x xs H Q => ∃ s d ds, s.H = H ∧ HRel K s ∧ Rep K s d x ∧ Reps K s ds xs ∧ After K E s (g d ds s.h) (fun z s' => ∀ v, Rep K s' z v → Q v s'.H)
def slM (K : PySem.W.Frag) (E : XK) (g : Dt → Option Int → Option Int → Mm Dt) : V → Option Int → Option Int → Hp → VK → Prop := fun x lo hi H Q => ∃ s d, s.H = H ∧ HRel K s ∧ Rep K s d x ∧ After K E s (g d lo hi s.h) (fun z s' => ∀ v, Rep K s' z v → Q v s'.H)
def stM (K : PySem.W.Frag) (E : XK) (g : Dt → Dt → Dt → Mm Unit) : TSet := fun o i v H Q => ∃ s d e f, s.H = H ∧ HRel K s ∧ Rep K s d o ∧ Rep K s e i ∧ Rep K s f v ∧ After K E s (g d e f s.h) (fun _ s' => Q s'.H)

section
variable {X : Cx} {E : XK} {K : PySem.W.Frag} {s s1 : Sx} {env : En} {σ : L2.St} {β : Type}
theorem Envs.ext (x : Ext s s1) (h : Envs K s env σ) : Envs K s1 env σ := ⟨h.len, fun i d e => (h.get i d e).imp fun v q => ⟨q.1, q.2.ext x⟩⟩
theorem tE_bind {m : En → Mm Dt} {f : Dt → Mm β} {k : β → Sx → Prop} {Q : VK} (hr : HRel K s) (he : Envs K s env σ) (ha : After K E s ((m env >>= f) s.h) k)
    (hq : ∀ d s1 v, Ext s s1 → HRel K s1 → Envs K s1 env σ → Rep K s1 d v → After K E s1 (f d s1.h) k → Q v s1.H) : tE K E m σ s.H Q :=
  ⟨s, env, rfl, hr, he, ha.bind.mono fun d s1 x r q v rv => hq d s1 v x r (he.ext x) rv q⟩
theorem tT_bind {m : En → Mm Bool} {f : Bool → Mm β} {k : β → Sx → Prop} {Q : Bool → Hp → Prop} (hr : HRel K s) (he : Envs K s env σ) (ha : After K E s ((m env >>= f) s.h) k)
    (hq : ∀ b s1, Ext s s1 → HRel K s1 → Envs K s1 env σ → After K E s1 (f b s1.h) k → Q b s1.H) : tT K E m σ s.H Q :=
  ⟨s, env, rfl, hr, he, ha.bind.mono fun d s1 x r q => hq d s1 x r (he.ext x) q⟩
theorem tA_bind {m : En → Mm (List Dt)} {f : List Dt → Mm β} {k : β → Sx → Prop} {Q : List V → Hp → Prop} (hr : HRel K s) (he : Envs K s env σ) (ha : After K E s ((m env >>= f) s.h) k)
    (hq : ∀ ds s1 vs, Ext s s1 → HRel K s1 → Envs K s1 env σ → Reps K s1 ds vs → After K E s1 (f ds s1.h) k → Q vs s1.H) : tA K E m σ s.H Q :=
  ⟨s, env, rfl, hr, he, ha.bind.mono fun d s1 x r q v rv => hq d s1 v x r (he.ext x) rv q⟩
theorem tO_bind {m : En → Mm (Option Int)} {f : Option Int → Mm β} {k : β → Sx → Prop} {Q : Option Int → Hp → Prop} (hr : HRel K s) (he : Envs K s env σ) (ha : After K E s ((m env >>= f) s.h) k)
    (hq : ∀ b s1, Ext s s1 → HRel K s1 → Envs K s1 env σ → After K E s1 (f b s1.h) k → Q b s1.H) : tO K E m σ s.H Q :=
  ⟨s, env, rfl, hr, he, ha.bind.mono fun d s1 x r q => hq d s1 x r (he.ext x) q⟩
/-- the last part of a chain -/
theorem After.ret {α : Type} {a : α} {k : α → Sx → Prop} (r : HRel K s) (h : After K E s ((Mm.pure a) s.h) k) : k a s := h s rfl (Ext.refl s) r
theorem After.now {α : Type} {a : α} {h' : Ah} {k : α → Sx → Prop} (h : After K E s (.ok a h') k) (s' : Sx) (e : s'.h = h') (x : Ext s s') (r : HRel K s') : k a s' := h s' e x r
end

section
variable {X : Cx} {E : XK} {e a b c : Expr} {pos : Pos}
theorem pe_mono {t t' : TE} (h : PE X e t) (k : ∀ σ H Q, t' σ H Q → t σ H Q) : PE X e t' := ⟨fun pins s σ H Q I w => h.run pins s σ H Q I (k σ H Q w)⟩
theorem pt_mono {t t' : TT} (h : PT X e t) (k : ∀ σ H Q, t' σ H Q → t σ H Q) : PT X e t' := ⟨fun pins s σ H Q I w => h.run pins s σ H Q I (k σ H Q w)⟩
theorem pw_mono {t t' : TT} (h : PW X e t) (k : ∀ σ H Q, t' σ H Q → t σ H Q) : PW X e t' := ⟨fun wh pins s σ H Q I w => h.run wh pins s σ H Q I (k σ H Q w)⟩
theorem pa_mono {es : List Expr} {t t' : TA} (h : PA X es t) (k : ∀ σ H Q, t' σ H Q → t σ H Q) : PA X es t' := ⟨fun pos pins s σ H Q I w => h.run pos pins s σ H Q I (k σ H Q w)⟩
theorem po_mono {e : Option Expr} {t t' : TO} (h : PO X e t) (k : ∀ σ H Q, t' σ H Q → t σ H Q) : PO X e t' := ⟨fun pins s σ H Q I w => h.run pins s σ H Q I (k σ H Q w)⟩
theorem ps_mono {st : Stmt} {t t' : TS} (h : PS X st t) (k : ∀ D σ H, t' D σ H → t D σ H) : PS X st t' := ⟨fun pins s σ H D I w => h.run pins s σ H D I (k D σ H w)⟩
theorem pss_mono {st : List Stmt} {t t' : TS} (h : PSs X st t) (k : ∀ D σ H, t' D σ H → t D σ H) : PSs X st t' := ⟨fun pins s σ H D I w => h.run pins s σ H D I (k D σ H w)⟩
theorem pg_mono {tg : Expr} {t t' : TG} (h : PG X tg t) (k : ∀ v σ H Q, t' v σ H Q → t v σ H Q) : PG X tg t' := ⟨fun pins s σ H v u Q I r w => h.run pins s σ H v u Q I r (k v σ H Q w)⟩
theorem pgs_mono {tg : List Expr} {t t' : TGs} (h : PGs X tg t) (k : ∀ v σ H Q, t' v σ H Q → t v σ H Q) : PGs X tg t' := ⟨fun pins s σ H v u Q I r w => h.run pins s σ H v u Q I r (k v σ H Q w)⟩
theorem opR_mono {f : Value → Value → Sem Value} {r r' : R2} (h : OpR X f r) (k : ∀ x y H Q, r' x y H Q → r x y H Q) : OpR X f r' := fun pins s σ H x y v u Q I rx ry w => h pins s σ H x y v u Q I rx ry (k x y H Q w)
theorem unR_mono {f : Value → Sem Value} {r r' : V → Hp → VK → Prop} (h : UnR X f r) (k : ∀ x H Q, r' x H Q → r x H Q) : UnR X f r' := fun pins s σ H x v Q I rx w => h pins s σ H x v Q I rx (k x H Q w)
theorem callR_mono {f : Value} {r r' : List V → Hp → VK → Prop} (h : CallR X f r) (k : ∀ x H Q, r' x H Q → r x H Q) : CallR X f r' := fun pins s σ H x v Q I rx w => h pins s σ H x v Q I rx (k x H Q w)

/-! ### names, constants -/
def var (i : Nat) : En → Mm Dt := fun env => match env[i]? with
  | some (some d) => Mm.pure d
  | _ => Mm.no
theorem me_var (i : Nat) {x : Str} {pos : Pos} (hN : X.N[i]? = some x := by rfl) (hv : Vis X.env.scope x := by first | exact Or.inl rfl | exact Or.inr (Or.inl rfl) | exact Or.inr (Or.inr rfl)) (hd : (x == ("__debug__" : Str)) = false := by decide)
    (hcd : (x == ("__classdict__" : Str)) = false := by decide) : PE X (.Name x pos) (tE X.K E (var i)) := pe_mono (pv i hN hv hd hcd) fun σ H Q ⟨s, env, e, hr, he, ha⟩ => by
  subst e
  unfold var at ha
  cases q : env[i]? with
  | none => rw [q] at ha; exact ha.elim
  | some o =>
    cases o with
    | none => rw [q] at ha; exact ha.elim
    | some d =>
      rw [q] at ha
      obtain ⟨v, e1, r⟩ := he.get i d q
      exact ⟨v, e1, ha.ret hr v r⟩
def con (d : Dt) : En → Mm Dt := fun _ => Mm.pure d
theorem me_con {t : TE} {d : Dt} {v : V} (h : PE X e (tC v)) (hr : ∀ s, Rep X.K s d v) : PE X e (tE X.K E (con d)) := pe_mono h fun σ H Q ⟨s, env, e, r, he, ha⟩ => by
  subst e
  exact ha.ret r v (hr s)
theorem me_int {i j pos} : PE X (.Constant (.int i) j pos) (tE X.K E (con (.int i))) := me_con (t := tC (.int i)) pe_int fun _ => rfl
theorem me_bl {b j pos} : PE X (.Constant (.bool b) j pos) (tE X.K E (con (.bl b))) := me_con (t := tC (.bl b)) pe_bl fun _ => rfl
theorem me_non {j pos} : PE X (.Constant .none j pos) (tE X.K E (con .non)) := me_con (t := tC .non) pe_non fun _ => rfl
theorem me_str {x j pos} : PE X (.Constant (.str x) j pos) (tE X.K E (con (.str x))) := me_con (t := tC (.str x)) pe_str fun _ => rfl

/-! ### operators -/
def op2 (g : Dt → Dt → Mm Dt) (ma mb : En → Mm Dt) : En → Mm Dt := fun env => ma env >>= fun x => mb env >>= fun y => g x y
def op1 (g : Dt → Mm Dt) (ma : En → Mm Dt) : En → Mm Dt := fun env => ma env >>= fun x => g x
variable {ma mb mc : En → Mm Dt} {g : Dt → Dt → Mm Dt}
theorem op2_ok {r : R2} (hr : ∀ x y H Q, rM X.K E g x y H Q → r x y H Q) : ∀ σ H Q, tE X.K E (op2 g ma mb) σ H Q → tOp r (tE X.K E ma) (tE X.K E mb) σ H Q := fun σ H Q ⟨s, env, e, r, he, ha⟩ => by
  subst e
  exact tE_bind r he ha fun d s1 x x1 r1 e1 rx q => tE_bind r1 e1 q fun d2 s2 y x2 r2 e2 ry q2 => hr _ _ _ _ ⟨s2, d, d2, rfl, r2, rx.ext x2, ry, q2⟩
theorem me_op {op : Operator} (ho : OpR X (binaryOp op) (rM X.K E g)) (ha : PE X a (tE X.K E ma)) (hb : PE X b (tE X.K E mb)) : PE X (.BinOp a op b pos) (tE X.K E (op2 g ma mb)) := pe_mono (pe_op ho ha hb) (op2_ok fun _ _ _ _ h => h)
theorem me_un {op : UnaryOp} {g : Dt → Mm Dt} (ho : UnR X (unaryOp op) (uM X.K E g)) (ha : PE X a (tE X.K E ma)) : PE X (.UnaryOp op a pos) (tE X.K E (op1 g ma)) := pe_mono (pe_un ho ha) fun σ H Q ⟨s, env, e, r, he, ha⟩ => by
  subst e
  exact tE_bind r he ha fun d s1 x x1 r1 e1 rx q => ⟨s1, d, rfl, r1, rx, q⟩
theorem me_cmp {op : CmpOp} (ho : OpR X (compareOp op) (rM X.K E g)) (ha : PE X a (tE X.K E ma)) (hb : PE X b (tE X.K E mb)) (hm : behindInMarks op b = false) : PE X (.Compare a [op] [b] pos) (tE X.K E (op2 g ma mb)) := pe_mono (pe_cmpR ho ha hb hm) (op2_ok fun _ _ _ _ h => h)
def isB : Dt → Mm Bool
  | .bl b => Mm.pure b
  | _ => Mm.no
/-- a value as a test -/
def tst (m : En → Mm Dt) : En → Mm Bool := fun env => m env >>= isB
theorem tst_ok : ∀ σ H Q, tT X.K E (tst ma) σ H Q → tTest (tE X.K E ma) σ H Q := fun σ H Q ⟨s, env, e, r, he, ha⟩ => by
  subst e
  refine tE_bind r he ha fun d s1 x x1 r1 e1 rx q => ?_
  cases d with
  | bl k =>
    cases rx
    exact ⟨k, rfl, q.ret r1⟩
  | _ => exact q.elim
theorem mt_cmp {op : CmpOp} (ho : OpR X (compareOp op) (rM X.K E g)) (ha : PE X a (tE X.K E ma)) (hb : PE X b (tE X.K E mb)) (hm : behindInMarks op b = false) : PT X (.Compare a [op] [b] pos) (tT X.K E (tst (op2 g ma mb))) := by
  refine pt_mono (pt_cmpR ho ha hb hm) fun σ H Q h => ?_
  obtain ⟨s, env, e, r, he, ha⟩ := h
  subst e
  have h2 : tE X.K E (op2 g ma mb) σ s.H (fun x H' => ∃ k, x = V.bl k ∧ Q k H') := by
    refine tE_bind r he ha fun d s1 x x1 r1 e1 rx q => ?_
    cases d with
    | bl k =>
      cases rx
      exact ⟨k, rfl, q.ret r1⟩
    | _ => exact q.elim
  exact op2_ok (fun _ _ _ _ h => h) _ _ _ h2
theorem mt_val {e : Expr} (h : PE X e (tE X.K E ma)) (he : ∀ whole, isTrue e X.env whole = (do let v ← whole; standAt e.pos; holding [v] (truthy v)) := by intro _; rfl) : PT X e (tT X.K E (tst ma)) :=
  pt_mono (pt_val h he) fun σ H Q ⟨s, env, e, r, he, ha⟩ => by
    subst e
    refine tE_bind r he ha fun d s1 x x1 r1 e1 rx q => ?_
    cases d with
    | bl k =>
      cases rx
      exact ⟨k, rfl, q.ret r1⟩
    | _ => exact q.elim

/-! ### chains -/
def chain (g g' : Dt → Dt → Mm Dt) (ma mb mc : En → Mm Dt) : En → Mm Dt := fun env => ma env >>= fun x => mb env >>= fun y => g x y >>= fun z => isB z >>= fun k => match k with
  | true => mc env >>= fun w => g' y w
  | false => Mm.pure (.bl false)
variable {g' : Dt → Dt → Mm Dt}
theorem chain_ok {β : Type} {f : Dt → Mm β} {k : β → Sx → Prop} {K : PySem.W.Frag} {s : Sx} {env : En} {σ : L2.St} {Q : VK} (r : HRel K s) (he : Envs K s env σ) (ha : After K E s ((chain g g' ma mb mc env >>= f) s.h) k)
    (hq : ∀ d s1 v, Ext s s1 → HRel K s1 → Envs K s1 env σ → Rep K s1 d v → After K E s1 (f d s1.h) k → Q v s1.H) : tChain (rM K E g) (rM K E g') (tE K E ma) (tE K E mb) (tE K E mc) σ s.H Q := by
  have as : ∀ (h : Ah), (chain g g' ma mb mc env >>= f) h = (ma env >>= fun x => mb env >>= fun y => g x y >>= fun z => isB z >>= fun k => match k with
    | true => mc env >>= fun w => g' y w >>= f
    | false => f (.bl false)) h := by
    intro h
    show Mm.bind (chain g g' ma mb mc env) f h = Mm.bind (ma env) _ h
    unfold chain
    show Mm.bind (Mm.bind (ma env) _) f h = Mm.bind (ma env) _ h
    simp only [Mm.bind]
    cases ma env h with
    | ok x h1 =>
      show Mm.bind (Mm.bind (mb env) _) f h1 = Mm.bind (mb env) _ h1
      simp only [Mm.bind]
      cases mb env h1 with
      | ok y h2 =>
        show Mm.bind (Mm.bind (g x y) _) f h2 = Mm.bind (g x y) _ h2
        simp only [Mm.bind]
        cases g x y h2 with
        | ok z h3 =>
          show Mm.bind (Mm.bind (isB z) _) f h3 = Mm.bind (isB z) _ h3
          simp only [Mm.bind]
          cases isB z h3 with
          | ok k h4 =>
            cases k with
            | true =>
              show Mm.bind (Mm.bind (mc env) _) f h4 = Mm.bind (mc env) _ h4
              simp only [Mm.bind]
              cases mc env h4 with
              | ok w h5 => rfl
              | exn x h => rfl
              | no => rfl
            | false => rfl
          | exn x h => rfl
          | no => rfl
        | exn x h => rfl
        | no => rfl
      | exn x h => rfl
      | no => rfl
    | exn x h => rfl
    | no => rfl
  rw [as] at ha
  refine tE_bind r he ha fun d s1 x x1 r1 e1 rx q1 => tE_bind r1 e1 q1 fun d2 s2 y x2 r2 e2 ry q2 => ?_
  refine ⟨s2, d, d2, rfl, r2, rx.ext x2, ry, q2.bind.mono fun z s3 x3 r3 q3 v rv => ?_⟩
  have q4 := q3.bind
  cases z with
  | bl k =>
    cases rv
    refine ⟨k, rfl, ?_⟩
    have q5 := q4.ret r3
    have e3 := e2.ext x3
    cases k with
    | true =>
      rw [if_pos rfl]
      refine tE_bind r3 e3 q5 fun d4 s4 w x4 r4 e4 rw' q6 => ⟨s4, d2, d4, rfl, r4, (ry.ext x3).ext x4, rw', q6.bind.mono fun z5 s5 x5 r5 q7 v5 rv5 => ?_⟩
      exact hq z5 s5 v5 (((x1.trans x2).trans x3).trans (x4.trans x5)) r5 (e4.ext x5) rv5 q7
    | false =>
      rw [if_neg (by decide)]
      exact hq (.bl false) s3 _ ((x1.trans x2).trans x3) r3 e3 rfl q5
  | _ => exact q4.elim
theorem me_chain {op op' : CmpOp} (ho : OpR X (compareOp op) (rM X.K E g)) (ho' : OpR X (compareOp op') (rM X.K E g')) (ha : PE X a (tE X.K E ma)) (hb : PE X b (tE X.K E mb)) (hc : PE X c (tE X.K E mc))
    (hm : lastMarks [op, op'] [b, c] = false := by with_unfolding_all rfl) : PE X (.Compare a [op, op'] [b, c] pos) (tE X.K E (chain g g' ma mb mc)) := by
  refine pe_mono (pe_chain ho ho' ha hb hc hm) fun σ H Q ⟨s, env, e, r, he, ha⟩ => ?_
  subst e
  have hb : (chain g g' ma mb mc env >>= Mm.pure) s.h = chain g g' ma mb mc env s.h := by
    show Mm.bind (chain g g' ma mb mc env) Mm.pure s.h = _
    unfold Mm.bind
    cases chain g g' ma mb mc env s.h <;> rfl
  rw [← hb] at ha
  exact chain_ok r he ha fun d s1 v _ r1 _ rv q => q.ret r1 v rv
theorem mt_chain {op op' : CmpOp} (ho : OpR X (compareOp op) (rM X.K E g)) (ho' : OpR X (compareOp op') (rM X.K E g')) (ha : PE X a (tE X.K E ma)) (hb : PE X b (tE X.K E mb)) (hc : PE X c (tE X.K E mc))
    (hm : lastMarks [op, op'] [b, c] = false := by with_unfolding_all rfl) : PT X (.Compare a [op, op'] [b, c] pos) (tT X.K E (tst (chain g g' ma mb mc))) := by
  refine pt_mono (pt_chain ho ho' ha hb hc hm) fun σ H Q ⟨s, env, e, r, he, ha⟩ => ?_
  subst e
  refine chain_ok r he ha fun d s1 v _ r1 _ rv q => ?_
  cases d with
  | bl k =>
    cases rv
    exact ⟨k, rfl, q.ret r1⟩
  | _ => exact q.elim

/-! ### and, or, not, if -/
variable {mt mu : En → Mm Bool} {rest : List Expr}
def andT (mt mu : En → Mm Bool) : En → Mm Bool := fun env => mt env >>= fun c => match c with | true => mu env | false => Mm.pure false
def orT (mt mu : En → Mm Bool) : En → Mm Bool := fun env => mt env >>= fun c => match c with | true => Mm.pure true | false => mu env
def notT (mt : En → Mm Bool) : En → Mm Bool := fun env => mt env >>= fun c => Mm.pure (!c)
theorem mw_and1 (ha : PT X a (tT X.K E mt)) : PW X (.BoolOp .And [a] pos) (tT X.K E mt) := pw_and1 ha
theorem mw_or1 (ha : PT X a (tT X.K E mt)) : PW X (.BoolOp .Or [a] pos) (tT X.K E mt) := pw_or1 ha
theorem mw_and (ha : PT X a (tT X.K E mt)) (hb : PW X (.BoolOp .And (b :: rest) pos) (tT X.K E mu)) : PW X (.BoolOp .And (a :: b :: rest) pos) (tT X.K E (andT mt mu)) := pw_mono (pw_and ha hb) fun σ H Q ⟨s, env, e, r, he, ha⟩ => by
  subst e
  refine tT_bind r he ha fun c s1 x1 r1 e1 q => ?_
  cases c with
  | true => rw [if_pos rfl]; exact ⟨s1, env, rfl, r1, e1, q⟩
  | false => rw [if_neg (by decide)]; exact q.ret r1
theorem mw_or (ha : PT X a (tT X.K E mt)) (hb : PW X (.BoolOp .Or (b :: rest) pos) (tT X.K E mu)) : PW X (.BoolOp .Or (a :: b :: rest) pos) (tT X.K E (orT mt mu)) := pw_mono (pw_or ha hb) fun σ H Q ⟨s, env, e, r, he, ha⟩ => by
  subst e
  refine tT_bind r he ha fun c s1 x1 r1 e1 q => ?_
  cases c with
  | true => rw [if_pos rfl]; exact q.ret r1
  | false => rw [if_neg (by decide)]; exact ⟨s1, env, rfl, r1, e1, q⟩
theorem mt_not (ha : PT X a (tT X.K E mt)) : PT X (.UnaryOp .Not a pos) (tT X.K E (notT mt)) := pt_mono (pt_not ha) fun σ H Q ⟨s, env, e, r, he, ha⟩ => by
  subst e
  exact tT_bind r he ha fun c s1 x1 r1 e1 q => q.ret r1
/-- .. as values, of truth values -/
def andV (ma mb : En → Mm Dt) : En → Mm Dt := fun env => ma env >>= fun x => isB x >>= fun c => match c with | true => mb env | false => Mm.pure (.bl false)
def orV (ma mb : En → Mm Dt) : En → Mm Dt := fun env => ma env >>= fun x => isB x >>= fun c => match c with | true => Mm.pure (.bl true) | false => mb env
def notV (ma : En → Mm Dt) : En → Mm Dt := fun env => ma env >>= fun x => isB x >>= fun c => Mm.pure (.bl (!c))
theorem isB_ok {K : PySem.W.Frag} {s : Sx} {β : Type} {f : Bool → Mm β} {k : β → Sx → Prop} {d : Dt} {v : V} (r : HRel K s) (rv : Rep K s d v) (h : After K E s ((isB d >>= f) s.h) k) : ∃ c, v = .bl c ∧ After K E s (f c s.h) k := by
  have q := h.bind
  cases d with
  | bl c => cases rv; exact ⟨c, rfl, q.ret r⟩
  | _ => exact q.elim
theorem me_one {op} (h : PE X a (tE X.K E ma)) : PE X (.BoolOp op [a] pos) (tE X.K E ma) := pe_one h
theorem me_and (ha : PE X a (tE X.K E ma)) (hb : PE X (.BoolOp .And (b :: rest) pos) (tE X.K E mb)) : PE X (.BoolOp .And (a :: b :: rest) pos) (tE X.K E (andV ma mb)) := pe_mono (pe_and ha hb) fun σ H Q ⟨s, env, e, r, he, ha⟩ => by
  subst e
  refine tE_bind r he ha fun d s1 v x1 r1 e1 rv q => ?_
  obtain ⟨c, rfl, q2⟩ := isB_ok r1 rv q
  refine ⟨c, rfl, ?_⟩
  cases c with
  | true => rw [if_pos rfl]; exact ⟨s1, env, rfl, r1, e1, q2⟩
  | false => rw [if_neg (by decide)]; exact q2.ret r1 _ rfl
theorem me_or (ha : PE X a (tE X.K E ma)) (hb : PE X (.BoolOp .Or (b :: rest) pos) (tE X.K E mb)) : PE X (.BoolOp .Or (a :: b :: rest) pos) (tE X.K E (orV ma mb)) := pe_mono (pe_or ha hb) fun σ H Q ⟨s, env, e, r, he, ha⟩ => by
  subst e
  refine tE_bind r he ha fun d s1 v x1 r1 e1 rv q => ?_
  obtain ⟨c, rfl, q2⟩ := isB_ok r1 rv q
  refine ⟨c, rfl, ?_⟩
  cases c with
  | true => rw [if_pos rfl]; exact q2.ret r1 _ rfl
  | false => rw [if_neg (by decide)]; exact ⟨s1, env, rfl, r1, e1, q2⟩
theorem me_not (ha : PE X a (tE X.K E ma)) : PE X (.UnaryOp .Not a pos) (tE X.K E (notV ma)) := pe_mono (pe_not ha) fun σ H Q ⟨s, env, e, r, he, ha⟩ => by
  subst e
  refine tE_bind r he ha fun d s1 v x1 r1 e1 rv q => ?_
  obtain ⟨c, rfl, q2⟩ := isB_ok r1 rv q
  exact ⟨c, rfl, q2.ret r1 _ rfl⟩
def ifE (mt : En → Mm Bool) (ma mb : En → Mm Dt) : En → Mm Dt := fun env => mt env >>= fun c => match c with | true => ma env | false => mb env
theorem me_if (hc : PT X c (tT X.K E mt)) (ha : PE X a (tE X.K E ma)) (hb : PE X b (tE X.K E mb)) : PE X (.IfExp c a b pos) (tE X.K E (ifE mt ma mb)) := pe_mono (pe_ifExp hc ha hb) fun σ H Q ⟨s, env, e, r, he, ha⟩ => by
  subst e
  refine tT_bind r he ha fun c s1 x1 r1 e1 q => ?_
  cases c with
  | true => rw [if_pos rfl]; exact ⟨s1, env, rfl, r1, e1, q⟩
  | false => rw [if_neg (by decide)]; exact ⟨s1, env, rfl, r1, e1, q⟩

/-! ### arguments, displays -/
def argN : En → Mm (List Dt) := fun _ => Mm.pure []
def argC (ma : En → Mm Dt) (mr : En → Mm (List Dt)) : En → Mm (List Dt) := fun env => ma env >>= fun x => mr env >>= fun r => Mm.pure (x :: r)
variable {mr : En → Mm (List Dt)} {es : List Expr}
theorem ma_nil : PA X [] (tA X.K E argN) := pa_mono pa_nil fun σ H Q ⟨s, env, e, r, he, ha⟩ => by
  subst e
  exact ha.ret r [] rfl
theorem ma_cons (ha : PE X e (tE X.K E ma)) (hr : PA X es (tA X.K E mr)) (hs : starEach (e :: es) X.env = (false, eval e X.env) :: starEach es X.env := by rfl) : PA X (e :: es) (tA X.K E (argC ma mr)) := pa_mono (pa_cons ha hr hs) fun σ H Q ⟨s, env, e, r, he, ha⟩ => by
  subst e
  exact tE_bind r he ha fun d s1 v x1 r1 e1 rv q => tA_bind r1 e1 q fun ds s2 vs x2 r2 e2 rvs q2 => q2.ret r2 _ (Reps.cons (rv.ext x2) rvs)
def tupE (mr : En → Mm (List Dt)) : En → Mm Dt := fun env => mr env >>= fun ds => if ds.length ≤ sizeLine then Mm.pure (.tup ds) else Mm.no
def lstE (mr : En → Mm (List Dt)) : En → Mm Dt := fun env => mr env >>= fun ds => if ds.length ≤ sizeLine then Mm.pure (.lv ds) else Mm.no
/-- a new tracked object -/
def mkO (o : Ao) : Mm Dt := fun h => .ok (.obj h.length) (h ++ [o])
def lstO (mr : En → Mm (List Dt)) : En → Mm Dt := fun env => mr env >>= fun ds => if ds.length ≤ sizeLine then mkO (.lst ds) else Mm.no
theorem me_tup {x1} (h : PA X es (tA X.K E mr)) : PE X (.Tuple es x1 pos) (tE X.K E (tupE mr)) := pe_mono (pe_tup h) fun σ H Q ⟨s, env, e, r, he, ha⟩ => by
  subst e
  refine tA_bind r he ha fun ds s1 vs x1 r1 e1 rv q => ?_
  split at q
  · rename_i hl
    rw [rv.length]
    refine ⟨hl, fun p hp => ?_⟩
    exact q.now (s1.new p (.tup vs)) rfl (new_ext r1 hp) (new_rel r1 hp) _ ⟨p, vs, rfl, ⟨upd_same, (new_fx r1 hp).2⟩, rv.ext (new_ext r1 hp)⟩
  · exact q.elim
theorem me_lst (h : PA X es (tA X.K E mr)) : PE X (.List es pos) (tE X.K E (lstE mr)) := pe_mono (pe_lst h) fun σ H Q ⟨s, env, e, r, he, ha⟩ => by
  subst e
  refine tA_bind r he ha fun ds s1 vs x1 r1 e1 rv q => ?_
  split at q
  · rename_i hl
    rw [rv.length]
    refine ⟨hl, fun p hp => ?_⟩
    exact q.now (s1.new p (.lst vs)) rfl (new_ext r1 hp) (new_rel r1 hp) _ ⟨p, vs, rfl, ⟨upd_same, (new_fx r1 hp).2⟩, rv.ext (new_ext r1 hp)⟩
  · exact q.elim
theorem mkO_ok {K : PySem.W.Frag} {s : Sx} {o : Ao} {u : HO} {p : Addr} {k : Dt → Sx → Prop} (r : HRel K s) (hp : s.H p = none) (ho : ORep K (s.add p u o) p o) (h : After K E s (mkO o s.h) k) : HRel K (s.add p u o) ∧ Ext s (s.add p u o) ∧ Rep K (s.add p u o) (.obj s.h.length) (.ref p) ∧ k (.obj s.h.length) (s.add p u o) :=
  ⟨add_rel r hp ho, add_ext r hp, ⟨p, add_at r, rfl⟩, h.now (s.add p u o) rfl (add_ext r hp) (add_rel r hp ho)⟩
theorem me_lstO (h : PA X es (tA X.K E mr)) : PE X (.List es pos) (tE X.K E (lstO mr)) := pe_mono (pe_lst h) fun σ H Q ⟨s, env, e, r, he, ha⟩ => by
  subst e
  refine tA_bind r he ha fun ds s1 vs x1 r1 e1 rv q => ?_
  split at q
  · rename_i hl
    rw [rv.length]
    refine ⟨hl, fun p hp => ?_⟩
    obtain ⟨_, x, rp, kq⟩ := mkO_ok (u := .lst vs) (o := .lst ds) r1 hp ⟨vs, upd_same, rv.ext (add_ext r1 hp)⟩ q
    exact kq _ rp
  · exact q.elim

/-! ### calls of own defs -/
def callM (n : Nat) (fm : List Dt → Mm Dt) (mr : En → Mm (List Dt)) : En → Mm Dt := fun env => mr env >>= fun ds => if ds.length = n then fm ds else Mm.no
theorem me_call {CX : CXT} {k n : Nat} {f : Addr} {fd : FuncData} {ps : List Str} {fm : List Dt → Mm Dt} {x : Str} {p : Pos} (F : FnOk X.prog X.w X.K X.mg X.base CX k f fd ps (spM X.K n fm)) (hr : Room k X.A) (hg : Gl X x) (hm : X.mg x = some (.ref f)) (hk : PySem.W.keepIn X.K (.ref f) = true) (hb : Binds X.K fd ps []) (hx : Passes CX X E0)
    (ha : PA X (e :: es) (tA X.K E0 mr)) (hdb : (x == ("__debug__" : Str)) = false := by decide) (he : starEach (e :: es) X.env = (false, eval e X.env) :: starEach es X.env := by rfl) (hpl : (backTo pos (starEach es X.env)).any (·.1) = false := by rfl) :
    PE X (.Call (.Name x p) (e :: es) [] pos) (tE X.K E0 (callM n fm mr)) := pe_mono (pe_call F hr hg hm hk hb .nil hx ha hdb he hpl) fun σ H Q ⟨s, env, e, r, he, ha⟩ => by
  subst e
  refine tA_bind r he ha fun ds s1 vs x1 r1 e1 rv q => ?_
  split at q
  · rename_i hl
    rw [List.append_nil]
    exact ⟨s1, ds, rfl, hl, r1, rv, q⟩
  · exact q.elim
theorem me_call0 {CX : CXT} {k : Nat} {f : Addr} {fd : FuncData} {ps : List Str} {fm : List Dt → Mm Dt} {x : Str} {p : Pos} (F : FnOk X.prog X.w X.K X.mg X.base CX k f fd ps (spM X.K 0 fm)) (hr : Room k X.A) (hg : Gl X x) (hm : X.mg x = some (.ref f)) (hk : PySem.W.keepIn X.K (.ref f) = true) (hb : Binds X.K fd ps []) (hx : Passes CX X E0)
    (hdb : (x == ("__debug__" : Str)) = false := by decide) : PE X (.Call (.Name x p) [] [] pos) (tE X.K E0 (fun _ => fm [])) := pe_mono (pe_call0 F hr hg hm hk hb .nil hx hdb) fun σ H Q ⟨s, env, e, r, he, ha⟩ => by
  subst e
  exact ⟨s, [], rfl, rfl, r, rfl, ha⟩
/-! ### built-ins by name -/
def bi (g : List Dt → Mm Dt) (mr : En → Mm (List Dt)) : En → Mm Dt := fun env => mr env >>= fun ds => g ds
theorem me_callB {id : String} {g : List Dt → Mm Dt} {x : Str} {p : Pos} (hc : CallR X (.builtin id) (cM X.K E g)) (hg : Gl X x) (hm : X.mg x = none) (hv : bootBuiltins x = some (.builtin id)) (ha : PA X (e :: es) (tA X.K E mr)) (hn : x ≠ "__name__" := by decide) (hdb : (x == ("__debug__" : Str)) = false := by decide)
    (h : PE X (.Call (.Name x p) (e :: es) [] pos) (tCB (cM X.K E g) (tA X.K E mr)) := by exact pe_callB ‹_› ‹_› ‹_› ‹_› ‹_›) :
    PE X (.Call (.Name x p) (e :: es) [] pos) (tE X.K E (bi g mr)) := pe_mono h fun σ H Q ⟨s, env, e, r, he, ha⟩ => by
  subst e
  exact tA_bind r he ha fun ds s1 vs x1 r1 e1 rv q => ⟨s1, ds, rfl, r1, rv, q⟩
theorem bi_ok {g : List Dt → Mm Dt} : ∀ σ H Q, tE X.K E (bi g mr) σ H Q → tCB (cM X.K E g) (tA X.K E mr) σ H Q := fun σ H Q ⟨s, env, e, r, he, ha⟩ => by
  subst e
  exact tA_bind r he ha fun ds s1 vs x1 r1 e1 rv q => ⟨s1, ds, rfl, r1, rv, q⟩
end
end Mo
set_option Elab.async false
set_option linter.all false
set_option maxRecDepth 100000
set_option maxHeartbeats 4000000
/-! Mo3: statements, targets, loops, comprehensions, defs. -/
namespace Mo
open PySem L2 PySem.Spec PyProof.Rows
section
variable {X : Cx} {E : XK} {e a b c : Expr} {pos : Pos} {st : Stmt} {rest body : List Stmt}
variable {ma mb mc : En → Mm Dt} {mt mu : En → Mm Bool} {mr : En → Mm (List Dt)} {es : List Expr} {ms m1 m2 : En → Mm Fl}
/-! ### blocks -/
def nxt : En → Mm Fl := fun env => Mm.pure (.nx env)
def seq (m1 m2 : En → Mm Fl) : En → Mm Fl := fun env => m1 env >>= fun f => match f with
  | .nx e => m2 e
  | .bk e => Mm.pure (.bk e)
  | .ct e => Mm.pure (.ct e)
  | .rt d => Mm.pure (.rt d)
theorem tS_bind {K : PySem.W.Frag} {s : Sx} {env : En} {σ : L2.St} {m : En → Mm Fl} {β : Type} {f : Fl → Mm β} {k : β → Sx → Prop} {D : Ends} (hr : HRel K s) (he : Envs K s env σ) (ha : After K E s ((m env >>= f) s.h) k)
    (hq : ∀ fl s1, Ext s s1 → HRel K s1 → After K E s1 (f fl s1.h) k → flK K D fl s1) : tS K E m D σ s.H :=
  ⟨s, env, rfl, hr, he, ha.bind.mono fun d s1 x r q => hq d s1 x r q⟩
theorem mss_nil : PSs X [] (tS X.K E nxt) := pss_mono pss_nil fun D σ H ⟨s, env, e, r, he, ha⟩ => by
  subst e
  exact ha.ret r σ he
theorem mss_cons (h1 : PS X st (tS X.K E m1)) (h2 : PSs X rest (tS X.K E m2)) : PSs X (st :: rest) (tS X.K E (seq m1 m2)) := pss_mono (pss_cons h1 h2) fun D σ H ⟨s, env, e, r, he, ha⟩ => by
  subst e
  refine tS_bind r he ha fun fl s1 x1 r1 q => ?_
  cases fl with
  | nx e => exact fun σ' he' => ⟨s1, e, rfl, r1, he', q⟩
  | bk e => exact fun σ' he' => q.ret r1 σ' he'
  | ct e => exact fun σ' he' => q.ret r1 σ' he'
  | rt d => exact fun v rv => q.ret r1 v rv
theorem mss_one (h1 : PS X st (tS X.K E m1)) : PSs X [st] (tS X.K E m1) := pss_one h1
theorem ms_pass : PS X (.Pass pos) (tS X.K E nxt) := ps_mono ps_pass fun D σ H ⟨s, env, e, r, he, ha⟩ => by
  subst e
  exact ha.ret r σ he
theorem ms_doc {x j pos pos'} : PS X (.Expr (.Constant (.str x) j pos) pos') (tS X.K E nxt) := ps_mono ps_doc fun D σ H ⟨s, env, e, r, he, ha⟩ => by
  subst e
  exact ha.ret r σ he
def brk : En → Mm Fl := fun env => Mm.pure (.bk env)
def cnt : En → Mm Fl := fun env => Mm.pure (.ct env)
theorem ms_break : PS X (.Break pos) (tS X.K E brk) := ps_mono ps_break fun D σ H ⟨s, env, e, r, he, ha⟩ => by
  subst e
  exact ha.ret r σ he
theorem ms_continue : PS X (.Continue pos) (tS X.K E cnt) := ps_mono ps_continue fun D σ H ⟨s, env, e, r, he, ha⟩ => by
  subst e
  exact ha.ret r σ he
def drp (ma : En → Mm Dt) : En → Mm Fl := fun env => ma env >>= fun _ => Mm.pure (.nx env)
theorem ms_expr (he : PE X e (tE X.K E ma)) (hs : swapsWith e none pos.line X.env = pure false := by rfl) : PS X (.Expr e pos) (tS X.K E (drp ma)) := ps_mono (ps_expr he hs) fun D σ H ⟨s, env, e, r, he, ha⟩ => by
  subst e
  exact tE_bind r he ha fun d s1 v x1 r1 e1 rv q => q.ret r1 σ e1
def ret (ma : En → Mm Dt) : En → Mm Fl := fun env => ma env >>= fun d => Mm.pure (.rt d)
theorem ms_ret (he : PE X e (tE X.K E ma)) : PS X (.Return (some e) pos) (tS X.K E (ret ma)) := ps_mono (ps_ret he) fun D σ H ⟨s, env, e, r, he, ha⟩ => by
  subst e
  exact tE_bind r he ha fun d s1 v x1 r1 e1 rv q => q.ret r1 v rv
theorem ms_retN : PS X (.Return none pos) (tS X.K E (fun _ => Mm.pure (.rt .non))) := ps_mono ps_retN fun D σ H ⟨s, env, e, r, he, ha⟩ => by
  subst e
  exact ha.ret r _ rfl
def ifS (mt : En → Mm Bool) (m1 m2 : En → Mm Fl) : En → Mm Fl := fun env => mt env >>= fun c => match c with | true => m1 env | false => m2 env
theorem ms_if {a b : List Stmt} (hc : PT X c (tT X.K E mt)) (ha : PSs X a (tS X.K E m1)) (hb : PSs X b (tS X.K E m2)) : PS X (.If c a b pos) (tS X.K E (ifS mt m1 m2)) := ps_mono (ps_if hc ha hb) fun D σ H ⟨s, env, e, r, he, ha⟩ => by
  subst e
  refine tT_bind r he ha fun c s1 x1 r1 e1 q => ?_
  cases c with
  | true => rw [if_pos rfl]; exact ⟨s1, env, rfl, r1, e1, q⟩
  | false => rw [if_neg (by decide)]; exact ⟨s1, env, rfl, r1, e1, q⟩

/-! ### targets -/
def gN (i : Nat) : Dt → En → Mm En := fun d env => Mm.pure (env.set i (some d))
theorem Envs.set {K : PySem.W.Frag} {s : Sx} {env : En} {σ : L2.St} {d : Dt} {v : V} (h : Envs K s env σ) (r : Rep K s d v) (i : Nat) : Envs K s (env.set i (some d)) (σ.set i (some v)) := by
  refine ⟨by simp [h.len], fun j d' e => ?_⟩
  by_cases hj : i = j
  · subst hj
    have hl : i < env.length := by
      have := (List.getElem?_eq_some_iff.mp e).1
      simpa using this
    rw [List.getElem?_set_self hl] at e
    cases e
    exact ⟨v, by rw [List.getElem?_set_self (by rw [← h.len]; exact hl)], r⟩
  · rw [List.getElem?_set_ne hj] at e
    obtain ⟨w, e1, r1⟩ := h.get j d' e
    exact ⟨w, by rw [List.getElem?_set_ne hj]; exact e1, r1⟩
theorem mg_name {i : Nat} {x : Str} (hN : X.N.Nodup) (hi : X.N[i]? = some x) (hx : Loc X.env.scope x) (hf : X.fn x = true ∨ X.env.scope.names.lookup x = some .local := by first | exact .inl rfl | exact .inr rfl | assumption) : PG X (.Name x pos) (tG X.K E (gN i)) :=
  pg_mono (pg_name hN hi hx hf) fun v σ H Q ⟨s, env, d, e, r, he, rv, ha⟩ => by
    subst e
    exact ha.ret r _ (he.set rv i)
def gsN : List Dt → En → Mm En := fun ds env => match ds with
  | [] => Mm.pure env
  | _ => Mm.no
def gsC (g : Dt → En → Mm En) (gs : List Dt → En → Mm En) : List Dt → En → Mm En := fun ds env => match ds with
  | d :: r => g d env >>= fun env' => gs r env'
  | [] => Mm.no
theorem mgs_nil : PGs X [] (tGs X.K E gsN) := pgs_mono pgs_nil fun vs σ H Q ⟨s, env, ds, e, r, he, rv, ha⟩ => by
  subst e
  cases ds with
  | nil => cases rv; exact ⟨rfl, ha.ret r _ he⟩
  | cons _ _ => exact ha.elim
theorem tG_bind {K : PySem.W.Frag} {s : Sx} {env : En} {σ : L2.St} {d : Dt} {v : V} {m : Dt → En → Mm En} {β : Type} {f : En → Mm β} {k : β → Sx → Prop} {Q : L2.St → Hp → Prop} (hr : HRel K s) (he : Envs K s env σ) (rv : Rep K s d v) (ha : After K E s ((m d env >>= f) s.h) k)
    (hq : ∀ env' s1 σ', Ext s s1 → HRel K s1 → Envs K s1 env' σ' → After K E s1 (f env' s1.h) k → Q σ' s1.H) : tG K E m v σ s.H Q :=
  ⟨s, env, d, rfl, hr, he, rv, ha.bind.mono fun e s1 x r q σ' es => hq e s1 σ' x r es q⟩
theorem mgs_cons {g : Dt → En → Mm En} {gs : List Dt → En → Mm En} (h1 : PG X e (tG X.K E g)) (h2 : PGs X es (tGs X.K E gs))
    (hs : (assignEach (e :: es) X.env).map (·.2) = assign e X.env :: (assignEach es X.env).map (·.2) := by rfl) : PGs X (e :: es) (tGs X.K E (gsC g gs)) := pgs_mono (pgs_cons h1 h2 hs) fun vs σ H Q ⟨s, env, ds, e, r, he, rv, ha⟩ => by
  subst e
  cases ds with
  | nil => exact ha.elim
  | cons d ds =>
    obtain ⟨v, vr, rfl, rd, rr⟩ := rv
    refine ⟨v, vr, rfl, tG_bind r he rd ha fun env' s1 σ' x1 r1 e1 q => ⟨s1, env', ds, rfl, r1, e1, rr.ext x1, q⟩⟩
def gT (n : Nat) (gs : List Dt → En → Mm En) : Dt → En → Mm En := fun d env => match d with
  | .tup ds => if ds.length = n then gs ds env else Mm.no
  | _ => Mm.no
theorem Rep.tupV {K : PySem.W.Frag} {s : Sx} {ds : List Dt} {v : V} (h : Rep K s (.tup ds) v) : ∃ a vs, v = .ref a ∧ SqT K s.H a vs ∧ Reps K s ds vs := by
  obtain ⟨a, vs, e, k, r⟩ := h
  exact ⟨a, vs, e, .of k.1, r⟩
theorem mg_tup {k : Nat} {gs : List Dt → En → Mm En} {n : Nat} (hc : X.calm = true) (h : PGs X es (tGs X.K E gs))
    (hn : (assignEach es X.env).length = n := by rfl) (hst : (assignEach es X.env).findIdx? (·.1) = none := by rfl) : PG X (.Tuple es k pos) (tG X.K E (gT n gs)) := pg_mono (pg_tup hc h hn hst) fun v σ H Q ⟨s, env, d, e, r, he, rv, ha⟩ => by
  subst e
  cases d with
  | tup ds =>
    obtain ⟨a, vs, rfl, sq, rs⟩ := rv.tupV
    by_cases hl : ds.length = n
    · have ha : After X.K E s ((if ds.length = n then gs ds env else Mm.no) s.h) _ := ha
      rw [if_pos hl] at ha
      exact ⟨a, vs, rfl, sq, by rw [rs.length]; exact hl, s, env, ds, rfl, r, he, rs, ha⟩
    · have ha : After X.K E s ((if ds.length = n then gs ds env else Mm.no) s.h) _ := ha
      rw [if_neg hl] at ha
      exact ha.elim
  | _ => exact ha.elim
/-- o[i] = .. -/
def gS (mo mi : En → Mm Dt) (g : Dt → Dt → Dt → Mm Unit) : Dt → En → Mm En := fun d env => mo env >>= fun o => mi env >>= fun i => g o i d >>= fun _ => Mm.pure env
theorem mg_sub {o i : Expr} {mo mi : En → Mm Dt} {g : Dt → Dt → Dt → Mm Unit} (ho : PE X o (tE X.K E mo)) (hi : PE X i (tE X.K E mi)) (hs : PSet X (stM X.K E g))
    (ha : ∀ v, assign (.Subscript o i pos) X.env v = (do
      let ov ← holding [v] (eval o X.env)
      let iv ← holding [v, ov] (eval i X.env)
      standAt pos
      holding [v, ov, iv] (setItem ov iv v)
      release [v, ov, iv] []) := by intro _; rfl) : PG X (.Subscript o i pos) (tG X.K E (gS mo mi g)) := pg_mono (pg_sub ho hi hs ha) fun v σ H Q ⟨s, env, d, e, r, he, rv, ha⟩ => by
  subst e
  refine tE_bind r he ha fun d1 s1 v1 x1 r1 e1 rv1 q1 => tE_bind r1 e1 q1 fun d2 s2 v2 x2 r2 e2 rv2 q2 => ?_
  refine ⟨s2, d1, d2, d, rfl, r2, rv1.ext x2, rv2, (rv.ext x1).ext x2, q2.bind.mono fun _ s3 x3 r3 q3 => ?_⟩
  exact q3.ret r3 σ (e2.ext x3)
def asg (ma : En → Mm Dt) (g : Dt → En → Mm En) : En → Mm Fl := fun env => ma env >>= fun d => g d env >>= fun env' => Mm.pure (.nx env')
theorem ms_asg {tg : Expr} {g : Dt → En → Mm En} (he : PE X e (tE X.K E ma)) (hg : PG X tg (tG X.K E g)) (hs : swapsWithSole [tg] e pos.line X.env = pure false := by rfl) (hw : swappedStores [tg] e X.env = pure none := by rfl)
    (h1 : (assignEach [tg] X.env).map (·.2) = [assign tg X.env] := by rfl) : PS X (.Assign [tg] e pos) (tS X.K E (asg ma g)) := ps_mono (ps_asg he hg hs hw h1) fun D σ H ⟨s, env, e, r, he, ha⟩ => by
  subst e
  exact tE_bind r he ha fun d s1 v x1 r1 e1 rv q => tG_bind r1 e1 rv q fun env' s2 σ' x2 r2 e2 q2 => q2.ret r2 σ' e2
def sto (i : Nat) (ma : En → Mm Dt) : En → Mm Fl := fun env => ma env >>= fun d => Mm.pure (.nx (env.set i (some d)))
theorem ms_set {i : Nat} {x : Str} {pos' : Pos} (hN : X.N.Nodup) (hi : X.N[i]? = some x) (hx : Loc X.env.scope x) (he : PE X e (tE X.K E ma)) (hs : swapsWith e (some (.Name x pos')) pos.line X.env = pure false := by rfl) (hf : X.fn x = true ∨ X.env.scope.names.lookup x = some .local := by first | exact .inl rfl | exact .inr rfl | assumption) :
    PS X (.Assign [.Name x pos'] e pos) (tS X.K E (sto i ma)) := ps_mono (ps_set hN hi hx he hs hf) fun D σ H ⟨s, env, e, r, he, ha⟩ => by
  subst e
  exact tE_bind r he ha fun d s1 v x1 r1 e1 rv q => q.ret r1 _ (e1.set rv i)
def par (i j : Nat) (mr : En → Mm (List Dt)) : En → Mm Fl := fun env => mr env >>= fun ds => match ds with
  | [d1, d2] => Mm.pure (.nx ((env.set i (some d1)).set j (some d2)))
  | _ => Mm.no
theorem ms_par {i j : Nat} {x y : Str} {px py pt : Pos} {kt k2 pt2} (hc : X.calm = true) (hN : X.N.Nodup) (hi : X.N[i]? = some x) (hj : X.N[j]? = some y) (hij : i ≠ j)
    (hx : X.env.scope.names.lookup x = some .local) (hy : X.env.scope.names.lookup y = some .local) (ha : PA X [a, b] (tA X.K E mr))
    (hw : swappedStores [.Tuple [.Name x px, .Name y py] kt pt] (.Tuple [a, b] k2 pt2) X.env = pure (some [x, y]))
    (hs : swapsWithSole [.Tuple [.Name x px, .Name y py] kt pt] (.Tuple [a, b] k2 pt2) pos.line X.env = pure false := by rfl) :
    PS X (.Assign [.Tuple [.Name x px, .Name y py] kt pt] (.Tuple [a, b] k2 pt2) pos) (tS X.K E (par i j mr)) := ps_mono (ps_par hc hN hi hj hij hx hy ha hw hs) fun D σ H ⟨s, env, e, r, he, ha⟩ => by
  subst e
  refine tA_bind r he ha fun ds s1 vs x1 r1 e1 rv q => ?_
  match ds, rv, q with
  | [d1, d2], ⟨v, _, e2, rv1, w, _, e3, rv2, e4⟩, q =>
    subst e2 e3 e4
    exact ⟨v, w, rfl, q.ret r1 _ ((e1.set rv1 i).set rv2 j)⟩
  | [], _, q => exact q.elim
  | [_], _, q => exact q.elim
  | _ :: _ :: _ :: _, _, q => exact q.elim
/-- x op= e -/
def aug (i : Nat) (ma : En → Mm Dt) (g : Dt → Dt → Mm Dt) : En → Mm Fl := fun env => match env[i]? with
  | some (some x) => ma env >>= fun y => g x y >>= fun z => Mm.pure (.nx (env.set i (some z)))
  | _ => Mm.no
theorem ms_aug {i : Nat} {x : Str} {op : Operator} {g : Dt → Dt → Mm Dt} {pos' : Pos} (hN : X.N.Nodup) (hi : X.N[i]? = some x) (hx : Loc X.env.scope x) (he : PE X e (tE X.K E ma)) (ho : OpR X (inplaceOp op) (rM X.K E g)) (hf : X.fn x = true ∨ X.env.scope.names.lookup x = some .local := by first | exact .inl rfl | exact .inr rfl | assumption) :
    PS X (.AugAssign (.Name x pos') op e pos) (tS X.K E (aug i ma g)) := ps_mono (ps_aug hN hi hx he (ti := rM X.K E g) (fun pins s σ H x y v u Q I rx ry w => ho pins s σ H x y v u Q I rx ry w) hf) fun D σ H ⟨s, env, e, r, he, ha⟩ => by
  subst e
  unfold aug at ha
  cases q : env[i]? with
  | none => rw [q] at ha; exact ha.elim
  | some o =>
    cases o with
    | none => rw [q] at ha; exact ha.elim
    | some d =>
      rw [q] at ha
      obtain ⟨v, e1, rv⟩ := he.get i d q
      refine ⟨v, e1, tE_bind r he ha fun d2 s2 v2 x2 r2 e2 rv2 q2 => ⟨s2, d, d2, rfl, r2, rv.ext x2, rv2, q2.bind.mono fun z s3 x3 r3 q3 vz rz => q3.ret r3 _ ((e2.ext x3).set rz i)⟩⟩

/-! ### while -/
def whl (mt : En → Mm Bool) (m : En → Mm Fl) : Nat → En → Mm Fl
  | 0, _ => Mm.no
  | n + 1, env => mt env >>= fun c => match c with
    | true => m env >>= fun f => match f with
      | .nx e => whl mt m n e
      | .ct e => whl mt m n e
      | .bk e => Mm.pure (.nx e)
      | .rt d => Mm.pure (.rt d)
    | false => Mm.pure (.nx env)
theorem tS_while {K : PySem.W.Frag} {D : Ends} {σ : L2.St} {H : Hp} {n : Nat} : tS K E (whl mt ms n) D σ H → tWhile (tT K E mt) (tS K E ms) D σ H := by
  intro h
  refine ⟨fun m σ H => tS K E (whl mt ms m) D σ H, ⟨n, h⟩, ?_⟩
  rintro m σ H ⟨s, env, e, r, he, ha⟩
  subst e
  cases m with
  | zero => exact ha.elim
  | succ m =>
    refine tT_bind r he ha fun c s1 x1 r1 e1 q => ?_
    cases c with
    | false => rw [if_neg (by decide)]; exact q.ret r1 σ e1
    | true =>
      rw [if_pos rfl]
      refine ⟨fun σ' H' => tS K E (whl mt ms m) D σ' H', fun σ' H' w => ⟨m, Nat.lt_succ_self m, w⟩, ?_⟩
      refine tS_bind r1 e1 q fun fl s2 x2 r2 q2 => ?_
      cases fl with
      | nx e => exact fun σ' he' => ⟨s2, e, rfl, r2, he', q2⟩
      | ct e => exact fun σ' he' => ⟨s2, e, rfl, r2, he', q2⟩
      | bk e => exact fun σ' he' => q2.ret r2 σ' he'
      | rt d => exact fun v rv => q2.ret r2 v rv
end
end Mo
set_option Elab.async false
set_option linter.all false
set_option maxRecDepth 100000
set_option maxHeartbeats 4000000
/-! Mo4: patterns, for, comprehensions, defs. -/
namespace Mo
open PySem L2 PySem.Spec PyProof.Rows
/-! ### patterns -/
inductive Pat where
  | nm (i : Nat) | tp (ps : List Pat)
mutual
def Pat.tg (K : PySem.W.Frag) : Pat → TG
  | .nm i => gName i
  | .tp ps => gTup K ps.length (Pat.tgs K ps)
def Pat.tgs (K : PySem.W.Frag) : List Pat → TGs
  | [] => gNil
  | p :: ps => gCons (Pat.tg K p) (Pat.tgs K ps)
end
mutual
def Pat.bd : Pat → Dt → En → Option En
  | .nm i, d, env => some (env.set i (some d))
  | .tp ps, .tup ds, env => if ds.length = ps.length then Pat.bds ps ds env else none
  | .tp _, _, _ => none
def Pat.bds : List Pat → List Dt → En → Option En
  | [], [], env => some env
  | p :: ps, d :: ds, env => match Pat.bd p d env with
    | some e => Pat.bds ps ds e
    | none => none
  | _, _, _ => none
end
mutual
def Pat.sl : Pat → List Nat
  | .nm i => [i]
  | .tp ps => Pat.sls ps
def Pat.sls : List Pat → List Nat
  | [] => []
  | p :: ps => Pat.sl p ++ Pat.sls ps
end
/-- equal but at some slots -/
structure But (σ τ : L2.St) (l : List Nat) : Prop where
  len : τ.length = σ.length
  get : ∀ j, j ∉ l → τ[j]? = σ[j]?
mutual
theorem Pat.ok {K : PySem.W.Frag} {s : Sx} : ∀ (p : Pat) {d : Dt} {v : V} {env env' : En} {σ : L2.St} {Q : L2.St → Hp → Prop}, Rep K s d v → p.bd d env = some env' → Envs K s env σ →
    (∀ τ, Envs K s env' τ → But σ τ p.sl → Q τ s.H) → p.tg K v σ s.H Q
  | .nm i, d, v, env, env', σ, Q, rv, e, he, h => by
    simp only [Pat.bd, Option.some.injEq] at e
    subst e
    refine h _ (he.set rv i) ⟨by simp, fun j hj => ?_⟩
    simp only [Pat.sl, List.mem_singleton] at hj
    exact List.getElem?_set_ne (fun z => hj z.symm)
  | .tp ps, d, v, env, env', σ, Q, rv, e, he, h => by
    cases d with
    | tup ds =>
      simp only [Pat.bd] at e
      split at e
      · rename_i hl
        obtain ⟨a, vs, rfl, sq, rs⟩ := rv.tupV
        refine ⟨a, vs, rfl, sq, by rw [rs.length]; exact hl, Pat.oks ps rs e he h⟩
      · cases e
    | _ => simp [Pat.bd] at e
theorem Pat.oks {K : PySem.W.Frag} {s : Sx} : ∀ (ps : List Pat) {ds : List Dt} {vs : List V} {env env' : En} {σ : L2.St} {Q : L2.St → Hp → Prop}, Reps K s ds vs → Pat.bds ps ds env = some env' → Envs K s env σ →
    (∀ τ, Envs K s env' τ → But σ τ (Pat.sls ps) → Q τ s.H) → Pat.tgs K ps vs σ s.H Q
  | [], ds, vs, env, env', σ, Q, rv, e, he, h => by
    cases ds with
    | nil =>
      cases rv
      simp only [Pat.bds, Option.some.injEq] at e
      subst e
      exact ⟨rfl, h _ he ⟨rfl, fun _ _ => rfl⟩⟩
    | cons _ _ => simp [Pat.bds] at e
  | p :: ps, ds, vs, env, env', σ, Q, rv, e, he, h => by
    cases ds with
    | nil => simp [Pat.bds] at e
    | cons d ds =>
      obtain ⟨v, vr, rfl, rd, rr⟩ := rv
      simp only [Pat.bds] at e
      cases q : p.bd d env with
      | none => rw [q] at e; cases e
      | some e1 =>
        rw [q] at e
        refine ⟨v, vr, rfl, Pat.ok p rd q he fun τ h1 b1 => ?_⟩
        refine Pat.oks ps rr e h1 fun υ h2 b2 => h υ h2 ⟨b2.len.trans b1.len, fun j hj => ?_⟩
        simp only [Pat.sls, List.mem_append, not_or] at hj
        exact (b2.get j hj.2).trans (b1.get j hj.1)
end
theorem But.wipe {σ τ : L2.St} {l : List Nat} (b : But σ τ l) : ∀ {vs : List Nat}, (∀ i ∈ l, i ∈ vs) → L2.wipe τ vs = L2.wipe σ vs := by
  intro vs hs
  apply List.ext_getElem?
  intro j
  by_cases hj : j ∈ vs
  · have key : ∀ (υ : L2.St), (L2.wipe υ vs)[j]? = if j < υ.length then some none else none := by
      intro υ
      clear hs
      induction vs with
      | nil => simp at hj
      | cons v vs ih =>
        show ((L2.wipe υ vs).set v none)[j]? = _
        by_cases hv : v = j
        · subst hv
          by_cases hl : v < υ.length
          · rw [List.getElem?_set_self (by rw [wipe_length]; exact hl), if_pos hl]
          · rw [if_neg hl, List.getElem?_eq_none (by simp [wipe_length]; omega)]
        · rw [List.getElem?_set_ne hv]
          have : j ∈ vs := by
            rcases List.mem_cons.mp hj with z | z
            · exact absurd z.symm hv
            · exact z
          exact ih this
    rw [key, key, b.len]
  · rw [wipe_out hj, wipe_out hj]
    exact b.get j fun z => hj (hs j z)

section
variable {X : Cx} {E : XK} {e a b c : Expr} {pos : Pos} {st : Stmt} {rest body : List Stmt}
variable {ma mb mc : En → Mm Dt} {mt mu : En → Mm Bool} {mr : En → Mm (List Dt)} {es : List Expr} {ms m1 m2 : En → Mm Fl}
def gP (p : Pat) : Dt → En → Mm En := fun d env => match p.bd d env with
  | some e => Mm.pure e
  | none => Mm.no
theorem tG_pat {K : PySem.W.Frag} {p : Pat} : ∀ v σ H Q, tG K E (gP p) v σ H Q → p.tg K v σ H Q := fun v σ H Q ⟨s, env, d, e, r, he, rv, ha⟩ => by
  subst e
  unfold gP at ha
  cases q : p.bd d env with
  | none => rw [q] at ha; exact ha.elim
  | some e1 =>
    rw [q] at ha
    exact p.ok rv q he fun τ h1 _ => ha.ret r τ h1
theorem mg_pat {tg : Expr} {p : Pat} (h : PG X tg (p.tg X.K)) : PG X tg (tG X.K E (gP p)) := pg_mono h tG_pat

/-! ### what is walked -/
structure ItRep (K : PySem.W.Frag) (s0 : Sx) (J : It) (ds : List Dt) : Prop where
  go : ∀ s, Ext s0 s → HRel K s → ∀ (i : Nat) d, ds[i]? = some d → J.go i s.H ∧ ∀ x H', J.yld i s.H x H' → ∃ s', s'.H = H' ∧ s'.h = s.h ∧ Ext s s' ∧ HRel K s' ∧ Rep K s' d x
  stop : ∀ s, Ext s0 s → HRel K s → J.stop ds.length s.H
def tI (K : PySem.W.Frag) (E : XK) (m : En → Mm (List Dt)) : TI := fun σ H R => ∃ s env, s.H = H ∧ HRel K s ∧ Envs K s env σ ∧ After K E s (m env s.h) (fun ds s' => ∀ J, ItRep K s' J ds → R J s'.H)
theorem pi_mono {tg iter : Expr} {t t' : TI} (h : PI X tg iter t) (k : ∀ σ H R, t' σ H R → t σ H R) : PI X tg iter t' := ⟨fun pins s σ H R I w => h.run pins s σ H R I (k σ H R w)⟩

/-! ### for -/
def forL (p : Pat) (mb : En → Mm Fl) : List Dt → En → Mm Fl
  | [], env => Mm.pure (.nx env)
  | d :: ds, env => gP p d env >>= fun e1 => mb e1 >>= fun f => match f with
    | .nx e => forL p mb ds e
    | .ct e => forL p mb ds e
    | .bk e => Mm.pure (.nx e)
    | .rt d => Mm.pure (.rt d)
def forM (mi : En → Mm (List Dt)) (p : Pat) (mb : En → Mm Fl) : En → Mm Fl := fun env => mi env >>= fun ds => forL p mb ds env
theorem tFor_ok {K : PySem.W.Frag} {mi : En → Mm (List Dt)} {p : Pat} : ∀ D σ H, tS K E (forM mi p ms) D σ H → tFor (tI K E mi) (p.tg K) (tS K E ms) D σ H := fun D σ H ⟨s, env, e, r, he, ha⟩ => by
  subst e
  refine ⟨s, env, rfl, r, he, ha.bind.mono fun ds s1 x1 r1 q J hJ => ?_⟩
  refine ⟨fun i m σ H => ∃ s2 env2, s2.H = H ∧ Ext s1 s2 ∧ HRel K s2 ∧ Envs K s2 env2 σ ∧ m = ds.length - i ∧ i ≤ ds.length ∧ After K E s2 (forL p ms (ds.drop i) env2 s2.h) (flK K D),
    ⟨ds.length, s1, env, rfl, Ext.refl _, r1, he.ext x1, by simp, Nat.zero_le _, by simpa using q⟩, ?_⟩
  rintro i m σ H ⟨s2, env2, rfl, x2, r2, e2, rfl, hi, q2⟩
  by_cases hlt : i < ds.length
  · have hd : ds.drop i = ds[i] :: ds.drop (i + 1) := by rw [List.drop_eq_getElem_cons hlt]
    rw [hd] at q2
    obtain ⟨go, yl⟩ := hJ.go s2 x2 r2 i ds[i] (by simp [hlt])
    refine .inr ⟨go, fun σ' H' => ∃ s3 env3, s3.H = H' ∧ Ext s1 s3 ∧ HRel K s3 ∧ Envs K s3 env3 σ' ∧ After K E s3 (forL p ms (ds.drop (i + 1)) env3 s3.h) (flK K D), ?_, fun x H' y => ?_⟩
    · rintro σ' H' ⟨s3, env3, rfl, x3, r3, e3, q3⟩
      exact ⟨ds.length - (i + 1), by omega, s3, env3, rfl, x3, r3, e3, rfl, by omega, q3⟩
    · obtain ⟨s3, rfl, eh, x3, r3, rx⟩ := yl x H' y
      have e3 := e2.ext x3
      have q3 := After.ext x3 q2
      rw [← eh] at q3
      refine tG_pat (E := E) _ _ _ _ (tG_bind r3 e3 rx q3 fun env4 s4 σ4 x4 r4 e4 q4 => ?_)
      refine tS_bind r4 e4 q4 fun fl s5 x5 r5 q5 => ?_
      have xx := ((x2.trans x3).trans x4).trans x5
      cases fl with
      | nx e => exact fun σ' he' => ⟨s5, e, rfl, xx, r5, he', q5⟩
      | ct e => exact fun σ' he' => ⟨s5, e, rfl, xx, r5, he', q5⟩
      | bk e => exact fun σ' he' => q5.ret r5 σ' he'
      | rt d => exact fun v rv => q5.ret r5 v rv
  · have hi' : i = ds.length := by omega
    subst hi'
    refine .inl ⟨hJ.stop s2 x2 r2, ?_⟩
    rw [List.drop_length] at q2
    exact q2.ret r2 σ e2
theorem ms_for {tg iter : Expr} {mi : En → Mm (List Dt)} {p : Pat} (hp : PassesOwn (model X.prog X.w) X.A X.env X.xe) (hc : X.calm = true) (hi : PI X tg iter (tI X.K E mi)) (hg : PG X tg (p.tg X.K)) (hb : PSs X body (tS X.K E ms))
    (hs : ∀ x, foldedSetIterable iter X.env x = pure x := by intro _; rfl) : PS X (.For tg iter body [] pos) (tS X.K E (forM mi p ms)) := ps_mono (ps_for hp hc hi hg hb hs) tFor_ok
def whileM (mt : En → Mm Bool) (m : En → Mm Fl) : En → Mm Fl := whl mt m 1000000
theorem ms_while (hp : PassesOwn (model X.prog X.w) X.A X.env X.xe) (hc : PT X c (tT X.K E mt)) (hb : PSs X body (tS X.K E ms)) : PS X (.While c body [] pos) (tS X.K E (whileM mt ms)) := ps_mono (ps_while hp hc hb) fun D σ H h => tS_while h

/-! ### comprehensions -/
def wipeE (env : En) : List Nat → En
  | [] => env
  | v :: vs => (wipeE env vs).set v none
theorem Envs.wipe {K : PySem.W.Frag} {s : Sx} {env : En} {σ : L2.St} (h : Envs K s env σ) : ∀ vs, Envs K s (wipeE env vs) (L2.wipe σ vs)
  | [] => h
  | v :: vs => by
    have q := Envs.wipe h vs
    refine ⟨by show ((wipeE env vs).set v none).length = ((L2.wipe σ vs).set v none).length; simp [q.len], fun j d e => ?_⟩
    have e : ((wipeE env vs).set v none)[j]? = some (some d) := e
    by_cases hj : v = j
    · subst hj
      by_cases hl : v < (wipeE env vs).length
      · rw [List.getElem?_set_self hl] at e; cases e
      · rw [List.getElem?_eq_none (by simpa using hl)] at e; cases e
    · rw [List.getElem?_set_ne hj] at e
      obtain ⟨w, e1, r1⟩ := q.get j d e
      exact ⟨w, by show ((L2.wipe σ vs).set v none)[j]? = _; rw [List.getElem?_set_ne hj]; exact e1, r1⟩
def push (n : Nat) (y : Dt) : Mm Unit := fun h => match h[n]? with
  | some (.lst xs) => if xs.length < sizeLine then .ok () (h.set n (.lst (xs ++ [y]))) else .no
  | _ => .no
def takeL (n : Nat) : Mm Dt := fun h => match h[n]? with
  | some (.lst xs) => .ok (.lv xs) (h.set n .dead)
  | _ => .no
def newO (o : Ao) : Mm Nat := fun h => .ok h.length (h ++ [o])
def lcL (p : Pat) (mt : En → Mm Bool) (me : En → Mm Dt) (n : Nat) : List Dt → En → Mm Unit
  | [], _ => Mm.pure ()
  | d :: ds, env => gP p d env >>= fun e1 => mt e1 >>= fun c => match c with
    | true => me e1 >>= fun y => push n y >>= fun _ => lcL p mt me n ds env
    | false => lcL p mt me n ds env
def lcM (mi : En → Mm (List Dt)) (p : Pat) (mt : En → Mm Bool) (me : En → Mm Dt) (vs : List Nat) : En → Mm Dt := fun env => mi env >>= fun ds => newO (.lst []) >>= fun n => lcL p mt me n ds (wipeE env vs) >>= fun _ => takeL n
theorem push_ok {K : PySem.W.Frag} {s : Sx} {n : Nat} {a : Addr} {y : Dt} {v : V} {k : Unit → Sx → Prop} (r : HRel K s) (ea : s.ρ[n]? = some a) (rv : Rep K s y v) (h : After K E s (push n y s.h) k) :
    ∃ xs, s.H a = some (.lst xs) ∧ xs.length < sizeLine ∧ ∃ s', s'.H = upd s.H a (.lst (xs ++ [v])) ∧ Ext s s' ∧ HRel K s' ∧ s'.ρ[n]? = some a ∧ k () s' := by
  unfold push at h
  cases q : s.h[n]? with
  | none => rw [q] at h; exact h.elim
  | some o =>
    rw [q] at h
    cases o with
    | lst ds =>
      obtain ⟨vs, e1, r1⟩ := r.ob n a _ ea q
      by_cases hl : ds.length < sizeLine
      · simp only [hl, if_true] at h
        have x := put_ext (u := .lst (vs ++ [v])) (o' := .lst (ds ++ [y])) r ea q (by intro z; cases z)
        have r' := put_rel (u := .lst (vs ++ [v])) (o' := .lst (ds ++ [y])) r ea q (by intro z; cases z) ⟨_, upd_same, (r1.ext x).append (Reps.cons (rv.ext x) Reps.nil)⟩
        exact ⟨vs, e1, by rw [r1.length]; exact hl, _, rfl, x, r', ea, h.now _ rfl x r'⟩
      · simp only [hl, if_false] at h
        exact h.elim
    | _ => exact h.elim
theorem takeL_ok {K : PySem.W.Frag} {s : Sx} {n : Nat} {a : Addr} {k : Dt → Sx → Prop} (r : HRel K s) (ea : s.ρ[n]? = some a) (h : After K E s (takeL n s.h) k) :
    ∃ xs s', s'.H = s.H ∧ Ext s s' ∧ HRel K s' ∧ Rep K s' (.lv xs) (.ref a) ∧ k (.lv xs) s' := by
  unfold takeL at h
  cases q : s.h[n]? with
  | none => rw [q] at h; exact h.elim
  | some o =>
    rw [q] at h
    cases o with
    | lst ds =>
      obtain ⟨vs, e1, r1⟩ := r.ob n a _ ea q
      have x := die_ext r n
      have f := die_fx r ea e1
      exact ⟨ds, s.die n, rfl, x, die_rel r n, ⟨a, vs, rfl, ⟨e1, f.2⟩, r1.ext x⟩, h.now (s.die n) rfl x (die_rel r n)⟩
    | _ => exact h.elim
theorem tLc_ok {K : PySem.W.Frag} {mi : En → Mm (List Dt)} {p : Pat} {me : En → Mm Dt} {vs : List Nat} (hp : ∀ i ∈ p.sl, i ∈ vs) : ∀ σ H Q, tE K E (lcM mi p mt me vs) σ H Q → tLc (tI K E mi) (p.tg K) (tT K E mt) (tE K E me) vs σ H Q := fun σ H Q ⟨s, env, e, r, he, ha⟩ => by
  subst e
  refine ⟨s, env, rfl, r, he, ha.bind.mono fun ds s1 x1 r1 q J hJ D hD => ?_⟩
  -- the list under way
  have q1 := q.bind
  have x2 := add_ext (u := .lst []) (o := .lst []) r1 hD
  have r2 := add_rel (u := .lst []) (o := .lst []) r1 hD ⟨[], upd_same, Reps.nil⟩
  have q2 := q1.now (s1.add D (.lst []) (.lst [])) rfl x2 r2
  have eD : (s1.add D (.lst []) (.lst [])).ρ[s1.h.length]? = some D := add_at r1
  have e2 := ((he.ext x1).ext x2).wipe vs
  refine ⟨fun i m H => ∃ s3, s3.H = H ∧ Ext s1 s3 ∧ HRel K s3 ∧ s3.ρ[s1.h.length]? = some D ∧ Envs K s3 (wipeE env vs) (L2.wipe σ vs) ∧ m = ds.length - i ∧ i ≤ ds.length ∧
      After K E s3 ((lcL p mt me s1.h.length (ds.drop i) (wipeE env vs) >>= fun _ => takeL s1.h.length) s3.h) (fun d s' => ∀ v, Rep K s' d v → Q v s'.H),
    ⟨ds.length, _, rfl, x2, r2, eD, e2, by simp, Nat.zero_le _, by simpa using q2⟩, ?_⟩
  rintro i m H ⟨s3, rfl, x3, r3, eD3, e3, rfl, hi, q3⟩
  by_cases hlt : i < ds.length
  · have hd : ds.drop i = ds[i] :: ds.drop (i + 1) := by rw [List.drop_eq_getElem_cons hlt]
    rw [hd] at q3
    obtain ⟨go, yl⟩ := hJ.go s3 x3 r3 i ds[i] (by simp [hlt])
    have as : ∀ h, (lcL p mt me s1.h.length (ds[i] :: ds.drop (i + 1)) (wipeE env vs) >>= fun _ => takeL s1.h.length) h = (gP p ds[i] (wipeE env vs) >>= fun e1 => mt e1 >>= fun c => match c with
        | true => me e1 >>= fun y => push s1.h.length y >>= fun _ => lcL p mt me s1.h.length (ds.drop (i + 1)) (wipeE env vs) >>= fun _ => takeL s1.h.length
        | false => lcL p mt me s1.h.length (ds.drop (i + 1)) (wipeE env vs) >>= fun _ => takeL s1.h.length) h := by
      intro h
      show Mm.bind (Mm.bind (gP p ds[i] (wipeE env vs)) _) _ h = Mm.bind (gP p ds[i] (wipeE env vs)) _ h
      simp only [Mm.bind]
      cases gP p ds[i] (wipeE env vs) h with
      | ok e1 h1 =>
        show Mm.bind (Mm.bind (mt e1) _) _ h1 = Mm.bind (mt e1) _ h1
        simp only [Mm.bind]
        cases mt e1 h1 with
        | ok c h2 =>
          cases c with
          | false => rfl
          | true =>
            show Mm.bind (Mm.bind (me e1) _) _ h2 = Mm.bind (me e1) _ h2
            simp only [Mm.bind]
            cases me e1 h2 with
            | ok y h3 =>
              show Mm.bind (Mm.bind (push s1.h.length y) _) _ h3 = Mm.bind (push s1.h.length y) _ h3
              simp only [Mm.bind]
              cases push s1.h.length y h3 <;> rfl
            | exn _ _ => rfl
            | no => rfl
        | exn _ _ => rfl
        | no => rfl
      | exn _ _ => rfl
      | no => rfl
    rw [as] at q3
    refine .inr ⟨go, fun H' => ∃ s4, s4.H = H' ∧ Ext s1 s4 ∧ HRel K s4 ∧ s4.ρ[s1.h.length]? = some D ∧ Envs K s4 (wipeE env vs) (L2.wipe σ vs) ∧
        After K E s4 ((lcL p mt me s1.h.length (ds.drop (i + 1)) (wipeE env vs) >>= fun _ => takeL s1.h.length) s4.h) (fun d s' => ∀ v, Rep K s' d v → Q v s'.H), ?_, fun x H' y => ?_⟩
    · rintro H' ⟨s4, rfl, x4, r4, eD4, e4, q4⟩
      exact ⟨ds.length - (i + 1), by omega, s4, rfl, x4, r4, eD4, e4, rfl, by omega, q4⟩
    · obtain ⟨s4, rfl, eh, x4, r4, rx⟩ := yl x H' y
      have e4 := e3.ext x4
      have q4 := After.ext x4 q3
      rw [← eh] at q4
      have eD4 := x4.pre _ _ eD3
      -- the target
      have q4' := q4.bind
      unfold gP at q4'
      cases qb : p.bd ds[i] (wipeE env vs) with
      | none => rw [qb] at q4'; exact q4'.elim
      | some e1 =>
        rw [qb] at q4'
        have q5 := q4'.ret r4
        refine p.ok rx qb e4 fun τ hτ bτ => ⟨by rw [bτ.wipe hp]; exact But.wipe (σ := σ) (τ := L2.wipe σ vs) (l := vs) ⟨wipe_length σ vs, fun j hj => wipe_out hj⟩ (fun i h => h), ?_⟩
        refine tT_bind r4 hτ q5 fun cb s6 x6 r6 e6 q6 => ?_
        cases cb with
        | false =>
          rw [if_neg (by decide)]
          exact ⟨s6, rfl, (x3.trans x4).trans x6, r6, x6.pre _ _ eD4, e4.ext x6, q6⟩
        | true =>
          rw [if_pos rfl]
          refine tE_bind r6 e6 q6 fun yd s7 yv x7 r7 e7 ry q7 => ?_
          obtain ⟨xs, hx, hl, s8, es8, x8, r8, eD8, q8⟩ := push_ok r7 (x7.pre _ _ (x6.pre _ _ eD4)) ry q7.bind
          exact ⟨xs, hx, hl, s8, es8, ((x3.trans x4).trans (x6.trans x7)).trans x8, r8, eD8, ((e4.ext x6).ext x7).ext x8, q8⟩
  · have hi' : i = ds.length := by omega
    subst hi'
    refine .inl ⟨hJ.stop s3 x3 r3, ?_⟩
    rw [List.drop_length] at q3
    obtain ⟨xs, s4, es4, x4, r4, rv, k4⟩ := takeL_ok r3 eD3 (q3.bind.ret r3)
    rw [← es4]
    exact k4 _ rv
end
end Mo
set_option Elab.async false
set_option linter.all false
set_option maxRecDepth 100000
set_option maxHeartbeats 4000000
/-! Mo5: comprehensions, defs, what is walked. -/
namespace Mo
open PySem L2 PySem.Spec PyProof.Rows
section
variable {X : Cx} {E : XK} {e a b c : Expr} {pos : Pos} {st : Stmt} {rest body : List Stmt}
variable {ma mb mc me : En → Mm Dt} {mt mu : En → Mm Bool} {mr : En → Mm (List Dt)} {es : List Expr} {ms m1 m2 : En → Mm Fl}
def yes : En → Mm Bool := fun _ => Mm.pure true
theorem mts_nil : PTs X [] (tT X.K E yes) := ⟨fun pins s σ H Q I ⟨s1, env, e, r, he, ha⟩ => by
  subst e
  exact pts_nil.run pins s σ _ Q I (ha.ret r)⟩
theorem mts_one (h : PT X c (tT X.K E mt)) : PTs X [c] (tT X.K E mt) := pts_one h
theorem me_lc {elt tg iter : Expr} {ifs : List Expr} {scope : Scope} {own : List (Str × Nat)} {mi : En → Mm (List Dt)} {p : Pat} (hc : X.calm = true) (hN : X.N.Nodup) (hp : ∀ i ∈ p.sl, i ∈ own.map (·.2)) (hi : PI X tg iter (tI X.K E mi)) (ok : BlkOk X.N X.env.scope scope own)
    (hg : ∀ (s : Shared) (H : Hp) (C : Addr) (cl : List (Str × Addr)) (fp : List Addr), PG (X.blk s H scope (compEnvC scope cl C X.env) fp) tg (p.tg X.K)) (ht : ∀ (s : Shared) (H : Hp) (C : Addr) (cl : List (Str × Addr)) (fp : List Addr), PTs (X.blk s H scope (compEnvC scope cl C X.env) fp) ifs (tT X.K E mt))
    (he : ∀ (s : Shared) (H : Hp) (C : Addr) (cl : List (Str × Addr)) (fp : List Addr), PE (X.blk s H scope (compEnvC scope cl C X.env) fp) elt (tE X.K E me)) (hs : ∀ x, foldedSetIterable iter X.env x = pure x := by intro _; rfl) :
    PE X (.ListComp elt [⟨tg, iter, ifs, 0⟩] scope pos) (tE X.K E (lcM mi p mt me (own.map (·.2)))) := pe_mono (pe_lc hc hN hi ok hg ht he hs) (tLc_ok hp)
theorem ms_setLc {i : Nat} {y : Str} {py spos : Pos} {elt tg iter : Expr} {ifs : List Expr} {scope : Scope} {own : List (Str × Nat)} {mi : En → Mm (List Dt)} {p : Pat} (hc : X.calm = true) (hN : X.N.Nodup) (hp : ∀ i ∈ p.sl, i ∈ own.map (·.2)) (hy : X.N[i]? = some y) (hyl : X.env.scope.names.lookup y = some .local)
    (hsw : swapsWith (.ListComp elt [⟨tg, iter, ifs, 0⟩] scope pos) (some (.Name y py)) spos.line X.env = pure true) (hi : PI X tg iter (tI X.K E mi)) (ok : BlkOk X.N X.env.scope scope own)
    (hg : ∀ (s : Shared) (H : Hp) (C : Addr) (cl : List (Str × Addr)) (fp : List Addr), PG (X.blk s H scope (compEnvC scope cl C X.env) fp) tg (p.tg X.K)) (ht : ∀ (s : Shared) (H : Hp) (C : Addr) (cl : List (Str × Addr)) (fp : List Addr), PTs (X.blk s H scope (compEnvC scope cl C X.env) fp) ifs (tT X.K E mt))
    (he : ∀ (s : Shared) (H : Hp) (C : Addr) (cl : List (Str × Addr)) (fp : List Addr), PE (X.blk s H scope (compEnvC scope cl C X.env) fp) elt (tE X.K E me)) (hs : ∀ x, foldedSetIterable iter X.env x = pure x := by intro _; rfl) :
    PS X (.Assign [.Name y py] (.ListComp elt [⟨tg, iter, ifs, 0⟩] scope pos) spos) (tS X.K E (sto i (lcM mi p mt me (own.map (·.2))))) := ps_mono (ps_setLc hc hN hy hyl hsw hi ok hg ht he hs) fun D σ H ⟨s, env, e, r, he, ha⟩ => by
  subst e
  exact tLc_ok hp _ _ _ (tE_bind r he ha fun d s1 v x1 r1 e1 rv q => q.ret r1 _ (e1.set rv i))

/-! ### defs -/
def fnM (N : Nat) (ms : En → Mm Fl) : List Dt → Mm Dt := fun ds => ms (ds.map some ++ List.replicate (N - ds.length) none) >>= fun f => match f with
  | .rt d => Mm.pure d
  | .nx _ => Mm.pure .non
  | _ => Mm.no
theorem envs_start {K : PySem.W.Frag} {s : Sx} {N : List Str} : ∀ {ds : List Dt} {vs : List V}, Reps K s ds vs → Envs K s (ds.map some ++ List.replicate (N.length - ds.length) none) (L2.start N vs) := by
  intro ds vs h
  have hl := h.length
  refine ⟨by simp [L2.start, hl], fun i d e => ?_⟩
  by_cases hi : i < ds.length
  · rw [List.getElem?_append_left (by simpa using hi)] at e
    rw [List.getElem?_map] at e
    cases q : ds[i]? with
    | none => rw [q] at e; cases e
    | some d' =>
      rw [q] at e
      cases e
      obtain ⟨v, e1, r⟩ := h.get q
      refine ⟨v, ?_, r⟩
      show (vs.map some ++ _)[i]? = _
      rw [List.getElem?_append_left (by simp [hl]; exact hi), List.getElem?_map, e1]
      rfl
  · rw [List.getElem?_append_right (by simpa using hi)] at e
    have := List.mem_of_getElem? e
    simp at this
theorem fn_ok {P : Program} {w : World} {K : PySem.W.Frag} {mg : Str → Option Value} {base : Heap} {x qual : Str} {params : Arguments} {body : List Stmt} {scope : Scope} {dvs : List V} {kws : List (Str × V)} {f : Addr} {fd : FuncData} {N ps : List Str} {k : Nat} {ms : En → Mm Fl}
    (F : FunD K x qual params body scope dvs kws f fd) (S : FnScope N ps scope)
    (hbody : ∀ (cdv : Value) (A : Around) (outer : List Env) (s : Shared) (H : Hp) (E : XK), Room k (A.deeper (envOfC qual scope s.heap.objs.size f cdv)) → PSs (cxOf CX0 P w K mg base N qual scope f cdv A outer s H E).nox body (tS K E0 ms)) :
    FnOk P w K mg base CX0 (k + 1) f fd ps (spM K ps.length (fnM N.length ms)) := by
  refine F.ok S (fun vs H Q E h => ?_) (fun cdv A outer s H vs Q E hr h => ⟨_, PSs.nox (hbody cdv A outer s H E hr), ?_⟩)
  · obtain ⟨s, ds, _, hl, _, rv, _⟩ := h
    rw [rv.length, hl]
  · obtain ⟨s1, ds, e, hl, r, rv, ha⟩ := h
    subst e
    have h2 : tS K E0 ms { nx := fun _ H' => Q .non H', rt := Q } (L2.start N vs) s1.H := by
      refine tS_bind r (envs_start rv) ha fun fl s2 x2 r2 q => ?_
      cases fl with
      | nx e => exact fun σ' he' => q.ret r2 _ rfl
      | rt d => exact fun v rv => q.ret r2 v rv
      | bk e => exact q.elim
      | ct e => exact q.elim
    exact h2
end
end Mo
set_option Elab.async false
set_option linter.all false
set_option maxRecDepth 100000
set_option maxHeartbeats 4000000
/-! Mo6: operators on data. -/
namespace Mo
open PySem L2 PySem.Spec PyProof.Rows
/-- the items of a list that is tracked; that can be read; of a tuple -/
def lstT (h : Ah) : Dt → Option (List Dt)
  | .lv xs => some xs
  | .obj i => match h[i]? with
    | some (.lst xs) => some xs
    | _ => none
  | _ => none
def lstR (h : Ah) : Dt → Option (List Dt)
  | .wl xs => some xs
  | d => lstT h d
def tupR : Dt → Option (List Dt)
  | .tup xs => some xs
  | .wt xs => some xs
  | _ => none
section
variable {X : Cx} {E : XK} {K : PySem.W.Frag} {s : Sx} {d : Dt} {v : V} {xs : List Dt}
theorem obj_ok {i : Nat} (r : HRel K s) (rv : Rep K s (.obj i) v) {o : Ao} (e : s.h[i]? = some o) : ∃ a, v = .ref a ∧ s.ρ[i]? = some a ∧ ORep K s a o := by
  obtain ⟨a, ea, rfl⟩ := rv
  exact ⟨a, rfl, ea, r.ob i a o ea e⟩
theorem lstT_ok (r : HRel K s) (rv : Rep K s d v) (e : lstT s.h d = some xs) : ∃ a vs, v = .ref a ∧ s.H a = some (.lst vs) ∧ Reps K s xs vs := by
  cases d with
  | lv ys =>
    cases e
    obtain ⟨a, vs, rfl, k, rs⟩ := rv
    exact ⟨a, vs, rfl, k.1, rs⟩
  | obj i =>
    simp only [lstT] at e
    cases q : s.h[i]? with
    | none => rw [q] at e; cases e
    | some o =>
      rw [q] at e
      cases o with
      | lst ys =>
        cases e
        obtain ⟨a, rfl, ea, vs, h1, h2⟩ := obj_ok r rv q
        exact ⟨a, vs, rfl, h1, h2⟩
      | _ => cases e
  | _ => cases e
theorem lstR_ok (r : HRel K s) (rv : Rep K s d v) (e : lstR s.h d = some xs) : ∃ a vs, v = .ref a ∧ SqL K s.H a vs ∧ Reps K s xs vs := by
  by_cases hw : ∃ ys, d = .wl ys
  · obtain ⟨ys, rfl⟩ := hw
    cases e
    obtain ⟨a, vs, rfl, k, rs⟩ := rv
    refine ⟨a, vs, rfl, ?_, rs⟩
    rcases k with k | k
    · exact .inl k.1
    · rcases k with (k | ⟨_, k⟩) | k
      · cases k
      · cases k
      · exact .inr k
  · have e' : lstT s.h d = some xs := by
      cases d with
      | wl ys => exact absurd ⟨ys, rfl⟩ hw
      | _ => exact e
    obtain ⟨a, vs, e1, e2, rs⟩ := lstT_ok r rv e'
    exact ⟨a, vs, e1, .of e2, rs⟩
theorem tupR_ok (rv : Rep K s d v) (e : tupR d = some xs) : ∃ a vs, v = .ref a ∧ SqT K s.H a vs ∧ Reps K s xs vs := by
  cases d with
  | tup ys =>
    cases e
    exact rv.tupV
  | wt ys =>
    cases e
    obtain ⟨a, vs, rfl, k, rs⟩ := rv
    refine ⟨a, vs, rfl, ?_, rs⟩
    rcases k with (k | ⟨_, k⟩) | k
    · cases k
    · cases k
    · exact .inr k
  | _ => cases e
/-- a new tuple, a new list as a value -/
theorem newT {k : Dt → Sx → Prop} {vs : List V} (r : HRel K s) (rs : Reps K s xs vs) (h : After K E s (.ok (.tup xs) s.h) k) {p : Addr} (hp : s.H p = none) : ∃ s', s'.H = upd s.H p (.tup vs) ∧ Rep K s' (.tup xs) (.ref p) ∧ HRel K s' ∧ Ext s s' ∧ k (.tup xs) s' :=
  ⟨s.new p (.tup vs), rfl, ⟨p, vs, rfl, ⟨upd_same, (new_fx r hp).2⟩, rs.ext (new_ext r hp)⟩, new_rel r hp, new_ext r hp, h.now (s.new p (.tup vs)) rfl (new_ext r hp) (new_rel r hp)⟩
theorem newL {k : Dt → Sx → Prop} {vs : List V} (r : HRel K s) (rs : Reps K s xs vs) (h : After K E s (.ok (.lv xs) s.h) k) {p : Addr} (hp : s.H p = none) : ∃ s', s'.H = upd s.H p (.lst vs) ∧ Rep K s' (.lv xs) (.ref p) ∧ HRel K s' ∧ Ext s s' ∧ k (.lv xs) s' :=
  ⟨s.new p (.lst vs), rfl, ⟨p, vs, rfl, ⟨upd_same, (new_fx r hp).2⟩, rs.ext (new_ext r hp)⟩, new_rel r hp, new_ext r hp, h.now (s.new p (.lst vs)) rfl (new_ext r hp) (new_rel r hp)⟩
theorem newLv {Q : VK} {vs : List V} (r : HRel K s) (rs : Reps K s xs vs) (h : After K E s (.ok (.lv xs) s.h) (fun z s' => ∀ v, Rep K s' z v → Q v s'.H)) : ∀ p, s.H p = none → Q (.ref p) (upd s.H p (.lst vs)) := fun p hp => by
  obtain ⟨s', e, rp, _, _, q⟩ := newL r rs h hp
  rw [← e]
  exact q _ rp
theorem newTv {Q : VK} {vs : List V} (r : HRel K s) (rs : Reps K s xs vs) (h : After K E s (.ok (.tup xs) s.h) (fun z s' => ∀ v, Rep K s' z v → Q v s'.H)) : ∀ p, s.H p = none → Q (.ref p) (upd s.H p (.tup vs)) := fun p hp => by
  obtain ⟨s', e, rp, _, _, q⟩ := newT r rs h hp
  rw [← e]
  exact q _ rp
/-- the end, the heap as it was -/
theorem fin {Q : VK} {z : Dt} (r : HRel K s) (h : After K E s (.ok z s.h) (fun z s' => ∀ v, Rep K s' z v → Q v s'.H)) {v : V} (rv : Rep K s z v) : Q v s.H := h s rfl (Ext.refl s) r v rv

/-! ### + -/
def opAdd : Dt → Dt → Mm Dt := fun x y h => match x, y with
  | .int i, .int j => .ok (.int (i + j)) h
  | .str a, .str b => if a.length + b.length ≤ sizeLine then .ok (.str (a ++ b)) h else .no
  | .tup a, .tup b => if a.length + b.length ≤ sizeLine then .ok (.tup (a ++ b)) h else .no
  | x, y => match lstT h x, lstT h y with
    | some a, some b => if a.length + b.length ≤ sizeLine then .ok (.lv (a ++ b)) h else .no
    | _, _ => .no
theorem o_add : OpR X (binaryOp .Add) (rM X.K E opAdd) := opR_mono (op_add.or (op_add_str.or (op_catA.or op_cat))) fun x y H Q ⟨s, d, e, eH, r, rx, ry, ha⟩ => by
  subst eH
  unfold opAdd at ha
  split at ha
  · cases rx; cases ry
    exact .inl ⟨_, _, rfl, rfl, fin r ha rfl⟩
  · cases rx; cases ry
    split at ha
    · rename_i hl
      exact .inr (.inl ⟨_, _, rfl, rfl, hl, fin r ha rfl⟩)
    · exact ha.elim
  · rename_i a b
    obtain ⟨pa, va, rfl, ka, ra⟩ := id rx
    obtain ⟨pb, vb, rfl, kb, rb⟩ := id ry
    split at ha
    · rename_i hl
      refine .inr (.inr (.inl ⟨pa, pb, va, vb, rfl, rfl, .of ka.1, .of kb.1, by rw [ra.length, rb.length]; exact hl, fun z => ?_, fun z1 z2 => ?_, fun _ _ => newTv r (ra.append rb) ha⟩))
      · subst z
        have : a = [] := List.length_eq_zero_iff.mp (by rw [← ra.length]; rfl)
        subst this
        exact fin r ha ry
      · subst z2
        have : b = [] := List.length_eq_zero_iff.mp (by rw [← rb.length]; rfl)
        subst this
        rw [List.append_nil] at ha
        exact fin r ha rx
    · exact ha.elim
  · split at ha
    · rename_i a b qa qb
      obtain ⟨pa, va, rfl, ka, ra⟩ := lstT_ok r rx qa
      obtain ⟨pb, vb, rfl, kb, rb⟩ := lstT_ok r ry qb
      split at ha
      · rename_i hl
        exact .inr (.inr (.inr ⟨pa, pb, va, vb, rfl, rfl, ka, kb, by rw [ra.length, rb.length]; exact hl, newLv r (ra.append rb) ha⟩))
      · exact ha.elim
    · exact ha.elim
/-! ### numbers -/
def opI2 (C : Int → Int → Bool) (g : Int → Int → Dt) : Dt → Dt → Mm Dt := fun x y h => match x, y with
  | .int i, .int j => if C i j then .ok (g i j) h else .no
  | _, _ => .no
theorem o_I2 {f : Value → Value → Sem Value} {C : Int → Int → Bool} {C' : Int → Int → Prop} {g : Int → Int → Dt} {g' : Int → Int → V} (ho : OpR X f (rI C' g')) (hC : ∀ i j, C i j = true → C' i j) (hg : ∀ s i j, C i j = true → Rep X.K s (g i j) (g' i j)) : OpR X f (rM X.K E (opI2 C g)) := opR_mono ho fun x y H Q ⟨s, d, e, eH, r, rx, ry, ha⟩ => by
  subst eH
  unfold opI2 at ha
  split at ha
  · cases rx; cases ry
    split at ha
    · rename_i hc
      exact ⟨_, _, rfl, rfl, hC _ _ hc, fin r ha (hg s _ _ hc)⟩
    · exact ha.elim
  · exact ha.elim
theorem o_I0 {f : Value → Value → Sem Value} {g : Int → Int → Dt} {g' : Int → Int → V} (ho : OpR X f (rI0 g')) (hg : ∀ s i j, Rep X.K s (g i j) (g' i j)) : OpR X f (rM X.K E (opI2 (fun _ _ => true) g)) := opR_mono ho fun x y H Q ⟨s, d, e, eH, r, rx, ry, ha⟩ => by
  subst eH
  unfold opI2 at ha
  split at ha
  · cases rx; cases ry
    exact ⟨_, _, rfl, rfl, fin r ha (hg s _ _)⟩
  · exact ha.elim
def opSub : Dt → Dt → Mm Dt := opI2 (fun _ _ => true) fun i j => .int (i - j)
theorem o_sub : OpR X (binaryOp .Sub) (rM X.K E opSub) := o_I0 op_sub fun _ _ _ => rfl
def opFdiv : Dt → Dt → Mm Dt := opI2 (fun _ j => decide (0 < j ∧ j < 1073741824)) fun i j => .int (i / j)
theorem o_fdiv : OpR X (binaryOp .FloorDiv) (rM X.K E opFdiv) := o_I2 op_fdiv (fun i j h => (of_decide_eq_true h : 0 < j ∧ j < 1073741824)) fun _ _ _ _ => rfl
def opMod : Dt → Dt → Mm Dt := opI2 (fun _ j => decide (0 < j)) fun i j => .int (i % j)
theorem o_mod : OpR X (binaryOp .Mod) (rM X.K E opMod) := o_I2 op_mod (fun i j h => of_decide_eq_true h) fun _ _ _ _ => rfl
def opPow : Dt → Dt → Mm Dt := opI2 (fun i j => decide (0 ≤ j ∧ j ≤ 1000000 ∧ i.natAbs < 2 ^ 64)) fun i j => .int (i ^ j.toNat)
theorem o_pow : OpR X (binaryOp .Pow) (rM X.K E opPow) := o_I2 op_pow (fun i j h => (of_decide_eq_true h : 0 ≤ j ∧ j ≤ 1000000 ∧ i.natAbs < 2 ^ 64)) fun _ _ _ _ => rfl
def opLt : Dt → Dt → Mm Dt := opI2 (fun _ _ => true) fun i j => .bl (decide (i < j))
def opLe : Dt → Dt → Mm Dt := opI2 (fun _ _ => true) fun i j => .bl (decide (i ≤ j))
def opGt : Dt → Dt → Mm Dt := opI2 (fun _ _ => true) fun i j => .bl (decide (j < i))
def opGe : Dt → Dt → Mm Dt := opI2 (fun _ _ => true) fun i j => .bl (decide (j ≤ i))
theorem o_lt : OpR X (compareOp .Lt) (rM X.K E opLt) := o_I0 op_lt fun _ _ _ => rfl
theorem o_le : OpR X (compareOp .LtE) (rM X.K E opLe) := o_I0 op_le fun _ _ _ => rfl
theorem o_gt : OpR X (compareOp .Gt) (rM X.K E opGt) := o_I0 op_gt fun _ _ _ => rfl
theorem o_ge : OpR X (compareOp .GtE) (rM X.K E opGe) := o_I0 op_ge fun _ _ _ => rfl
def opIAdd : Dt → Dt → Mm Dt := opI2 (fun _ _ => true) fun i j => .int (i + j)
theorem o_iadd : OpR X (inplaceOp .Add) (rM X.K E opIAdd) := o_I0 iop_add fun _ _ _ => rfl
def unNeg : Dt → Mm Dt := fun x h => match x with
  | .int i => .ok (.int (-i)) h
  | _ => .no
theorem u_neg : UnR X (unaryOp .USub) (uM X.K E unNeg) := unR_mono un_neg fun x H Q ⟨s, d, eH, r, rx, ha⟩ => by
  subst eH
  unfold unNeg at ha
  split at ha
  · cases rx
    exact ⟨_, rfl, fin r ha rfl⟩
  · exact ha.elim
/-! ### is None -/
def opIsN : Dt → Dt → Mm Dt := fun x y h => match x, y with
  | .non, .non => .ok (.bl true) h
  | _, .non => .ok (.bl false) h
  | _, _ => .no
def opNotN : Dt → Dt → Mm Dt := fun x y h => match x, y with
  | .non, .non => .ok (.bl false) h
  | _, .non => .ok (.bl true) h
  | _, _ => .no
theorem rep_non (rv : Rep K s d v) : decide (v = .non) = match d with | .non => true | _ => false := by
  cases d with
  | non => cases rv; rfl
  | bl _ => cases rv; rfl
  | int _ => cases rv; rfl
  | str _ => cases rv; rfl
  | ty _ => cases rv; rfl
  | adr _ => cases rv; rfl
  | cl _ => cases rv; rfl
  | tup _ => obtain ⟨_, _, rfl, _⟩ := rv; rfl
  | lv _ => obtain ⟨_, _, rfl, _⟩ := rv; rfl
  | wl _ => obtain ⟨_, _, rfl, _⟩ := rv; rfl
  | wt _ => obtain ⟨_, _, rfl, _⟩ := rv; rfl
  | dk _ _ => obtain ⟨_, _, rfl, _⟩ := rv; rfl
  | dt _ _ => obtain ⟨_, _, rfl, _⟩ := rv; rfl
  | exc _ _ _ => obtain ⟨_, rfl, _⟩ := rv; rfl
  | obj _ => obtain ⟨_, _, rfl⟩ := rv; rfl
theorem o_isN : OpR X (compareOp .Is) (rM X.K E opIsN) := opR_mono op_isN fun x y H Q ⟨s, d, e, eH, r, rx, ry, ha⟩ => by
  subst eH
  have hd := rep_non rx
  cases e with
  | non =>
    cases ry
    refine ⟨rfl, ?_⟩
    rw [hd]
    cases d <;> exact fin r ha rfl
  | _ => cases d <;> exact ha.elim
theorem o_notN : OpR X (compareOp .IsNot) (rM X.K E opNotN) := opR_mono op_notN fun x y H Q ⟨s, d, e, eH, r, rx, ry, ha⟩ => by
  subst eH
  have hd := rep_non rx
  cases e with
  | non =>
    cases ry
    refine ⟨rfl, ?_⟩
    rw [hd]
    cases d <;> exact fin r ha rfl
  | _ => cases d <;> exact ha.elim
end
end Mo
set_option Elab.async false
set_option linter.all false
set_option maxRecDepth 100000
set_option maxHeartbeats 4000000
/-! Mo7: equality, in, items, slices, lengths, products. -/
namespace Mo
open PySem L2 PySem.Spec PyProof.Rows
/-! ### data -/
mutual
def toP : Dt → Option PyData
  | .non => some .none
  | .bl b => some (.bool b)
  | .int i => some (.int i)
  | .str x => some (.str x)
  | .tup ds => match toPs ds with
    | some ps => some (.tuple ps)
    | none => none
  | .wt ds => match toPs ds with
    | some ps => some (.tuple ps)
    | none => none
  | .lv ds => match toPs ds with
    | some ps => some (.list ps)
    | none => none
  | .wl ds => match toPs ds with
    | some ps => some (.list ps)
    | none => none
  | _ => none
def toPs : List Dt → Option (List PyData)
  | [] => some []
  | d :: ds => match toP d, toPs ds with
    | some p, some ps => some (p :: ps)
    | _, _ => none
end
/-- .. of a tracked list too -/
def toPH (h : Ah) : Dt → Option PyData
  | .obj i => match h[i]? with
    | some (.lst xs) => match toPs xs with
      | some ps => some (.list ps)
      | none => none
    | _ => none
  | d => toP d
section
variable {X : Cx} {E : XK} {K : PySem.W.Frag} {s : Sx} {d : Dt} {v : V} {xs : List Dt}
mutual
theorem toP_ok (r : HRel K s) : ∀ {d : Dt} {v : V} {p : PyData}, Rep K s d v → toP d = some p → Dp K s.H v p
  | .non, v, p, rv, e => by cases rv; cases e; exact .non
  | .bl b, v, p, rv, e => by cases rv; cases e; exact .bl b
  | .int i, v, p, rv, e => by cases rv; cases e; exact .int i
  | .str x, v, p, rv, e => by cases rv; cases e; exact .str x
  | .tup ds, v, p, rv, e => by
    simp only [toP] at e
    cases q : toPs ds with
    | none => rw [q] at e; cases e
    | some ps =>
      rw [q] at e; cases e
      obtain ⟨a, vs, rfl, sq, rs⟩ := tupR_ok rv (xs := ds) rfl
      exact .tup sq (toPs_ok r rs q)
  | .wt ds, v, p, rv, e => by
    simp only [toP] at e
    cases q : toPs ds with
    | none => rw [q] at e; cases e
    | some ps =>
      rw [q] at e; cases e
      obtain ⟨a, vs, rfl, sq, rs⟩ := tupR_ok rv (xs := ds) rfl
      exact .tup sq (toPs_ok r rs q)
  | .lv ds, v, p, rv, e => by
    simp only [toP] at e
    cases q : toPs ds with
    | none => rw [q] at e; cases e
    | some ps =>
      rw [q] at e; cases e
      obtain ⟨a, vs, rfl, sq, rs⟩ := lstR_ok r rv (xs := ds) rfl
      exact .lst sq (toPs_ok r rs q)
  | .wl ds, v, p, rv, e => by
    simp only [toP] at e
    cases q : toPs ds with
    | none => rw [q] at e; cases e
    | some ps =>
      rw [q] at e; cases e
      obtain ⟨a, vs, rfl, sq, rs⟩ := lstR_ok r rv (xs := ds) rfl
      exact .lst sq (toPs_ok r rs q)
  | .ty _, v, p, rv, e => by simp [toP] at e
  | .adr _, v, p, rv, e => by simp [toP] at e
  | .dk _ _, v, p, rv, e => by simp [toP] at e
  | .dt _ _, v, p, rv, e => by simp [toP] at e
  | .exc _ _ _, v, p, rv, e => by simp [toP] at e
  | .obj _, v, p, rv, e => by simp [toP] at e
theorem toPs_ok (r : HRel K s) : ∀ {ds : List Dt} {vs : List V} {ps : List PyData}, Reps K s ds vs → toPs ds = some ps → DpAll K s.H vs ps
  | [], vs, ps, rv, e => by cases rv; cases e; exact .nil
  | d :: ds, vs, ps, rv, e => by
    obtain ⟨v, w, rfl, h1, h2⟩ := rv
    simp only [toPs] at e
    cases q : toP d with
    | none => rw [q] at e; simp at e
    | some p =>
      cases q2 : toPs ds with
      | none => rw [q, q2] at e; simp at e
      | some ps' =>
        rw [q, q2] at e; cases e
        exact .cons (toP_ok r h1 q) (toPs_ok r h2 q2)
end
theorem toPH_ok (r : HRel K s) {p : PyData} (rv : Rep K s d v) (e : toPH s.h d = some p) : Dp K s.H v p := by
  by_cases ho : ∃ i, d = .obj i
  · obtain ⟨i, rfl⟩ := ho
    simp only [toPH] at e
    cases q : s.h[i]? with
    | none => rw [q] at e; cases e
    | some o =>
      rw [q] at e
      cases o with
      | lst ys =>
        simp only at e
        cases q2 : toPs ys with
        | none => rw [q2] at e; cases e
        | some ps =>
          rw [q2] at e; cases e
          obtain ⟨a, rfl, ea, vs, h1, h2⟩ := obj_ok r rv q
          exact .lst (.of h1) (toPs_ok r h2 q2)
      | _ => cases e
  · refine toP_ok r rv ?_
    cases d with
    | obj i => exact absurd ⟨i, rfl⟩ ho
    | _ => exact e
/-! ### ==, != -/
def eqR (h : Ah) (x y : Dt) : Option Bool := match x, y with
  | .int i, .int j => some (decide (i = j))
  | .str a, .str b => some (decide (a = b))
  | .bl a, .bl b => some (decide (a = b))
  | x, y => match toPH h x, toPH h y with
    | some p, some q => if SeqAt.shaped p && SeqAt.shaped q then some (PyData.eqv p q) else none
    | _, _ => none
def opEq : Dt → Dt → Mm Dt := fun x y h => match eqR h x y with
  | some b => .ok (.bl b) h
  | none => .no
def opNe : Dt → Dt → Mm Dt := fun x y h => match eqR h x y with
  | some b => .ok (.bl (!b)) h
  | none => .no
theorem eqR_ok (r : HRel K s) {x y : V} {d e : Dt} {b : Bool} (rx : Rep K s d x) (ry : Rep K s e y) (h : eqR s.h d e = some b) :
    (scal x y = true ∧ decide (x = y) = b) ∨ ∃ p q, Dp K s.H x p ∧ Dp K s.H y q ∧ SeqAt.shaped p = true ∧ SeqAt.shaped q = true ∧ PyData.eqv p q = b := by
  unfold eqR at h
  split at h
  · cases rx; cases ry; cases h; exact .inl ⟨rfl, by simp⟩
  · cases rx; cases ry; cases h; exact .inl ⟨rfl, by simp⟩
  · cases rx; cases ry; cases h; exact .inl ⟨rfl, by simp⟩
  · split at h
    · rename_i p q e1 e2
      split at h
      · rename_i hs
        rw [Bool.and_eq_true] at hs
        cases h
        exact .inr ⟨p, q, toPH_ok r rx e1, toPH_ok r ry e2, hs.1, hs.2, rfl⟩
      · cases h
    · cases h
theorem o_eq (hu : X.A.units + 64 < cLine) : OpR X (compareOp .Eq) (rM X.K E opEq) := opR_mono (op_eq.or (op_eqD hu)) fun x y H Q ⟨s, d, e, eH, r, rx, ry, ha⟩ => by
  subst eH
  unfold opEq at ha
  split at ha
  · rename_i b hb
    rcases eqR_ok r rx ry hb with ⟨h1, h2⟩ | ⟨p, q, h1, h2, h3, h4, h5⟩
    · exact .inl ⟨h1, by rw [h2]; exact fin r ha rfl⟩
    · exact .inr ⟨p, q, h1, h2, h3, h4, by rw [h5]; exact fin r ha rfl⟩
  · exact ha.elim
theorem o_ne (hu : X.A.units + 64 < cLine) : OpR X (compareOp .NotEq) (rM X.K E opNe) := opR_mono (op_ne.or (op_neD hu)) fun x y H Q ⟨s, d, e, eH, r, rx, ry, ha⟩ => by
  subst eH
  unfold opNe at ha
  split at ha
  · rename_i b hb
    rcases eqR_ok r rx ry hb with ⟨h1, h2⟩ | ⟨p, q, h1, h2, h3, h4, h5⟩
    · exact .inl ⟨h1, by rw [h2]; exact fin r ha rfl⟩
    · exact .inr ⟨p, q, h1, h2, h3, h4, by rw [h5]; exact fin r ha rfl⟩
  · exact ha.elim
/-! ### in, not in: a text in a text; flat values in a list or tuple; data in a list -/
def flatD : Dt → Option V
  | .non => some .non
  | .bl b => some (.bl b)
  | .int i => some (.int i)
  | .str x => some (.str x)
  | _ => none
def flatDs : List Dt → Option (List V)
  | [] => some []
  | d :: ds => match flatD d, flatDs ds with
    | some v, some vs => some (v :: vs)
    | _, _ => none
theorem flatD_ok {w : V} (rv : Rep K s d v) (e : flatD d = some w) : v = w ∧ flatV w = true := by
  cases d with
  | non => cases rv; cases e; exact ⟨rfl, rfl⟩
  | bl _ => cases rv; cases e; exact ⟨rfl, rfl⟩
  | int _ => cases rv; cases e; exact ⟨rfl, rfl⟩
  | str _ => cases rv; cases e; exact ⟨rfl, rfl⟩
  | _ => cases e
theorem flatDs_ok : ∀ {ds : List Dt} {vs ws : List V}, Reps K s ds vs → flatDs ds = some ws → vs = ws ∧ ws.all flatV = true
  | [], vs, ws, rv, e => by cases rv; cases e; exact ⟨rfl, rfl⟩
  | d :: ds, vs, ws, rv, e => by
    obtain ⟨v, w, rfl, h1, h2⟩ := rv
    simp only [flatDs] at e
    cases q : flatD d with
    | none => rw [q] at e; simp at e
    | some p =>
      cases q2 : flatDs ds with
      | none => rw [q, q2] at e; simp at e
      | some ps' =>
        rw [q, q2] at e; cases e
        obtain ⟨rfl, f1⟩ := flatD_ok h1 q
        obtain ⟨rfl, f2⟩ := flatDs_ok h2 q2
        exact ⟨rfl, by simp [f1, f2]⟩
/-- one sign -/
def sign? (x : Str) : Option Nat := match x.cps.toList with
  | [c] => some c
  | _ => none
theorem sign_ok {x : Str} {c : Nat} (h : sign? x = some c) : x = ⟨#[c]⟩ := by
  unfold sign? at h
  split at h
  · rename_i c' e
    cases h
    obtain ⟨a⟩ := x
    simp only at e
    congr
    apply Array.toList_inj.mp
    exact e
  · cases h
def seqR (h : Ah) (d : Dt) : Option (List Dt) := match tupR d with
  | some xs => some xs
  | none => lstR h d
theorem seqR_ok (r : HRel K s) (rv : Rep K s d v) (e : seqR s.h d = some xs) : ∃ a vs, v = .ref a ∧ (SqL K s.H a vs ∨ SqT K s.H a vs) ∧ Reps K s xs vs := by
  unfold seqR at e
  split at e
  · rename_i ys q
    cases e
    obtain ⟨a, vs, h1, h2, h3⟩ := tupR_ok rv q
    exact ⟨a, vs, h1, .inr h2, h3⟩
  · obtain ⟨a, vs, h1, h2, h3⟩ := lstR_ok r rv e
    exact ⟨a, vs, h1, .inl h2, h3⟩
def inR (h : Ah) (x y : Dt) : Option Bool := match y with
  | .str z => match x with
    | .str w => match sign? w with
      | some c => some (decide (c ∈ z.cps.toList))
      | none => some (!(Builtin.Str.occurrences z w 0 z.length 1).isEmpty)
    | _ => none
  | y => match flatD x, (seqR h y).bind flatDs with
    | some a, some bs => some (inV a bs)
    | _, _ => match toPH h x, toPH h y with
      | some p, some (.list qs) => if SeqAt.shaped p && SeqAt.shaped (.list qs) then some (qs.any fun z => PyData.eqv z p) else none
      | _, _ => none
def opIn : Dt → Dt → Mm Dt := fun x y h => match inR h x y with
  | some b => .ok (.bl b) h
  | none => .no
def opNotIn : Dt → Dt → Mm Dt := fun x y h => match inR h x y with
  | some b => .ok (.bl (!b)) h
  | none => .no
theorem inR_ok (r : HRel K s) {x y : V} {d e : Dt} {b : Bool} (rx : Rep K s d x) (ry : Rep K s e y) (h : inR s.h d e = some b) :
    (∃ (c : Nat) (z : Str), x = .str ⟨#[c]⟩ ∧ y = .str z ∧ decide (c ∈ z.cps.toList) = b) ∨ (∃ i j, x = .str i ∧ y = .str j ∧ (!(Builtin.Str.occurrences j i 0 j.length 1).isEmpty) = b) ∨
    (∃ p ws, y = .ref p ∧ (SqL K s.H p ws ∨ SqT K s.H p ws) ∧ flatV x = true ∧ ws.all flatV = true ∧ inV x ws = b) ∨
    ∃ p qs, Dp K s.H x p ∧ Dp K s.H y (.list qs) ∧ SeqAt.shaped p = true ∧ SeqAt.shaped (.list qs) = true ∧ (qs.any fun z => PyData.eqv z p) = b := by
  unfold inR at h
  split at h
  · rename_i z
    cases ry
    split at h
    · rename_i w
      cases rx
      split at h
      · rename_i c hc
        cases h
        exact .inl ⟨c, z, by rw [sign_ok hc], rfl, rfl⟩
      · cases h
        exact .inr (.inl ⟨w, z, rfl, rfl, rfl⟩)
    · cases h
  · split at h
    · rename_i a bs ea eb
      cases h
      cases q : seqR s.h e with
      | none => rw [q] at eb; cases eb
      | some ys =>
        rw [q] at eb
        obtain ⟨p, vs, h1, h2, h3⟩ := seqR_ok r ry q
        obtain ⟨rfl, f1⟩ := flatD_ok rx ea
        obtain ⟨rfl, f2⟩ := flatDs_ok h3 eb
        exact .inr (.inr (.inl ⟨p, _, h1, h2, f1, f2, rfl⟩))
    · split at h
      · rename_i p qs e1 e2
        split at h
        · rename_i hs
          rw [Bool.and_eq_true] at hs
          cases h
          exact .inr (.inr (.inr ⟨p, qs, toPH_ok r rx e1, toPH_ok r ry e2, hs.1, hs.2, rfl⟩))
        · cases h
      · cases h
theorem o_in (hu : X.A.units + 65 < cLine) : OpR X (compareOp .In) (rM X.K E opIn) := opR_mono (op_in_sign.or (op_in_str.or (op_in_seq.or (op_inD hu)))) fun x y H Q ⟨s, d, e, eH, r, rx, ry, ha⟩ => by
  subst eH
  unfold opIn at ha
  split at ha
  · rename_i b hb
    rcases inR_ok r rx ry hb with ⟨c, z, h1, h2, h3⟩ | ⟨i, j, h1, h2, h3⟩ | ⟨p, ws, h1, h2, h3, h4, h5⟩ | ⟨p, q, h1, h2, h3, h4, h5⟩
    · exact .inl ⟨c, z, h1, h2, by rw [h3]; exact fin r ha rfl⟩
    · exact .inr (.inl ⟨i, j, h1, h2, by rw [h3]; exact fin r ha rfl⟩)
    · exact .inr (.inr (.inl ⟨p, ws, h1, h2, h3, h4, by rw [if_neg (by decide), h5]; exact fin r ha rfl⟩))
    · exact .inr (.inr (.inr ⟨p, q, h1, h2, h3, h4, by rw [h5]; exact fin r ha rfl⟩))
  · exact ha.elim
theorem o_notin (hu : X.A.units + 65 < cLine) : OpR X (compareOp .NotIn) (rM X.K E opNotIn) := opR_mono (op_notIn_sign.or (op_notIn_str.or (op_notIn_seq.or (op_notInD hu)))) fun x y H Q ⟨s, d, e, eH, r, rx, ry, ha⟩ => by
  subst eH
  unfold opNotIn at ha
  split at ha
  · rename_i b hb
    rcases inR_ok r rx ry hb with ⟨c, z, h1, h2, h3⟩ | ⟨i, j, h1, h2, h3⟩ | ⟨p, ws, h1, h2, h3, h4, h5⟩ | ⟨p, q, h1, h2, h3, h4, h5⟩
    · exact .inl ⟨c, z, h1, h2, by rw [h3]; exact fin r ha rfl⟩
    · exact .inr (.inl ⟨i, j, h1, h2, by rw [h3]; exact fin r ha rfl⟩)
    · exact .inr (.inr (.inl ⟨p, ws, h1, h2, h3, h4, by rw [if_pos rfl, h5]; exact fin r ha rfl⟩))
    · exact .inr (.inr (.inr ⟨p, q, h1, h2, h3, h4, by rw [h5]; exact fin r ha rfl⟩))
  · exact ha.elim
/-! ### * -/
def strRep (x : Str) (n : Int) : Str := ⟨((List.replicate n.toNat x.cps.toList).flatten).toArray⟩
theorem foldl_cat : ∀ (l : List (Array Nat)) (acc : Array Nat), (l.foldl (· ++ ·) acc).toList = acc.toList ++ (l.map Array.toList).flatten
  | [], acc => by simp
  | a :: l, acc => by
    show (l.foldl (· ++ ·) (acc ++ a)).toList = _
    rw [foldl_cat l (acc ++ a)]
    simp
theorem str_ext {x y : Str} (h : x.cps.toList = y.cps.toList) : x = y := by
  obtain ⟨a⟩ := x
  obtain ⟨b⟩ := y
  congr
  exact Array.toList_inj.mp h
theorem strRep_many (x : Str) (n : Int) : (⟨(List.replicate n.toNat x.cps).foldl (· ++ ·) #[]⟩ : Str) = strRep x n := by
  apply str_ext
  show ((List.replicate n.toNat x.cps).foldl (· ++ ·) #[]).toList = _
  rw [foldl_cat]
  simp [strRep]
theorem strRep_none (x : Str) {n : Int} (h : n < 1) : Str.empty = strRep x n := by
  apply str_ext
  have : n.toNat = 0 := by omega
  simp [strRep, this, Str.empty]
theorem strRep_one (x : Str) {n : Int} (h : (n == 1 || x.length == 0) = true) (h1 : ¬ n < 1) : x = strRep x n := by
  apply str_ext
  rw [Bool.or_eq_true] at h
  rcases h with h | h
  · have : n = 1 := by simpa using h
    subst this
    simp [strRep]
  · have hl : x.cps.toList = [] := by
      have : x.cps.size = 0 := by
        have : x.length = 0 := by simpa using h
        exact this
      exact List.length_eq_zero_iff.mp (by simpa using this)
    simp only [strRep, hl]
    induction n.toNat with
    | zero => rfl
    | succ k ih => simp [List.replicate_succ] at ih ⊢
theorem flatten_len {α : Type} (l : List α) : ∀ k : Nat, ((List.replicate k l).flatten).length = k * l.length
  | 0 => by simp
  | k + 1 => by simp [List.replicate_succ, flatten_len l k, Nat.succ_mul, Nat.add_comm]
def rMulS : R2 := fun x y H Q => ∃ a n, x = .str a ∧ y = .int n ∧ -(2 ^ 63) ≤ n ∧ n < 2 ^ 63 ∧ a.length * n.toNat ≤ sizeLine ∧ Q (.str (strRep a n)) H
theorem op_mulS : OpR X (binaryOp .Mult) rMulS := by
  intro pins s σ H x y v u Q I rx ry h
  obtain ⟨a, n, rfl, rfl, h1, h2, h3, q⟩ := h
  obtain ⟨t, rfl⟩ := rx
  obtain ⟨t', rfl⟩ := ry
  have h3' : a.length * n.toNat ≤ 16777216 := by rw [sizeLine_eq] at h3; exact h3
  refine P.mul_str ?_ (fun hn hx => ?_) (fun hn hx => ?_) ?_
  · rw [decide_eq_false (by omega), decide_eq_false (by omega)]; rfl
  · have hn1 : (1 : Int) ≤ n := by omega
    have : (a.length : Int) * n ≤ 16777216 := by
      have e : n = (n.toNat : Int) := by omega
      have h4 : ((a.length * n.toNat : Nat) : Int) ≤ ((16777216 : Nat) : Int) := Int.ofNat_le.mpr h3'
      rw [Int.natCast_mul, ← e] at h4
      exact h4
    intro hgt
    have h9 : (a.length : Int) ≤ (2 ^ 63 - 1) / n := by
      rw [Int.le_ediv_iff_mul_le (by omega)]
      omega
    omega
  · have : ¬ (a.length * n.toNat > sizeLine) := by rw [sizeLine_eq]; omega
    exact decide_eq_false this
  · by_cases c1 : n < 1
    · rw [if_pos c1]
      rw [← strRep_none a c1] at q
      exact ⟨by decide, .str Str.empty, H, I.tok _, ⟨_, rfl⟩, q⟩
    · rw [if_neg c1]
      by_cases c2 : (n == 1 || a.length == 0) = true
      · rw [if_pos c2]
        rw [← strRep_one a c2 c1] at q
        exact ⟨.str a, H, I, ⟨_, rfl⟩, q⟩
      · rw [if_neg c2]
        rw [strRep_many]
        refine ⟨?_, .str _, H, I.tok _, ⟨_, rfl⟩, q⟩
        have : (strRep a n).length = n.toNat * a.length := by
          show ((List.replicate n.toNat a.cps.toList).flatten).toArray.size = _
          rw [List.size_toArray, flatten_len]
          rfl
        rw [this, Nat.mul_comm]
        exact h3
def opMul : Dt → Dt → Mm Dt := fun x y h => match x, y with
  | .int i, .int j => if i.natAbs.log2 + j.natAbs.log2 < 1000000 then .ok (.int (i * j)) h else .no
  | .str a, .int n => if -(2 ^ 63) ≤ n ∧ n < 2 ^ 63 ∧ a.length * n.toNat ≤ sizeLine then .ok (.str (strRep a n)) h else .no
  | x, .int n => match lstT h x with
    | some xs => if -(2 ^ 63) ≤ n ∧ n < 2 ^ 63 ∧ xs.length * n.toNat ≤ sizeLine then .ok (.lv (List.replicate n.toNat xs).flatten) h else .no
    | none => .no
  | _, _ => .no
theorem Reps.rep : ∀ {ds : List Dt} {vs : List V} (k : Nat), Reps K s ds vs → Reps K s (List.replicate k ds).flatten (List.replicate k vs).flatten
  | _, _, 0, _ => by simp; exact rfl
  | _, _, k + 1, h => by
    rw [List.replicate_succ, List.replicate_succ, List.flatten_cons, List.flatten_cons]
    exact h.append (Reps.rep k h)
theorem o_mul : OpR X (binaryOp .Mult) (rM X.K E opMul) := opR_mono (op_mulW.or (op_mulS.or op_rep)) fun x y H Q ⟨s, d, e, eH, r, rx, ry, ha⟩ => by
  subst eH
  unfold opMul at ha
  split at ha
  · cases rx; cases ry
    split at ha
    · rename_i hl
      exact .inl ⟨_, _, rfl, rfl, hl, fin r ha rfl⟩
    · exact ha.elim
  · cases rx; cases ry
    split at ha
    · rename_i hl
      exact .inr (.inl ⟨_, _, rfl, rfl, hl.1, hl.2.1, hl.2.2, fin r ha rfl⟩)
    · exact ha.elim
  · cases ry
    split at ha
    · rename_i xs q
      obtain ⟨pa, va, rfl, ka, ra⟩ := lstT_ok r rx q
      split at ha
      · rename_i hl
        exact .inr (.inr ⟨pa, _, va, rfl, rfl, ka, hl.1, hl.2.1, by rw [ra.length]; exact hl.2.2, newLv r (ra.rep _) ha⟩)
      · exact ha.elim
    · exact ha.elim
  · exact ha.elim
end
end Mo
set_option Elab.async false
set_option linter.all false
set_option maxRecDepth 100000
set_option maxHeartbeats 4000000
/-! Mo8: items, slices, built-in functions, methods of lists and texts. -/
namespace Mo
open PySem L2 PySem.Spec PyProof.Rows
section
variable {X : Cx} {E : XK} {K : PySem.W.Frag} {s : Sx} {d : Dt} {v : V} {xs : List Dt} {e a b c : Expr} {pos : Pos} {es : List Expr}
variable {ma mb mc mo : En → Mm Dt} {mr : En → Mm (List Dt)}
theorem ixR_mono {r r' : R2} (h : IxR X r) (k : ∀ x y H Q, r' x y H Q → r x y H Q) : IxR X r' := fun va sl pins s σ H x y v u Q I rx ry w => h va sl pins s σ H x y v u Q I rx ry (k x y H Q w)
theorem mtR_mono {id : String} {r r' : V → List V → Hp → VK → Prop} (h : MtR X id r) (k : ∀ x xs H Q, r' x xs H Q → r x xs H Q) : MtR X id r' := fun pins s σ H x xs v us Q I rx rxs w => h pins s σ H x xs v us Q I rx rxs (k x xs H Q w)
theorem slR_mono {r r' : V → Option Int → Option Int → Hp → VK → Prop} (h : SlR X r) (k : ∀ x lo hi H Q, r' x lo hi H Q → r x lo hi H Q) : SlR X r' := fun pins s σ H x v vl vu lo hi sl Q I rx hs pl pu w => h pins s σ H x v vl vu lo hi sl Q I rx hs pl pu (k x lo hi H Q w)
/-! ### o[i] -/
def ixM : Dt → Dt → Mm Dt := fun x y h => match y with
  | .int i => match x with
    | .str z => match atI z.cps.toList i with
      | some c => if z.length ≤ sizeLine then .ok (.str ⟨#[c]⟩) h else .no
      | none => .no
    | x => match (seqR h x).bind fun xs => atI xs i with
      | some d => .ok d h
      | none => .no
  | _ => .no
theorem atI_reps {ds : List Dt} {vs : List V} {i : Int} {d : Dt} (rs : Reps K s ds vs) (h : atI ds i = some d) : ∃ v, atI vs i = some v ∧ Rep K s d v := by
  unfold atI at h ⊢
  rw [rs.length]
  cases q : ixN ds.length i with
  | none => rw [q] at h; cases h
  | some j =>
    rw [q] at h
    obtain ⟨v, e, rv⟩ := rs.get h
    exact ⟨v, e, rv⟩
theorem i_seq : IxR X (rM X.K E ixM) := ixR_mono ix_seq fun x y H Q ⟨s, d, e, eH, r, rx, ry, ha⟩ => by
  subst eH
  unfold ixM at ha
  split at ha
  · rename_i i
    cases ry
    split at ha
    · rename_i z
      cases rx
      split at ha
      · rename_i c hc
        split at ha
        · rename_i hl
          exact .inr (.inr ⟨z, i, c, rfl, rfl, hl, hc, fin r ha rfl⟩)
        · exact ha.elim
      · exact ha.elim
    · split at ha
      · rename_i d' hd
        cases q : seqR s.h d with
        | none => rw [q] at hd; cases hd
        | some ys =>
          rw [q] at hd
          obtain ⟨p, vs, rfl, sq, rs⟩ := seqR_ok r rx q
          obtain ⟨w, hw, rw'⟩ := atI_reps rs hd
          rcases sq with sq | sq
          · exact .inl ⟨p, vs, i, w, rfl, rfl, sq, hw, fin r ha rw'⟩
          · exact .inr (.inl ⟨p, vs, i, w, rfl, rfl, sq, hw, fin r ha rw'⟩)
      · exact ha.elim
  · exact ha.elim
theorem me_ix {g : Dt → Dt → Mm Dt} (hr : IxR X (rM X.K E g)) (ha : PE X a (tE X.K E ma)) (hb : PE X b (tE X.K E mb)) (hs : PlainIx b) : PE X (.Subscript a b pos) (tE X.K E (op2 g ma mb)) := pe_mono (pe_ix hr ha hb hs) (op2_ok fun _ _ _ _ h => h)
/-! ### o[lo:hi] -/
def opN : En → Mm (Option Int) := fun _ => Mm.pure none
def isI : Dt → Mm (Option Int) := fun d => match d with
  | .int i => Mm.pure (some i)
  | _ => Mm.no
def opS (m : En → Mm Dt) : En → Mm (Option Int) := fun env => m env >>= isI
theorem mo_none : PO X none (tO X.K E opN) := po_mono po_none fun σ H Q ⟨s, env, e, r, he, ha⟩ => by
  subst e
  exact ha.ret r
theorem mo_some (h : PE X e (tE X.K E ma)) : PO X (some e) (tO X.K E (opS ma)) := po_mono (po_some h) fun σ H Q ⟨s, env, e, r, he, ha⟩ => by
  subst e
  refine tE_bind r he ha fun d s1 v x1 r1 e1 rv q => ?_
  cases d with
  | int i => cases rv; exact ⟨i, rfl, q.ret r1⟩
  | _ => exact q.elim
def slc (g : Dt → Option Int → Option Int → Mm Dt) (ma : En → Mm Dt) (ml mh : En → Mm (Option Int)) : En → Mm Dt := fun env => ma env >>= fun x => ml env >>= fun lo => mh env >>= fun hi => g x lo hi
theorem me_slice {g : Dt → Option Int → Option Int → Mm Dt} {ml mh : En → Mm (Option Int)} {lo hi : Option Expr} {p2 : Pos} (hr : SlR X (slM X.K E g)) (he : PE X e (tE X.K E ma)) (hl : PO X lo (tO X.K E ml)) (hu : PO X hi (tO X.K E mh)) : PE X (.Subscript e (.Slice lo hi none p2) pos) (tE X.K E (slc g ma ml mh)) :=
  pe_mono (pe_slice hr he hl hu) fun σ H Q ⟨s, env, e, r, he, ha⟩ => by
    subst e
    exact tE_bind r he ha fun d s1 v x1 r1 e1 rv q1 => tO_bind r1 e1 q1 fun lo s2 x2 r2 e2 q2 => tO_bind r2 e2 q2 fun hi s3 x3 r3 e3 q3 => ⟨s3, d, rfl, r3, (rv.ext x2).ext x3, q3⟩
def cutD (xs : List Dt) (lo hi : Option Int) : List Dt := (xs.drop (HT.sIx xs.length 0 lo)).take (HT.sIx xs.length xs.length hi - HT.sIx xs.length 0 lo)
def slD : Dt → Option Int → Option Int → Mm Dt := fun x lo hi h => match x with
  | .str z => if z.length ≤ sizeLine then .ok (.str (cutS z lo hi)) h else .no
  | .tup xs => .ok (.tup (cutD xs lo hi)) h
  | x => match lstR h x with
    | some xs => .ok (.lv (cutD xs lo hi)) h
    | none => .no
theorem cut_reps {ds : List Dt} {vs : List V} (lo hi : Option Int) (rs : Reps K s ds vs) : Reps K s (cutD ds lo hi) (cutV vs lo hi) := by
  unfold cutD cutV
  rw [rs.length]
  exact (rs.drop _).take _
theorem s_all : SlR X (slM X.K E slD) := slR_mono (sl_str.or (sl_tupA.or sl_list)) fun x lo hi H Q ⟨s, d, eH, r, rx, ha⟩ => by
  subst eH
  unfold slD at ha
  split at ha
  · rename_i z
    cases rx
    split at ha
    · rename_i hl
      exact .inl ⟨z, rfl, hl, fin r ha rfl⟩
    · exact ha.elim
  · rename_i xs
    obtain ⟨p, vs, rfl, k, rs⟩ := id rx
    refine .inr (.inl ⟨p, vs, rfl, .of k.1, fun hw => ?_, fun _ => newTv r (cut_reps lo hi rs) ha⟩)
    have : cutD xs lo hi = xs := by
      rw [rs.length] at hw
      unfold cutD
      rw [hw.1, hw.2]
      simp
    rw [this] at ha
    exact fin r ha rx
  · split at ha
    · rename_i xs q
      obtain ⟨p, vs, rfl, k, rs⟩ := lstR_ok r rx q
      exact .inr (.inr ⟨p, vs, rfl, k, newLv r (cut_reps lo hi rs) ha⟩)
    · exact ha.elim
/-! ### built-in functions -/
theorem me_B {id : String} {g : List Dt → Mm Dt} {x : Str} {p : Pos} (hc : CallR X (.builtin id) (cM X.K E g)) (hg : Gl X x) (hm : X.mg x = none) (hv : bootBuiltins x = some (.builtin id)) (ha : PA X (e :: es) (tA X.K E mr)) (hn : x ≠ "__name__" := by decide) (hdb : (x == ("__debug__" : Str)) = false := by decide)
    (he : starEach (e :: es) X.env = (false, eval e X.env) :: starEach es X.env := by rfl) (hpl : (backTo pos (starEach es X.env)).any (·.1) = false := by rfl) : PE X (.Call (.Name x p) (e :: es) [] pos) (tE X.K E (bi g mr)) := pe_mono (pe_callB hc hg hm hv ha hn hdb he hpl) bi_ok
theorem me_Ty {T : String} {g : List Dt → Mm Dt} {x : Str} {p : Pos} (hc : CallR X (.type T) (cM X.K E g)) (hg : Gl X x) (hm : X.mg x = none) (hv : bootBuiltins x = some (.type T)) (ha : PA X (e :: es) (tA X.K E mr)) (hn : x ≠ "__name__" := by decide) (hdb : (x == ("__debug__" : Str)) = false := by decide)
    (he : starEach (e :: es) X.env = (false, eval e X.env) :: starEach es X.env := by rfl) (hpl : (backTo pos (starEach es X.env)).any (·.1) = false := by rfl) : PE X (.Call (.Name x p) (e :: es) [] pos) (tE X.K E (bi g mr)) := pe_mono (pe_callTy hc hg hm hv ha hn hdb he hpl) bi_ok
theorem Reps.one {d : Dt} {vs : List V} (h : Reps K s [d] vs) : ∃ v, vs = [v] ∧ Rep K s d v := by
  obtain ⟨v, r, rfl, h1, h2⟩ := h
  cases h2
  exact ⟨v, rfl, h1⟩
theorem Reps.two {d e : Dt} {vs : List V} (h : Reps K s [d, e] vs) : ∃ v w, vs = [v, w] ∧ Rep K s d v ∧ Rep K s e w := by
  obtain ⟨v, r, rfl, h1, h2⟩ := h
  obtain ⟨w, rfl, h3⟩ := h2.one
  exact ⟨v, w, rfl, h1, h3⟩
/-- dicts: keys and values -/
def dkR (h : Ah) : Dt → Option (List Key × List Dt)
  | .dk ks vs => some (ks, vs)
  | .obj i => match h[i]? with
    | some (.dk ks vs) => some (ks, vs)
    | _ => none
  | _ => none
def dtR (h : Ah) : Dt → Option (List (List Key) × List Dt)
  | .dt ks vs => some (ks, vs)
  | .obj i => match h[i]? with
    | some (.dt ks vs) => some (ks, vs)
    | _ => none
  | _ => none
theorem dkR_ok (r : HRel K s) (rv : Rep K s d v) {ks : List Key} {ds : List Dt} (e : dkR s.h d = some (ks, ds)) : ∃ a vs, v = .ref a ∧ Rd s.H a (.dK (ks.zip vs)) ∧ ks.length = vs.length ∧ Reps K s ds vs := by
  cases d with
  | dk ks' ds' =>
    cases e
    obtain ⟨a, vs, rfl, k, l, rs⟩ := rv
    exact ⟨a, vs, rfl, k.1, l, rs⟩
  | obj i =>
    simp only [dkR] at e
    cases q : s.h[i]? with
    | none => rw [q] at e; cases e
    | some o =>
      rw [q] at e
      cases o with
      | dk ks' ds' =>
        cases e
        obtain ⟨a, rfl, ea, vs, h1, h2, h3⟩ := obj_ok r rv q
        exact ⟨a, vs, rfl, .of h1, h2, h3⟩
      | _ => cases e
  | _ => cases e
theorem dtR_ok (r : HRel K s) (rv : Rep K s d v) {ks : List (List Key)} {ds : List Dt} (e : dtR s.h d = some (ks, ds)) : ∃ a vs, v = .ref a ∧ Rd s.H a (.dT (ks.zip vs)) ∧ ks.length = vs.length ∧ Reps K s ds vs := by
  cases d with
  | dt ks' ds' =>
    cases e
    obtain ⟨a, vs, rfl, k, l, rs⟩ := rv
    exact ⟨a, vs, rfl, k.1, l, rs⟩
  | obj i =>
    simp only [dtR] at e
    cases q : s.h[i]? with
    | none => rw [q] at e; cases e
    | some o =>
      rw [q] at e
      cases o with
      | dt ks' ds' =>
        cases e
        obtain ⟨a, rfl, ea, vs, h1, h2, h3⟩ := obj_ok r rv q
        exact ⟨a, vs, rfl, .of h1, h2, h3⟩
      | _ => cases e
  | _ => cases e
def bLen : List Dt → Mm Dt := fun ds h => match ds with
  | [.str z] => if z.length ≤ sizeLine then .ok (.int z.length) h else .no
  | [d] => match seqR h d with
    | some xs => .ok (.int xs.length) h
    | none => .no
  | _ => .no
theorem b_len : CallR X (.builtin "len") (cM X.K E bLen) := callR_mono (call_len_str.or call_len_seq) fun xs H Q ⟨s, ds, eH, r, rs, ha⟩ => by
  subst eH
  unfold bLen at ha
  split at ha
  · obtain ⟨v, rfl, rv⟩ := rs.one
    cases rv
    split at ha
    · rename_i hl
      exact .inl ⟨_, rfl, hl, fin r ha rfl⟩
    · exact ha.elim
  · obtain ⟨v, rfl, rv⟩ := rs.one
    split at ha
    · rename_i ys q
      obtain ⟨p, vs, rfl, sq, rs'⟩ := seqR_ok r rv q
      exact .inr ⟨p, vs, rfl, sq, by rw [rs'.length]; exact fin r ha rfl⟩
    · exact ha.elim
  · exact ha.elim
def bAbs : List Dt → Mm Dt := fun ds h => match ds with
  | [.int i] => .ok (.int (if i < 0 then -i else i)) h
  | _ => .no
theorem b_abs : CallR X (.builtin "abs") (cM X.K E bAbs) := callR_mono call_abs fun xs H Q ⟨s, ds, eH, r, rs, ha⟩ => by
  subst eH
  unfold bAbs at ha
  split at ha
  · obtain ⟨v, rfl, rv⟩ := rs.one
    cases rv
    exact ⟨_, rfl, fin r ha rfl⟩
  · exact ha.elim
def bMax2 : List Dt → Mm Dt := fun ds h => match ds with
  | [.int i, .int j] => .ok (.int (if j > i then j else i)) h
  | _ => .no
def bMin2 : List Dt → Mm Dt := fun ds h => match ds with
  | [.int i, .int j] => .ok (.int (if j < i then j else i)) h
  | _ => .no
theorem b_max2 (hc : X.calm = true) : CallR X (.builtin "max") (cM X.K E bMax2) := callR_mono (call_max2 hc) fun xs H Q ⟨s, ds, eH, r, rs, ha⟩ => by
  subst eH
  unfold bMax2 at ha
  split at ha
  · obtain ⟨v, w, rfl, rv, rw'⟩ := rs.two
    cases rv; cases rw'
    exact ⟨_, _, rfl, fin r ha rfl⟩
  · exact ha.elim
theorem b_min2 (hc : X.calm = true) : CallR X (.builtin "min") (cM X.K E bMin2) := callR_mono (call_min2 hc) fun xs H Q ⟨s, ds, eH, r, rs, ha⟩ => by
  subst eH
  unfold bMin2 at ha
  split at ha
  · obtain ⟨v, w, rfl, rv, rw'⟩ := rs.two
    cases rv; cases rw'
    exact ⟨_, _, rfl, fin r ha rfl⟩
  · exact ha.elim
def bDivmod : List Dt → Mm Dt := fun ds h => match ds with
  | [.int i, .int j] => if 0 < j ∧ j < 1073741824 then .ok (.tup [.int (i / j), .int (i % j)]) h else .no
  | _ => .no
theorem b_divmod : CallR X (.builtin "divmod") (cM X.K E bDivmod) := callR_mono call_divmod fun xs H Q ⟨s, ds, eH, r, rs, ha⟩ => by
  subst eH
  unfold bDivmod at ha
  split at ha
  · obtain ⟨v, w, rfl, rv, rw'⟩ := rs.two
    cases rv; cases rw'
    split at ha
    · rename_i hj
      exact ⟨_, _, rfl, hj, newTv r (Reps.cons (d := .int _) rfl (Reps.cons (d := .int _) rfl Reps.nil)) ha⟩
    · exact ha.elim
  · exact ha.elim
def bInt : List Dt → Mm Dt := fun ds h => match ds with
  | [.int i] => .ok (.int i) h
  | [.bl k] => .ok (.int (if k then 1 else 0)) h
  | [.str a] => match PySem.intText? a with
    | some n => if a.length ≤ 640 then .ok (.int n) h else .no
    | none => .no
  | _ => .no
theorem b_int : CallR X (.type "int") (cM X.K E bInt) := callR_mono (call_int1.or call_int_str) fun xs H Q ⟨s, ds, eH, r, rs, ha⟩ => by
  subst eH
  unfold bInt at ha
  split at ha
  · obtain ⟨v, rfl, rv⟩ := rs.one
    cases rv
    exact .inl (.inl ⟨_, rfl, fin r ha rfl⟩)
  · obtain ⟨v, rfl, rv⟩ := rs.one
    cases rv
    exact .inl (.inr ⟨_, rfl, fin r ha rfl⟩)
  · obtain ⟨v, rfl, rv⟩ := rs.one
    cases rv
    split at ha
    · rename_i n hn
      split at ha
      · rename_i hl
        exact .inr ⟨_, n, rfl, hn, hl, fin r ha rfl⟩
      · exact ha.elim
    · exact ha.elim
  · exact ha.elim
def bStr : List Dt → Mm Dt := fun ds h => match ds with
  | [.int i] => if i.natAbs.log2 < 1920 then .ok (.str (toString i)) h else .no
  | _ => .no
theorem b_str : CallR X (.type "str") (cM X.K E bStr) := callR_mono call_str_int fun xs H Q ⟨s, ds, eH, r, rs, ha⟩ => by
  subst eH
  unfold bStr at ha
  split at ha
  · obtain ⟨v, rfl, rv⟩ := rs.one
    cases rv
    split at ha
    · rename_i hl
      exact ⟨_, rfl, hl, fin r ha rfl⟩
    · exact ha.elim
  · exact ha.elim
/-! all, any, sum of a list -/
def blsD : List Dt → Option (List Bool)
  | [] => some []
  | .bl b :: ds => match blsD ds with
    | some bs => some (b :: bs)
    | none => none
  | _ => none
theorem blsD_ok : ∀ {ds : List Dt} {vs : List V} {bs : List Bool}, Reps K s ds vs → blsD ds = some bs → vs = bs.map V.bl
  | [], vs, bs, rs, e => by cases rs; cases e; rfl
  | d :: ds, vs, bs, rs, e => by
    obtain ⟨v, w, rfl, h1, h2⟩ := rs
    cases d with
    | bl b =>
      cases h1
      simp only [blsD] at e
      cases q : blsD ds with
      | none => rw [q] at e; cases e
      | some bs' =>
        rw [q] at e; cases e
        rw [blsD_ok h2 q]; rfl
    | _ => cases e
def intsD : List Dt → Option (List Int)
  | [] => some []
  | .int b :: ds => match intsD ds with
    | some bs => some (b :: bs)
    | none => none
  | _ => none
theorem intsD_ok : ∀ {ds : List Dt} {vs : List V} {bs : List Int}, Reps K s ds vs → intsD ds = some bs → vs = bs.map V.int
  | [], vs, bs, rs, e => by cases rs; cases e; rfl
  | d :: ds, vs, bs, rs, e => by
    obtain ⟨v, w, rfl, h1, h2⟩ := rs
    cases d with
    | int b =>
      cases h1
      simp only [intsD] at e
      cases q : intsD ds with
      | none => rw [q] at e; cases e
      | some bs' =>
        rw [q] at e; cases e
        rw [intsD_ok h2 q]; rfl
    | _ => cases e
def strsD : List Dt → Option (List Str)
  | [] => some []
  | .str b :: ds => match strsD ds with
    | some bs => some (b :: bs)
    | none => none
  | _ => none
theorem strsD_ok : ∀ {ds : List Dt} {vs : List V} {bs : List Str}, Reps K s ds vs → strsD ds = some bs → vs = bs.map V.str
  | [], vs, bs, rs, e => by cases rs; cases e; rfl
  | d :: ds, vs, bs, rs, e => by
    obtain ⟨v, w, rfl, h1, h2⟩ := rs
    cases d with
    | str b =>
      cases h1
      simp only [strsD] at e
      cases q : strsD ds with
      | none => rw [q] at e; cases e
      | some bs' =>
        rw [q] at e; cases e
        rw [strsD_ok h2 q]; rfl
    | _ => cases e
def bFold {α : Type} (f : List Dt → Option α) (g : α → Dt) : List Dt → Mm Dt := fun ds h => match ds with
  | [d] => match (lstR h d).bind f with
    | some bs => .ok (g bs) h
    | none => .no
  | _ => .no
def bAll : List Dt → Mm Dt := bFold blsD fun bs => .bl (bs.all id)
def bAny : List Dt → Mm Dt := bFold blsD fun bs => .bl (bs.any id)
def bSum : List Dt → Mm Dt := bFold intsD fun ns => .int ns.sum
theorem bFold_ok {α : Type} {f : List Dt → Option α} {g : α → Dt} {ds : List Dt} {vs : List V} {Q : VK} (r : HRel K s) (rs : Reps K s ds vs) (ha : After K E s (bFold f g ds s.h) (fun z s' => ∀ v, Rep K s' z v → Q v s'.H)) :
    ∃ a ys bs ws, vs = [V.ref a] ∧ SqL K s.H a ws ∧ Reps K s ys ws ∧ f ys = some bs ∧ ∀ v, Rep K s (g bs) v → Q v s.H := by
  unfold bFold at ha
  split at ha
  · obtain ⟨v, rfl, rv⟩ := rs.one
    split at ha
    · rename_i bs hb
      rename_i d _
      cases q : lstR s.h d with
      | none => rw [q] at hb; cases hb
      | some ys =>
        rw [q] at hb
        obtain ⟨p, ws, rfl, sq, rs'⟩ := lstR_ok r rv q
        exact ⟨p, ys, bs, ws, rfl, sq, rs', hb, fun v rv => fin r ha rv⟩
    · exact ha.elim
  · exact ha.elim
theorem b_all (hc : X.calm = true) : CallR X (.builtin "all") (cM X.K E bAll) := callR_mono (cr_all hc) fun xs H Q ⟨s, ds, eH, r, rs, ha⟩ => by
  subst eH
  obtain ⟨a, ys, bs, ws, rfl, sq, rs', hb, q⟩ := bFold_ok r rs ha
  rw [blsD_ok rs' hb] at sq
  exact ⟨a, bs, rfl, sq, q _ rfl⟩
theorem b_any (hc : X.calm = true) : CallR X (.builtin "any") (cM X.K E bAny) := callR_mono (cr_any hc) fun xs H Q ⟨s, ds, eH, r, rs, ha⟩ => by
  subst eH
  obtain ⟨a, ys, bs, ws, rfl, sq, rs', hb, q⟩ := bFold_ok r rs ha
  rw [blsD_ok rs' hb] at sq
  exact ⟨a, bs, rfl, sq, q _ rfl⟩
theorem b_sum (hc : X.calm = true) : CallR X (.builtin "sum") (cM X.K E bSum) := callR_mono (cr_sum hc) fun xs H Q ⟨s, ds, eH, r, rs, ha⟩ => by
  subst eH
  obtain ⟨a, ys, bs, ws, rfl, sq, rs', hb, q⟩ := bFold_ok r rs ha
  rw [intsD_ok rs' hb] at sq
  exact ⟨a, bs, rfl, sq, q _ rfl⟩
/-! list(x), tuple(x) -/
def bList : List Dt → Mm Dt := fun ds h => match ds with
  | [d] => match seqR h d with
    | some xs => .ok (.lv xs) h
    | none => .no
  | _ => .no
theorem b_list : CallR X (.type "list") (cM X.K E bList) := callR_mono call_list_of fun xs H Q ⟨s, ds, eH, r, rs, ha⟩ => by
  subst eH
  unfold bList at ha
  split at ha
  · obtain ⟨v, rfl, rv⟩ := rs.one
    split at ha
    · rename_i ys q
      obtain ⟨p, vs, rfl, sq, rs'⟩ := seqR_ok r rv q
      exact ⟨p, vs, rfl, sq, newLv r rs' ha⟩
    · exact ha.elim
  · exact ha.elim
def bTuple : List Dt → Mm Dt := fun ds h => match ds with
  | [.tup xs] => .ok (.tup xs) h
  | [d] => match lstR h d with
    | some xs => .ok (.tup xs) h
    | none => .no
  | _ => .no
theorem b_tuple : CallR X (.type "tuple") (cM X.K E bTuple) := callR_mono call_tuple_of fun xs H Q ⟨s, ds, eH, r, rs, ha⟩ => by
  subst eH
  unfold bTuple at ha
  split at ha
  · obtain ⟨v, rfl, rv⟩ := rs.one
    obtain ⟨p, vs, rfl, sq, rs'⟩ := rv.tupV
    exact ⟨p, vs, rfl, .inr ⟨sq, fin r ha rv⟩⟩
  · obtain ⟨v, rfl, rv⟩ := rs.one
    split at ha
    · rename_i ys q
      obtain ⟨p, vs, rfl, sq, rs'⟩ := lstR_ok r rv q
      exact ⟨p, vs, rfl, .inl ⟨sq, newTv r rs' ha⟩⟩
    · exact ha.elim
  · exact ha.elim
/-! isinstance(x, T), T a built-in type -/
def tyD (h : Ah) : Dt → Option String
  | .non => some "NoneType"
  | .bl _ => some "bool"
  | .int _ => some "int"
  | .str _ => some "str"
  | .tup _ => some "tuple"
  | .lv _ => some "list"
  | .dk _ _ => some "dict"
  | .obj i => match h[i]? with
    | some (.lst _) => some "list"
    | some (.dk _ _) => some "dict"
    | some (.dt _ _) => some "dict"
    | _ => none
  | _ => none
def subTy (t c : String) : Bool := t == c || (t == "bool" && c == "int")
def kindsT : List String := ["NoneType", "bool", "int", "str", "tuple", "list", "dict"]
def bIsi : List Dt → Mm Dt := fun ds h => match ds with
  | [x, .ty c] => match tyD h x with
    | some t => if kindsT.contains t && kindsT.contains c then .ok (.bl (subTy t c)) h else .no
    | none => .no
  | _ => .no
theorem kit_all : ∀ t ∈ kindsT, ∀ c ∈ kindsT, kitB t c = some (subTy t c) := by decide +kernel
theorem tyD_ok (r : HRel K s) (rv : Rep K s d v) {t : String} (e : tyD s.h d = some t) : TyX K s.H v (.type t) := by
  cases d with
  | non => cases rv; cases e; exact .base .non
  | bl b => cases rv; cases e; exact .base (.bl b)
  | int i => cases rv; cases e; exact .base (.int i)
  | str x => cases rv; cases e; exact .base (.str x)
  | tup xs =>
    cases e
    obtain ⟨a, vs, rfl, k, _⟩ := rv
    exact .base (.tup k.1)
  | lv xs =>
    cases e
    obtain ⟨a, vs, rfl, k, _⟩ := rv
    exact .base (.lst k.1)
  | dk ks vs =>
    cases e
    obtain ⟨a, vs, rfl, k, _⟩ := rv
    rcases k.1 with k | ⟨o, k⟩
    · exact .base (.dK k)
    · exact .fDict k
  | obj i =>
    simp only [tyD] at e
    cases q : s.h[i]? with
    | none => rw [q] at e; cases e
    | some o =>
      rw [q] at e
      obtain ⟨a, rfl, ea, ho⟩ := obj_ok r rv q
      cases o with
      | lst ys => cases e; obtain ⟨vs, h1, _⟩ := ho; exact .base (.lst h1)
      | dk ks ys => cases e; obtain ⟨vs, h1, _⟩ := ho; exact .base (.dK h1)
      | dt ks ys => cases e; obtain ⟨vs, h1, _⟩ := ho; exact .base (.dT h1)
      | dead => cases e
      | ins c fs => cases e
  | _ => cases e
theorem b_isi : CallR X (.builtin "isinstance") (cM X.K E bIsi) := callR_mono call_isi fun xs H Q ⟨s, ds, eH, r, rs, ha⟩ => by
  subst eH
  unfold bIsi at ha
  split at ha
  · obtain ⟨v, w, rfl, rv, rw'⟩ := rs.two
    cases rw'
    split at ha
    · rename_i t ht
      split at ha
      · rename_i hk
        rw [Bool.and_eq_true] at hk
        exact ⟨v, _, .type t, .type _, _, rfl, .ty _, tyD_ok r rv ht, kit_ty (kit_all t (by simpa using hk.1) _ (by simpa using hk.2)), fin r ha rfl⟩
      · exact ha.elim
    · exact ha.elim
  · exact ha.elim
/-! ### methods -/
def bm (tk : Ah → Dt → Bool) (g : Dt → List Dt → Mm Dt) (mo : En → Mm Dt) (mr : En → Mm (List Dt)) : En → Mm Dt := fun env => mo env >>= fun o => (fun h => if tk h o then .ok () h else .no) >>= fun _ => mr env >>= fun ds => g o ds
def isL (h : Ah) (d : Dt) : Bool := (lstR h d).isSome
def isSt (h : Ah) (d : Dt) : Bool := match d with
  | .str _ => true
  | _ => false
theorem isL_ok (r : HRel K s) (rv : Rep K s d v) (h : isL s.h d = true) : tyV K "list" v s.H := by
  unfold isL at h
  cases q : lstR s.h d with
  | none => rw [q] at h; cases h
  | some ys =>
    obtain ⟨p, vs, rfl, sq, rs'⟩ := lstR_ok r rv q
    exact .inl ⟨rfl, vs, sq⟩
theorem isSt_ok (r : HRel K s) (rv : Rep K s d v) (h : isSt s.h d = true) : tyV K "str" v s.H := by
  cases d with
  | str z => cases rv; rfl
  | _ => cases h
theorem bm_ok {T : String} {tk : Ah → Dt → Bool} {g : Dt → List Dt → Mm Dt} (ht : ∀ (s : Sx) d v, HRel X.K s → Rep X.K s d v → tk s.h d = true → tyV X.K T v s.H) : ∀ σ H Q, tE X.K E (bm tk g mo mr) σ H Q → tBM X.K T (mM X.K E g) (tE X.K E mo) (tA X.K E mr) σ H Q := fun σ H Q ⟨s, env, e, r, he, ha⟩ => by
  subst e
  refine tE_bind r he ha fun d s1 v x1 r1 e1 rv q => ?_
  have q2 := q.bind
  by_cases hk : tk s1.h d = true
  · simp only [hk, if_true] at q2
    have q3 := After.ret (a := ()) r1 q2
    exact ⟨ht s1 d v r1 rv hk, tA_bind r1 e1 q3 fun ds s2 vs x2 r2 e2 rs q4 => ⟨s2, d, ds, rfl, r2, rv.ext x2, rs, q4⟩⟩
  · simp only [hk] at q2
    exact q2.elim
theorem me_bm {T : String} {tk : Ah → Dt → Bool} {g : Dt → List Dt → Mm Dt} {id : String} {name : Str} {o : Expr} {apos cpos : Pos} (ht : ∀ (s : Sx) d v, HRel X.K s → Rep X.K s d v → tk s.h d = true → tyV X.K T v s.H)
    (pa : PlainAttrs T) (slot : Slot T name id) (hty : typeOf (.builtin id) = pure (.type "method_descriptor")) (hm : MtR X id (mM X.K E g)) (ho : PE X o (tE X.K E mo)) (ha : PA X (e :: es) (tA X.K E mr))
    (hbase : attributeBase o name X.env (eval o X.env) = eval o X.env := by rfl)
    (hfew : ((backTo cpos (starEach (e :: es) X.env)).all (fun x => !x.1) && (backToKw cpos (keywordEach [] X.env)).all (fun x => x.1.isSome)
      && decide ((e :: es).length + ([] : List Keyword).length + (if ([] : List Keyword).isEmpty then 0 else 1) < 30)) = true := by rfl)
    (hline : (apos.endLine == cpos.line) = true := by rfl) (hs : starEach (e :: es) X.env = (false, eval e X.env) :: starEach es X.env := by rfl) (hplain : (backTo cpos (starEach es X.env)).any (·.1) = false := by rfl) :
    PE X (.Call (.Attribute o name apos) (e :: es) [] cpos) (tE X.K E (bm tk g mo mr)) := pe_mono (pe_bm pa slot hty hm ho ha hbase hfew hline hs hplain) (bm_ok ht)
def bm0 (tk : Ah → Dt → Bool) (g : Dt → List Dt → Mm Dt) (mo : En → Mm Dt) : En → Mm Dt := fun env => mo env >>= fun o => (fun h => if tk h o then .ok () h else .no) >>= fun _ => g o []
theorem me_bm0 {T : String} {tk : Ah → Dt → Bool} {g : Dt → List Dt → Mm Dt} {id : String} {name : Str} {o : Expr} {apos cpos : Pos} (ht : ∀ (s : Sx) d v, HRel X.K s → Rep X.K s d v → tk s.h d = true → tyV X.K T v s.H)
    (pa : PlainAttrs T) (slot : Slot T name id) (hty : typeOf (.builtin id) = pure (.type "method_descriptor")) (hm : MtR X id (mM X.K E g)) (ho : PE X o (tE X.K E mo))
    (hbase : attributeBase o name X.env (eval o X.env) = eval o X.env := by rfl) (hline : (apos.endLine == cpos.line) = true := by rfl) : PE X (.Call (.Attribute o name apos) [] [] cpos) (tE X.K E (bm0 tk g mo)) := pe_mono (pe_bm0 pa slot hty hm ho hbase hline) fun σ H Q ⟨s, env, e, r, he, ha⟩ => by
  subst e
  refine tE_bind r he ha fun d s1 v x1 r1 e1 rv q => ?_
  have q2 := q.bind
  by_cases hk : tk s1.h d = true
  · simp only [hk, if_true] at q2
    have q3 := After.ret (a := ()) r1 q2
    exact ⟨ht s1 d v r1 rv hk, s1, d, [], rfl, r1, rv, rfl, q3⟩
  · simp only [hk] at q2
    exact q2.elim
/-! append, pop -/
def mApp : Dt → List Dt → Mm Dt := fun o ds h => match o, ds with
  | .obj i, [y] => match h[i]? with
    | some (.lst xs) => if xs.length < sizeLine then .ok .non (h.set i (.lst (xs ++ [y]))) else .no
    | _ => .no
  | _, _ => .no
theorem m_app : MtR X "list.append" (mM X.K E mApp) := mtR_mono mt_append fun x vs H Q ⟨s, d, ds, eH, r, rx, rs, ha⟩ => by
  subst eH
  unfold mApp at ha
  split at ha
  · rename_i i y
    obtain ⟨v, rfl, rv⟩ := rs.one
    obtain ⟨a, ea, rfl⟩ := rx
    split at ha
    · rename_i ys q
      split at ha
      · rename_i hl
        obtain ⟨ws, h1, h2⟩ := r.ob i a _ ea q
        have x := put_ext (u := .lst (ws ++ [v])) (o' := .lst (ys ++ [y])) r ea q (by intro z; cases z)
        have r' := put_rel (u := .lst (ws ++ [v])) (o' := .lst (ys ++ [y])) r ea q (by intro z; cases z) ⟨_, upd_same, (h2.ext x).append (Reps.cons (rv.ext x) Reps.nil)⟩
        exact ⟨a, ws, v, rfl, rfl, h1, by rw [h2.length]; exact hl, ha.now _ rfl x r' _ rfl⟩
      · exact ha.elim
    · exact ha.elim
  · exact ha.elim
def mPop : Dt → List Dt → Mm Dt := fun o ds h => match o, ds with
  | .obj i, [] => match h[i]? with
    | some (.lst xs) => match xs[xs.length - 1]? with
      | some y => .ok y (h.set i (.lst xs.dropLast))
      | none => .no
    | _ => .no
  | _, _ => .no
theorem Reps.dropLast {ds : List Dt} {vs : List V} (h : Reps K s ds vs) : Reps K s ds.dropLast vs.dropLast := by
  rw [List.dropLast_eq_take, List.dropLast_eq_take, h.length]
  exact h.take _
theorem m_pop : MtR X "list.pop" (mM X.K E mPop) := mtR_mono mt_pop fun x vs H Q ⟨s, d, ds, eH, r, rx, rs, ha⟩ => by
  subst eH
  unfold mPop at ha
  split at ha
  · rename_i i
    cases rs
    obtain ⟨a, ea, rfl⟩ := rx
    split at ha
    · rename_i ys q
      split at ha
      · rename_i y hy
        obtain ⟨ws, h1, h2⟩ := r.ob i a _ ea q
        have x := put_ext (u := .lst ws.dropLast) (o' := .lst ys.dropLast) r ea q (by intro z; cases z)
        have r' := put_rel (u := .lst ws.dropLast) (o' := .lst ys.dropLast) r ea q (by intro z; cases z) ⟨_, upd_same, (h2.ext x).dropLast⟩
        obtain ⟨v, e1, rv⟩ := h2.get hy
        rw [← h2.length] at e1
        exact ⟨a, ws, v, rfl, rfl, h1, e1, ha.now _ rfl x r' _ (rv.ext x)⟩
      · exact ha.elim
    · exact ha.elim
  · exact ha.elim
/-! xs[i] = v -/
def setL : Dt → Dt → Dt → Mm Unit := fun o i y h => match o, i with
  | .obj n, .int k => match h[n]? with
    | some (.lst xs) => match ixN xs.length k with
      | some j => .ok () (h.set n (.lst (xs.set j y)))
      | none => .no
    | _ => .no
  | _, _ => .no
theorem st_list : PSet X (stM X.K E setL) := fun pins s σ H o i v ov iv u Q I ro ri rv ⟨s1, d, e, f, eH, r, rx, re, rf, ha⟩ => by
  subst eH
  refine set_list pins s σ _ o i v ov iv u Q I ro ri rv ?_
  unfold setL at ha
  split at ha
  · rename_i n k
    cases re
    obtain ⟨a, ea, rfl⟩ := rx
    split at ha
    · rename_i ys q
      split at ha
      · rename_i j hj
        obtain ⟨ws, h1, h2⟩ := r.ob n a _ ea q
        have x := put_ext (u := .lst (ws.set j v)) (o' := .lst (ys.set j f)) r ea q (by intro z; cases z)
        have r' := put_rel (u := .lst (ws.set j v)) (o' := .lst (ys.set j f)) r ea q (by intro z; cases z) ⟨_, upd_same, Reps.set (rf.ext x) j (h2.ext x)⟩
        exact ⟨a, ws, k, j, rfl, rfl, h1, by rw [h2.length]; exact hj, ha.now _ rfl x r'⟩
      · exact ha.elim
    · exact ha.elim
  · exact ha.elim
/-! texts -/
def mSplit : Dt → List Dt → Mm Dt := fun o ds h => match o, ds with
  | .str a, [.str b] => if (b.length == 0) = false ∧ a.length + 2 ≤ sizeLine then .ok (.lv ((Txt.split a b).map .str)) h else .no
  | _, _ => .no
theorem reps_strs : ∀ (l : List Str), Reps K s (l.map Dt.str) (l.map V.str)
  | [] => rfl
  | x :: l => ⟨.str x, _, rfl, rfl, reps_strs l⟩
theorem reps_ints : ∀ (l : List Int), Reps K s (l.map Dt.int) (l.map V.int)
  | [] => rfl
  | x :: l => ⟨.int x, _, rfl, rfl, reps_ints l⟩
theorem m_split : MtR X "str.split" (mM X.K E mSplit) := mtR_mono mt_split fun x vs H Q ⟨s, d, ds, eH, r, rx, rs, ha⟩ => by
  subst eH
  unfold mSplit at ha
  split at ha
  · rename_i a b
    obtain ⟨v, rfl, rv⟩ := rs.one
    cases rx; cases rv
    split at ha
    · rename_i hl
      exact ⟨a, b, rfl, rfl, hl.1, hl.2, newLv r (reps_strs _) ha⟩
    · exact ha.elim
  · exact ha.elim
def mJoin : Dt → List Dt → Mm Dt := fun o ds h => match o, ds with
  | .str a, [d] => match (seqR h d).bind strsD with
    | some ys => if (ys.map (·.length)).sum + ys.length * a.length ≤ 16777216 then .ok (.str (Txt.join a ys)) h else .no
    | none => .no
  | _, _ => .no
theorem m_join : MtR X "str.join" (mM X.K E mJoin) := mtR_mono mt_join fun x vs H Q ⟨s, d, ds, eH, r, rx, rs, ha⟩ => by
  subst eH
  unfold mJoin at ha
  split at ha
  · rename_i a d'
    obtain ⟨v, rfl, rv⟩ := rs.one
    cases rx
    split at ha
    · rename_i ys hy
      cases q : seqR s.h d' with
      | none => rw [q] at hy; cases hy
      | some zs =>
        rw [q] at hy
        obtain ⟨p, ws, rfl, sq, rs'⟩ := seqR_ok r rv q
        rw [strsD_ok rs' hy] at sq
        split at ha
        · rename_i hl
          exact ⟨a, p, ys, rfl, rfl, sq, hl, fin r ha rfl⟩
        · exact ha.elim
    · exact ha.elim
  · exact ha.elim
def mSIndex : Dt → List Dt → Mm Dt := fun o ds h => match o, ds with
  | .str a, [.str b] => match Builtin.Str.occurrences a b 0 a.length 1 with
    | i :: _ => .ok (.int (i : Nat)) h
    | [] => .no
  | _, _ => .no
theorem m_sindex : MtR X "str.index" (mM X.K E mSIndex) := mtR_mono mt_sindex fun x vs H Q ⟨s, d, ds, eH, r, rx, rs, ha⟩ => by
  subst eH
  unfold mSIndex at ha
  split at ha
  · rename_i a b
    obtain ⟨v, rfl, rv⟩ := rs.one
    cases rx; cases rv
    split at ha
    · rename_i i rest hi
      exact ⟨a, b, i, rest, rfl, rfl, hi, fin r ha rfl⟩
    · exact ha.elim
  · exact ha.elim
def mSCount : Dt → List Dt → Mm Dt := fun o ds h => match o, ds with
  | .str a, [.str b] => .ok (.int (Txt.count a b)) h
  | _, _ => .no
theorem m_scount : MtR X "str.count" (mM X.K E mSCount) := mtR_mono mt_count fun x vs H Q ⟨s, d, ds, eH, r, rx, rs, ha⟩ => by
  subst eH
  unfold mSCount at ha
  split at ha
  · rename_i a b
    obtain ⟨v, rfl, rv⟩ := rs.one
    cases rx; cases rv
    exact ⟨a, b, rfl, rfl, fin r ha rfl⟩
  · exact ha.elim
def mLCount : Dt → List Dt → Mm Dt := fun o ds h => match ds with
  | [.int k] => match (lstR h o).bind intsD with
    | some ns => .ok (.int (ns.count k : Nat)) h
    | none => .no
  | _ => .no
theorem m_lcount : MtR X "list.count" (mM X.K E mLCount) := mtR_mono mt_lcount fun x vs H Q ⟨s, d, ds, eH, r, rx, rs, ha⟩ => by
  subst eH
  unfold mLCount at ha
  split at ha
  · rename_i k
    obtain ⟨v, rfl, rv⟩ := rs.one
    cases rv
    split at ha
    · rename_i ns hn
      cases q : lstR s.h d with
      | none => rw [q] at hn; cases hn
      | some zs =>
        rw [q] at hn
        obtain ⟨p, ws, rfl, sq, rs'⟩ := lstR_ok r rx q
        rw [intsD_ok rs' hn] at sq
        exact ⟨p, ns, k, rfl, rfl, sq, fin r ha rfl⟩
    · exact ha.elim
  · exact ha.elim
end
end Mo
set_option Elab.async false
set_option linter.all false
set_option maxRecDepth 100000
set_option maxHeartbeats 4000000
/-! Mo9: what is walked: lists, tuples, texts, ranges, enumerate, zip. -/
namespace Mo
open PySem L2 PySem.Spec PyProof.Rows
section
variable {X : Cx} {E : XK} {K : PySem.W.Frag} {s s0 : Sx} {d : Dt} {v : V} {xs ds : List Dt} {e a b c tg : Expr} {pos p : Pos} {es : List Expr}
variable {ma mb mc mo : En → Mm Dt} {mr : En → Mm (List Dt)}
theorem itRep_of {J : It} {n : Nat} {G : Hp → Prop} {Y : Nat → Hp → V → Hp → Prop} (w : L2.Walk J n G Y) (hn : ds.length = n)
    (h : ∀ s, Ext s0 s → HRel K s → G s.H ∧ ∀ (i : Nat) d x H', ds[i]? = some d → Y i s.H x H' → ∃ s', s'.H = H' ∧ s'.h = s.h ∧ Ext s s' ∧ HRel K s' ∧ Rep K s' d x) : ItRep K s0 J ds := by
  subst hn
  refine ⟨fun s x r i d e => ?_, fun s x r => w.stops _ (h s x r).1⟩
  have hi := (List.getElem?_eq_some_iff.mp e).1
  exact ⟨w.goes i _ hi (h s x r).1, fun y H' hy => (h s x r).2 i d y H' e (w.yields i _ y H' hi (h s x r).1 hy)⟩
theorem same_end {d : Dt} {x : V} {H' : Hp} (r : HRel K s) (e : H' = s.H) (rv : Rep K s d x) : ∃ s', s'.H = H' ∧ s'.h = s.h ∧ Ext s s' ∧ HRel K s' ∧ Rep K s' d x := ⟨s, e.symm, rfl, Ext.refl s, r, rv⟩
theorem itRep_list {a : Addr} {vs : List V} (hq : ∀ s, Ext s0 s → HRel K s → SqL K s.H a vs) (rs : Reps K s0 ds vs) : ItRep K s0 (Itl K a) ds :=
  itRep_of (walk_list (K := K) (a := a) (xs := vs)) rs.length.symm fun s x r => ⟨hq s x r, fun i d y H' e ⟨e1, e2⟩ => by
    obtain ⟨w, e3, rw'⟩ := (rs.ext x).get e
    rw [e3] at e2; cases e2
    exact same_end r e1 rw'⟩
theorem itRep_tup {a : Addr} {vs : List V} (hq : ∀ s, Ext s0 s → HRel K s → SqT K s.H a vs) (rs : Reps K s0 ds vs) : ItRep K s0 (Itt K a) ds :=
  itRep_of (walk_tup (K := K) (a := a) (xs := vs)) rs.length.symm fun s x r => ⟨hq s x r, fun i d y H' e ⟨e1, e2⟩ => by
    obtain ⟨w, e3, rw'⟩ := (rs.ext x).get e
    rw [e3] at e2; cases e2
    exact same_end r e1 rw'⟩
/-- a list that stays (a tracked one is used up) -/
def itemsL : Dt → Mm (List Dt) := fun d h => match d with
  | .lv xs => .ok xs h
  | .wl xs => .ok xs h
  | .obj i => match h[i]? with
    | some (.lst xs) => .ok xs (h.set i .dead)
    | _ => .no
  | _ => .no
theorem itemsL_ok {k : List Dt → Sx → Prop} (r : HRel K s) (rv : Rep K s d v) (h : After K E s (itemsL d s.h) k) : ∃ a vs ds s', v = .ref a ∧ s'.H = s.H ∧ Ext s s' ∧ HRel K s' ∧ Reps K s' ds vs ∧ (∀ s2, Ext s' s2 → HRel K s2 → SqL K s2.H a vs) ∧ k ds s' := by
  unfold itemsL at h
  split at h
  · rename_i xs
    obtain ⟨a, vs, rfl, q, rs⟩ := rv
    exact ⟨a, vs, xs, s, rfl, rfl, Ext.refl s, r, rs, fun s2 x _ => .of (x.keep q rfl).1, h s rfl (Ext.refl s) r⟩
  · rename_i xs
    obtain ⟨a, vs, rfl, q, rs⟩ := rv
    refine ⟨a, vs, xs, s, rfl, rfl, Ext.refl s, r, rs, fun s2 x _ => ?_, h s rfl (Ext.refl s) r⟩
    rcases q with q | q
    · exact .inl (q.ext x).1
    · rcases q with (q | ⟨_, q⟩) | q
      · cases q
      · cases q
      · exact .inr q
  · rename_i i
    split at h
    · rename_i xs q
      obtain ⟨a, ea, rfl⟩ := rv
      obtain ⟨vs, h1, h2⟩ := r.ob i a _ ea q
      have x := die_ext r i
      have f := die_fx r ea h1
      exact ⟨a, vs, xs, s.die i, rfl, rfl, x, die_rel r i, h2.ext x, fun s2 y _ => .of (y.keep ⟨h1, f.2⟩ rfl).1, h.now (s.die i) rfl x (die_rel r i)⟩
    · exact h.elim
  · exact h.elim
def itL (ma : En → Mm Dt) : En → Mm (List Dt) := fun env => ma env >>= itemsL
theorem mi_list (h : PE X e (tE X.K E ma)) : PI X tg e (tI X.K E (itL ma)) := pi_mono (pi_list h) fun σ H R ⟨s, env, e, r, he, ha⟩ => by
  subst e
  refine tE_bind r he ha fun d s1 v x1 r1 e1 rv q => ?_
  obtain ⟨a, vs, ds, s2, rfl, eH, x2, r2, rs, hq, k⟩ := itemsL_ok r1 rv q
  refine ⟨a, rfl, ⟨vs, ?_⟩, ?_⟩
  · rw [← eH]; exact hq s2 (Ext.refl _) r2
  · rw [← eH]
    exact k _ (itRep_list hq rs)
def itemsT : Dt → Mm (List Dt) := fun d h => match d with
  | .tup xs => .ok xs h
  | _ => .no
def itT (ma : En → Mm Dt) : En → Mm (List Dt) := fun env => ma env >>= itemsT
theorem mi_tup (h : PE X e (tE X.K E ma)) : PI X tg e (tI X.K E (itT ma)) := pi_mono (pi_tup h) fun σ H R ⟨s, env, e, r, he, ha⟩ => by
  subst e
  refine tE_bind r he ha fun d s1 v x1 r1 e1 rv q => ?_
  unfold itemsT at q
  split at q
  · rename_i xs
    obtain ⟨a, vs, rfl, k, rs⟩ := rv
    exact ⟨a, rfl, ⟨vs, .of k.1⟩, q s1 rfl (Ext.refl _) r1 _ (itRep_tup (fun s2 x _ => .of (x.keep k rfl).1) rs)⟩
  · exact q.elim
def signs (z : Str) : List Dt := z.cps.toList.map fun c => .str ⟨#[c]⟩
def itemsS : Dt → Mm (List Dt) := fun d h => match d with
  | .str z => .ok (signs z) h
  | _ => .no
def itS (ma : En → Mm Dt) : En → Mm (List Dt) := fun env => ma env >>= itemsS
theorem itRep_str {z : Str} : ItRep K s0 (Its z) (signs z) := itRep_of (walk_str (z := z)) (by simp [signs]) fun s x r => ⟨trivial, fun i d y H' e ⟨e1, c, e2, e3⟩ => by
  have : d = .str ⟨#[c]⟩ := by
    unfold signs at e
    rw [List.getElem?_map] at e
    have e4 : z.cps.toList[i]? = some c := by rw [← e2]; simp
    rw [e4] at e
    cases e; rfl
  subst this e3
  exact same_end r e1 rfl⟩
theorem mi_str (h : PE X e (tE X.K E ma)) : PI X tg e (tI X.K E (itS ma)) := pi_mono (pi_str h) fun σ H R ⟨s, env, e, r, he, ha⟩ => by
  subst e
  refine tE_bind r he ha fun d s1 v x1 r1 e1 rv q => ?_
  unfold itemsS at q
  split at q
  · rename_i z
    cases rv
    exact ⟨z, rfl, q s1 rfl (Ext.refl _) r1 _ itRep_str⟩
  · exact q.elim
/-! ranges -/
def rng (lo : Int) (n : Nat) (c : Int) : List Dt := (List.range n).map fun i : Nat => .int (lo + (i : Int) * c)
theorem rng_get {lo c : Int} {n i : Nat} {d : Dt} (h : (rng lo n c)[i]? = some d) : d = .int (lo + (i : Int) * c) := by
  unfold rng at h
  rw [List.getElem?_map] at h
  by_cases hi : i < n
  · rw [List.getElem?_range hi] at h
    cases h; rfl
  · rw [List.getElem?_eq_none (by simpa using hi)] at h
    cases h
theorem itRep_range {lo : Int} {n : Nat} : ItRep K s0 (Itr lo n) (rng lo n 1) := itRep_of (walk_range (lo := lo) (n := n)) (by simp [rng]) fun s x r => ⟨trivial, fun i d y H' e ⟨e1, e2⟩ => by
  have := rng_get e
  subst this e2
  exact same_end r e1 (by show V.int _ = V.int _; rw [Int.mul_one])⟩
def itR1 (mr : En → Mm (List Dt)) : En → Mm (List Dt) := fun env => mr env >>= fun ds => match ds with
  | [.int j] => if -(2 ^ 62) ≤ j ∧ j < 2 ^ 62 then Mm.pure (rng 0 j.toNat 1) else Mm.no
  | _ => Mm.no
theorem mi_range1 (hg : Gl X "range") (hm : X.mg "range" = none) (ha : PA X [a] (tA X.K E mr)) (hs : starEach [a] X.env = [(false, eval a X.env)] := by rfl) : PI X tg (.Call (.Name "range" p) [a] [] pos) (tI X.K E (itR1 mr)) := pi_mono (pi_range1 hg hm ha hs) fun σ H R ⟨s, env, e, r, he, ha⟩ => by
  subst e
  refine tA_bind r he ha fun ds s1 vs x1 r1 e1 rs q => ?_
  split at q
  · obtain ⟨v, rfl, rv⟩ := rs.one
    cases rv
    split at q
    · rename_i hj
      exact ⟨_, rfl, hj.1, hj.2, q.ret r1 _ itRep_range⟩
    · exact q.elim
  · exact q.elim
def itR2 (mr : En → Mm (List Dt)) : En → Mm (List Dt) := fun env => mr env >>= fun ds => match ds with
  | [.int i, .int j] => if -(2 ^ 62) ≤ i ∧ i < 2 ^ 62 ∧ -(2 ^ 62) ≤ j ∧ j < 2 ^ 62 then Mm.pure (rng i (j - i).toNat 1) else Mm.no
  | _ => Mm.no
theorem mi_range2 (hg : Gl X "range") (hm : X.mg "range" = none) (ha : PA X [a, b] (tA X.K E mr)) (hs : starEach [a, b] X.env = [(false, eval a X.env), (false, eval b X.env)] := by rfl) (hs2 : starEach [b] X.env = [(false, eval b X.env)] := by rfl) :
    PI X tg (.Call (.Name "range" p) [a, b] [] pos) (tI X.K E (itR2 mr)) := pi_mono (pi_range2 hg hm ha hs hs2) fun σ H R ⟨s, env, e, r, he, ha⟩ => by
  subst e
  refine tA_bind r he ha fun ds s1 vs x1 r1 e1 rs q => ?_
  split at q
  · obtain ⟨v, w, rfl, rv, rw'⟩ := rs.two
    cases rv; cases rw'
    split at q
    · rename_i hj
      exact ⟨_, _, rfl, hj, q.ret r1 _ itRep_range⟩
    · exact q.elim
  · exact q.elim
/-! pairs that are laid on the way -/
theorem pair_end {d1 d2 : Dt} {x y : V} {T : Addr} {H' : Hp} (r : HRel K s) (hT : s.H T = none) (e : H' = upd s.H T (.tup [x, y])) (r1 : Rep K s d1 x) (r2 : Rep K s d2 y) : ∃ s', s'.H = H' ∧ s'.h = s.h ∧ Ext s s' ∧ HRel K s' ∧ Rep K s' (.tup [d1, d2]) (.ref T) := by
  subst e
  exact ⟨s.new T (.tup [x, y]), rfl, rfl, new_ext r hT, new_rel r hT, T, [x, y], rfl, ⟨upd_same, (new_fx r hT).2⟩, Reps.cons (r1.ext (new_ext r hT)) (Reps.cons (r2.ext (new_ext r hT)) Reps.nil)⟩
def enumD : Nat → List Dt → List Dt
  | _, [] => []
  | i, d :: ds => .tup [.int (i : Nat), d] :: enumD (i + 1) ds
theorem enumD_length : ∀ (n : Nat) (ds : List Dt), (enumD n ds).length = ds.length
  | _, [] => rfl
  | n, d :: ds => by simp [enumD, enumD_length (n + 1) ds]
theorem enumD_get : ∀ {n : Nat} {ds : List Dt} {i : Nat} {d : Dt}, (enumD n ds)[i]? = some d → ∃ d', ds[i]? = some d' ∧ d = .tup [.int ((n + i : Nat) : Int), d']
  | n, [], i, d, h => by simp [enumD] at h
  | n, x :: ds, 0, d, h => by simp [enumD] at h; exact ⟨x, rfl, h.symm⟩
  | n, x :: ds, i + 1, d, h => by
    obtain ⟨d', e1, e2⟩ := enumD_get (n := n + 1) (i := i) (by simpa [enumD] using h)
    exact ⟨d', by simpa using e1, by rw [e2, show n + 1 + i = n + (i + 1) by omega]⟩
theorem itRep_enum {a : Addr} {vs : List V} (hq : ∀ s, Ext s0 s → HRel K s → SqL K s.H a vs) (rs : Reps K s0 ds vs) : ItRep K s0 (Ite K a) (enumD 0 ds) :=
  itRep_of (walk_enum (K := K) (a := a) (xs := vs)) (by rw [enumD_length, rs.length]) fun s x r => ⟨hq s x r, fun i d y H' e ⟨T, x1, y1, e1, e2, e3, e4, e5⟩ => by
    obtain ⟨d', h1, rfl⟩ := enumD_get e
    obtain ⟨w, h2, rw'⟩ := (rs.ext x).get h1
    have e5 : vs[i]? = some y1 := e5
    rw [h2] at e5; cases e5
    have e4 : some (V.int (i : Nat)) = some x1 := e4
    cases e4
    subst e1
    exact pair_end r e2 e3 (by rw [Nat.zero_add]; exact rfl) rw'⟩
def itEL (mr : En → Mm (List Dt)) : En → Mm (List Dt) := fun env => mr env >>= fun ds => match ds with
  | [d] => itemsL d >>= fun xs => Mm.pure (enumD 0 xs)
  | _ => Mm.no
theorem mi_enum {tpos : Pos} {elts : List Expr} {kk : Nat} (hg : Gl X "enumerate") (hm : X.mg "enumerate" = none) (ha : PA X [e] (tA X.K E mr)) (hs : starEach [e] X.env = (false, eval e X.env) :: starEach [] X.env := by rfl) :
    PI X (.Tuple elts kk tpos) (.Call (.Name "enumerate" p) [e] [] pos) (tI X.K E (itEL mr)) := pi_mono (pi_enum hg hm ha hs) fun σ H R ⟨s, env, e, r, he, ha⟩ => by
  subst e
  refine tA_bind r he ha fun ds s1 vs x1 r1 e1 rs q => ?_
  split at q
  · obtain ⟨v, rfl, rv⟩ := rs.one
    obtain ⟨a, vs, ds, s2, rfl, eH, x2, r2, rs', hq, k⟩ := itemsL_ok r1 rv q.bind
    refine ⟨a, vs, rfl, ?_, ?_⟩
    · rw [← eH]; exact hq s2 (Ext.refl _) r2
    · rw [← eH]
      exact k.ret r2 _ (itRep_enum hq rs')
  · exact q.elim
/-! zip of two lists -/
def zipD (xs ys : List Dt) : List Dt := List.zipWith (fun x y => .tup [x, y]) xs ys
theorem zipD_get {xs ys : List Dt} {i : Nat} {d : Dt} (h : (zipD xs ys)[i]? = some d) : ∃ x y, xs[i]? = some x ∧ ys[i]? = some y ∧ d = .tup [x, y] := by
  unfold zipD at h
  rw [List.getElem?_zipWith] at h
  cases hx : xs[i]? with
  | none => rw [hx] at h; cases ys[i]? <;> cases h
  | some x =>
    cases hy : ys[i]? with
    | none => rw [hx, hy] at h; cases h
    | some y => rw [hx, hy] at h; cases h; exact ⟨x, y, rfl, rfl, rfl⟩
theorem itRep_zip {a b : Addr} {vs ws : List V} {es : List Dt} (hq : ∀ s, Ext s0 s → HRel K s → SqL K s.H a vs) (hq2 : ∀ s, Ext s0 s → HRel K s → SqL K s.H b ws) (rs : Reps K s0 ds vs) (rs2 : Reps K s0 es ws) : ItRep K s0 (Itz K a b) (zipD ds es) :=
  itRep_of (walk_zip (K := K) (a := a) (b := b) (xs := vs) (ys := ws) (n := min ds.length es.length) (by rw [rs.length, rs2.length])) (by simp [zipD]) fun s x r => ⟨⟨hq s x r, hq2 s x r⟩, fun i d y H' e ⟨T, x1, y1, e1, e2, e3, e4, e5⟩ => by
    obtain ⟨dx, dy, h1, h2, rfl⟩ := zipD_get e
    obtain ⟨w, h3, rw'⟩ := (rs.ext x).get h1
    obtain ⟨w2, h4, rw2⟩ := (rs2.ext x).get h2
    have e4 : vs[i]? = some x1 := e4
    have e5 : ws[i]? = some y1 := e5
    rw [h3] at e4; cases e4
    rw [h4] at e5; cases e5
    subst e1
    exact pair_end r e2 e3 rw' rw2⟩
def itZL (mr : En → Mm (List Dt)) : En → Mm (List Dt) := fun env => mr env >>= fun ds => match ds with
  | [.lv xs, .lv ys] => Mm.pure (zipD xs ys)
  | _ => Mm.no
theorem mi_zip {e2 : Expr} {tpos : Pos} {elts : List Expr} {kk : Nat} (h : PI X (.Tuple elts kk tpos) (.Call (.Name "zip" p) [e, e2] [] pos) (iZip X.K (tA X.K E mr))) :
    PI X (.Tuple elts kk tpos) (.Call (.Name "zip" p) [e, e2] [] pos) (tI X.K E (itZL mr)) := pi_mono h fun σ H R ⟨s, env, e, r, he, ha⟩ => by
  subst e
  refine tA_bind r he ha fun ds s1 vs x1 r1 e1 rs q => ?_
  split at q
  · obtain ⟨v, w, rfl, rv, rw'⟩ := rs.two
    obtain ⟨a, vs, rfl, k, rs1⟩ := rv
    obtain ⟨b, ws, rfl, k2, rs2⟩ := rw'
    exact ⟨a, b, vs, ws, rfl, .of k.1, .of k2.1, q.ret r1 _ (itRep_zip (fun s x _ => .of (x.keep k rfl).1) (fun s x _ => .of (x.keep k2 rfl).1) rs1 rs2)⟩
  · exact q.elim
end
end Mo
set_option Elab.async false
set_option linter.all false
set_option maxRecDepth 100000
set_option maxHeartbeats 4000000
/-! MoA: dicts. -/
namespace Mo
open PySem L2 PySem.Spec PyProof.Rows
def keyD : Dt → Option Key
  | .int i => some (.inl i)
  | .str x => some (.inr x)
  | _ => none
def keysD : List Dt → Option (List Key)
  | [] => some []
  | d :: ds => match keyD d, keysD ds with
    | some k, some ks => some (k :: ks)
    | _, _ => none
def keyT : Dt → Option (List Key)
  | .tup ds => keysD ds
  | _ => none
def valG {κ α : Type} [DecidableEq κ] (kvs : List (κ × α)) (k : κ) : Option α := (kvs.find? fun kv => decide (kv.1 = k)).map (·.2)
def putG {κ : Type} [DecidableEq κ] (ks : List κ) (vs : List Dt) (k : κ) (d : Dt) : List κ × List Dt :=
  if k ∈ ks then (ks, (ks.zip vs).map fun p => if p.1 = k then d else p.2) else (ks ++ [k], vs ++ [d])
section
variable {X : Cx} {E : XK} {K : PySem.W.Frag} {s s0 : Sx} {d : Dt} {v : V} {xs ds : List Dt} {e a b c f o i tg : Expr} {pos p : Pos} {es : List Expr}
variable {ma mb mc mo mk mx : En → Mm Dt} {mr : En → Mm (List Dt)}
theorem keyD_ok {k : Key} (rv : Rep K s d v) (e : keyD d = some k) : v = kV k := by
  cases d with
  | int i => cases rv; cases e; rfl
  | str i => cases rv; cases e; rfl
  | _ => cases e
theorem keysD_ok : ∀ {ds : List Dt} {vs : List V} {ks : List Key}, Reps K s ds vs → keysD ds = some ks → vs = ks.map kV
  | [], vs, ks, rs, e => by cases rs; cases e; rfl
  | d :: ds, vs, ks, rs, e => by
    obtain ⟨v, w, rfl, h1, h2⟩ := rs
    simp only [keysD] at e
    cases q : keyD d with
    | none => rw [q] at e; simp at e
    | some k =>
      cases q2 : keysD ds with
      | none => rw [q, q2] at e; simp at e
      | some ks' =>
        rw [q, q2] at e; cases e
        rw [keyD_ok h1 q, keysD_ok h2 q2]; rfl
theorem valG_eq {κ : Type} [DecidableEq κ] (kvs : List (κ × V)) (k : κ) : valV kvs k = valG kvs k := rfl
def RepO (K : PySem.W.Frag) (s : Sx) : Option Dt → Option V → Prop
  | some d, some v => Rep K s d v
  | none, none => True
  | _, _ => False
theorem RepO.some {z : Dt} {ov : Option V} (h : RepO K s (some z) ov) : ∃ w, ov = some w ∧ Rep K s z w := by
  cases ov with
  | none => exact h.elim
  | some w => exact ⟨w, rfl, h⟩
theorem RepO.none {ov : Option V} (h : RepO K s none ov) : ov = none := by
  cases ov with
  | none => rfl
  | some w => exact h.elim
theorem val_ok {κ : Type} [DecidableEq κ] {k : κ} : ∀ {ks : List κ} {ds : List Dt} {vs : List V}, ks.length = vs.length → Reps K s ds vs → RepO K s (valG (ks.zip ds) k) (valV (ks.zip vs) k)
  | [], ds, vs, hl, rs => by
    simp only [List.zip_nil_left]
    exact trivial
  | k' :: ks, ds, vs, hl, rs => by
    cases ds with
    | nil => cases rs; simp at hl
    | cons d ds =>
      obtain ⟨v, w, rfl, h1, h2⟩ := rs
      by_cases hk : k' = k
      · subst hk
        have e1 : valG ((k' :: ks).zip (d :: ds)) k' = some d := by simp [valG]
        have e2 : valV ((k' :: ks).zip (v :: w)) k' = some v := by simp [valV]
        rw [e1, e2]
        exact h1
      · have e1 : valG ((k' :: ks).zip (d :: ds)) k = valG (ks.zip ds) k := by simp [valG, hk]
        have e2 : valV ((k' :: ks).zip (v :: w)) k = valV (ks.zip w) k := by simp [valV, hk]
        rw [e1, e2]
        exact val_ok (by simpa using hl) h2
theorem any_key {κ : Type} [DecidableEq κ] {k : κ} : ∀ {ks : List κ} {vs : List V}, ks.length = vs.length → ((ks.zip vs).any fun kv => decide (kv.1 = k)) = decide (k ∈ ks)
  | [], vs, hl => by simp
  | k' :: ks, [], hl => by simp at hl
  | k' :: ks, v :: vs, hl => by
    rw [List.zip_cons_cons, List.any_cons, any_key (by simpa using hl)]
    by_cases hk : k' = k
    · simp [hk]
    · have : ¬ k = k' := fun z => hk z.symm
      simp [hk, this]
theorem put_same {κ : Type} [DecidableEq κ] {k : κ} {d : Dt} {w : V} (rv : Rep K s d w) : ∀ {ks : List κ} {ds : List Dt} {vs : List V}, ks.length = vs.length → Reps K s ds vs →
    ∃ ws, (ks.zip vs).map (fun kv => if kv.1 = k then (kv.1, w) else kv) = ks.zip ws ∧ ks.length = ws.length ∧ Reps K s ((ks.zip ds).map fun p => if p.1 = k then d else p.2) ws
  | [], ds, vs, hl, rs => by
    have : vs = [] := List.length_eq_zero_iff.mp (by simpa using hl.symm)
    subst this
    exact ⟨[], by simp, rfl, by simp; exact rfl⟩
  | k' :: ks, ds, vs, hl, rs => by
    cases ds with
    | nil => cases rs; simp at hl
    | cons d' ds =>
      obtain ⟨v, vs', rfl, h1, h2⟩ := rs
      obtain ⟨ws, e1, e2, e3⟩ := put_same rv (ks := ks) (by simpa using hl) h2
      by_cases hk : k' = k
      · refine ⟨w :: ws, ?_, by simp [e2], ?_⟩
        · simp only [List.zip_cons_cons, List.map_cons, hk, if_true]
          rw [e1]
        · simp only [List.zip_cons_cons, List.map_cons, hk, if_true]
          exact Reps.cons rv e3
      · refine ⟨v :: ws, ?_, by simp [e2], ?_⟩
        · simp only [List.zip_cons_cons, List.map_cons, hk, if_false]
          rw [e1]
        · simp only [List.zip_cons_cons, List.map_cons, hk, if_false]
          exact Reps.cons h1 e3
theorem put_ok {κ : Type} [DecidableEq κ] {k : κ} {d : Dt} {w : V} {ks : List κ} {ds : List Dt} {vs : List V} (hl : ks.length = vs.length) (rs : Reps K s ds vs) (rv : Rep K s d w) :
    ∃ ws, putK (ks.zip vs) k w = (putG ks ds k d).1.zip ws ∧ (putG ks ds k d).1.length = ws.length ∧ Reps K s (putG ks ds k d).2 ws := by
  unfold putK putG
  rw [any_key hl]
  by_cases hk : k ∈ ks
  · rw [if_pos (decide_eq_true hk), if_pos hk]
    exact put_same rv hl rs
  · rw [if_neg (by simp [hk]), if_neg hk]
    refine ⟨vs ++ [w], ?_, by simp [hl], rs.append (Reps.cons rv Reps.nil)⟩
    rw [List.zip_append hl]
    rfl
/-! ### reading -/
def getR (h : Ah) (d k : Dt) : Option (Option Dt) := match dkR h d, keyD k with
  | some kv, some kk => some (valG (kv.1.zip kv.2) kk)
  | _, _ => match dtR h d, keyT k with
    | some kv, some kk => some (valG (kv.1.zip kv.2) kk)
    | _, _ => none
theorem getR_ok (r : HRel K s) {k : Dt} {y : V} {z : Option Dt} (rd : Rep K s d v) (rk : Rep K s k y) (h : getR s.h d k = some z) : ∃ a ov, v = .ref a ∧ IsD s.H a ∧ DGet s.H a y ov ∧ RepO K s z ov := by
  unfold getR at h
  split at h
  · rename_i kv kk e1 e2
    obtain ⟨ks, vs⟩ := kv
    obtain ⟨a, ws, rfl, h1, h2, h3⟩ := dkR_ok r rd e1
    have := val_ok (k := kk) h2 h3
    cases h
    refine ⟨a, valV (ks.zip ws) kk, rfl, .inl ⟨_, h1⟩, .inl ⟨_, kk, h1, keyD_ok rk e2, rfl⟩, ?_⟩
    exact this
  · split at h
    · rename_i kv kk e1 e2
      obtain ⟨ks, vs⟩ := kv
      obtain ⟨a, ws, rfl, h1, h2, h3⟩ := dtR_ok r rd e1
      have := val_ok (k := kk) h2 h3
      cases h
      cases k with
      | tup ds =>
        obtain ⟨b, us, rfl, kb, rs⟩ := rk
        refine ⟨a, valV (ks.zip ws) kk, rfl, .inr ⟨_, h1⟩, .inr ⟨_, kk, b, h1, rfl, ?_, rfl⟩, this⟩
        rw [← keysD_ok rs e2]
        exact kb.1
      | _ => cases e2
    · cases h
def ixD : Dt → Dt → Mm Dt := fun x y h => match getR h x y with
  | some (some z) => .ok z h
  | _ => .no
theorem me_dix (hu : X.A.units + 1 < cLine) (ho : PE X o (tE X.K E mo)) (hi : PE X i (tE X.K E mk)) (hs : NoSl i) : PE X (.Subscript o i pos) (tE X.K E (op2 ixD mo mk)) := pe_mono (pe_dget hu ho hi hs) fun σ H Q ⟨s, env, e, r, he, ha⟩ => by
  subst e
  refine tE_bind r he ha fun d s1 x x1 r1 e1 rx q1 => tE_bind r1 e1 q1 fun k s2 y x2 r2 e2 ry q2 => ?_
  unfold ixD at q2
  split at q2
  · rename_i z hz
    obtain ⟨a, ov, rfl, h1, h2, h3⟩ := getR_ok r2 (rx.ext x2) ry hz
    obtain ⟨w, rfl, rw'⟩ := h3.some
    exact ⟨a, w, rfl, h2, fin r2 q2 rw'⟩
  · exact q2.elim
def inD (ng : Bool) : Dt → Dt → Mm Dt := fun x y h => match getR h y x with
  | some z => .ok (.bl (if ng then !z.isSome else z.isSome)) h
  | _ => .no
theorem mc_din (hu : X.A.units + 1 < cLine) (hi : PE X i (tE X.K E mk)) (ho : PE X o (tE X.K E mo)) : PC X .In i o (tE X.K E (op2 (inD false) mk mo)) := ⟨fun pins s σ H Q I ⟨s1, env, e, r, he, ha⟩ => (pc_din hu hi ho).run pins s σ H Q I (by
  subst e
  refine tE_bind r he ha fun d s1 x x1 r1 e1 rx q1 => tE_bind r1 e1 q1 fun k s2 y x2 r2 e2 ry q2 => ?_
  unfold inD at q2
  split at q2
  · rename_i z hz
    obtain ⟨a, ov, rfl, h1, h2, h3⟩ := getR_ok r2 ry (rx.ext x2) hz
    refine ⟨a, ov, rfl, h2, ?_⟩
    cases z with
    | none => have h3 := h3.none; subst h3; exact fin r2 q2 rfl
    | some z => obtain ⟨w, h3, _⟩ := h3.some; subst h3; exact fin r2 q2 rfl
  · exact q2.elim)⟩
theorem mc_dnotin (hu : X.A.units + 1 < cLine) (hi : PE X i (tE X.K E mk)) (ho : PE X o (tE X.K E mo)) : PC X .NotIn i o (tE X.K E (op2 (inD true) mk mo)) := ⟨fun pins s σ H Q I ⟨s1, env, e, r, he, ha⟩ => (pc_dnotin hu hi ho).run pins s σ H Q I (by
  subst e
  refine tE_bind r he ha fun d s1 x x1 r1 e1 rx q1 => tE_bind r1 e1 q1 fun k s2 y x2 r2 e2 ry q2 => ?_
  unfold inD at q2
  split at q2
  · rename_i z hz
    obtain ⟨a, ov, rfl, h1, h2, h3⟩ := getR_ok r2 ry (rx.ext x2) hz
    refine ⟨a, ov, rfl, h2, ?_⟩
    cases z with
    | none => have h3 := h3.none; subst h3; exact fin r2 q2 rfl
    | some z => obtain ⟨w, h3, _⟩ := h3.some; subst h3; exact fin r2 q2 rfl
  · exact q2.elim)⟩
theorem me_pc {op : CmpOp} {m : En → Mm Dt} (h : PC X op a b (tE X.K E m)) (h1 : behindInMarks op b = false := by first | exact nobehind _ (by decide) (by decide) | rfl) : PE X (.Compare a [op] [b] pos) (tE X.K E m) := pe_cmp h h1
theorem mt_pc {op : CmpOp} {m : En → Mm Dt} (h : PC X op a b (tE X.K E m)) (h1 : behindInMarks op b = false := by first | exact nobehind _ (by decide) (by decide) | rfl) : PT X (.Compare a [op] [b] pos) (tT X.K E (tst m)) := pt_mono (pt_cmp h h1) fun σ H Q ⟨s, env, e, r, he, ha⟩ => by
  subst e
  refine tE_bind r he ha fun d s1 x x1 r1 e1 rx q => ?_
  cases d with
  | bl k =>
    cases rx
    exact ⟨k, rfl, q.ret r1⟩
  | _ => exact q.elim
/-- d.get(k, x) -/
def get2 (mo mk mx : En → Mm Dt) : En → Mm Dt := fun env => mo env >>= fun d => (fun h => if (dkR h d).isSome || (dtR h d).isSome then .ok () h else .no) >>= fun _ => mk env >>= fun k => mx env >>= fun x => fun h => match getR h d k with
  | some (some z) => .ok z h
  | some none => .ok x h
  | none => .no
theorem isD_ok (r : HRel K s) (rv : Rep K s d v) (h : ((dkR s.h d).isSome || (dtR s.h d).isSome) = true) : ∃ a, v = .ref a ∧ IsD s.H a := by
  rw [Bool.or_eq_true] at h
  rcases h with h | h
  · obtain ⟨kv, e⟩ := Option.isSome_iff_exists.mp h
    obtain ⟨a, ws, rfl, h1, _⟩ := dkR_ok (ks := kv.1) (ds := kv.2) r rv e
    exact ⟨a, rfl, .inl ⟨_, h1⟩⟩
  · obtain ⟨kv, e⟩ := Option.isSome_iff_exists.mp h
    obtain ⟨a, ws, rfl, h1, _⟩ := dtR_ok (ks := kv.1) (ds := kv.2) r rv e
    exact ⟨a, rfl, .inr ⟨_, h1⟩⟩
theorem me_dget2 {apos cpos : Pos} (hu : X.A.units + 1 < cLine) (h : PE X (.Call (.Attribute o "get" apos) [e, f] [] cpos) (tDGet2 (tE X.K E mo) (tE X.K E mk) (tE X.K E mx))) : PE X (.Call (.Attribute o "get" apos) [e, f] [] cpos) (tE X.K E (get2 mo mk mx)) := pe_mono h fun σ H Q ⟨s, env, e, r, he, ha⟩ => by
  subst e
  refine tE_bind r he ha fun d s1 x x1 r1 e1 rx q1 => ?_
  have q2 := q1.bind
  by_cases hk : ((dkR s1.h d).isSome || (dtR s1.h d).isSome) = true
  · simp only [hk, if_true] at q2
    have q3 := After.ret (a := ()) r1 q2
    obtain ⟨a, rfl, hd⟩ := isD_ok r1 rx hk
    refine ⟨a, rfl, hd, tE_bind r1 e1 q3 fun k s2 y x2 r2 e2 ry q4 => tE_bind r2 e2 q4 fun z s3 w x3 r3 e3 rw' q5 => ?_⟩
    split at q5
    · rename_i z' hz
      obtain ⟨a', ov, e4, h1, h2, h3⟩ := getR_ok r3 ((rx.ext x2).ext x3) (ry.ext x3) hz
      obtain ⟨u, rfl, ru⟩ := h3.some
      cases e4
      exact ⟨_, h2, fin r3 q5 ru⟩
    · rename_i hz
      obtain ⟨a', ov, e4, h1, h2, h3⟩ := getR_ok r3 ((rx.ext x2).ext x3) (ry.ext x3) hz
      cases e4
      have h3 := h3.none
      subst h3
      exact ⟨_, h2, fin r3 q5 rw'⟩
    · exact q5.elim
  · simp only [hk] at q2
    exact q2.elim
/-! ### writing -/
def setD : Dt → Dt → Dt → Mm Unit := fun o k y h => match o with
  | .obj n => match h[n]? with
    | some (.dk ks vs) => match keyD k with
      | some kk => if vs.length < sizeLine then .ok () (h.set n (.dk (putG ks vs kk y).1 (putG ks vs kk y).2)) else .no
      | none => .no
    | some (.dt ks vs) => match keyT k with
      | some kk => if vs.length < sizeLine then .ok () (h.set n (.dt (putG ks vs kk y).1 (putG ks vs kk y).2)) else .no
      | none => .no
    | _ => .no
  | _ => .no
theorem st_dict (hu : X.A.units + 1 < cLine) : PSet X (stM X.K E setD) := fun pins s σ H o i v ov iv u Q I ro ri rv ⟨s1, d, e, f, eH, r, rx, re, rf, ha⟩ => by
  subst eH
  refine set_dict hu pins s σ _ o i v ov iv u Q I ro ri rv ?_
  unfold setD at ha
  split at ha
  · rename_i n
    obtain ⟨a, ea, rfl⟩ := rx
    split at ha
    · rename_i ks vs q
      split at ha
      · rename_i kk hk
        split at ha
        · rename_i hl
          obtain ⟨ws, h1, h2, h3⟩ := r.ob n a _ ea q
          obtain ⟨us, p1, p2, p3⟩ := put_ok (k := kk) h2 h3 rf
          have x := put_ext (u := .dK ((putG ks vs kk f).1.zip us)) (o' := .dk (putG ks vs kk f).1 (putG ks vs kk f).2) r ea q (by intro z; cases z)
          have r' := put_rel (u := .dK ((putG ks vs kk f).1.zip us)) (o' := .dk (putG ks vs kk f).1 (putG ks vs kk f).2) r ea q (by intro z; cases z) ⟨us, upd_same, p2, p3.ext x⟩
          refine ⟨a, _, rfl, .inl ⟨_, kk, h1, keyD_ok re hk, ?_, by rw [p1]; rfl⟩, ha.now _ rfl x r'⟩
          rw [List.length_zip, h2, Nat.min_self, h3.length]; exact hl
        · exact ha.elim
      · exact ha.elim
    · rename_i ks vs q
      split at ha
      · rename_i kk hk
        split at ha
        · rename_i hl
          obtain ⟨ws, h1, h2, h3⟩ := r.ob n a _ ea q
          obtain ⟨us, p1, p2, p3⟩ := put_ok (k := kk) h2 h3 rf
          have x := put_ext (u := .dT ((putG ks vs kk f).1.zip us)) (o' := .dt (putG ks vs kk f).1 (putG ks vs kk f).2) r ea q (by intro z; cases z)
          have r' := put_rel (u := .dT ((putG ks vs kk f).1.zip us)) (o' := .dt (putG ks vs kk f).1 (putG ks vs kk f).2) r ea q (by intro z; cases z) ⟨us, upd_same, p2, p3.ext x⟩
          cases e with
          | tup ds =>
            obtain ⟨b, bs, rfl, kb, rs⟩ := re
            refine ⟨a, _, rfl, .inr ⟨_, kk, b, h1, rfl, ?_, ?_, by rw [p1]; rfl⟩, ha.now _ rfl x r'⟩
            · rw [← keysD_ok rs hk]; exact kb.1
            · rw [List.length_zip, h2, Nat.min_self, h3.length]; exact hl
          | _ => cases hk
        · exact ha.elim
      · exact ha.elim
    · exact ha.elim
  · exact ha.elim
/-! ### {} -/
def dnewV : En → Mm Dt := fun _ => Mm.pure (.dk [] [])
theorem me_dnewV : PE X (.Dict [] [] pos) (tE X.K E dnewV) := pe_mono pe_dnewK fun σ H Q ⟨s, env, e, r, he, ha⟩ => by
  subst e
  intro p hp
  exact ha.now (s.new p (.dK [])) rfl (new_ext r hp) (new_rel r hp) _ ⟨p, [], rfl, new_fx r hp, rfl, rfl⟩
theorem me_dnewK : PE X (.Dict [] [] pos) (tE X.K E (fun _ => mkO (.dk [] []))) := pe_mono pe_dnewK fun σ H Q ⟨s, env, e, r, he, ha⟩ => by
  subst e
  intro p hp
  obtain ⟨_, x, rp, kq⟩ := mkO_ok (u := .dK []) (o := .dk [] []) r hp ⟨[], upd_same, rfl, rfl⟩ ha
  exact kq _ rp
theorem me_dnewT : PE X (.Dict [] [] pos) (tE X.K E (fun _ => mkO (.dt [] []))) := pe_mono pe_dnewT fun σ H Q ⟨s, env, e, r, he, ha⟩ => by
  subst e
  intro p hp
  obtain ⟨_, x, rp, kq⟩ := mkO_ok (u := .dT []) (o := .dt [] []) r hp ⟨[], upd_same, rfl, rfl⟩ ha
  exact kq _ rp
end
end Mo
set_option Elab.async false
set_option linter.all false
set_option maxRecDepth 100000
set_option maxHeartbeats 4000000
/-! MoC: defs under no repr guard: their promise, their calls, the law's end; repr. -/
namespace Mo
open PySem L2 PySem.Spec PyProof.Rows
structure FnG (P : Program) (w : World) (K : PySem.W.Frag) (mg : Str → Option Value) (base : Heap) (k : Nat) (f : Addr) (fd : FuncData) (ps : List Str) (fm : List Dt → Mm Dt) : Prop where
  run : ∀ (A : Around) (outer : List Env) (s : Shared) (H : Hp) (args : Args) (us : List Value) (vs : List V) (Q : VK), A.guards = some [] → Room k A → Env0 P w K mg base A outer s H → BindsTo s fd args (ps.zip us) → Vals vs us → spM K ps.length fm vs H Q E0 →
    codeAny (model P w) A (.call (.ref f) args) (CR CX0 outer P w H s Q E0) s
theorem spM_len {K : PySem.W.Frag} {n : Nat} {fm : List Dt → Mm Dt} {vs : List V} {H : Hp} {Q : VK} {E : XK} (h : spM K n fm vs H Q E) : vs.length = n := by
  obtain ⟨s, ds, _, hl, _, rv, _⟩ := h
  rw [rv.length, hl]
theorem FnG.mono {P : Program} {w : World} {K : PySem.W.Frag} {mg : Str → Option Value} {base : Heap} {k j : Nat} {f : Addr} {fd : FuncData} {ps : List Str} {fm : List Dt → Mm Dt} (F : FnG P w K mg base k f fd ps fm) (h : k ≤ j) : FnG P w K mg base j f fd ps fm :=
  ⟨fun A outer s H args us vs Q hg hr => F.run A outer s H args us vs Q hg (hr.mono h)⟩
/-- a def by its body -/
def CdV (K : PySem.W.Frag) (f : Addr) (cdv : Value) (q : Str) : Prop := ∃ oc od fd osl, K.lookup f = some ⟨oc, od, .func fd, osl⟩ ∧ fd.code = cdv ∧ PySem.W.codeIn K cdv q = true
theorem fnGc {P : Program} {w : World} {K : PySem.W.Frag} {mg : Str → Option Value} {base : Heap} {x qual : Str} {params : Arguments} {body : List Stmt} {scope : Scope} {dvs : List V} {kws : List (Str × V)} {f : Addr} {fd : FuncData} {N ps : List Str} {k : Nat} {ms : En → Mm Fl}
    (F : FunD K x qual params body scope dvs kws f fd) (S : FnScope N ps scope)
    (hbody : ∀ (cdv : Value) (A : Around) (outer : List Env) (s : Shared) (H : Hp) (E : XK), CdV K f cdv qual → A.guards = some [] → Room k (A.deeper (envOfC qual scope s.heap.objs.size f cdv)) → PSs (cxOf CX0 P w K mg base N qual scope f cdv A outer s H E).nox body (tS K E0 ms)) :
    FnG P w K mg base (k + 1) f fd ps (fnM N.length ms) := by
  obtain ⟨oc, od, dV, kV, doc, pm, an, cdv, ct, osl, rfl, lk, hcd, _, _⟩ := F.ex
  refine ⟨fun A outer s H args us vs Q hgd hr e0 hb r hsp => ?_⟩
  have hl := spM_len hsp
  have KX : K.In s.heap := e0.mod.kin.keeps fun b o e => (e0.bs b o e).1
  have lim : s.heap.NoLimit := e0.mod.nolimit.keeps fun b o e => (e0.bs b o e).1
  refine codeAny_call_function hr.depth (KX _ _ lk) rfl S.co S.gen rfl (PySem.W.codeRec_of KX hcd) (hb _ _ _ _ ?_)
  refine wpAny_newFunctionEnv_cells S.kind (fun ⟨n, v⟩ hy => ?_) fun env he s1 x => ?_
  · rcases S.par n (List.of_mem_zip hy).1 with q | q
    · exact .inl q
    · exact .inr ⟨q, PySem.W.cellsFrom_some _ _ _ (.inl q)⟩
  subst he
  refine ⟨lim.keeps x.toInCall.keep, codeAny_func ?_⟩
  have ht := PSs.nox (hbody cdv A outer s H E0 ⟨_, _, _, _, lk, rfl, hcd⟩ hgd (hr.deeper _))
  have I : Inv (cxOf CX0 P w K mg base N qual scope f cdv A outer s H E0) [] (L2.start N vs) H s1 := inv_start S hr.hd e0 hl r x
  have hq : tS K E0 ms { nx := fun _ H' => Q .non H', rt := Q } (L2.start N vs) H := by
    obtain ⟨s2, ds, rfl, hl2, r2, rv, ha⟩ := hsp
    refine tS_bind r2 (envs_start rv) ha fun fl s3 x3 r3 q => ?_
    cases fl with
    | nx e => exact fun σ' he' => q.ret r3 _ rfl
    | rt d => exact fun v rv => q.ret r3 v rv
    | bk e => exact q.elim
    | ct e => exact q.elim
  refine wpAny_mono (ht.run [] s1 (L2.start N vs) H _ I hq) (fun fl s' hs => ?_) fun e s' hs => hs
  cases fl with
  | ret u =>
    obtain ⟨v, σ', H', J, rv, q⟩ := hs
    exact ⟨v, H', J.os, J.bare, J.base, J.hok, rv, q⟩
  | next =>
    obtain ⟨σ', H', J, q⟩ := hs
    exact ⟨V.non, H', J.os, J.bare, J.base, J.hok, rfl, q⟩
  | brk => obtain ⟨_, _, _, q⟩ := hs; exact q.elim
  | cont => obtain ⟨_, _, _, q⟩ := hs; exact q.elim
theorem fnG {P : Program} {w : World} {K : PySem.W.Frag} {mg : Str → Option Value} {base : Heap} {x qual : Str} {params : Arguments} {body : List Stmt} {scope : Scope} {dvs : List V} {kws : List (Str × V)} {f : Addr} {fd : FuncData} {N ps : List Str} {k : Nat} {ms : En → Mm Fl}
    (F : FunD K x qual params body scope dvs kws f fd) (S : FnScope N ps scope)
    (hbody : ∀ (cdv : Value) (A : Around) (outer : List Env) (s : Shared) (H : Hp) (E : XK), A.guards = some [] → Room k (A.deeper (envOfC qual scope s.heap.objs.size f cdv)) → PSs (cxOf CX0 P w K mg base N qual scope f cdv A outer s H E).nox body (tS K E0 ms)) :
    FnG P w K mg base (k + 1) f fd ps (fnM N.length ms) := fnGc F S fun cdv A outer s H E _ => hbody cdv A outer s H E
section
variable {X : Cx} {k : Nat} {f : Addr} {fd : FuncData} {ps ks : List Str} {fm : List Dt → Mm Dt} {x : Str} {p pos kpos : Pos} {e : Expr} {es : List Expr} {mr mk : En → Mm (List Dt)}
theorem run_G {pins : List (Addr × Obj)} {σ : L2.St} {H : Hp} {s : Shared} {Q : VK} {us : List Value} {kw : List (Str × Value)} {ws : List Value} {vs : List V} (F : FnG X.prog X.w X.K X.mg X.base k f fd ps fm) (hgd : X.A.guards = some []) (hr : Room k X.A)
    (hb : BindsTo s fd ⟨us, kw⟩ (ps.zip ws)) (I : Inv X pins σ H s) (r : Vals vs ws) (h : spM X.K ps.length fm vs H Q E0) : wpAny (model X.prog X.w) X.A (call (.ref f) us kw) (EP X pins σ Q) X.xe s := by
  refine wpAny_call (codeAny_mono (F.run X.A X.stack s H ⟨us, kw⟩ ws vs Q hgd hr I.env0 hb r h) fun r s' hq => ?_)
  cases r with
  | error e => exact False.elim hq
  | ok fl =>
    cases fl with
    | ret u => exact I.after hq
    | next => exact False.elim hq
    | brk => exact False.elim hq
    | cont => exact False.elim hq
/-- f(e, ..) -/
theorem me_callG (F : FnG X.prog X.w X.K X.mg X.base k f fd ps fm) (hgd : X.A.guards = some []) (hr : Room k X.A) (hg : Gl X x) (hm : X.mg x = some (.ref f)) (hk : PySem.W.keepIn X.K (.ref f) = true) (hb : Binds X.K fd ps [])
    (ha : PA X (e :: es) (tA X.K E0 mr)) (hdb : (x == ("__debug__" : Str)) = false := by decide) (he : starEach (e :: es) X.env = (false, eval e X.env) :: starEach es X.env := by rfl) (hpl : (backTo pos (starEach es X.env)).any (·.1) = false := by rfl) :
    PE X (.Call (.Name x p) (e :: es) [] pos) (tE X.K E0 (callM ps.length fm mr)) := by
  refine ⟨fun pins s σ H Q I h => ?_⟩
  refine wpAny_Call_Name_kw (ld_glob I hg hm ?_ hdb)
  have h2 : tA X.K E0 mr σ H fun vs H1 => spM X.K ps.length fm vs H1 Q E0 := by
    obtain ⟨s1, env, rfl, r, he, ha⟩ := h
    refine tA_bind r he ha fun ds s2 vs x2 r2 e2 rv q => ?_
    split at q
    · rename_i hl
      exact ⟨s2, ds, rfl, hl, r2, rv, q⟩
    · exact q.elim
  refine PySem.W.callWith_K (h₀ := X.base) I.ok.mod.kin hk (thn (ha.run pos pins s σ H _ I h2) fun us s1 ⟨vs, H1, I1, r, q⟩ => ⟨I1.kIn, ?_⟩) he hpl
  refine run_G F hgd hr ?_ I1 r q
  have := hb s1 us I1.kIn (by rw [List.append_nil, ← r.length]; exact spM_len q)
  rw [List.append_nil] at this
  exact this
theorem me_callG0 (F : FnG X.prog X.w X.K X.mg X.base k f fd [] fm) (hgd : X.A.guards = some []) (hr : Room k X.A) (hg : Gl X x) (hm : X.mg x = some (.ref f)) (hk : PySem.W.keepIn X.K (.ref f) = true) (hb : Binds X.K fd [] [])
    (hdb : (x == ("__debug__" : Str)) = false := by decide) : PE X (.Call (.Name x p) [] [] pos) (tE X.K E0 (fun _ => fm [])) := by
  refine ⟨fun pins s σ H Q I h => ?_⟩
  refine wpAny_Call_Name_kw (ld_glob I hg hm ?_ hdb)
  have h2 : spM X.K 0 fm [] H Q E0 := by
    obtain ⟨s1, env, rfl, r, he, ha⟩ := h
    exact ⟨s1, [], rfl, rfl, r, rfl, ha⟩
  exact PySem.W.callWith_K0 I.kIn hk (run_G (us := []) (ws := []) (ps := []) F hgd hr (hb s [] I.kIn rfl) I .nil h2)
/-- keywords alone: f(a = .., b = ..), all parameters given; perm puts them in order -/
def kwN : En → Mm (List Dt) := fun _ => Mm.pure []
theorem mk_nil : PK X [] (tA X.K E0 argN) := ⟨fun pos pins s σ H Q I ⟨s1, env, e, r, he, ha⟩ => by
  subst e
  exact pk_nil.run pos pins s σ _ Q I (ha.ret r [] rfl)⟩
theorem mk_cons {ma : En → Mm Dt} {nm : Option Str} {kws : List Keyword} (ha : PE X e (tE X.K E0 ma)) (hr : PK X kws (tA X.K E0 mr)) : PK X (⟨nm, e, kpos⟩ :: kws) (tA X.K E0 (argC ma mr)) := ⟨fun pos pins s σ H Q I ⟨s1, env, e, r, he, q⟩ => by
  subst e
  refine (pk_cons ha hr).run pos pins s σ _ Q I ?_
  exact tE_bind r he q fun d s1 v x1 r1 e1 rv q => tA_bind r1 e1 q fun ds s2 vs x2 r2 e2 rvs q2 => q2.ret r2 _ (Reps.cons (rv.ext x2) rvs)⟩
def permL {α : Type} (pm : List Nat) (xs : List α) : List α := pm.filterMap fun i => xs[i]?
theorem perm_vals (pm : List Nat) {vs : List V} {us : List Value} (r : Vals vs us) : Vals (permL pm vs) (permL pm us) := by
  unfold permL
  induction pm with
  | nil => exact .nil
  | cons i pm ih =>
    simp only [List.filterMap_cons]
    cases q : vs[i]? with
    | none =>
      rw [r.none_of q]
      exact ih
    | some v =>
      obtain ⟨u, e, rv⟩ := r.get q
      rw [e]
      exact .cons rv ih
theorem perm_reps {K : PySem.W.Frag} {s : Sx} (pm : List Nat) {ds : List Dt} {vs : List V} (r : Reps K s ds vs) : Reps K s (permL pm ds) (permL pm vs) := by
  unfold permL
  induction pm with
  | nil => exact rfl
  | cons i pm ih =>
    simp only [List.filterMap_cons]
    cases q : ds[i]? with
    | none =>
      have : vs[i]? = none := List.getElem?_eq_none (by rw [r.length]; exact List.getElem?_eq_none_iff.mp q)
      rw [this]
      exact ih
    | some d =>
      obtain ⟨u, e, rv⟩ := r.get q
      rw [e]
      exact Reps.cons rv ih
def callK (n : Nat) (pm : List Nat) (fm : List Dt → Mm Dt) (mr : En → Mm (List Dt)) : En → Mm Dt := fun env => mr env >>= fun ds => if ds.length = n ∧ (permL pm ds).length = n then fm (permL pm ds) else Mm.no
theorem me_callGK {pm : List Nat} {kws : List Keyword} (F : FnG X.prog X.w X.K X.mg X.base k f fd ps fm) (hgd : X.A.guards = some []) (hr : Room k X.A) (hg : Gl X x) (hm : X.mg x = some (.ref f)) (hk : PySem.W.keepIn X.K (.ref f) = true)
    (hb : ∀ (s : Shared) (ws : List Value), ws.length = ps.length → BindsTo s fd ⟨[], ks.zip ws⟩ (ps.zip (permL pm ws)))
    (hkw : PK X kws (tA X.K E0 mr)) (hall : (backToKw pos (keywordEach kws X.env)).all (·.1.isSome) = true := by rfl) (hks : (backToKw pos (keywordEach kws X.env)).filterMap (·.1) = ks := by rfl)
    (hdb : (x == ("__debug__" : Str)) = false := by decide) (hpl : ((backTo pos (starEach [] X.env)).any (·.1) || (backToKw pos (keywordEach kws X.env)).any (·.1.isNone)) = false := by rfl) :
    PE X (.Call (.Name x p) [] kws pos) (tE X.K E0 (callK ps.length pm fm mr)) := by
  refine ⟨fun pins s σ H Q I h => ?_⟩
  refine wpAny_Call_Name_kw (ld_glob I hg hm ?_ hdb)
  have h2 : tA X.K E0 mr σ H fun vs H1 => vs.length = ps.length ∧ spM X.K ps.length fm (permL pm vs) H1 Q E0 := by
    obtain ⟨s1, env, rfl, r, he, ha⟩ := h
    refine tA_bind r he ha fun ds s2 vs x2 r2 e2 rv q => ?_
    split at q
    · rename_i hl
      exact ⟨by rw [rv.length]; exact hl.1, s2, permL pm ds, rfl, hl.2, r2, perm_reps pm rv, q⟩
    · exact q.elim
  refine PySem.W.callWith_KW0 (h₀ := X.base) I.ok.mod.kin hk hall (thn (hkw.run pos pins s σ H _ I h2) fun ws s2 ⟨zs, H2, I2, rz, hl, q2⟩ => ⟨I2.kIn, ?_⟩) hpl
  rw [hks]
  exact run_G (us := []) F hgd hr (hb s2 ws (by rw [← rz.length]; exact hl)) I2 (perm_vals pm rz) q2
end
/-! ### repr -/
def showOk (p : PyData) : Bool := p.showable && !p.hasDict && decide (p.depth ≤ 60) && decide (p.shown.length ≤ sizeLine)
def bRepr : List Dt → Mm Dt := fun ds h => match ds with
  | [d] => match toPH h d with
    | some (.list ps) => if showOk (.list ps) then .ok (.str (PyData.shown (.list ps))) h else .no
    | some (.tuple ps) => if showOk (.tuple ps) then .ok (.str (PyData.shown (.tuple ps))) h else .no
    | _ => .no
  | _ => .no
section
variable {X : Cx} {E : XK}
theorem repr_run {pins : List (Addr × Obj)} {s : Shared} {σ : L2.St} {H : Hp} {a : Addr} {d : PyData} {Q : VK} (hgd : X.A.guards = some []) (hu : X.A.units + 64 < cLine) (I : Inv X pins σ H s) (hd : Dp X.K H (.ref a) d) (hs : showOk d = true) (q : Q (.str d.shown) H) :
    wpAny (model X.prog X.w) X.A (call (.builtin "repr") [.ref a]) (EP X pins σ Q) X.xe s := by
  unfold showOk at hs
  simp only [Bool.and_eq_true, decide_eq_true_eq, Bool.not_eq_true'] at hs
  obtain ⟨⟨⟨h1, h2⟩, h3⟩, h4⟩ := hs
  obtain ⟨as, rd⟩ := Dp.reads I d (.ref a) (.ref a) hd rfl
  refine repr_of_reads' rd h1 (PyData.noDict_hsm h2) hgd (by omega) (fun _ _ e => e) (fun h' u tk hk => ?_) h4
  exact ⟨.str d.shown, H, I.kept hk, ⟨u, rfl⟩, q⟩
theorem b_repr (hgd : X.A.guards = some []) (hu : X.A.units + 64 < cLine) : CallR X (.builtin "repr") (cM X.K E bRepr) := fun pins s σ H xs us Q I rx ⟨s1, ds, eH, r, rs, ha⟩ => by
  subst eH
  unfold bRepr at ha
  split at ha
  · obtain ⟨v, rfl, rv⟩ := rs.one
    split at ha
    · rename_i ps hp
      split at ha
      · rename_i hs
        have hd := toPH_ok r rv hp
        cases hd with
        | lst sq al =>
          obtain ⟨u, rfl, ru⟩ := L2.vals1 rx
          cases ru
          exact repr_run hgd hu I (.lst sq al) hs (fin r ha rfl)
      · exact ha.elim
    · rename_i ps hp
      split at ha
      · rename_i hs
        have hd := toPH_ok r rv hp
        cases hd with
        | tup sq al =>
          obtain ⟨u, rfl, ru⟩ := L2.vals1 rx
          cases ru
          exact repr_run hgd hu I (.tup sq al) hs (fin r ha rfl)
      · exact ha.elim
    · exact ha.elim
  · exact ha.elim
end
/-! ### the law's end -/
/-- a lambda's maker: its code object, its table -/
abbrev lamC (K : PySem.W.Frag) (n : Str) : Addr := (He.cT K (n, none)).1
abbrev lamP (K : PySem.W.Frag) (n : Str) : Addr := (He.cT K (n, none)).2
structure LamAt (K : PySem.W.Frag) (h : Heap) : Prop where
  hd : ∀ n ∈ lamDefs, PySem.W.codeHdIn K (lamC K n) (lamP K n) = true
  out : ∀ n ∈ lamDefs, K.lookup (lamP K n) = none
  empty : ∀ n ∈ lamDefs, h.get? (lamP K n) = some { cls := .none, data := .fields #[] }
theorem law_G {P : Program} {w : World} {K : PySem.W.Frag} {mg mb : Str → Option Value} {k : Nat} {fa a : Addr} {fd : FuncData} {x : Str} {fm : List Dt → Mm Dt} {s₁ : Shared} {vs : List Value} {ns : List Int}
    (KX : K.In s₁.heap) (hns : s₁.heap.Ns mainGlobals mg) (hb : s₁.heap.Ns builtinsNs mb) (hbb : ∀ x : Str, x ≠ "__name__" → mb x = bootBuiltins x) (hlim : s₁.heap.NoLimit) (hg : s₁.gens = #[]) (L : LamAt K s₁.heap)
    (hbm : ∃ (bm : Addr) (ob : Obj), mg "__builtins__" = some (.ref bm) ∧ bm ≠ builtinsNs ∧ s₁.heap.get? bm = some ob ∧ ob.cls = .type "module" ∧ ob.dict = some builtinsNs ∧ ob.data = .plain)
    (ha : s₁.heap.get? a = some { cls := .type "list", data := .seq vs.toArray }) (hi : IntsAre vs ns) (hl : ns.length ≤ sizeLine) (hr : Room k callerA)
    (F : ∀ base : Heap, K.In base → base.Ns mainGlobals mg → (∀ n ∈ lamDefs, LamX.TabB base mg (lamC K n) (lamP K n)) → FnG P w K mg base k fa fd [x] fm) (hbind : ∀ (s : Shared) (u : Value), BindsTo s fd ⟨[u], []⟩ [(x, u)])
    (hfm : ∃ h', fm [.wl (ns.map Dt.int)] [] = .ok (.bl true) h') :
    codeAny (model P w) callerA (.call (.ref fa) ⟨[.ref a], []⟩) (fun r s' => r = .ok (.ret (.bool true)) ∧ OldK s₁.heap s'.heap ∧ s'.os = s₁.os ∧ AllBare s'.gens) s₁ := by
  have key : ∀ (base : Heap) (H : Hp), K.In base → base.Ns mainGlobals mg → (∀ n ∈ lamDefs, LamX.TabB base mg (lamC K n) (lamP K n)) → Env0 P w K mg base callerA [] s₁ H → (∀ n ∈ lamDefs, H (lamP K n) = some (.tbl #[])) → SqL K H a (ns.map V.int) →
      codeAny (model P w) callerA (.call (.ref fa) ⟨[.ref a], []⟩) (CR CX0 [] P w H s₁ (fun v _ => v = .bl true) E0) s₁ := by
    intro base H kb nb tb e0 hT hS
    refine (F base kb nb tb).run callerA [] s₁ H ⟨[.ref a], []⟩ [.ref a] [.ref a] _ rfl hr e0 (hbind s₁ (.ref a)) (.cons rfl .nil) ?_
    obtain ⟨h', hh⟩ := hfm
    have r0 : HRel K ⟨[], [], H⟩ := ⟨rfl, List.nodup_nil, fun i b o e => by simp at e, fun p hp => by
      obtain ⟨n, hn, rfl⟩ := List.mem_map.mp hp
      exact LamX.TabS.nil (hT n hn)⟩
    refine ⟨⟨[], [], H⟩, [.wl (ns.map Dt.int)], rfl, rfl, r0, Reps.cons ⟨a, ns.map V.int, rfl, ?_, reps_ints ns⟩ Reps.nil, ?_⟩
    · rcases hS with hS | hS
      · exact .inl ⟨hS, fun ⟨i, o, e, _⟩ => by simp at e⟩
      · exact .inr (.inr hS)
    · show After K E0 ⟨[], [], H⟩ (fm [.wl (ns.map Dt.int)] []) _
      rw [hh]
      intro s' e1 x1 r1 v rv
      exact rv
  have rv := vals_ints hi
  have lenV := hi.length
  have C : ∀ n ∈ lamDefs, PySem.W.CodeHd s₁.heap (lamC K n) (lamP K n) := fun n hn => PySem.W.codeHd_of_K KX (L.hd n hn)
  -- the heap without what is tracked is the base
  have core : ∀ H : Hp, (∀ n ∈ lamDefs, H (lamP K n) = some (.tbl #[])) → SqL K H a (ns.map V.int) → HOk P w H s₁.heap →
      (∀ b u, H b = some u → (b = a ∧ K.lookup a = none ∧ ∃ o xs, u = .frz o (.lst xs)) ∨ ∃ n ∈ lamDefs, b = lamP K n) →
      codeAny (model P w) callerA (.call (.ref fa) ⟨[.ref a], []⟩) (fun r s' => r = .ok (.ret (.bool true)) ∧ OldK s₁.heap s'.heap ∧ s'.os = s₁.os ∧ AllBare s'.gens) s₁ := by
    intro H hT hS hok hA
    have none_of : ∀ {b : Addr} {o : Obj}, s₁.heap.get? b = some o → (∀ vs n, o.data ≠ .seq vs n) → o.data ≠ .fields #[] → H b = none := fun {b o} e h1 h2 => by
      cases q : H b with
      | none => rfl
      | some u =>
        rcases hA b u q with ⟨z, _, _⟩ | ⟨n, hn, z⟩
        · rw [z, ha] at e; cases e
          exact (h1 _ _ rfl).elim
        · rw [z, L.empty n hn] at e; cases e
          exact (h2 rfl).elim
    have nsK : ∀ {b : Addr} {m : Str → Option Value}, s₁.heap.Ns b m → (hidT s₁.heap H).Ns b m := fun {b m} ⟨o, es, ep, e, d, r⟩ => ⟨o, es, ep, hidT_get e (none_of e (fun vs n z => by rw [d] at z; cases z) fun z => by rw [d] at z; cases z), d, r⟩
    have kb : K.In (hidT s₁.heap H) := fun b o e => hidT_get (KX b o e) (by
      cases q : H b with
      | none => rfl
      | some u =>
        rcases hA b u q with ⟨z, zk, _⟩ | ⟨n, hn, z⟩
        · rw [z, zk] at e; cases e
        · rw [z, L.out n hn] at e; cases e)
    have tb : ∀ n ∈ lamDefs, LamX.TabB (hidT s₁.heap H) mg (lamC K n) (lamP K n) := fun n hn => by
      refine ⟨PySem.W.codeHd_of_K kb (L.hd n hn), ?_, fun z => ?_⟩
      · obtain ⟨bm, ob, b1, b2, b3, b4, b5, b6⟩ := hbm
        refine ⟨bm, ob, b1, b2, fun q => ?_, fun q => ?_, hidT_get b3 (none_of b3 (fun vs n z => by rw [b6] at z; cases z) fun z => by rw [b6] at z; cases z), b4, b5, b6⟩
        · obtain ⟨o, es, ep, e, hd, _⟩ := hns
          rw [q, e] at b3; cases b3
          rw [hd] at b6; cases b6
        · rw [q, L.empty n hn] at b3; cases b3
          cases b6
      · obtain ⟨o, es, ep, e, hd, _⟩ := hns
        rw [z, L.empty n hn] at e; cases e
        cases hd
    have e0 : Env0 P w K mg (hidT s₁.heap H) callerA [] s₁ H := ⟨rfl, ⟨kb, nsK hns, ⟨mb, nsK hb, hbb⟩, let ⟨mc, h1, h2⟩ := hlim; ⟨mc, nsK h1, h2⟩⟩, fun b o e => of_hidT e, Nat.le_of_eq (hidT_size _ _), trivial,
      fun b hb => absurd (show b ∈ ([] : List Addr) from hb) (by simp), hok, .of_eq hg⟩
    refine codeAny_mono (key _ H kb (nsK hns) tb e0 hT hS) fun r s' h => ?_
    match r, h with
    | .error e, h => exact False.elim h
    | .ok .next, h => exact False.elim h
    | .ok .brk, h => exact False.elim h
    | .ok .cont, h => exact False.elim h
    | .ok (.ret u), ⟨v, H', os, bare, un, hok', r', q⟩ =>
      have q' : v = .bl true := q
      subst q'
      obtain rfl : u = Value.bool true := r'
      have keep : ∀ b o, (∀ n ∈ lamDefs, b ≠ lamP K n) → s₁.heap.get? b = some o → s'.heap.get? b = some o := fun b o nb e => by
        cases q : H b with
        | none => exact un.keep b o e q (by intro z; exact absurd (show b ∈ ([] : List Addr) from z) (by simp)) (by simp)
        | some u =>
          rcases hA b u q with ⟨_, _, ob, xs, rfl⟩ | ⟨n, hn, z⟩
          · obtain ⟨e1, _⟩ := hok b _ q
            obtain ⟨e2, _⟩ := hok' b _ (un.frzs b ob _ q)
            rw [e] at e1; cases e1
            exact e2
          · exact (nb n hn z).elim
      have grown : ∀ n ∈ lamDefs, ∃ more : Array Value, s'.heap.get? (lamP K n) = some { cls := .none, data := .fields more } := fun n hn => by
        obtain ⟨more, z⟩ := un.tbls _ #[] (hT n hn)
        exact ⟨_, hok' _ _ z⟩
      refine ⟨rfl, ⟨fun b o e => ?_, fun b o e => ?_⟩, os, bare⟩
      · by_cases hb : ∃ n ∈ lamDefs, b = lamP K n
        · obtain ⟨n, hn, rfl⟩ := hb
          obtain ⟨more, hm⟩ := grown n hn
          rw [L.empty n hn] at e
          cases e
          exact .inr (.inl ⟨((C n hn).tab (L.empty n hn)).isCodeTable, rfl, #[], more, rfl, by rw [Array.empty_append]; exact hm⟩)
        · exact .inl (keep b o (fun n hn z => hb ⟨n, hn, z⟩) e)
      · by_cases hb : ∃ n ∈ lamDefs, b = lamP K n
        · obtain ⟨n, hn, rfl⟩ := hb
          obtain ⟨more, hm⟩ := grown n hn
          exact ⟨_, hm⟩
        · exact ⟨o, keep b o (fun n hn z => hb ⟨n, hn, z⟩) e⟩
  have aT : ∀ n ∈ lamDefs, lamP K n ≠ a := fun n hn z => by
    have q := L.empty n hn
    rw [z, ha] at q
    cases q
  cases hk : K.lookup a with
  | some o =>
    have e := KX a o hk
    rw [ha] at e
    cases e
    refine core (fun b => if b ∈ lamDefs.map (lamP K) then some (.tbl #[]) else none) (fun n hn => if_pos (List.mem_map.mpr ⟨n, hn, rfl⟩)) (.inr ⟨_, vs.toArray, _, hk, rfl, rfl, rfl, by rw [List.size_toArray, lenV]; exact hl, by simpa using rv⟩) (fun b u z => ?_) (fun b u z => ?_)
    · try dsimp only at z
      split at z
      · rename_i hm
        obtain ⟨n, hn, rfl⟩ := List.mem_map.mp hm
        cases z
        exact L.empty n hn
      · cases z
    · try dsimp only at z
      split at z
      · rename_i hm
        obtain ⟨n, hn, rfl⟩ := List.mem_map.mp hm
        exact .inr ⟨n, hn, rfl⟩
      · cases z
  | none =>
    refine core (fun b => if b = a then some (.frz { cls := .type "list", data := .seq vs.toArray } (.lst (ns.map V.int))) else if b ∈ lamDefs.map (lamP K) then some (.tbl #[]) else none)
      (fun n hn => (if_neg (aT n hn)).trans (if_pos (List.mem_map.mpr ⟨n, hn, rfl⟩))) (.inl (.inr ⟨{ cls := .type "list", data := .seq vs.toArray }, if_pos rfl⟩)) (fun b u z => ?_) (fun b u z => ?_)
    · try dsimp only at z
      split at z
      · rename_i hb; subst hb
        cases z
        exact ⟨ha, by rw [List.length_map]; exact hl, vs, _, rv, ha⟩
      · split at z
        · rename_i hm
          obtain ⟨n, hn, rfl⟩ := List.mem_map.mp hm
          cases z
          exact L.empty n hn
        · cases z
    · try dsimp only at z
      split at z
      · rename_i hb
        cases z
        exact .inl ⟨hb, hk, _, _, rfl⟩
      · split at z
        · rename_i hm
          obtain ⟨n, hn, rfl⟩ := List.mem_map.mp hm
          exact .inr ⟨n, hn, rfl⟩
        · cases z
theorem walk_G {l : PySem.W.OpenLaw} {n k : Nat} {q : Program} {loose : List Str} {XP : (Str → Option Value) → Heap → Prop} {YP : World → Heap → Prop} {d : DefRec} {x : Str}
    (hn : l.most = some n) (hn2 : n ≤ sizeLine) (hdf : d.params.defaults = []) (hr : Room k callerA)
    (F : ∀ (w : World) (mg : Str → Option Value) (fa : Addr) (h : Heap), YP w h → h.Ns mainGlobals mg → mg d.name = some (.ref fa) →
      ∃ (K : PySem.W.Frag) (fd : FuncData) (fm : List Dt → Mm Dt), K.In h ∧ LamAt K h ∧ (∀ (s : Shared) (u : Value), BindsTo s fd ⟨[u], []⟩ [(x, u)]) ∧
        (∀ ns : List Int, ns.length ≤ n → ∃ h', fm [.wl (ns.map Dt.int)] [] = .ok (.bl true) h') ∧
        ∀ base : Heap, K.In base → base.Ns mainGlobals mg → (∀ n ∈ lamDefs, LamX.TabB base mg (lamC K n) (lamP K n)) → FnG l.prog w K mg base k fa fd [x] fm) :
    PySem.W.WalkO q loose XP YP l.row.toRowW d [] (fun f vs => PySem.call f vs) := by
  refine Att.attach_call hn hdf fun w s₀ s₁ mg mb fa o pm cd doc a vs ns G Y ho hd hcd hmg hobj hints hlen hg => ?_
  obtain ⟨K, fd, fm, KX, L, hb, hfm, hF⟩ := F w mg fa _ Y G.T.g hmg
  exact law_G KX G.T.g G.T.b G.T.builtins G.T.nolimit hg L G.T.bmain hobj hints (Nat.le_trans hlen hn2) hr hF hb (hfm ns hlen)
end Mo
set_option Elab.async false
set_option linter.all false
set_option maxRecDepth 100000
set_option maxHeartbeats 4000000
/-! MoB: dict displays, walks over dicts. -/
namespace Mo
open PySem L2 PySem.Spec PyProof.Rows
section
variable {X : Cx} {E : XK} {K : PySem.W.Frag} {s s0 : Sx} {d : Dt} {v : V} {xs ds : List Dt} {e a b c f o i tg : Expr} {pos p : Pos} {es : List Expr}
variable {ma mb mc mo mk mx : En → Mm Dt} {mr : En → Mm (List Dt)}
/-! ### {k: v, ..} -/
def pairsM : List ((En → Mm Dt) × (En → Mm Dt)) → En → Mm (List (Dt × Dt))
  | [], _ => Mm.pure []
  | p :: r, env => p.1 env >>= fun x => p.2 env >>= fun y => pairsM r env >>= fun ps => Mm.pure ((x, y) :: ps)
def tP2 (K : PySem.W.Frag) (E : XK) (p : (En → Mm Dt) × (En → Mm Dt)) : TE × TE := (tE K E p.1, tE K E p.2)
theorem mps_nil : PPs X pos [] [] (([] : List ((En → Mm Dt) × (En → Mm Dt))).map (tP2 X.K E)) := pps_nil
theorem mps_cons {k v : Expr} {ks : List (Option Expr)} {vs : List Expr} {l : List ((En → Mm Dt) × (En → Mm Dt))} (hk : PE X k (tE X.K E mk)) (hv : PE X v (tE X.K E mx)) (hr : PPs X pos ks vs (l.map (tP2 X.K E))) : PPs X pos (some k :: ks) (v :: vs) (((mk, mx) :: l).map (tP2 X.K E)) := pps_cons hk hv hr
theorem pairs_ok {env : En} {σ : L2.St} {β : Type} {k : β → Sx → Prop} : ∀ {l : List ((En → Mm Dt) × (En → Mm Dt))} {s : Sx} {fm : List (Dt × Dt) → Mm β} {Q : List (V × V) → Hp → Prop}, HRel K s → Envs K s env σ → After K E s ((pairsM l env >>= fm) s.h) k →
    (∀ ps vps s1, Ext s s1 → HRel K s1 → Reps K s1 (ps.map (·.1)) (vps.map (·.1)) → Reps K s1 (ps.map (·.2)) (vps.map (·.2)) → After K E s1 (fm ps s1.h) k → Q vps s1.H) → tPairs (l.map (tP2 K E)) σ s.H Q
  | [], s, fm, Q, r, he, ha, h => h [] [] s (Ext.refl s) r rfl rfl (ha.bind.ret r)
  | p :: l, s, fm, Q, r, he, ha, h => by
    have as : ∀ h, (pairsM (p :: l) env >>= fm) h = (p.1 env >>= fun x => p.2 env >>= fun y => pairsM l env >>= fun ps => fm ((x, y) :: ps)) h := by
      intro h
      show Mm.bind (Mm.bind (p.1 env) _) _ h = Mm.bind (p.1 env) _ h
      simp only [Mm.bind]
      cases p.1 env h with
      | ok x h1 =>
        show Mm.bind (Mm.bind (p.2 env) _) _ h1 = Mm.bind (p.2 env) _ h1
        simp only [Mm.bind]
        cases p.2 env h1 with
        | ok y h2 =>
          show Mm.bind (Mm.bind (pairsM l env) _) _ h2 = Mm.bind (pairsM l env) _ h2
          simp only [Mm.bind]
          cases pairsM l env h2 <;> rfl
        | exn _ _ => rfl
        | no => rfl
      | exn _ _ => rfl
      | no => rfl
    rw [as] at ha
    refine tE_bind r he ha fun dx s1 x x1 r1 e1 rx q1 => tE_bind r1 e1 q1 fun dy s2 y x2 r2 e2 ry q2 => ?_
    refine pairs_ok r2 e2 q2 fun ps vps s3 x3 r3 h1 h2 q3 => ?_
    exact h ((dx, dy) :: ps) ((x, y) :: vps) s3 ((x1.trans x2).trans x3) r3 (Reps.cons ((rx.ext x2).ext x3) h1) (Reps.cons (ry.ext x3) h2) q3
def finD (n : Nat) (ps : List (Dt × Dt)) : Mm Dt := fun h => match h[n]? with
  | some (.dk [] []) => match keysD (ps.map (·.1)) with
    | some ks => if ks.Nodup ∧ ps.length ≤ 15 then .ok (.dk ks (ps.map (·.2))) (h.set n .dead) else .no
    | none => .no
  | _ => .no
def dispM (l : List ((En → Mm Dt) × (En → Mm Dt))) : En → Mm Dt := fun env => newO (.dk [] []) >>= fun n => pairsM l env >>= fun ps => finD n ps
theorem merge_nd : ∀ (more acc : List (Key × V)), ((acc ++ more).map (·.1)).Nodup → mergeK acc more = acc ++ more
  | [], acc, _ => by simp [mergeK]
  | p :: r, acc, h => by
    have hv : valV acc p.1 = none := by
      unfold valV
      rw [Option.map_eq_none_iff, List.find?_eq_none]
      intro q hq
      have h2 : (acc.map (·.1) ++ (p :: r).map (·.1)).Nodup := by simpa using h
      have := (List.nodup_append.mp h2).2.2 q.1 (List.mem_map_of_mem hq) p.1 (by simp)
      simpa using this
    show mergeK (putK acc p.1 p.2) r = _
    rw [putK_new _ hv, merge_nd r (acc ++ [(p.1, p.2)]) (by simpa using h)]
    simp
theorem zip_back : ∀ {ks : List Key} {vps : List (V × V)}, vps.map (·.1) = ks.map kV → vps = (ks.zip (vps.map (·.2))).map (fun kv => (kV kv.1, kv.2))
  | [], vps, h => by
    have : vps = [] := by simpa using h
    subst this; rfl
  | k :: ks, [], h => by simp at h
  | k :: ks, (x, y) :: vps, h => by
    simp only [List.map_cons, List.cons.injEq] at h
    simp only [List.map_cons, List.zip_cons_cons, h.1]
    rw [← zip_back h.2]
theorem zip_fst {α β : Type} : ∀ {ks : List α} {vs : List β}, ks.length = vs.length → (ks.zip vs).map (·.1) = ks
  | [], _, _ => by simp
  | _ :: _, [], h => by simp at h
  | k :: ks, v :: vs, h => by simp [zip_fst (ks := ks) (vs := vs) (by simpa using h)]
theorem me_disp {keys : List (Option Expr)} {values : List Expr} {l : List ((En → Mm Dt) × (En → Mm Dt))} (h : PPs X pos keys values (l.map (tP2 X.K E))) (hall : keys.all (·.isSome) = true) (hl : keys.length = values.length) (h0 : keys ≠ [])
    (h15 : keys.length ≤ 15) : PE X (.Dict keys values pos) (tE X.K E (dispM l)) := pe_mono (pe_disp h hall hl h0 h15) fun σ H Q ⟨s, env, e, r, he, ha⟩ => by
  subst e
  intro p hp
  have x1 := add_ext (u := .dK []) (o := .dk [] []) r hp
  have r1 := add_rel (u := .dK []) (o := .dk [] []) r hp ⟨[], upd_same, rfl, rfl⟩
  have q1 := ha.bind.now (s.add p (.dK []) (.dk [] [])) rfl x1 r1
  have ep : (s.add p (.dK []) (.dk [] [])).ρ[s.h.length]? = some p := add_at r
  refine pairs_ok r1 (he.ext x1) q1 fun ps vps s2 x2 r2 rk rv q2 => ?_
  have ep2 := x2.pre _ _ ep
  unfold finD at q2
  split at q2
  · rename_i hn
    split at q2
    · rename_i ks hk
      split at q2
      · rename_i hc
        obtain ⟨ws, w1, w2, w3⟩ := r2.ob _ p _ ep2 hn
        have hks := keysD_ok rk hk
        have lk : ks.length = vps.length := by
          have := congrArg List.length hks
          simpa using this.symm
        have lp : vps.length = ps.length := by
          have := rk.length
          simpa using this
        refine ⟨by rw [w1, List.zip_nil_left], ks.zip (vps.map (·.2)), ?_, ?_, ?_⟩
        · exact zip_back hks
        · rw [List.length_zip, List.length_map, lk, Nat.min_self, lp]; exact hc.2
        · rw [merge_nd _ [] (by rw [List.nil_append, zip_fst (by simp [lk])]; exact hc.1), List.nil_append]
          have rv' : Reps X.K s2 (ps.map (·.2)) (vps.map (·.2)) := rv
          have xa := put_ext (u := .dK (ks.zip (vps.map (·.2)))) (o' := .dk ks (ps.map (·.2))) r2 ep2 hn (by intro z; cases z)
          have ra := put_rel (u := .dK (ks.zip (vps.map (·.2)))) (o' := .dk ks (ps.map (·.2))) r2 ep2 hn (by intro z; cases z) ⟨_, upd_same, by simp [lk], rv'.ext xa⟩
          have xb := die_ext ra s.h.length
          have rb := die_rel ra s.h.length
          have fx : Fx ((s2.put s.h.length p (.dK (ks.zip (vps.map (·.2)))) (.dk ks (ps.map (·.2)))).die s.h.length) p (.dK (ks.zip (vps.map (·.2)))) := die_fx ra ep2 upd_same
          refine q2.now ((s2.put s.h.length p (.dK (ks.zip (vps.map (·.2)))) (.dk ks (ps.map (·.2)))).die s.h.length) ?_ (xa.trans xb) rb _ ⟨p, _, rfl, fx, by simp [lk], (rv'.ext xa).ext xb⟩
          show (s2.h.set s.h.length _).set s.h.length .dead = s2.h.set s.h.length .dead
          rw [List.set_set]
      · exact q2.elim
    · exact q2.elim
  · exact q2.elim
/-! ### a dict that is walked is locked for good -/
def tLk (K : PySem.W.Frag) (E : XK) (m : En → Mm Dt) : TE := fun σ H Q => tE K E m σ H fun x H1 => ∃ (a : Addr) (u : HO), x = .ref a ∧ ((H1 a = some u ∧ ((∃ kvs, u = .dK kvs) ∨ ∃ kvs, u = .dT kvs) ∧ ∀ od, Q x (upd H1 a (.frz od u))) ∨ ((∃ od, H1 a = some (.frz od u)) ∧ Q x H1))
theorem pe_lk (h : PE X e (tE X.K E ma)) : PE X e (tLk X.K E ma) := by
  refine ⟨fun pins s σ H Q I hw => thn (h.run pins s σ H _ I hw) fun v s1 ⟨x, H1, I1, r1, a, u, ex, hh⟩ => ?_⟩
  subst ex
  rcases hh with ⟨h1, h2, h3⟩ | ⟨_, h3⟩
  · have mu : Mut (some u) := by
      rcases h2 with ⟨kvs, rfl⟩ | ⟨kvs, rfl⟩ <;> exact True.intro
    obtain ⟨od, I2⟩ := I1.lock h1 mu
    exact ⟨.ref a, _, I2, r1, h3 od⟩
  · exact ⟨.ref a, H1, I1, r1, h3⟩
/-- what is walked of a dict: k its keys and values -/
def dkF : Dt → Mm (List Key × List Dt) := fun d h => match d with
  | .dk ks vs => .ok (ks, vs) h
  | .obj i => match h[i]? with
    | some (.dk ks vs) => .ok (ks, vs) (h.set i .dead)
    | _ => .no
  | _ => .no
def dtF : Dt → Mm (List (List Key) × List Dt) := fun d h => match d with
  | .dt ks vs => .ok (ks, vs) h
  | .obj i => match h[i]? with
    | some (.dt ks vs) => .ok (ks, vs) (h.set i .dead)
    | _ => .no
  | _ => .no
theorem dkF_ok {k : List Key × List Dt → Sx → Prop} (r : HRel K s) (rv : Rep K s d v) (h : After K E s (dkF d s.h) k) : ∃ a ks ds ws s', v = .ref a ∧ s'.H = s.H ∧ Ext s s' ∧ HRel K s' ∧ Fx s' a (.dK (ks.zip ws)) ∧ ks.length = ws.length ∧ Reps K s' ds ws ∧ After K E s' (.ok (ks, ds) s'.h) k := by
  unfold dkF at h
  split at h
  · rename_i ks vs
    obtain ⟨a, ws, rfl, q, hl, rs⟩ := rv
    exact ⟨a, ks, vs, ws, s, rfl, rfl, Ext.refl s, r, q, hl, rs, h⟩
  · rename_i i
    split at h
    · rename_i ks vs q
      obtain ⟨a, ea, rfl⟩ := rv
      obtain ⟨ws, h1, h2, h3⟩ := r.ob i a _ ea q
      have x := die_ext r i
      exact ⟨a, ks, vs, ws, s.die i, rfl, rfl, x, die_rel r i, die_fx r ea h1, h2, h3.ext x, After.ext x h⟩
    · exact h.elim
  · exact h.elim
theorem dtF_ok {k : List (List Key) × List Dt → Sx → Prop} (r : HRel K s) (rv : Rep K s d v) (h : After K E s (dtF d s.h) k) : ∃ a ks ds ws s', v = .ref a ∧ s'.H = s.H ∧ Ext s s' ∧ HRel K s' ∧ Fx s' a (.dT (ks.zip ws)) ∧ ks.length = ws.length ∧ Reps K s' ds ws ∧ After K E s' (.ok (ks, ds) s'.h) k := by
  unfold dtF at h
  split at h
  · rename_i ks vs
    obtain ⟨a, ws, rfl, q, hl, rs⟩ := rv
    exact ⟨a, ks, vs, ws, s, rfl, rfl, Ext.refl s, r, q, hl, rs, h⟩
  · rename_i i
    split at h
    · rename_i ks vs q
      obtain ⟨a, ea, rfl⟩ := rv
      obtain ⟨ws, h1, h2, h3⟩ := r.ob i a _ ea q
      have x := die_ext r i
      exact ⟨a, ks, vs, ws, s.die i, rfl, rfl, x, die_rel r i, die_fx r ea h1, h2, h3.ext x, After.ext x h⟩
    · exact h.elim
  · exact h.elim
/-- the lock, then R of a walk of the locked dict -/
theorem locked {u : HO} {a : Addr} {R : V → Hp → Prop} (r : HRel K s) (hd : (∃ kvs, u = .dK kvs) ∨ ∃ kvs, u = .dT kvs) (fx : Fx s a u) (h : ∀ od s', s'.h = s.h → Ext s s' → HRel K s' → s'.H a = some (.frz od u) → ¬ s'.mut a → R (.ref a) s'.H) :
    ∃ (b : Addr) (u' : HO), V.ref a = .ref b ∧ ((s.H b = some u' ∧ ((∃ kvs, u' = .dK kvs) ∨ ∃ kvs, u' = .dT kvs) ∧ ∀ od, R (.ref a) (upd s.H b (.frz od u'))) ∨ ((∃ od, s.H b = some (.frz od u')) ∧ R (.ref a) s.H)) := by
  obtain ⟨q | ⟨od, q⟩, nm⟩ := fx
  · refine ⟨a, u, rfl, .inl ⟨q, hd, fun od => ?_⟩⟩
    exact h od (s.new a (.frz od u)) rfl (lock_ext q hd) (lock_rel r q nm hd) upd_same nm
  · exact ⟨a, u, rfl, .inr ⟨⟨od, q⟩, h od s rfl (Ext.refl s) r q nm⟩⟩
def kD : Key → Dt
  | .inl i => .int i
  | .inr x => .str x
theorem kD_ok (k : Key) : Rep K s (kD k) (kV k) := by
  cases k <;> rfl
theorem zip_get {α β : Type} {ks : List α} {vs : List β} {i : Nat} {k : α} {v : β} (h : (ks.zip vs)[i]? = some (k, v)) : ks[i]? = some k ∧ vs[i]? = some v := by
  rw [List.getElem?_zip_eq_some] at h
  exact h
theorem zip_len {α β : Type} {ks : List α} {vs : List β} (h : ks.length = vs.length) : (ks.zip vs).length = ks.length := by
  rw [List.length_zip, h, Nat.min_self]
/-! for k in d -/
def itK (ma : En → Mm Dt) : En → Mm (List Dt) := fun env => ma env >>= fun d => dkF d >>= fun kv => Mm.pure (kv.1.map kD)
theorem mi_keys (h : PE X e (tE X.K E ma)) : PI X tg e (tI X.K E (itK ma)) := pi_mono (pi_keys (pe_lk h)) fun σ H R ⟨s, env, e, r, he, ha⟩ => by
  subst e
  unfold iKeys tLk
  refine tE_bind r he ha fun d s1 v x1 r1 e1 rv q => ?_
  obtain ⟨a, ks, ds, ws, s2, rfl, eH, x2, r2, fx, hl, rs, k⟩ := dkF_ok r1 rv q.bind
  rw [← eH]
  refine locked (R := fun x H1 => ∃ d o, x = V.ref d ∧ ((∃ kvs, H1 d = some (HO.frz o (HO.dK kvs)) ∧ R (Itk d o kvs) H1) ∨ ∃ kvs, H1 d = some (HO.frz o (HO.dT kvs)) ∧ R (Itkt d o kvs) H1)) r2 (.inl ⟨_, rfl⟩) fx fun od s3 eh x3 r3 hf nm => ⟨a, od, rfl, .inl ⟨_, hf, ?_⟩⟩
  refine (k.now s3 eh x3 r3).ret r3 _ (itRep_of (walk_keys (d := a) (o := od) (kvs := ks.zip ws)) (by rw [List.length_map, zip_len hl]) fun s4 x4 r4 => ⟨(x4.keep ⟨hf, nm⟩ rfl).1, fun i dd y H' ed ⟨e1, kk, vv, e2, e3⟩ => ?_⟩)
  rw [List.getElem?_map, (zip_get e2).1] at ed
  cases ed
  subst e3
  exact same_end r4 e1 (kD_ok kk)
/-! for k, v in d.items() -/
def itI (ma : En → Mm Dt) : En → Mm (List Dt) := fun env => ma env >>= fun d => dkF d >>= fun kv => Mm.pure (List.zipWith (fun k v => .tup [kD k, v]) kv.1 kv.2)
theorem mi_items {elts : List Expr} {kk : Nat} {tpos apos cpos : Pos} (h : PE X e (tE X.K E ma)) (hbase : attributeBase e "items" X.env (eval e X.env) = eval e X.env := by rfl) (hline : (apos.endLine == cpos.line) = true := by rfl) :
    PI X (.Tuple elts kk tpos) (.Call (.Attribute e "items" apos) [] [] cpos) (tI X.K E (itI ma)) := pi_mono (pi_items (pe_lk h) hbase hline) fun σ H R ⟨s, env, e, r, he, ha⟩ => by
  subst e
  unfold iItems tLk
  refine tE_bind r he ha fun d s1 v x1 r1 e1 rv q => ?_
  obtain ⟨a, ks, ds, ws, s2, rfl, eH, x2, r2, fx, hl, rs, k⟩ := dkF_ok r1 rv q.bind
  rw [← eH]
  refine locked (R := fun x H1 => ∃ d o kvs, x = V.ref d ∧ H1 d = some (HO.frz o (HO.dK kvs)) ∧ R (Iti d o kvs) H1) r2 (.inl ⟨_, rfl⟩) fx fun od s3 eh x3 r3 hf nm => ⟨a, od, _, rfl, hf, ?_⟩
  have hl2 : ks.length = ds.length := by rw [hl, rs.length]
  refine (k.now s3 eh x3 r3).ret r3 _ (itRep_of (walk_items (d := a) (o := od) (kvs := ks.zip ws)) (by rw [List.length_zipWith, zip_len hl, ← hl2, Nat.min_self]) fun s4 x4 r4 => ⟨(x4.keep ⟨hf, nm⟩ rfl).1, fun i dd y H' ed ⟨T, x1, y1, e1, e2, e3, e4, e5⟩ => ?_⟩)
  rw [List.getElem?_zipWith] at ed
  have e4 : ((ks.zip ws)[i]?).map (fun kv => kV kv.1) = some x1 := e4
  have e5 : ((ks.zip ws)[i]?).map Prod.snd = some y1 := e5
  cases qz : (ks.zip ws)[i]? with
  | none => rw [qz] at e4; cases e4
  | some kv =>
    obtain ⟨kk, vv⟩ := kv
    rw [qz] at e4 e5
    cases e4; cases e5
    obtain ⟨z1, z2⟩ := zip_get qz
    obtain ⟨d2, z3, rd⟩ := ((rs.ext x3).ext x4).getV z2
    rw [z1, z3] at ed
    cases ed
    subst e1
    exact pair_end r4 e2 e3 (kD_ok kk) rd
/-! for v in d.values(), keys ints and texts -/
def itV (ma : En → Mm Dt) : En → Mm (List Dt) := fun env => ma env >>= fun d => dkF d >>= fun kv => Mm.pure kv.2
theorem mi_values {apos cpos : Pos} (h : PE X e (tE X.K E ma)) (hbase : attributeBase e "values" X.env (eval e X.env) = eval e X.env := by rfl) (hline : (apos.endLine == cpos.line) = true := by rfl) :
    PI X tg (.Call (.Attribute e "values" apos) [] [] cpos) (tI X.K E (itV ma)) := pi_mono (pi_values (pe_lk h) hbase hline) fun σ H R ⟨s, env, e, r, he, ha⟩ => by
  subst e
  unfold iVals tLk
  refine tE_bind r he ha fun d s1 v x1 r1 e1 rv q => ?_
  obtain ⟨a, ks, ds, ws, s2, rfl, eH, x2, r2, fx, hl, rs, k⟩ := dkF_ok r1 rv q.bind
  rw [← eH]
  refine locked (R := fun x H1 => ∃ d o kvs, x = V.ref d ∧ H1 d = some (HO.frz o (HO.dK kvs)) ∧ R (Itd d o kvs) H1) r2 (.inl ⟨_, rfl⟩) fx fun od s3 eh x3 r3 hf nm => ⟨a, od, _, rfl, hf, ?_⟩
  refine (k.now s3 eh x3 r3).ret r3 _ (itRep_of (walk_values (d := a) (o := od) (kvs := ks.zip ws)) (by rw [zip_len hl, hl, rs.length]) fun s4 x4 r4 => ⟨(x4.keep ⟨hf, nm⟩ rfl).1, fun i dd y H' ed ⟨e1, kk, e2⟩ => ?_⟩)
  obtain ⟨w, z3, rd⟩ := ((rs.ext x3).ext x4).get ed
  have z4 := (zip_get e2).2
  rw [z3] at z4; cases z4
  exact same_end r4 e1 rd
end
end Mo
set_option Elab.async false
set_option linter.all false
set_option maxRecDepth 100000
set_option maxHeartbeats 4000000
/-! MoD: walks over the values of a dict with tuple keys, setdefault there. -/
namespace Mo
open PySem L2 PySem.Spec PyProof.Rows
section
variable {prog : Program} {w : World} {A : Around} {E : Value → Shared → Prop} {s : Shared} {it d v : Addr} {i n ep : Nat} {od : Obj} {es : Array DictEntry}
/-- a view of values begins its walk, whatever the keys are -/
theorem viter {Q : Value → Shared → Prop} (hv : s.heap.IsValuesView v d) (ho : s.heap.get? d = some od) (hD : od.data = .dict es ep)
    (k : Q (.ref s.heap.objs.size) { s with heap := s.heap.push { cls := .type "dict_valueiterator", data := .fields #[.ref d, .int 0 0, .int es.size 0, .int ep 0] } }) : wpAny (model prog w) A (pyIter (.ref v)) Q E s := by
  obtain ⟨o1, g1, -, f1⟩ := id hv
  refine wpAny_pyIter_slot hv.typeIs F.slot_dict_values_iter (wpAny_call_entry F.slot_dict_values_iter hv.typeIs F.entry_dict_values_iter ?_ (F.args_dict_values_iter_1 _))
  unfold Builtin.«dict_values.__iter__» Builtin.Dict_items.dictOf Builtin.Dict_items.newIterator
  have no : Builtin.Dict_items.ownsTuple "dict_valueiterator" = false := by decide
  refine wpAny_bind (wpAny_pure (wpAny_bind (wpAny_bind (wpAny_field g1 f1 (x := .ref d) rfl (wpAny_pure (wpAny_bind (wpAny_bind (wpAny_dictEntries ho hD (wpAny_bind (wpAny_dictEpoch ho hD ?_))))))))))
  simp only [no, Bool.false_eq_true, if_false]
  refine wpAny_newObj_type (wpAny_pure ⟨_, rfl, "dict_valueiterator", _, ⟨_, Heap.get?_push_size _ rfl, rfl⟩, F.slot_dict_valueiterator_next.lookup, ?_⟩)
  simpa [rawInt] using k
theorem vnext {en : DictEntry} {Q : Option Value → Shared → Prop} (hi : s.heap.IsValIter it d i n ep) (ho : s.heap.get? d = some od) (hD : od.data = .dict es ep) (hn : es.size = n) (hx : es[i]? = some en)
    (k : ∀ h', h'.IsValIter it d (i + 1) n ep → Heap.SameBut it s.heap h' → Q (some en.val) { s with heap := h' }) : wpAny (model prog w) A (pyNext (.ref it)) Q E s := by
  obtain ⟨o, g1, c1, f1⟩ := id hi
  have no : Builtin.Dict_items.ownsTuple "dict_valueiterator" = false := by decide
  obtain ⟨lt, ev⟩ := Array.getElem?_eq_some_iff.mp hx
  unfold pyNext
  refine wpAny_bind (wpAny_attempt (wpAny_callSpecial?_slot (name := Str.ofString "__next__") hi.typeIs F.slot_dict_valueiterator_next (wpAny_call_entry F.slot_dict_valueiterator_next hi.typeIs F.entry_dict_valueiterator_next ?_ (F.args_dict_valueiterator_next_1 _))))
  refine wpAny_bind (wpAny_pure (wpAny_bind (wpAny_bind (wpAny_bind (wpAny_typeNameOfWhole_valiter hi.typeIs (wpAny_pure (wpAny_bind (wpAny_fieldsOf g1 f1 ?_))))))))
  simp only [no, Bool.false_eq_true, if_false]
  show wpAny _ _ (if (Value.ref d == Value.none) = true then _ else _) _ _ s
  rw [if_neg (show ¬ ((Value.ref d == Value.none) = true) from Bool.false_ne_true)]
  refine wpAny_bind (wpAny_pure (wpAny_bind (wpAny_dictEntries ho hD ?_)))
  rw [if_neg (by rw [hn]; simp)]
  refine wpAny_bind (wpAny_pure (wpAny_bind (wpAny_dictEpoch ho hD ?_)))
  rw [if_neg (by simp)]
  refine wpAny_pure ?_
  simp only [show ¬ ((i : Int) < 0) from by omega, if_false, Int.toNat_natCast, Array.getElem?_eq_getElem lt]
  refine wpAny_bind (wpAny_bind (wpAny_typeNameOfWhole_valiter hi.typeIs (wpAny_pure (wpAny_bind (wpAny_isOneOf_valiter hi.typeIs ?_)))))
  show wpAny _ _ (setField (.ref it) 1 (rawInt ((i : Int) + 1)) >>= _) _ _ s
  refine wpAny_bind (wpAny_setField g1 f1 (by simp) ?_)
  have hi2 : (s.heap.update it (Obj.mapFields (·.setIfInBounds 1 (rawInt ((i : Int) + 1))))).IsValIter it d (i + 1) n ep :=
    ⟨_, Heap.get?_update_self _ g1 (Obj.isFreed_of_fields (Obj.data_mapFields f1 _)), (Obj.cls_mapFields ..).trans c1, by rw [Obj.data_mapFields f1]; simp [rawInt]⟩
  have ty : ({ s with heap := s.heap.update it (Obj.mapFields (·.setIfInBounds 1 (rawInt ((i : Int) + 1)))) } : Shared).TypeIs (.ref it) "dict_valueiterator" := Heap.IsValIter.typeIs (s := { s with heap := s.heap.update it (Obj.mapFields (·.setIfInBounds 1 (rawInt ((i : Int) + 1)))) }) hi2
  refine wpAny_bind (wpAny_holding (wpAny_bind (wpAny_isOneOf_valiter ty ?_)))
  refine wpAny_bind (wpAny_isOneOf_valiter ty ?_)
  show wpAny _ _ (pure es[i].val) _ _ _
  rw [ev]
  exact wpAny_pure (wpAny_pure ⟨_, rfl, wpAny_pure (k _ hi2 (Heap.SameBut.update ..))⟩)
theorem vend {Q : Option Value → Shared → Prop} (hh : A.handled = none) (hi : s.heap.IsValIter it d i n ep) (ho : s.heap.get? d = some od) (hD : od.data = .dict es ep) (hn : es.size = n) (hx : n ≤ i)
    (k : ∀ h', Heap.ExtBut it s.heap h' → Q none { s with heap := h' }) : wpAny (model prog w) A (pyNext (.ref it)) Q E s := by
  obtain ⟨o, g1, c1, f1⟩ := id hi
  have no : Builtin.Dict_items.ownsTuple "dict_valueiterator" = false := by decide
  have ge : es.size ≤ i := by rw [hn]; exact hx
  unfold pyNext
  refine wpAny_bind (wpAny_attempt (wpAny_callSpecial?_slot (name := Str.ofString "__next__") hi.typeIs F.slot_dict_valueiterator_next (wpAny_call_entry F.slot_dict_valueiterator_next hi.typeIs F.entry_dict_valueiterator_next ?_ (F.args_dict_valueiterator_next_1 _))))
  refine wpAny_bind (wpAny_pure (wpAny_bind (wpAny_bind (wpAny_bind (wpAny_typeNameOfWhole_valiter hi.typeIs (wpAny_pure (wpAny_bind (wpAny_fieldsOf g1 f1 ?_))))))))
  simp only [no, Bool.false_eq_true, if_false]
  show wpAny _ _ (if (Value.ref d == Value.none) = true then _ else _) _ _ s
  rw [if_neg (show ¬ ((Value.ref d == Value.none) = true) from Bool.false_ne_true)]
  refine wpAny_bind (wpAny_pure (wpAny_bind (wpAny_dictEntries ho hD ?_)))
  rw [if_neg (by rw [hn]; simp)]
  refine wpAny_bind (wpAny_pure (wpAny_bind (wpAny_dictEpoch ho hD ?_)))
  rw [if_neg (by simp)]
  refine wpAny_pure ?_
  simp only [show ¬ ((i : Int) < 0) from by omega, if_false, Int.toNat_natCast, Array.getElem?_eq_none ge]
  refine wpAny_bind (wpAny_bind (wpAny_typeNameOfWhole_valiter hi.typeIs (wpAny_pure ?_)))
  show wpAny _ _ (setField (.ref it) 0 .none >>= _) _ _ s
  refine wpAny_bind (wpAny_setField g1 f1 (by simp) ?_)
  show wpAny _ _ (newExc (.type "StopIteration") [] >>= _) _ _ _
  refine wpAny_bind ?_
  simp only [newExc, newTuple]
  refine wpAny_bind (wpAny_newObj_type ?_ (by size_fits))
  refine wpAny_bind (m := firstArgMember _ _) (wpAny_of_eq (a := Value.none) (by first | rfl | (simp only [firstArgMember]; rfl)) ?_)
  refine wpAny_newObj_type ?_ (by size_fits)
  simp only [raiseNew]
  refine wpAny_bind (wpAny_handled ?_)
  rw [show A.in1.handled = none from hh]
  refine wpAny_bind (wpAny_pure (wpAny_throw ?_))
  refine wpAny_bind (wpAny_isInstance (T := "StopIteration") (b := true) ⟨_, Heap.get?_push_size _ rfl, rfl⟩ isSubtype_stop ?_)
  exact wpAny_pure (k _ (((Heap.SameBut.update ..).extBut.push _).push _))
end
section
variable {X : Cx} {pins : List (Addr × Obj)} {σ : L2.St} {H : Hp} {s : Shared} {d : Addr} {o : Obj}
theorem frzV {kvs : List (List Key × V)} (I : Inv X pins σ H s) (h : H d = some (.frz o (.dT kvs))) :
    (d == sysModules) = false ∧ s.heap.get? d = some o ∧ o.ExactDict ∧ ∃ (es : Array DictEntry) (ep : Nat), o.data = .dict es ep ∧ es.size = kvs.length ∧
      ∀ (i : Nat) (k : List Key) (v : V), kvs[i]? = some (k, v) → ∃ (en : DictEntry), es[i]? = some en ∧ RelV v en.val := by
  obtain ⟨hd, z, hs, xs, pr, o', es, ep, ho, hx, hdt, he, _⟩ := I.hok d _ h
  rw [hd] at ho
  cases ho
  refine ⟨hs, hd, hx, es, ep, hdt, ?_, fun i k v e => ?_⟩
  · have l1 : es.size = xs.length := size_of_entries he
    have l2 : kvs.length = xs.length := Paired.length pr
    omega
  · obtain ⟨b, hb, e1, e2, e3⟩ := paired_get pr e
    have q := entry_at he i
    rw [hb] at q
    exact ⟨_, q, e3⟩
/-- the values of the locked dict at d, tuple keys -/
def Itdt (d : Addr) (o : Obj) (kvs : List (List Key × V)) : It :=
  ⟨fun i H => H d = some (.frz o (.dT kvs)) ∧ i < kvs.length, fun i H x H' => H' = H ∧ ∃ k, kvs[i]? = some (k, x), fun i H => H d = some (.frz o (.dT kvs)) ∧ kvs.length ≤ i⟩
theorem walk_valuesT {kvs : List (List Key × V)} : Walk (Itdt d o kvs) kvs.length (fun H => H d = some (.frz o (.dT kvs))) (fun i H x H' => H' = H ∧ ∃ k, kvs[i]? = some (k, x)) :=
  ⟨fun _ _ hi q => ⟨q, hi⟩, fun _ q => ⟨q, Nat.le_refl _⟩, fun _ _ _ _ _ _ y => y⟩
theorem turn_valsT {P : Program} {w : World} {K : PySem.W.Frag} {tg : Expr} {es : Array DictEntry} {ep : Nat} {kvs : List (List Key × V)} (it : Addr) (hod : o.data = .dict es ep) : Turn P w K tg (Itdt d o kvs) [it] it (fun i h => h.IsValIter it d i kvs.length ep) where
  mem := by simp
  obj := fun i h st b hb => by
    obtain ⟨oi, e, c, dd⟩ := st
    rw [show b = it by simpa using hb]
    exact ⟨oi, e, fun v z => by rw [dd] at z; cases z⟩
  keep := fun i h h' st k => st.at fun oi e => k it (by simp) oi e
  item := fun {X} hP hw hK hc i pins s σ H E I hf st hg => by
    subst hP hw hK
    obtain ⟨f0, f1, f2, f3, f4, f5⟩ := hf it (by simp)
    obtain ⟨hs, hgd, hx, es', ep', hdt, hsz, ent⟩ := frzV I hg.1
    obtain ⟨rfl, rfl⟩ := dict_ep hod hdt
    obtain ⟨⟨k0, v0⟩, hkv⟩ : ∃ p, kvs[i]? = some p := ⟨_, List.getElem?_eq_getElem hg.2⟩
    obtain ⟨en, hen, ru⟩ := ent i _ _ hkv
    refine vnext st hgd hdt hsz hen fun h' st' sb => ?_
    obtain ⟨oi, e, c, dd⟩ := id st'
    exact ⟨en.val, rfl, go_of (s := { s with heap := h' }) e c dd (by decide) ⟨_, H, I.turned (t' := s.toks) (fun b ob hb e => (sb.2 b hb).trans e) f0 f1 f3 f4 f5, ru, ⟨rfl, _, hkv⟩, st', fun b hb => (hf b hb).1⟩⟩
  done := fun {X} hP hw hK hc i pins s σ H E I hf st hg => by
    subst hP hw hK
    obtain ⟨f0, f1, f2, f3, f4, f5⟩ := hf it (by simp)
    obtain ⟨hs, hgd, hx, es', ep', hdt, hsz, ent⟩ := frzV I hg.1
    obtain ⟨rfl, rfl⟩ := dict_ep hod hdt
    exact vend (I.ok.hd hc) st hgd hdt hsz hg.2 fun h' eb => ⟨rfl, I.turned (t' := s.toks) (fun b ob hb e => eb b ob hb e) f0 f1 f3 f4 f5⟩
  self := fun A i s Q E st h => wpAny_pyIter_valiter st h
def iValsT (td : TE) : TI := fun σ H R => td σ H fun x H1 => ∃ d o kvs, x = .ref d ∧ H1 d = some (.frz o (.dT kvs)) ∧ R (Itdt d o kvs) H1
theorem meets_values (dd : Addr) (hd : (dd == sysModules) = false) {prog : Program} {w : World} :
    MeetsIn prog w (Builtin.«dict.values» ⟨[.ref dd], []⟩) (fun _ R s => s.TypeIs (.ref dd) "dict" ∧
      R (.ok (.ret (.ref s.heap.objs.size))) { s with heap := s.heap.push { cls := .type "dict_values", data := .fields #[.ref dd] } }) :=
  .of_wp fun A R s ⟨ty, h⟩ => by
    refine wpAny_bind ?_
    unfold Builtin.Dict.noArgs
    refine wpAny_bind (wpAny_notOrdered_dict ty ?_)
    show wpAny _ _ (pure dd) _ _ s
    refine wpAny_pure ?_
    show wpAny _ _ (Builtin.Dict.showsAll dd >>= _) _ _ s
    unfold Builtin.Dict.showsAll
    rw [if_neg (by rw [hd]; exact Bool.false_ne_true)]
    exact wpAny_bind (wpAny_pure (wpAny_bind (wpAny_newObj_type (wpAny_pure ⟨_, rfl, h⟩))))
theorem pi_valuesT {tg e : Expr} {td : TE} {apos cpos : Pos} (he : PE X e td) (hbase : attributeBase e "values" X.env (eval e X.env) = eval e X.env := by rfl) (hline : (apos.endLine == cpos.line) = true := by rfl) : PI X tg (.Call (.Attribute e "values" apos) [] [] cpos) (iValsT td) := by
  refine ⟨fun pins s σ H R I h => ?_⟩
  refine wpAny_Call_method (T := "dict") (id := "dict.values") hbase rfl hline F.plainAttrs_dict F.slot_dict_values F.type_dict_values (thn (he.run pins s σ H _ I h) fun u s1 ⟨x, H1, I1, rx, d, o, kvs, ex, hd, q⟩ => ?_)
  subst ex
  obtain rfl : u = Value.ref d := rx
  obtain ⟨hs, hgd, hx, es, ep, hdt, hsz, ent⟩ := frzV I1 hd
  have ty : s1.TypeIs (.ref d) "dict" := ⟨o, hgd, hx.1⟩
  refine ⟨ty, fun b e => by injection e with e; subst e; exact ⟨o, hgd, hx.2.1⟩, ?_⟩
  have I2 : Inv X pins σ H1 { s1 with heap := s1.heap.push { cls := .type "dict_values", data := .fields #[.ref d] } } := I1.kept (t' := s1.toks) fun b ob q => Heap.get?_push_of_some _ q
  have fin : wpAny (model X.prog X.w) X.A (pyIter (.ref s1.heap.objs.size)) (PIE X pins σ tg R) X.xe { s1 with heap := s1.heap.push { cls := .type "dict_values", data := .fields #[.ref d] } } := by
    refine viter (d := d) ⟨_, Heap.get?_push_size _ rfl, rfl, rfl⟩ (Heap.get?_push_of_some _ hgd) hdt (pi_one (tk := s1.toks) I2 _ (turn_valsT _ hdt) ⟨_, Heap.get?_push_size _ rfl, rfl, ?_⟩ q)
    rw [hsz] <;> rfl
  show wpAny _ _ (callWith cpos (.builtin "dict.values") [.ref d] [] []) _ X.xe s1
  exact method_meetsIn F.slot_dict_values F.entry_dict_values rfl (PySem.evalArgs_none ⟨rfl, ty, F.args_dict_values_1 _, _, meets_values d hs, ty, fin⟩)
end
section
variable {X : Cx} {E : XK} {K : PySem.W.Frag} {s s0 : Sx} {d : Dt} {v : V} {xs ds : List Dt} {e a b c f o i tg : Expr} {pos p : Pos} {es : List Expr}
variable {ma mb mc mo mk mx : En → Mm Dt} {mr : En → Mm (List Dt)}
def itVT (ma : En → Mm Dt) : En → Mm (List Dt) := fun env => ma env >>= fun d => dtF d >>= fun kv => Mm.pure kv.2
theorem mi_valuesT {apos cpos : Pos} (h : PE X e (tE X.K E ma)) (hbase : attributeBase e "values" X.env (eval e X.env) = eval e X.env := by rfl) (hline : (apos.endLine == cpos.line) = true := by rfl) :
    PI X tg (.Call (.Attribute e "values" apos) [] [] cpos) (tI X.K E (itVT ma)) := pi_mono (pi_valuesT (pe_lk h) hbase hline) fun σ H R ⟨s, env, e, r, he, ha⟩ => by
  subst e
  unfold iValsT tLk
  refine tE_bind r he ha fun d s1 v x1 r1 e1 rv q => ?_
  obtain ⟨a, ks, ds, ws, s2, rfl, eH, x2, r2, fx, hl, rs, k⟩ := dtF_ok r1 rv q.bind
  rw [← eH]
  refine locked (R := fun x H1 => ∃ d o kvs, x = V.ref d ∧ H1 d = some (HO.frz o (HO.dT kvs)) ∧ R (Itdt d o kvs) H1) r2 (.inr ⟨_, rfl⟩) fx fun od s3 eh x3 r3 hf nm => ⟨a, od, _, rfl, hf, ?_⟩
  refine (k.now s3 eh x3 r3).ret r3 _ (itRep_of (walk_valuesT (d := a) (o := od) (kvs := ks.zip ws)) (by rw [zip_len hl, hl, rs.length]) fun s4 x4 r4 => ⟨(x4.keep ⟨hf, nm⟩ rfl).1, fun i dd y H' ed ⟨e1, kk, e2⟩ => ?_⟩)
  obtain ⟨w, z3, rd⟩ := ((rs.ext x3).ext x4).get ed
  have z4 := (zip_get e2).2
  rw [z3] at z4; cases z4
  exact same_end r4 e1 rd
end
end Mo
set_option Elab.async false
set_option linter.all false
set_option maxRecDepth 100000
set_option maxHeartbeats 4000000
/-! MoE: setdefault, unpacking lists, the module's names and dicts, the hook. -/
namespace Mo
open PySem L2 PySem.Spec PyProof.Rows
/-! ### d.setdefault(k, x), tuple keys -/
section
variable {X : Cx} {pins : List (Addr × Obj)} {σ : L2.St} {H : Hp} {s : Shared} {a b : Addr} {r : Value} {d : V} {k : List Key} {A : Around} {E : Value → Shared → Prop}
theorem setdT {kvs : List (List Key × V)} {Q : Value → Shared → Prop} (hu : A.units + 1 < cLine) (I : Inv X pins σ H s) (e : H a = some (.dT kvs)) (eb : H b = some (.tup (k.map kV))) (rd : RelV d r) (hl : kvs.length < sizeLine)
    (h1 : ∀ v, valV kvs k = some v → ∀ (w' : Value) (s' : Shared), Inv X pins σ H s' → RelV v w' → Q w' s') (h2 : valV kvs k = none → ∀ (w' : Value) (s' : Shared), Inv X pins σ (upd H a (.dT (putK kvs k d))) s' → RelV d w' → Q w' s') :
    wpAny (model X.prog X.w) A (call (.builtin "dict.setdefault") [.ref a, .ref b, r]) Q E s := by
  obtain ⟨z, hd, xs, rel, dd⟩ := dt_of I.hok e
  have hz : xs.length ≤ sizeLine := by rw [← Paired.length rel]; exact z
  have hl2 : (putK kvs k d).length ≤ sizeLine := by have := length_putK kvs k d; omega
  have q := rel.val k
  refine call_meetsIn PySem.F.slot_dict_setdefault dd.typeIs PySem.F.entry_dict_setdefault (PySem.F.args_dict_setdefault_3 _ _ _) (meetsH_dict_setdefault (tupleKind (mixKind X.prog X.w)) a b hd r) ⟨tupleKind_room_in1 hu, k, xs, key_of I.hok eb, dd, hz, fun p hp => ?_, fun hn h' dd' hs => ?_⟩
  · rw [hp] at q
    cases q0 : valV kvs k with
    | none => rw [q0] at q; exact (show False from q).elim
    | some v0 => rw [q0] at q; exact h1 v0 q0 _ _ (I.tok _) q
  · rw [hn] at q
    cases q0 : valV kvs k with
    | some v0 => rw [q0] at q; exact (show False from q).elim
    | none =>
      obtain ⟨o, es, ep, hq, y2, y3, y4, _, y5⟩ := dd'
      refine h2 q0 _ _ (d_write I (by rw [e]; exact True.intro) hs ⟨o, hq⟩ ⟨hl2, hd, _, (rel.put k eb rd).keeps fun c ys ec => ?_, o, es, ep, hq, y2, y3, y4, y5⟩) rd
      rw [upd_ne (ne_of ec e (fun z => nomatch z))]
      exact ec
end
def tSetdT (td ty tx : TE) : TE := fun σ H Q => td σ H fun x H1 => ∃ a, x = .ref a ∧ IsD H1 a ∧ ty σ H1 fun y H2 => tx σ H2 fun z H3 => ∃ (kvs : List (List Key × V)) (k : List Key) (b : Addr), H3 a = some (.dT kvs) ∧ y = .ref b ∧ H3 b = some (.tup (k.map kV)) ∧ kvs.length < sizeLine ∧
  (∀ v, valV kvs k = some v → Q v H3) ∧ (valV kvs k = none → Q z (upd H3 a (.dT (putK kvs k z))))
section
variable {X : Cx} {E : XK} {K : PySem.W.Frag} {s s0 : Sx} {d : Dt} {v : V} {xs ds : List Dt} {e a b c f o i tg : Expr} {pos p p1 apos cpos : Pos} {es : List Expr}
variable {ma mb mc mo mk mx : En → Mm Dt} {mr : En → Mm (List Dt)} {td ty tx : TE}
theorem pe_setdT (hu : X.A.units + 1 < cLine) (ho : PE X o td) (he : PE X e ty) (hf : PE X f tx) (m : M2 X o "setdefault" apos e f cpos) : PE X (.Call (.Attribute o "setdefault" apos) [e, f] [] cpos) (tSetdT td ty tx) := by
  refine ⟨fun pins s σ H Q I h => ?_⟩
  refine wpAny_Call_method m.base m.few m.line PySem.F.plainAttrs_dict PySem.F.slot_dict_setdefault PySem.F.type_dict_setdefault (thn (ho.run pins s σ H _ I h) fun u s1 ⟨x, H1, I1, rx, a, ex, d, q1⟩ => ?_)
  subst ex
  obtain rfl : u = Value.ref a := rx
  obtain ⟨t1, t2, _⟩ := isD_at I1 d
  refine ⟨t1, t2, ?_⟩
  rw [m.trees]
  refine Calls.callWith_builtin rfl (Calls.evalArgs_plain (Calls.spliced_cons (thn (he.run pins s1 σ H1 _ I1 q1) fun iv s2 ⟨y, H2, I2, ry, q2⟩ =>
    Calls.spliced_cons (thn (hf.run pins s2 σ H2 _ I2 q2) fun fv s3 ⟨z, H3, I3, rz, kvs, k, b, ea, ey, eb, hl, q3, q4⟩ => Calls.spliced_nil ?_))))
  subst ey
  cases (show iv = Value.ref b from ry)
  exact setdT hu I3 ea eb rz hl (fun v hv w' s4 I4 rw' => ⟨v, _, I4, rw', q3 v hv⟩) fun hn w' s4 I4 rw' => ⟨z, _, I4, rw', q4 hn⟩
def dtO : Dt → Mm Unit := fun o h => match o with
  | .obj n => match h[n]? with
    | some (.dt _ _) => .ok () h
    | _ => .no
  | _ => .no
def setdR : Dt → Dt → Dt → Mm Dt := fun o k y h => match o with
  | .obj n => match h[n]? with
    | some (.dt ks vs) => match keyT k with
      | some kk => if vs.length < sizeLine then (match valG (ks.zip vs) kk with
        | some z => .ok z h
        | none => .ok y (h.set n (.dt (putG ks vs kk y).1 (putG ks vs kk y).2))) else .no
      | none => .no
    | _ => .no
  | _ => .no
def setdM (mo mk mx : En → Mm Dt) : En → Mm Dt := fun env => mo env >>= fun o => dtO o >>= fun _ => mk env >>= fun k => mx env >>= fun x => setdR o k x
theorem me_setd (hu : X.A.units + 1 < cLine) (h : PE X (.Call (.Attribute o "setdefault" apos) [e, f] [] cpos) (tSetdT (tE X.K E mo) (tE X.K E mk) (tE X.K E mx))) : PE X (.Call (.Attribute o "setdefault" apos) [e, f] [] cpos) (tE X.K E (setdM mo mk mx)) := pe_mono h fun σ H Q ⟨s, env, e, r, he, ha⟩ => by
  subst e
  refine tE_bind r he ha fun d s1 x x1 r1 e1 rx q1 => ?_
  replace q1 := q1.bind
  unfold dtO at q1
  split at q1
  · rename_i n
    split at q1
    · rename_i ks vs hn
      obtain ⟨a, ea, rfl⟩ := rx
      obtain ⟨ws, h1, h2, h3⟩ := r1.ob n a _ ea hn
      refine ⟨a, rfl, .inr ⟨_, .inl h1⟩, tE_bind r1 e1 (q1.ret r1) fun k s2 y x2 r2 e2 ry q2 => tE_bind r2 e2 q2 fun z s3 w x3 r3 e3 rw' q3 => ?_⟩
      have ea3 := x3.pre _ _ (x2.pre _ _ ea)
      unfold setdR at q3
      simp only at q3
      split at q3
      · rename_i ks3 vs3 hn3
        split at q3
        · rename_i kk hk
          split at q3
          · rename_i hl
            obtain ⟨ws3, g1, g2, g3⟩ := r3.ob n a _ ea3 hn3
            have hv := val_ok (k := kk) g2 g3
            have rk := ry.ext x3
            cases k with
            | tup kds =>
              obtain ⟨bb, bs, rfl, kb, rs⟩ := rk
              refine ⟨_, kk, bb, g1, rfl, ?_, ?_, fun v hvv => ?_, fun hvn => ?_⟩
              · rw [← keysD_ok rs hk]; exact kb.1
              · rw [List.length_zip, g2, Nat.min_self, g3.length]; exact hl
              · rw [hvv] at hv
                cases qv : valG (ks3.zip vs3) kk with
                | none => rw [qv] at hv; exact hv.elim
                | some z0 =>
                  rw [qv] at hv q3
                  exact fin r3 q3 hv
              · rw [hvn] at hv
                cases qv : valG (ks3.zip vs3) kk with
                | some z0 => rw [qv] at hv; exact hv.elim
                | none =>
                  rw [qv] at q3
                  obtain ⟨us, p1, p2, p3⟩ := put_ok (k := kk) g2 g3 rw'
                  have x := put_ext (u := .dT ((putG ks3 vs3 kk z).1.zip us)) (o' := .dt (putG ks3 vs3 kk z).1 (putG ks3 vs3 kk z).2) r3 ea3 hn3 (by intro z; cases z)
                  have r' := put_rel (u := .dT ((putG ks3 vs3 kk z).1.zip us)) (o' := .dt (putG ks3 vs3 kk z).1 (putG ks3 vs3 kk z).2) r3 ea3 hn3 (by intro z; cases z) ⟨us, upd_same, p2, p3.ext x⟩
                  rw [show putK (ks3.zip ws3) kk w = _ from p1]
                  exact q3.now _ rfl x r' _ (rw'.ext x)
            | _ => cases hk
          · exact q3.elim
        · exact q3.elim
      · exact q3.elim
    · exact q1.elim
  · exact q1.elim
/-! ### a, b = a list -/
def gL (n : Nat) (gs : List Dt → En → Mm En) : Dt → En → Mm En := fun d env h => match lstR h d with
  | some ds => if ds.length = n then gs ds env h else .no
  | none => .no
theorem mg_unl {k : Nat} {gs : List Dt → En → Mm En} {n : Nat} (hc : X.calm = true) (h : PGs X es (tGs X.K E gs))
    (hn : (assignEach es X.env).length = n := by rfl) (hst : (assignEach es X.env).findIdx? (·.1) = none := by rfl) : PG X (.Tuple es k pos) (tG X.K E (gL n gs)) := pg_mono (pg_unl hc h hn hst) fun v σ H Q ⟨s, env, d, e, r, he, rv, ha⟩ => by
  subst e
  unfold gL at ha
  split at ha
  · rename_i ds hd
    split at ha
    · rename_i hl
      obtain ⟨a, vs, rfl, sq, rs⟩ := lstR_ok r rv hd
      exact ⟨a, vs, rfl, sq, by rw [rs.length]; exact hl, s, env, ds, rfl, r, he, rs, ha⟩
    · exact ha.elim
  · exact ha.elim
/-! ### the module's names -/
theorem me_gint {x : Str} {n : Int} (hg : Gl X x) (hm : ∃ t, X.mg x = some (.int n t)) (hd : (x == ("__debug__" : Str)) = false := by decide) : PE X (.Name x pos) (tE X.K E (con (.int n))) := by
  obtain ⟨t, hm⟩ := hm
  exact me_con (t := tC (.int n)) (pe_glob (v := .int n) hg hm ⟨t, rfl⟩ hd) fun _ => rfl
theorem me_gstr {x z : Str} (hg : Gl X x) (hm : ∃ t, X.mg x = some (.str z t)) (hd : (x == ("__debug__" : Str)) = false := by decide) : PE X (.Name x pos) (tE X.K E (con (.str z))) := by
  obtain ⟨t, hm⟩ := hm
  exact me_con (t := tC (.str z)) (pe_glob (v := .str z) hg hm ⟨t, rfl⟩ hd) fun _ => rfl
/-- a written value, by looking -/
def atomV : Dt → Option V
  | .non => some .non
  | .bl b => some (.bl b)
  | .int i => some (.int i)
  | .str x => some (.str x)
  | _ => none
def atomVs : List Dt → Option (List V)
  | [] => some []
  | d :: ds => match atomV d, atomVs ds with
    | some v, some vs => some (v :: vs)
    | _, _ => none
theorem atomV_ok (h : atomV d = some v) : Rep K s d v := by
  cases d with
  | non => cases h; rfl
  | bl => cases h; rfl
  | int => cases h; rfl
  | str => cases h; rfl
  | _ => cases h
theorem atomVs_ok : ∀ {ds : List Dt} {vs : List V}, atomVs ds = some vs → Reps K s ds vs
  | [], vs, h => by cases h; rfl
  | d :: ds, vs, h => by
    simp only [atomVs] at h
    cases q : atomV d with
    | none => rw [q] at h; simp at h
    | some v =>
      cases q2 : atomVs ds with
      | none => rw [q, q2] at h; simp at h
      | some ws =>
        rw [q, q2] at h; cases h
        exact Reps.cons (atomV_ok q) (atomVs_ok q2)
def seenB (K : PySem.W.Frag) (d : Dt) (u : Value) : Bool := match d with
  | .wt ds => match u, atomVs ds with
    | .ref a, some vs => (match K.lookup a with
      | some ⟨.type c, _, .seq its _, _⟩ => decide (c = "tuple") && (decide (its.size ≤ sizeLine) && He.relAll vs its.toList)
      | _ => false)
    | _, _ => false
  | d => match atomV d with
    | some v => He.relB v u
    | none => false
theorem seenB_ok {u : Value} (h : seenB K d u = true) : ∃ v, RelV v u ∧ ∀ s, Rep K s d v := by
  have flat : (match atomV d with | some v => He.relB v u | none => false) = true → ∃ v, RelV v u ∧ ∀ s, Rep K s d v := by
    intro h
    cases q : atomV d with
    | none => rw [q] at h; cases h
    | some v =>
      rw [q] at h
      exact ⟨v, He.relB_ok h, fun s => atomV_ok q⟩
  cases d with
  | wt ds =>
    cases u with
    | ref a =>
      simp only [seenB] at h
      cases q : atomVs ds with
      | none => rw [q] at h; cases h
      | some vs =>
        rw [q] at h
        simp only at h
        cases q2 : K.lookup a with
        | none => rw [q2] at h; cases h
        | some o =>
          obtain ⟨oc, od, dt, osl⟩ := o
          rw [q2] at h
          cases oc with
          | type c =>
            cases dt with
            | seq its n =>
              obtain ⟨h1, h2⟩ := He.ba h
              obtain ⟨h3, h4⟩ := He.ba h2
              refine ⟨.ref a, rfl, fun s => ⟨a, vs, rfl, ?_, atomVs_ok q⟩⟩
              exact .inr ⟨_, its, n, q2, congrArg Value.type (of_decide_eq_true h1), rfl, of_decide_eq_true h3, He.relAll_ok h4⟩
            | _ => cases h
          | _ => cases dt <;> cases h
    | _ => simp [seenB] at h
  | _ => exact flat h
/-- a written dict with text keys: what it holds at some texts, or that it holds nothing there -/
abbrev Tb : Type := List (Str × Option Dt)
def tabB (K : PySem.W.Frag) (a : Addr) (tb : Tb) : Bool := tb.all fun q => match q.2, PySem.W.nsIn K a q.1 with
  | some d, some (some u) => seenB K d u
  | none, some none => true
  | _, _ => false
structure KTab (K : PySem.W.Frag) (w : World) (a : Addr) (tb : Tb) : Prop where
  kd : ∃ es n, KDict K w a es n
  tb : tabB K a tb = true
theorem lookup_mem {α β : Type} [BEq α] [LawfulBEq α] {x : α} {y : β} : ∀ {l : List (α × β)}, l.lookup x = some y → (x, y) ∈ l
  | [], h => by cases h
  | (a, b) :: l, h => by
    rw [List.lookup_cons] at h
    cases q : x == a with
    | true =>
      rw [q] at h; cases h
      rw [eq_of_beq q]; exact List.mem_cons_self
    | false =>
      rw [q] at h
      exact List.mem_cons_of_mem _ (lookup_mem h)
theorem KTab.hit {w : World} {p : Addr} {tb : Tb} {z : Str} (k : KTab K w p tb) (h : tb.lookup z = some (some d)) : ∃ u v, PySem.W.nsIn K p z = some (some u) ∧ RelV v u ∧ ∀ s, Rep K s d v := by
  have h1 := List.all_eq_true.mp k.tb _ (lookup_mem h)
  simp only at h1
  cases q : PySem.W.nsIn K p z with
  | none => rw [q] at h1; cases h1
  | some r =>
    rw [q] at h1
    cases r with
    | none => cases h1
    | some u =>
      obtain ⟨v, r1, r2⟩ := seenB_ok h1
      exact ⟨u, v, rfl, r1, r2⟩
theorem KTab.miss {w : World} {p : Addr} {tb : Tb} {z : Str} (k : KTab K w p tb) (h : tb.lookup z = some none) : PySem.W.nsIn K p z = some none := by
  have h1 := List.all_eq_true.mp k.tb _ (lookup_mem h)
  simp only at h1
  cases q : PySem.W.nsIn K p z with
  | none => rw [q] at h1; cases h1
  | some r =>
    rw [q] at h1
    cases r with
    | none => rfl
    | some u => cases h1
def kix (tb : Tb) (mb : En → Mm Dt) : En → Mm Dt := fun env => mb env >>= fun d => match d with
  | .str z => (match tb.lookup z with
    | some (some y) => Mm.pure y
    | _ => Mm.no)
  | _ => Mm.no
theorem me_kix {x : Str} {q : Addr} {tb : Tb} (kt : KTab X.K X.w q tb) (hg : Gl X x) (hm : X.mg x = some (.ref q)) (hb : PE X b (tE X.K E mb)) (hs : PlainIx b) (hd : (x == ("__debug__" : Str)) = false := by decide) :
    PE X (.Subscript (.Name x p1) b pos) (tE X.K E (kix tb mb)) := by
  obtain ⟨es, n, D⟩ := kt.kd
  refine pe_mono (pe_ix ix_kdict (pe_glob hg hm (v := .ref q) rfl hd) hb hs) fun σ H Q ⟨s, env, e, r, he, ha⟩ => ?_
  subst e
  unfold tOp tC
  refine tE_bind r he ha fun d s1 x x1 r1 e1 rx q1 => ?_
  cases d with
  | str z =>
    cases rx
    simp only at q1
    cases ql : tb.lookup z with
    | none => rw [ql] at q1; exact q1.elim
    | some o =>
      rw [ql] at q1
      cases o with
      | none => exact q1.elim
      | some y =>
        obtain ⟨u, v, h1, h2, h3⟩ := kt.hit ql
        exact ⟨_, z, v, rfl, rfl, ⟨es, n, u, D.at_, D.lit, h1, h2⟩, q1.ret r1 v (h3 s1)⟩
  | _ => exact q1.elim
def tKGet (X : Cx) (q : Addr) (ty tx : TE) : TE := fun σ H Q => ty σ H fun y H2 => tx σ H2 fun z H3 => ∃ (k : Str) (r : Option Value), y = .str k ∧ PySem.W.nsIn X.K q k = some r ∧ (r = none → Q z H3) ∧ (∀ u, r = some u → ∃ v, RelV v u ∧ Q v H3)
theorem pe_kget {x : Str} {q : Addr} {des : Array DictEntry} {n : Nat} (D : KDict X.K X.w q des n) (hg : Gl X x) (hm : X.mg x = some (.ref q)) (he : PE X e ty) (hf : PE X f tx) (m : M2 X (.Name x p1) "get" apos e f cpos) (hd : (x == ("__debug__" : Str)) = false := by decide) :
    PE X (.Call (.Attribute (.Name x p1) "get" apos) [e, f] [] cpos) (tKGet X q ty tx) := by
  have ho : PE X (.Name x p1) (tC (.ref q)) := pe_glob hg hm (v := .ref q) rfl hd
  refine ⟨fun pins s σ H Q I h => ?_⟩
  refine wpAny_Call_method m.base m.few m.line PySem.F.plainAttrs_dict PySem.F.slot_dict_get PySem.F.type_dict_get (thn (ho.run pins s σ H (fun x H1 => x = .ref q ∧ H1 = H) I ⟨rfl, rfl⟩) fun u s1 ⟨x, H1, I1, rx, ex, eH⟩ => ?_)
  subst ex eH
  obtain rfl : u = Value.ref q := rx
  have mp := PySem.W.mapOf_K (prog := X.prog) (w := X.w) I1.kIn D.at_ D.lit
  refine ⟨mp.typeIs, mp.noDict, ?_⟩
  rw [m.trees]
  refine Calls.callWith_builtin rfl (Calls.evalArgs_plain (Calls.spliced_cons (thn (he.run pins s1 σ H1 _ I1 h) fun iv s2 ⟨y, H2, I2, ry, q2⟩ =>
    Calls.spliced_cons (thn (hf.run pins s2 σ H2 _ I2 q2) fun fv s3 ⟨z, H3, I3, rz, k, ro, ey, en, q3, q4⟩ => Calls.spliced_nil ?_))))
  subst ey
  obtain ⟨t, rfl⟩ := (show ∃ t, iv = Value.str k t from ry)
  have mp3 := PySem.W.mapOf_K (prog := X.prog) (w := X.w) I3.kIn D.at_ D.lit
  refine call_meetsIn PySem.F.slot_dict_get mp3.typeIs PySem.F.entry_dict_get (PySem.F.args_dict_get_3 _ _ _) (meets_dict_get_default (strKind X.prog X.w) q (strKind_is X.prog X.w k t) D.low fv) ⟨_, mp3, ?_⟩
  rw [PySem.W.find_K D.at_ en]
  cases ro with
  | none => exact ⟨z, H3, I3.tok _, rz, q3 rfl⟩
  | some u =>
    obtain ⟨v, rv, qv⟩ := q4 u rfl
    exact ⟨v, H3, I3.tok _, rv, qv⟩
def kget (tb : Tb) (mk mx : En → Mm Dt) : En → Mm Dt := fun env => mk env >>= fun k => mx env >>= fun y => match k with
  | .str z => (match tb.lookup z with
    | some (some d) => Mm.pure d
    | some none => Mm.pure y
    | none => Mm.no)
  | _ => Mm.no
theorem me_kget {x : Str} {q : Addr} {tb : Tb} (kt : KTab X.K X.w q tb) (hg : Gl X x) (hm : X.mg x = some (.ref q)) (he : PE X e (tE X.K E mk)) (hf : PE X f (tE X.K E mx)) (m : M2 X (.Name x p1) "get" apos e f cpos) (hd : (x == ("__debug__" : Str)) = false := by decide) :
    PE X (.Call (.Attribute (.Name x p1) "get" apos) [e, f] [] cpos) (tE X.K E (kget tb mk mx)) := by
  obtain ⟨des, n, D⟩ := kt.kd
  refine pe_mono (pe_kget D hg hm he hf m hd) fun σ H Q ⟨s, env, e, r, he, ha⟩ => ?_
  subst e
  refine tE_bind r he ha fun k s1 x x1 r1 e1 rx q1 => tE_bind r1 e1 q1 fun y s2 zv x2 r2 e2 ry q2 => ?_
  cases k with
  | str z =>
    cases rx
    simp only at q2
    cases ql : tb.lookup z with
    | none => rw [ql] at q2; exact q2.elim
    | some o =>
      rw [ql] at q2
      cases o with
      | none => exact ⟨z, none, rfl, kt.miss ql, fun _ => q2.ret r2 _ ry, fun u hu => by cases hu⟩
      | some d =>
        obtain ⟨u, v, h1, h2, h3⟩ := kt.hit ql
        refine ⟨z, some u, rfl, h1, ⟨(fun hu => nomatch hu), fun u' hu => ?_⟩⟩
        cases hu
        exact ⟨v, h2, q2.ret r2 v (h3 s2)⟩
  | _ => exact q2.elim
end
/-! ### what is never reached -/
section
variable {X : Cx} {E : XK} {e : Expr} {st : Stmt}
def noE : En → Mm Dt := fun _ => Mm.no
def noS : En → Mm Fl := fun _ => Mm.no
theorem me_never : PE X e (tE X.K E noE) := ⟨fun pins s σ H Q I ⟨_, _, _, _, _, ha⟩ => ha.elim⟩
theorem mss_never {l : List Stmt} : PSs X l (tS X.K E noS) := ⟨fun pins s σ H Q I ⟨_, _, _, _, _, ha⟩ => ha.elim⟩
end
/-! ### the hook: facts, defs, tables, looks of one's own -/
section
open He
abbrev AlM : Type := AlT × Bool
def obsM (fa : List Fa) (fn : List DefD) (ts : List Tab) (b : PySem.W.Frag → Bool) (K : PySem.W.Frag) : AlM := (obsT fa fn ts K, b K)
def valM (fn : List DefD) (ts : List Tab) (w : World) : AlM := (valT fn ts w, true)
def obsMG (n : Nat) (fa : List Fa) (fn : List DefD) (ts : List Tab) (b : PySem.W.Frag → Bool) (g : Addr → Option Obj) : AlM := obsM fa fn ts b (frG g (asD g n))
def SaysM (fa : List Fa) (fn : List DefD) (ts : List Tab) (b : PySem.W.Frag → Bool) (w : World) (K : PySem.W.Frag) : Prop := obsM fa fn ts b K = valM fn ts w
def hookM (n : Nat) (fa : List Fa) (fn : List DefD) (ts : List Tab) (b : PySem.W.Frag → Bool) : PySem.W.Hook where
  α := AlM
  obs := fun s => obsMG n fa fn ts b s.heap.get?
  val := fun w => valM fn ts w
  says := fun w h => ∃ K : PySem.W.Frag, K.In h ∧ SaysM fa fn ts b w K
  of := fun _ _ e => ⟨_, frG_in, e⟩
  keeps := fun _ _ _ ⟨K, hK, c⟩ k => ⟨K, PySem.W.Frag.In.keeps hK k, c⟩
theorem obsMG_eq {n : Nat} {fa : List Fa} {fn : List DefD} {ts : List Tab} {b : PySem.W.Frag → Bool} {g : Addr → Option Obj} {s : Shared} (h : ∀ a, g a = s.heap.get? a) : obsMG n fa fn ts b g = (hookM n fa fn ts b).obs s := by
  have e : g = s.heap.get? := funext h
  rw [e] <;> rfl
theorem SaysM.t {fa : List Fa} {fn : List DefD} {ts : List Tab} {b : PySem.W.Frag → Bool} {w : World} {K : PySem.W.Frag} (c : SaysM fa fn ts b w K) : SaysT fa fn ts w K := congrArg (fun z : AlM => z.1) c
theorem SaysM.b {fa : List Fa} {fn : List DefD} {ts : List Tab} {b : PySem.W.Frag → Bool} {w : World} {K : PySem.W.Frag} (c : SaysM fa fn ts b w K) : b K = true := congrArg (fun z : AlM => z.2) c
end
end Mo
set_option Elab.async false
set_option linter.all false
set_option maxRecDepth 100000
set_option maxHeartbeats 4000000
/-! MoF: texts turned round, enumerate and zip of texts, a, b, c = x, y, z. -/
namespace Mo
open PySem L2 PySem.Spec PyProof.Rows
/-! ### a text's iterator -/
abbrev SI (it : Addr) (x : Str) (t : Tok) (i : Nat) (h : Heap) : Prop := h.IsStrIter it (strIterType x) x t i
theorem drawS {prog : Program} {w : World} {A : Around} (hh : A.handled = none) (it : Addr) (x : Str) (t : Tok) :
    Draws prog w A it [it] x.cps.size (fun i v => ∃ c u, x.cps[i]? = some c ∧ v = .str ⟨#[c]⟩ u) (fun i h => SI it x t i h) := by
  cases ha : x.cps.all (· < 128) with
  | true =>
    have e : strIterType x = "str_ascii_iterator" := by simp only [strIterType, ha, if_true]
    rw [show (fun i h => SI it x t i h) = fun i h => h.IsStrIter it "str_ascii_iterator" x t i by funext i h; rw [← e]]
    exact Draws.strAscii hh it x t
  | false =>
    have e : strIterType x = "str_iterator" := by simp [strIterType, ha]
    rw [show (fun i h => SI it x t i h) = fun i h => h.IsStrIter it "str_iterator" x t i by funext i h; rw [← e]]
    exact Draws.strWide hh it x t
theorem SI.at {it : Addr} {x : Str} {t : Tok} {i : Nat} {h h' : Heap} (st : SI it x t i h) (k : ∀ o, h.get? it = some o → h'.get? it = some o) : SI it x t i h' := let ⟨o, ho, r⟩ := st; ⟨o, k o ho, r⟩
theorem SI.lt {it : Addr} {x : Str} {t : Tok} {i : Nat} {h : Heap} (st : SI it x t i h) : it < h.objs.size := let ⟨_, ho, _⟩ := st; Heap.lt_size ho
/-! ### enumerate(text) -/
/-- pairs of what f, g tell, n of them -/
def Itp (n : Nat) (f g : Nat → Option V) : It := ⟨fun i _ => i < n, fun i H v H' => YPair f g i H v H', fun i _ => n ≤ i⟩
theorem walk_p {n : Nat} {f g : Nat → Option V} : Walk (Itp n f g) n (fun _ => True) (YPair f g) := ⟨fun _ _ hi _ => hi, fun _ _ => Nat.le_refl _, fun _ _ _ _ _ _ y => y⟩
def sgV (x : Str) (i : Nat) : Option V := x.cps[i]?.map fun c => .str ⟨#[c]⟩
theorem turn_enumS {P : Program} {w : World} {K : PySem.W.Frag} {elts : List Expr} {kk : Nat} {tpos : Pos} (x : Str) (t : Tok) (e it : Addr) (hne : e ≠ it) :
    Turn P w K (.Tuple elts kk tpos) (Itp x.cps.size (fun i => some (.int (i : Nat))) (sgV x)) [e, it] e (fun i h => (∃ old, IsEnum h e it ((i : Nat) : Int) old) ∧ SI it x t i h ∧ i ≤ x.cps.size) where
  mem := by simp
  obj := fun i h st b hb => by
    obtain ⟨⟨old, he⟩, ⟨o, ho, hc, hd⟩, _⟩ := st
    rcases List.mem_cons.mp hb with z | z
    · rw [z]; exact ⟨_, he, fun v q => nomatch q⟩
    · rw [List.mem_singleton.mp z]; exact ⟨o, ho, fun v q => by rw [hd] at q; cases q⟩
  keep := fun i h h' st k => let ⟨⟨old, he⟩, hi, hl⟩ := st; ⟨⟨old, k e (by simp) _ he⟩, hi.at fun o q => k it (by simp) o q, hl⟩
  item := fun X hP hw hK hc i pins s σ H E I hf st hg => by
    subst hP hw hK
    obtain ⟨⟨old, he⟩, hit, _⟩ := st
    have hg : i < x.cps.size := hg
    have hel : e < s.heap.objs.size := Heap.lt_size he
    refine wpAny_pyNext_enum_itemD (drawS (show X.A.in1.handled = none from I.ok.hd hc) it x t) he hit hg hne (by simp [hne]) fun y h' tk hP ho hit' hT hsz hk => ?_
    obtain ⟨c, u, hx, rfl⟩ := hP
    refine ⟨_, rfl, wpAny_letOwnedTupleGo_enum (s := { s with heap := h', toks := tk + 1 }) ho fun h'' he' sb => ?_⟩
    have hT2 : h''.get? s.heap.objs.size = some { cls := .type "tuple", data := .seq #[.int i tk, .str ⟨#[c]⟩ u] } := (sb.2 _ (Nat.ne_of_gt hel)).trans hT
    have new : ObjOk X.prog X.w (upd H s.heap.objs.size (.tup [.int (i : Nat), .str ⟨#[c]⟩])) h'' s.heap.objs.size (.tup [.int (i : Nat), .str ⟨#[c]⟩]) :=
      ⟨by show 2 ≤ sizeLine; decide, [.int i tk, .str ⟨#[c]⟩ u], .cons ⟨_, rfl⟩ (.cons ⟨_, rfl⟩ .nil), ⟨_, hT2, rfl, _, rfl⟩⟩
    have I1 : Inv X pins σ (upd H s.heap.objs.size (.tup [.int (i : Nat), .str ⟨#[c]⟩])) { s with heap := h'', toks := tk + 1 } :=
      I.turnedNew (ch := [e, it]) (fun b ob hb q => (sb.2 b (fun z => hb (by simp [z]))).trans (hk b ob (fun z => hb (by simp [z])) (fun z => hb (by simp [z])) q)) hf (Nat.le_refl _) new
    refine ⟨.ref s.heap.objs.size, _, I1, rfl, ⟨s.heap.objs.size, .int (i : Nat), .str ⟨#[c]⟩, rfl, I.hok.fresh (Nat.le_refl _), rfl, rfl, by simp [sgV, hx]⟩, ⟨⟨.str ⟨#[c]⟩ u, ?_⟩, SI.at hit' fun o q => (sb.2 it (Ne.symm hne)).trans q, hg⟩, fun b hb => ?_⟩
    · have e1 : ((i + 1 : Nat) : Int) = (i : Int) + 1 := by omega
      rw [e1]; exact he'
    · have hb' : b < s.heap.objs.size := by
        rcases List.mem_cons.mp hb with z | z
        · rw [z]; exact hel
        · rw [List.mem_singleton.mp z]; exact hit.lt
      rw [upd_ne (Nat.ne_of_lt hb')]
      exact (hf b hb).1
  done := fun X hP hw hK hc i pins s σ H E I hf st hg => by
    subst hP hw hK
    obtain ⟨⟨old, he⟩, hit, hl⟩ := st
    obtain rfl : i = x.cps.size := Nat.le_antisymm hl hg
    obtain ⟨f0, f1, f2, f3, f4, f5⟩ := hf it (by simp)
    exact wpAny_pyNext_enum_endD (drawS (show X.A.in1.handled = none from I.ok.hd hc) it x t) he hit fun h' eb => ⟨rfl, I.turned (t' := s.toks) (fun b o hb q => eb b o hb q) f0 f1 f3 f4 f5⟩
  self := fun A i s Q E st h => let ⟨⟨_, he⟩, _⟩ := st; wpAny_pyIter_enum he h
def iEnumS (ta : TA) : TI := fun σ H R => ta σ H fun vs H1 => ∃ x, vs = [.str x] ∧ R (Itp x.cps.size (fun i => some (.int (i : Nat))) (sgV x)) H1
theorem pi_enumS {X : Cx} {e : Expr} {ta : TA} {p pos tpos : Pos} {elts : List Expr} {kk : Nat} (hg : Gl X "enumerate") (hm : X.mg "enumerate" = none) (ha : PA X [e] ta) (hs : starEach [e] X.env = [(false, eval e X.env)] := by rfl) :
    PI X (.Tuple elts kk tpos) (.Call (.Name "enumerate" p) [e] [] pos) (iEnumS ta) := by
  refine ⟨fun pins s σ H R I h => ?_⟩
  refine Call_ (ld_blt I hg hm boot_enumerate (PyProof.Rows.callWith_type1 (thn (ha.run pos pins s σ H _ I h) fun us s1 ⟨vs, H1, I1, r1, q1⟩ => ?_) hs rfl))
  obtain ⟨x, ex, q⟩ := q1
  subst ex
  obtain ⟨u, rfl, t, rfl⟩ := vals1 r1
  refine call_enumerate_str fun h' he hit hsz hk => wpAny_pyIter_enum he ?_
  refine ⟨s1.heap.objs.size + 1, [s1.heap.objs.size + 1, s1.heap.objs.size], _, _, H1, rfl, I1.kept (t' := s1.toks) hk, turn_enumS x t (s1.heap.objs.size + 1) s1.heap.objs.size (Nat.succ_ne_self _), ⟨⟨.none, he⟩, hit, Nat.zero_le _⟩, fun b hb => ?_, q⟩
  have hle : s1.heap.objs.size ≤ b := by
    rcases List.mem_cons.mp hb with z | z
    · rw [z]; exact Nat.le_add_right _ _
    · rw [List.mem_singleton.mp z]; exact Nat.le_refl _
  exact I1.fpOk hle (I1.hok.fresh hle)
/-! ### zip(text, text) -/
abbrev siO (x : Str) (t : Tok) : Obj := { cls := .type (strIterType x), data := .fields #[.str x t, .int 0 0] }
abbrev zs2 (h : Heap) (x y : Str) (t u : Tok) : Heap := (h.push (siO x t)).push (siO y u)
abbrev zs5 (h : Heap) (x y : Str) (t u : Tok) : Heap := (((zs2 h x y t u).push { cls := .type "tuple", data := .seq #[.ref h.objs.size, .ref (h.push (siO x t)).objs.size] }).push { cls := .type "tuple", data := .seq #[.none, .none] }).push
  { cls := .type "zip", data := .fields #[.none, .bool false, .bool false, .ref (zs2 h x y t u).objs.size, .ref ((zs2 h x y t u).push { cls := .type "tuple", data := .seq #[.ref h.objs.size, .ref (h.push (siO x t)).objs.size] }).objs.size] }
theorem meets_zipS (x y : Str) (t u : Tok) :
    Meets (Builtin.«zip.__new__» ⟨[.type "zip", .str x t, .str y u], []⟩) (fun _ R s =>
      R (.ok (.ret (.ref (((zs2 s.heap x y t u).push { cls := .type "tuple", data := .seq #[.ref s.heap.objs.size, .ref (s.heap.push (siO x t)).objs.size] }).push { cls := .type "tuple", data := .seq #[.none, .none] }).objs.size))) { s with heap := zs5 s.heap x y t u }) :=
  .of_wp fun prog w A R s h => by
    obtain ⟨hp, g, d, tk, os⟩ := s
    have hsub := sub_zip
    wp_walk using wpAny_pyIter_strU
    exact ⟨_, rfl, h⟩
section
variable {prog : Program} {w : World} {A : Around} {E : Value → Shared → Prop} {s : Shared} {x y : Str} {t u : Tok}
theorem call_zipS {Q : Value → Shared → Prop} (h : ∀ h', IsZip h' (s.heap.objs.size + 4) (s.heap.objs.size + 2) (s.heap.objs.size + 3) .none → IsPair h' (s.heap.objs.size + 2) (.ref s.heap.objs.size) (.ref (s.heap.objs.size + 1)) →
      IsPair h' (s.heap.objs.size + 3) .none .none → SI s.heap.objs.size x t 0 h' → SI (s.heap.objs.size + 1) y u 0 h' →
      (∀ c o, s.heap.get? c = some o → h'.get? c = some o) → Q (.ref (s.heap.objs.size + 4)) { s with heap := h' }) :
    wpAny (model prog w) A (call (.type "zip") [.str x t, .str y u]) Q E s := by
  refine callType_new F.called_zip (by decide) (F.typeCall_zip_2 _ _) (F.newCall_zip_2 _ _) (fun obj => F.args_object_init_3 obj _ _) F.entry_zip_new (meets_zipS x y t u) ?_
  have z1 : (s.heap.push (siO x t)).objs.size = s.heap.objs.size + 1 := Heap.size_push ..
  have z2 : (zs2 s.heap x y t u).objs.size = s.heap.objs.size + 2 := by rw [Heap.size_push, z1]
  have z3 : ((zs2 s.heap x y t u).push { cls := .type "tuple", data := .seq #[.ref s.heap.objs.size, .ref (s.heap.push (siO x t)).objs.size] }).objs.size = s.heap.objs.size + 3 := by rw [Heap.size_push, z2]
  have z4 : (((zs2 s.heap x y t u).push { cls := .type "tuple", data := .seq #[.ref s.heap.objs.size, .ref (s.heap.push (siO x t)).objs.size] }).push { cls := .type "tuple", data := .seq #[.none, .none] }).objs.size = s.heap.objs.size + 4 := by rw [Heap.size_push, z3]
  have g5 : (zs5 s.heap x y t u).get? (((zs2 s.heap x y t u).push { cls := .type "tuple", data := .seq #[.ref s.heap.objs.size, .ref (s.heap.push (siO x t)).objs.size] }).push { cls := .type "tuple", data := .seq #[.none, .none] }).objs.size = some _ := Heap.get?_push_size _ rfl
  have g4 : (zs5 s.heap x y t u).get? ((zs2 s.heap x y t u).push { cls := .type "tuple", data := .seq #[.ref s.heap.objs.size, .ref (s.heap.push (siO x t)).objs.size] }).objs.size = some _ := Heap.get?_push_of_some _ (Heap.get?_push_size _ rfl)
  have g3 : (zs5 s.heap x y t u).get? (zs2 s.heap x y t u).objs.size = some _ := Heap.get?_push_of_some _ (Heap.get?_push_of_some _ (Heap.get?_push_size _ rfl))
  have g2 : (zs5 s.heap x y t u).get? (s.heap.push (siO x t)).objs.size = some _ := Heap.get?_push_of_some _ (Heap.get?_push_of_some _ (Heap.get?_push_of_some _ (Heap.get?_push_size _ rfl)))
  have g1 : (zs5 s.heap x y t u).get? s.heap.objs.size = some _ := Heap.get?_push_of_some _ (Heap.get?_push_of_some _ (Heap.get?_push_of_some _ (Heap.get?_push_of_some _ (Heap.get?_push_size _ rfl))))
  show _ ∧ _
  rw [z2, z3, z4] at g5
  rw [z1, z2] at g3
  rw [z3] at g4
  rw [z1] at g2
  rw [z4]
  exact ⟨⟨_, g5, rfl⟩, h _ g5 g3 g4 ⟨_, g1, rfl, rfl⟩ ⟨_, g2, rfl, rfl⟩ fun c o e => Heap.get?_push_of_some _ (Heap.get?_push_of_some _ (Heap.get?_push_of_some _ (Heap.get?_push_of_some _ (Heap.get?_push_of_some _ e))))⟩
end
end Mo
set_option Elab.async false
set_option linter.all false
set_option maxRecDepth 100000
set_option maxHeartbeats 4000000
/-! MoG: the turns of zip(text, text). -/
namespace Mo
open PySem L2 PySem.Spec PyProof.Rows
structure Apart (z TI TO i1 i2 : Addr) : Prop where
  a : TI ≠ z
  b : TO ≠ z
  c : i1 ≠ z
  d : i2 ≠ z
  e : TI ≠ TO
  f : TI ≠ i1
  g : TI ≠ i2
  h : TO ≠ i1
  i : TO ≠ i2
  j : i1 ≠ i2
section
variable {prog : Program} {w : World} {A : Around} {E : Value → Shared → Prop} {s : Shared} {x y : Str} {t u : Tok} {z TI TO i1 i2 : Addr} {k : Nat} {a b : Value}
theorem zipS_item {c1 c2 : Nat} {Q : Value → Shared → Prop} (hh : A.handled = none) (D : Apart z TI TO i1 i2) (hz : IsZip s.heap z TI TO .none) (hTI : IsPair s.heap TI (.ref i1) (.ref i2)) (hTO : IsPair s.heap TO a b)
    (h1 : SI i1 x t k s.heap) (h2 : SI i2 y u k s.heap) (hx : x.cps[k]? = some c1) (hy : y.cps[k]? = some c2)
    (hQ : ∀ h' t1 t2 tk, IsZip h' z TI TO (rawInt s.heap.objs.size) → IsPair h' TI (.ref i1) (.ref i2) → IsPair h' TO (.str ⟨#[c1]⟩ t1) (.str ⟨#[c2]⟩ t2) → SI i1 x t (k + 1) h' → SI i2 y u (k + 1) h' → IsPair h' s.heap.objs.size (.str ⟨#[c1]⟩ t1) (.str ⟨#[c2]⟩ t2) →
      (∀ c o, c ≠ z → c ≠ TO → c ≠ i1 → c ≠ i2 → s.heap.get? c = some o → h'.get? c = some o) → Q (.ref s.heap.objs.size) { s with heap := h', toks := tk }) :
    wpAny (model prog w) A (Builtin.«zip.__next__» ⟨[.ref z], []⟩) (fun fin s' => ∃ v, fin = .done (.ret v) ∧ Q v s') E s := by
  have lx : k < x.cps.size := by
    obtain ⟨q, _⟩ := Array.getElem?_eq_some_iff.mp hx
    exact q
  have ly : k < y.cps.size := by
    obtain ⟨q, _⟩ := Array.getElem?_eq_some_iff.mp hy
    exact q
  show wpAny _ _ (field (.ref z) 2 >>= _) _ _ _
  refine wpAny_bind (wpAny_field hz rfl (x := .bool false) rfl ?_)
  show wpAny _ _ (field (.ref z) 3 >>= _) _ _ _
  refine wpAny_bind (wpAny_field hz rfl (x := .ref TI) rfl (wpAny_bind (wpAny_seqItems hTI rfl ?_)))
  show wpAny _ _ (Builtin.SmallTypes.ownedTupleIsFree (.ref z) >>= _) _ _ _
  unfold Builtin.SmallTypes.ownedTupleIsFree
  refine wpAny_bind (wpAny_bind (wpAny_field hz rfl (x := .none) rfl (wpAny_pure ?_)))
  simp only [if_true]
  refine wpAny_bind (wpAny_rule (wpAny_bind (wpAny_field hz rfl (x := .ref TO) rfl (wpAny_bind (wpAny_setField_rec hz (by simp) fun p1 z1 s1 => ?_)))))
  replace z1 : IsZip p1 z TI TO .ellipsis := z1
  refine wpAny_bind ?_
  simp only [List.zipIdx_cons, List.zipIdx_nil, List.forIn_cons, List.forIn_nil]
  refine wpAny_bind (wpAny_bind (wpAny_onRaise ?_))
  show wpAny _ _ (Builtin.SmallTypes.nextOf (.ref i1) >>= _) _ _ _
  refine wpAny_bind ((drawS (A := A.in1) hh i1 x t).of_in1.item k _ _ _ lx (h1.extBut s1.extBut D.c) fun v1 p2 tk2 ⟨c, t1, e1, e2⟩ h12 s2 => wpAny_pure ?_)
  rw [hx] at e1
  cases e1
  subst e2
  have o2 : IsPair p2 TO a b := s2.extBut _ _ D.h (s1.extBut _ _ D.b hTO)
  refine wpAny_bind (wpAny_seqItems (s := { heap := p2, gens := s.gens, drawn := s.drawn, toks := tk2, os := s.os }) o2 rfl ?_)
  refine wpAny_bind (wpAny_updateSeq_pair (s := { heap := p2, gens := s.gens, drawn := s.drawn, toks := tk2, os := s.os }) o2 fun p3 o3 s3 => ?_)
  replace o3 : IsPair p3 TO (.str ⟨#[c1]⟩ t1) b := o3
  refine wpAny_bind (wpAny_letGo (wpAny_pure ?_))
  refine wpAny_bind (wpAny_bind (wpAny_onRaise ?_))
  show wpAny _ _ (Builtin.SmallTypes.nextOf (.ref i2) >>= _) _ _ _
  refine wpAny_bind ((drawS (A := A.in1) hh i2 y u).of_in1.item k _ _ _ ly (((h2.extBut s1.extBut D.d).extBut s2.extBut D.j.symm).extBut s3.extBut D.i.symm) fun v2 p4 tk4 ⟨c, t2, e1, e2⟩ h24 s4 => wpAny_pure ?_)
  rw [hy] at e1
  cases e1
  subst e2
  have o4 : IsPair p4 TO (.str ⟨#[c1]⟩ t1) b := s4.extBut _ _ D.i o3
  refine wpAny_bind (wpAny_seqItems (s := { heap := p4, gens := s.gens, drawn := s.drawn, toks := tk4, os := s.os }) o4 rfl ?_)
  refine wpAny_bind (wpAny_updateSeq_pair (s := { heap := p4, gens := s.gens, drawn := s.drawn, toks := tk4, os := s.os }) o4 fun p5 o5 s5 => ?_)
  replace o5 : IsPair p5 TO (.str ⟨#[c1]⟩ t1) (.str ⟨#[c2]⟩ t2) := o5
  refine wpAny_bind (wpAny_letGo (wpAny_pure (wpAny_pure ?_)))
  refine wpAny_bind (wpAny_seqItems (s := { heap := p5, gens := s.gens, drawn := s.drawn, toks := tk4, os := s.os }) o5 rfl (wpAny_bind (wpAny_newTuple ?_)))
  have hsz : p5.objs.size = s.heap.objs.size := by rw [s5.1, s4.1, s3.1, s2.1, s1.1]
  have z5 : IsZip p5 z TI TO .ellipsis := s5.extBut _ _ D.b.symm (s4.extBut _ _ D.d.symm (s3.extBut _ _ D.b.symm (s2.extBut _ _ D.c.symm z1)))
  have kp : ∀ c o, c ≠ z → c ≠ TO → c ≠ i1 → c ≠ i2 → s.heap.get? c = some o → p5.get? c = some o := fun c o q1 q2 q3 q4 e =>
    s5.extBut _ _ q2 (s4.extBut _ _ q4 (s3.extBut _ _ q2 (s2.extBut _ _ q3 (s1.extBut _ _ q1 e))))
  have h15 : SI i1 x t (k + 1) p5 := ((Heap.IsStrIter.extBut h12 s3.extBut D.h.symm).extBut s4.extBut D.j).extBut s5.extBut D.h.symm
  have h25 : SI i2 y u (k + 1) p5 := Heap.IsStrIter.extBut h24 s5.extBut D.i.symm
  have zl : z < p5.objs.size := Heap.lt_size z5
  show wpAny _ _ (Builtin.SmallTypes.ownedTupleHandOut (.ref z) (.ref p5.objs.size) >>= _) _ _ _
  unfold Builtin.SmallTypes.ownedTupleHandOut
  have z6 : IsZip (p5.push { cls := .type "tuple", data := .seq #[.str ⟨#[c1]⟩ t1, .str ⟨#[c2]⟩ t2] }) z TI TO .ellipsis := Heap.get?_push_of_some _ z5
  refine wpAny_bind (wpAny_bind (wpAny_setField_rec z6 (by simp) fun p7 z7 s7 => ?_))
  replace z7 : IsZip p7 z TI TO (rawInt p5.objs.size) := z7
  refine wpAny_setField_rec (s := { heap := p7, gens := s.gens, drawn := s.drawn, toks := tk4, os := s.os }) z7 (by simp) fun p8 z8 s8 => ?_
  replace z8 : IsZip p8 z TI TO (rawInt p5.objs.size) := z8
  have up : ∀ c o, c ≠ z → p5.get? c = some o → p8.get? c = some o := fun c o q e => s8.extBut _ _ q (s7.extBut _ _ q (Heap.get?_push_of_some _ e))
  have T8 : IsPair p8 p5.objs.size (.str ⟨#[c1]⟩ t1) (.str ⟨#[c2]⟩ t2) := s8.extBut _ _ (Nat.ne_of_gt zl) (s7.extBut _ _ (Nat.ne_of_gt zl) (Heap.get?_push_size _ rfl))
  rw [hsz] at z8 T8
  refine wpAny_pure ⟨_, rfl, ?_⟩
  show Q (.ref p5.objs.size) _
  rw [hsz]
  exact hQ p8 t1 t2 tk4 z8 (up _ _ D.a (kp _ _ D.a D.e D.f D.g hTI)) (up _ _ D.b o5) (SI.at h15 fun o e => up _ o D.c e) (SI.at h25 fun o e => up _ o D.d e) T8 fun c o q1 q2 q3 q4 e => up c o q1 (kp c o q1 q2 q3 q4 e)
theorem zipS_end {Q : Fin → Shared → Prop} (hh : A.handled = none) (D : Apart z TI TO i1 i2) (hz : IsZip s.heap z TI TO .none) (hTI : IsPair s.heap TI (.ref i1) (.ref i2)) (hTO : IsPair s.heap TO a b)
    (h1 : SI i1 x t k s.heap) (h2 : SI i2 y u k s.heap) (hk : k = min x.cps.size y.cps.size)
    (hE : ∀ h' e tk, (∀ c o, c ≠ z → c ≠ TO → c ≠ i1 → c ≠ i2 → s.heap.get? c = some o → h'.get? c = some o) → (∃ o, h'.get? e = some o ∧ o.cls = .type "StopIteration") → E (.ref e) { s with heap := h', toks := tk }) :
    wpAny (model prog w) A (Builtin.«zip.__next__» ⟨[.ref z], []⟩) Q E s := by
  show wpAny _ _ (field (.ref z) 2 >>= _) _ _ _
  refine wpAny_bind (wpAny_field hz rfl (x := .bool false) rfl ?_)
  show wpAny _ _ (field (.ref z) 3 >>= _) _ _ _
  refine wpAny_bind (wpAny_field hz rfl (x := .ref TI) rfl (wpAny_bind (wpAny_seqItems hTI rfl ?_)))
  show wpAny _ _ (Builtin.SmallTypes.ownedTupleIsFree (.ref z) >>= _) _ _ _
  unfold Builtin.SmallTypes.ownedTupleIsFree
  refine wpAny_bind (wpAny_bind (wpAny_field hz rfl (x := .none) rfl (wpAny_pure ?_)))
  simp only [if_true]
  refine wpAny_bind (wpAny_rule (wpAny_bind (wpAny_field hz rfl (x := .ref TO) rfl (wpAny_bind (wpAny_setField_rec hz (by simp) fun p1 z1 s1 => ?_)))))
  replace z1 : IsZip p1 z TI TO .ellipsis := z1
  refine wpAny_bind ?_
  simp only [List.zipIdx_cons, List.zipIdx_nil, List.forIn_cons, List.forIn_nil]
  refine wpAny_bind (wpAny_bind (wpAny_onRaise ?_))
  show wpAny _ _ (Builtin.SmallTypes.nextOf (.ref i1) >>= _) _ _ _
  by_cases lx : k < x.cps.size
  · have ey : k = y.cps.size := by omega
    refine wpAny_bind ((drawS (A := A.in1) hh i1 x t).of_in1.item k _ _ _ lx (h1.extBut s1.extBut D.c) fun v1 p2 tk2 _ h12 s2 => wpAny_pure ?_)
    have o2 : IsPair p2 TO a b := s2.extBut _ _ D.h (s1.extBut _ _ D.b hTO)
    refine wpAny_bind (wpAny_seqItems (s := { heap := p2, gens := s.gens, drawn := s.drawn, toks := tk2, os := s.os }) o2 rfl ?_)
    refine wpAny_bind (wpAny_updateSeq_pair (s := { heap := p2, gens := s.gens, drawn := s.drawn, toks := tk2, os := s.os }) o2 fun p3 o3 s3 => ?_)
    refine wpAny_bind (wpAny_letGo (wpAny_pure ?_))
    refine wpAny_bind (wpAny_bind (wpAny_onRaise ?_))
    show wpAny _ _ (Builtin.SmallTypes.nextOf (.ref i2) >>= _) _ _ _
    refine wpAny_bind ((drawS (A := A.in1) hh i2 y u).of_in1.done _ _ _ (ey ▸ (((h2.extBut s1.extBut D.d).extBut s2.extBut D.j.symm).extBut s3.extBut D.i.symm)) fun p4 e s4 he => ?_)
    obtain ⟨oe, hoe, hce⟩ := he
    have z4 : IsZip p4 z TI TO .ellipsis := s4 _ _ D.d.symm (s3.extBut _ _ D.b.symm (s2.extBut _ _ D.c.symm z1))
    have ez : e ≠ z := fun q => by subst q; rw [z4] at hoe; cases hoe; simp at hce
    refine wpAny_setField_rec (s := { heap := p4, gens := s.gens, drawn := s.drawn, toks := tk2, os := s.os }) z4 (by simp) fun p5 _ s5 => hE p5 e tk2 (fun c o q1 q2 q3 q4 g => s5.extBut _ _ q1 (s4 _ _ q4 (s3.extBut _ _ q2 (s2.extBut _ _ q3 (s1.extBut _ _ q1 g))))) ⟨oe, s5.extBut _ _ ez hoe, hce⟩
  · have ex : k = x.cps.size := by omega
    refine wpAny_bind ((drawS (A := A.in1) hh i1 x t).of_in1.done _ _ _ (ex ▸ (h1.extBut s1.extBut D.c)) fun p2 e s2 he => ?_)
    obtain ⟨oe, hoe, hce⟩ := he
    have z2 : IsZip p2 z TI TO .ellipsis := s2 _ _ D.c.symm z1
    have ez : e ≠ z := fun q => by subst q; rw [z2] at hoe; cases hoe; simp at hce
    refine wpAny_setField_rec (s := { heap := p2, gens := s.gens, drawn := s.drawn, toks := s.toks, os := s.os }) z2 (by simp) fun p3 _ s3 => hE p3 e s.toks (fun c o q1 _ q3 _ g => s3.extBut _ _ q1 (s2 _ _ q3 (s1.extBut _ _ q1 g))) ⟨oe, s3.extBut _ _ ez hoe, hce⟩
end
theorem turn_zipS {P : Program} {w : World} {K : PySem.W.Frag} {elts : List Expr} {kk : Nat} {tpos : Pos} {z TI TO i1 i2 : Addr} (x y : Str) (t u : Tok) (D : Apart z TI TO i1 i2) :
    Turn P w K (.Tuple elts kk tpos) (Itp (min x.cps.size y.cps.size) (sgV x) (sgV y)) [z, TI, TO, i1, i2] z
      (fun i h => IsZip h z TI TO .none ∧ IsPair h TI (.ref i1) (.ref i2) ∧ (∃ a b, IsPair h TO a b) ∧ SI i1 x t i h ∧ SI i2 y u i h ∧ i ≤ min x.cps.size y.cps.size) where
  mem := by simp
  obj := fun i h st c hc => by
    obtain ⟨hz, hTI, ⟨a, b, hTO⟩, ⟨o1, e1, _, d1⟩, ⟨o2, e2, _, d2⟩, _⟩ := st
    have e' : c = z ∨ c = TI ∨ c = TO ∨ c = i1 ∨ c = i2 := by simpa using hc
    rcases e' with q | q | q | q | q
    · rw [q]; exact ⟨_, hz, fun v q => nomatch q⟩
    · rw [q]; exact ⟨_, hTI, fun v q => nomatch q⟩
    · rw [q]; exact ⟨_, hTO, fun v q => nomatch q⟩
    · rw [q]; exact ⟨o1, e1, fun v q => by rw [d1] at q; cases q⟩
    · rw [q]; exact ⟨o2, e2, fun v q => by rw [d2] at q; cases q⟩
  keep := fun i h h' st k => by
    obtain ⟨hz, hTI, ⟨a, b, hTO⟩, h1, h2, hl⟩ := st
    exact ⟨k z (by simp) _ hz, k TI (by simp) _ hTI, ⟨a, b, k TO (by simp) _ hTO⟩, SI.at h1 fun o q => k i1 (by simp) o q, SI.at h2 fun o q => k i2 (by simp) o q, hl⟩
  item := fun X hP hw hK hc i pins s σ H E I hf st hg => by
    subst hP hw hK
    obtain ⟨hz, hTI, ⟨a, b, hTO⟩, h1, h2, _⟩ := st
    have hg : i < min x.cps.size y.cps.size := hg
    have zl : z < s.heap.objs.size := Heap.lt_size hz
    have hx : x.cps[i]? = some x.cps[i] := Array.getElem?_eq_getElem (by omega)
    have hy : y.cps[i]? = some y.cps[i] := Array.getElem?_eq_getElem (by omega)
    have hT : s.TypeIs (.ref z) "zip" := ⟨_, hz, rfl⟩
    unfold pyNext
    refine wpAny_bind (wpAny_attempt (wpAny_callSpecial?_slot (name := Str.ofString "__next__") hT F.slot_zip_next (wpAny_call_entry F.slot_zip_next hT F.entry_zip_next
      (zipS_item (show X.A.in1.handled = none from I.ok.hd hc) D hz hTI hTO h1 h2 hx hy fun h' t1 t2 tk z' TI' TO' h1' h2' T' hk => wpAny_pure ?_) (F.args_zip_next_1 _))))
    refine ⟨_, rfl, wpAny_letOwnedTupleGo_zip (s := { s with heap := h', toks := tk }) z' fun h'' z'' sb => ?_⟩
    have hT2 : h''.get? s.heap.objs.size = some { cls := .type "tuple", data := .seq #[.str ⟨#[x.cps[i]]⟩ t1, .str ⟨#[y.cps[i]]⟩ t2] } := (sb.2 _ (Nat.ne_of_gt zl)).trans T'
    have new : ObjOk X.prog X.w (upd H s.heap.objs.size (.tup [.str ⟨#[x.cps[i]]⟩, .str ⟨#[y.cps[i]]⟩])) h'' s.heap.objs.size (.tup [.str ⟨#[x.cps[i]]⟩, .str ⟨#[y.cps[i]]⟩]) :=
      ⟨by show 2 ≤ sizeLine; decide, [.str ⟨#[x.cps[i]]⟩ t1, .str ⟨#[y.cps[i]]⟩ t2], .cons ⟨_, rfl⟩ (.cons ⟨_, rfl⟩ .nil), ⟨_, hT2, rfl, _, rfl⟩⟩
    have I1 : Inv X pins σ (upd H s.heap.objs.size (.tup [.str ⟨#[x.cps[i]]⟩, .str ⟨#[y.cps[i]]⟩])) { s with heap := h'', toks := tk } :=
      I.turnedNew (t' := tk) (ch := [z, TI, TO, i1, i2]) (fun c o hb q => (sb.2 c (fun q' => hb (by simp [q']))).trans (hk c o (fun q' => hb (by simp [q'])) (fun q' => hb (by simp [q'])) (fun q' => hb (by simp [q'])) (fun q' => hb (by simp [q'])) q)) hf (Nat.le_refl _) new
    refine ⟨.ref s.heap.objs.size, _, I1, rfl, ⟨s.heap.objs.size, _, _, rfl, I.hok.fresh (Nat.le_refl _), rfl, by simp [sgV, hx], by simp [sgV, hy]⟩, ⟨z'', (sb.2 _ D.a).trans TI', ⟨_, _, (sb.2 _ D.b).trans TO'⟩, SI.at h1' fun o q => (sb.2 _ D.c).trans q, SI.at h2' fun o q => (sb.2 _ D.d).trans q, hg⟩, fun c hcm => ?_⟩
    have hlt : c < s.heap.objs.size := by
      have e' : c = z ∨ c = TI ∨ c = TO ∨ c = i1 ∨ c = i2 := by simpa using hcm
      rcases e' with q | q | q | q | q
      · rw [q]; exact zl
      · rw [q]; exact Heap.lt_size hTI
      · rw [q]; exact Heap.lt_size hTO
      · rw [q]; exact SI.lt h1
      · rw [q]; exact SI.lt h2
    rw [upd_ne (Nat.ne_of_lt hlt)]
    exact (hf c hcm).1
  done := fun X hP hw hK hc i pins s σ H E I hf st hg => by
    subst hP hw hK
    obtain ⟨hz, hTI, ⟨a, b, hTO⟩, h1, h2, hl⟩ := st
    have hT : s.TypeIs (.ref z) "zip" := ⟨_, hz, rfl⟩
    unfold pyNext
    refine wpAny_bind (wpAny_attempt (wpAny_callSpecial?_slot (name := Str.ofString "__next__") hT F.slot_zip_next (wpAny_call_entry F.slot_zip_next hT F.entry_zip_next
      (zipS_end (show X.A.in1.handled = none from I.ok.hd hc) D hz hTI hTO h1 h2 (Nat.le_antisymm hl hg) fun h' e tk hk he => ?_) (F.args_zip_next_1 _))))
    obtain ⟨o, ho, hce⟩ := he
    refine wpAny_bind (wpAny_isInstance (T := "StopIteration") (b := true) ⟨o, ho, hce⟩ isSubtype_stop (wpAny_pure ⟨rfl, ?_⟩))
    exact I.turnedL (t' := tk) (ch := [z, TI, TO, i1, i2]) (fun c o hb q => hk c o (fun q' => hb (by simp [q'])) (fun q' => hb (by simp [q'])) (fun q' => hb (by simp [q'])) (fun q' => hb (by simp [q'])) q) hf
  self := fun A i s Q E st h => wpAny_pyIter_zip st.1 h
def iZipS (ta : TA) : TI := fun σ H R => ta σ H fun vs H1 => ∃ x y, vs = [.str x, .str y] ∧ R (Itp (min x.cps.size y.cps.size) (sgV x) (sgV y)) H1
theorem apart5 (n : Nat) : Apart (n + 4) (n + 2) (n + 3) n (n + 1) := by
  have ne : ∀ a b : Nat, a ≠ b → (a : Addr) ≠ b := fun _ _ h => h
  exact ⟨ne _ _ (by omega), ne _ _ (by omega), ne _ _ (by omega), ne _ _ (by omega), ne _ _ (by omega), ne _ _ (by omega), ne _ _ (by omega), ne _ _ (by omega), ne _ _ (by omega), ne _ _ (by omega)⟩
theorem pi_zipS {X : Cx} {e e2 : Expr} {ta : TA} {p pos tpos : Pos} {elts : List Expr} {kk : Nat} (hg : Gl X "zip") (hm : X.mg "zip" = none) (ha : PA X [e, e2] ta)
    (hs : starEach [e, e2] X.env = (false, eval e X.env) :: starEach [e2] X.env := by rfl) (hpl : (backTo pos (starEach [e2] X.env)).any (·.1) = false := by rfl) :
    PI X (.Tuple elts kk tpos) (.Call (.Name "zip" p) [e, e2] [] pos) (iZipS ta) := by
  refine ⟨fun pins s σ H R I h => ?_⟩
  refine Call_ (ld_blt I hg hm PyProof.Rows.boot_zip (PyProof.Rows.callWith_type1 (thn (ha.run pos pins s σ H _ I h) fun us s1 ⟨vs, H1, I1, r1, q1⟩ => ?_) hs hpl))
  obtain ⟨x, y, ex, q⟩ := q1
  subst ex
  cases r1 with
  | cons r rr =>
    cases rr with
    | cons r' rr =>
      cases rr
      obtain ⟨t, rfl⟩ := r
      obtain ⟨u, rfl⟩ := r'
      refine call_zipS fun h' hz hTI hTO h1 h2 hk => wpAny_pyIter_zip hz ?_
      refine ⟨s1.heap.objs.size + 4, [s1.heap.objs.size + 4, s1.heap.objs.size + 2, s1.heap.objs.size + 3, s1.heap.objs.size, s1.heap.objs.size + 1], _, _, H1, rfl, I1.kept (t' := s1.toks) hk, turn_zipS x y t u (apart5 _), ⟨hz, hTI, ⟨_, _, hTO⟩, h1, h2, Nat.zero_le _⟩, fun c hcm => ?_, q⟩
      have hle : s1.heap.objs.size ≤ c := by
        have e' : c = s1.heap.objs.size + 4 ∨ c = s1.heap.objs.size + 2 ∨ c = s1.heap.objs.size + 3 ∨ c = s1.heap.objs.size ∨ c = s1.heap.objs.size + 1 := by simpa using hcm
        rcases e' with q | q | q | q | q <;> rw [q] <;> first | exact Nat.le_refl _ | exact Nat.le_add_right _ _
      exact I1.fpOk hle (I1.hok.fresh hle)
/-! ### in the layer -/
section
variable {X : Cx} {E : XK} {K : PySem.W.Frag} {s s0 : Sx} {d : Dt} {v : V} {xs ds : List Dt} {e a b c f o i tg : Expr} {pos p p1 apos cpos : Pos} {es : List Expr}
variable {ma mb mc mo mk mx : En → Mm Dt} {mr : En → Mm (List Dt)} {td ty tx : TE}
theorem signs_get {x : Str} {i : Nat} {d : Dt} (h : (signs x)[i]? = some d) : ∃ w, sgV x i = some w ∧ Rep K s d w := by
  unfold signs at h
  rw [List.getElem?_map] at h
  unfold sgV
  rw [Array.getElem?_toList] at h
  cases q : x.cps[i]? with
  | none => rw [q] at h; cases h
  | some c =>
    rw [q] at h
    cases h
    exact ⟨_, rfl, rfl⟩
def itES (mr : En → Mm (List Dt)) : En → Mm (List Dt) := fun env => mr env >>= fun ds => match ds with
  | [.str x] => Mm.pure (enumD 0 (signs x))
  | _ => Mm.no
theorem mi_enumS {tpos : Pos} {elts : List Expr} {kk : Nat} (hg : Gl X "enumerate") (hm : X.mg "enumerate" = none) (ha : PA X [e] (tA X.K E mr)) (hs : starEach [e] X.env = (false, eval e X.env) :: starEach [] X.env := by rfl) :
    PI X (.Tuple elts kk tpos) (.Call (.Name "enumerate" p) [e] [] pos) (tI X.K E (itES mr)) := pi_mono (pi_enumS hg hm ha hs) fun σ H R ⟨s, env, e, r, he, ha⟩ => by
  subst e
  refine tA_bind r he ha fun ds s1 vs x1 r1 e1 rs q => ?_
  split at q
  · rename_i x
    obtain ⟨v, rfl, rv⟩ := rs.one
    cases rv
    refine ⟨x, rfl, q.ret r1 _ (itRep_of walk_p (by rw [enumD_length]; simp [signs]) fun s2 x2 r2 => ⟨trivial, fun i d y H' e ⟨T, x1, y1, e1, e2, e3, e4, e5⟩ => ?_⟩)⟩
    obtain ⟨d', h1, rfl⟩ := enumD_get e
    obtain ⟨w, h2, h3⟩ := signs_get (K := X.K) (s := s2) h1
    have e5 : sgV x i = some y1 := e5
    rw [h2] at e5; cases e5
    have e4 : some (V.int (i : Nat)) = some x1 := e4
    cases e4
    subst e1
    exact pair_end r2 e2 e3 (by rw [Nat.zero_add]; exact rfl) h3
  · exact q.elim
def itZS (mr : En → Mm (List Dt)) : En → Mm (List Dt) := fun env => mr env >>= fun ds => match ds with
  | [.str x, .str y] => Mm.pure (zipD (signs x) (signs y))
  | _ => Mm.no
theorem mi_zipS {e2 : Expr} {tpos : Pos} {elts : List Expr} {kk : Nat} (h : PI X (.Tuple elts kk tpos) (.Call (.Name "zip" p) [e, e2] [] pos) (iZipS (tA X.K E mr))) :
    PI X (.Tuple elts kk tpos) (.Call (.Name "zip" p) [e, e2] [] pos) (tI X.K E (itZS mr)) := pi_mono h fun σ H R ⟨s, env, e, r, he, ha⟩ => by
  subst e
  refine tA_bind r he ha fun ds s1 vs x1 r1 e1 rs q => ?_
  split at q
  · rename_i x y
    obtain ⟨v, vr, rfl, rv, rr⟩ := rs
    obtain ⟨v2, rfl, rv2⟩ := rr.one
    cases rv; cases rv2
    refine ⟨x, y, rfl, q.ret r1 _ (itRep_of walk_p (by simp [zipD, signs]) fun s2 x2 r2 => ⟨trivial, fun i d y' H' e ⟨T, x1, y1, e1, e2, e3, e4, e5⟩ => ?_⟩)⟩
    obtain ⟨dx, dy, h1, h2, rfl⟩ := zipD_get e
    obtain ⟨w, g1, g2⟩ := signs_get (K := X.K) (s := s2) h1
    obtain ⟨w2, g3, g4⟩ := signs_get (K := X.K) (s := s2) h2
    rw [g1] at e4; cases e4
    rw [g3] at e5; cases e5
    subst e1
    exact pair_end r2 e2 e3 g2 g4
  · exact q.elim
/-! text[::-1] -/
def tRevS (te : TE) : TE := fun σ H Q => te σ H fun x H1 => ∃ z : Str, x = .str z ∧ z.cps.size ≤ sizeLine ∧ Q (.str ⟨z.cps.toList.reverse.toArray⟩) H1
theorem rev_pick (z : Str) : ((Builtin.Str.strSliceIndices none none (-1) z.length).filterMap (z.cps[·]?)).toArray = z.cps.toList.reverse.toArray := by
  have e : Builtin.Str.strSliceIndices none none (-1) z.length = sliceRange ((z.cps.size : Int) - 1) (-1) (-1) := by
    unfold Builtin.Str.strSliceIndices
    simp [Str.length]
  rw [e, PySem.W.krv_sliceRange, PySem.W.krv_range, List.filterMap_reverse, PySem.W.krv_all]
theorem pe_revS {te : TE} {k : Nat} {p1 p2 p3 pos : Pos} (he : PE X e te) : PE X (.Subscript e (.Slice none none (some (.UnaryOp .USub (.Constant (.int 1) k p1) p2)) p3) pos) (tRevS te) := by
  refine ⟨fun pins s σ H Q I h => ?_⟩
  refine Subscript_ (thn (he.run pins s σ H _ I h) fun v s1 ⟨x, H1, I1, r1, q1⟩ => ?_)
  obtain ⟨z, ex, hz, q⟩ := q1
  subst ex
  obtain ⟨t, rfl⟩ := r1
  have hst : PO X (some (.UnaryOp .USub (.Constant (.int 1) k p1) p2)) (tPart (tUn (rU fun i => .int (-i)) (tC (.int 1)))) := po_some (pe_un un_neg pe_int)
  refine wpAny_Slice (thn (po_none.run pins s1 σ H1 (fun o H2 => o = none ∧ H2 = H1) I1 ⟨rfl, rfl⟩) fun vl s2 ⟨l, H2, I2, pl, el, e2⟩ => ?_)
  subst el e2
  refine thn (po_none.run pins s2 σ H2 (fun o H3 => o = none ∧ H3 = H2) I2 ⟨rfl, rfl⟩) fun vu s3 ⟨u, H3, I3, pu, eu, e3⟩ => ?_
  subst eu e3
  refine thn (hst.run pins s3 σ H3 (fun o H4 => o = some (-1) ∧ H4 = H3) I3 ⟨1, rfl, -1, rfl, rfl, rfl⟩) fun vs s4 ⟨o, H4, I4, ps, eo, e4⟩ => ?_
  subst eo e4
  have I5 : Inv X pins σ H4 { s4 with heap := s4.heap.push { cls := .type "slice", data := .fields #[vl, vu, vs] } } := I4.kept (t' := s4.toks) fun b ob q => Heap.get?_push_of_some _ q
  obtain ⟨l', rfl, el'⟩ := IsPart.raw pl
  obtain ⟨u', rfl, eu'⟩ := IsPart.raw pu
  obtain ⟨st, rfl, est⟩ := IsPart.raw ps
  show wpAny (model X.prog X.w) X.A (subscriptTail e (.Slice none none (some (.UnaryOp .USub (.Constant (.int 1) k p1) p2)) p3) (.str z t) (.ref s4.heap.objs.size)) (EP X pins σ Q) X.xe _
  refine tail_any (ops := [.str z t, .ref s4.heap.objs.size]) (typeIs_str _ z t) F.slot_str_getitem.lookup ?_ (by with_unfolding_all rfl)
  refine wpAny_getItem_str_slice (l := l') (u := u') (st := st) ⟨_, Heap.get?_push_size _ rfl, rfl, rfl⟩ (by rw [est]; rfl) ?_
  unfold sliceMade slicePicked
  rw [el', eu', est]
  show Made.post (if (((-1 : Int) == 1) && _) = true then _ else _) _ _
  rw [if_neg (by simp)]
  rw [show (Option.some (-1 : Int)).getD 1 = -1 from rfl, rev_pick]
  refine ⟨?_, .str _, H4, I5.tok _, ⟨_, rfl⟩, q⟩
  show z.cps.toList.reverse.toArray.size ≤ sizeLine
  simpa using hz
def revS : Dt → Mm Dt := fun d => match d with
  | .str z => if z.cps.size ≤ sizeLine then Mm.pure (.str ⟨z.cps.toList.reverse.toArray⟩) else Mm.no
  | _ => Mm.no
def op1' (g : Dt → Mm Dt) (m : En → Mm Dt) : En → Mm Dt := fun env => m env >>= g
theorem me_revS {k : Nat} {p1 p2 p3 pos : Pos} (h : PE X e (tE X.K E ma)) : PE X (.Subscript e (.Slice none none (some (.UnaryOp .USub (.Constant (.int 1) k p1) p2)) p3) pos) (tE X.K E (op1' revS ma)) := pe_mono (pe_revS h) fun σ H Q ⟨s, env, e, r, he, ha⟩ => by
  subst e
  refine tE_bind r he ha fun d s1 x x1 r1 e1 rx q1 => ?_
  unfold revS at q1
  split at q1
  · rename_i z
    cases rx
    split at q1
    · rename_i hz
      exact ⟨z, rfl, hz, q1.ret r1 _ rfl⟩
    · exact q1.elim
  · exact q1.elim
/-! a, b, c = x, y, z -/
def par3 (i j l : Nat) (m : En → Mm (List Dt)) : En → Mm Fl := fun env => m env >>= fun ds => match ds with
  | [x, y, z] => Mm.pure (.nx (((env.set i (some x)).set j (some y)).set l (some z)))
  | _ => Mm.no
theorem ms_par3 {i j l : Nat} {x y z : Str} {px py pz pt : Pos} {kt k2 pt2} (hc : X.calm = true) (hN : X.N.Nodup) (hi : X.N[i]? = some x) (hj : X.N[j]? = some y) (hl : X.N[l]? = some z) (hij : i ≠ j) (hil : i ≠ l) (hjl : j ≠ l)
    (hx : X.env.scope.names.lookup x = some .local) (hy : X.env.scope.names.lookup y = some .local) (hz : X.env.scope.names.lookup z = some .local) (ha : PA X [a, b, c] (tA X.K E mr))
    (hw : swappedStores [.Tuple [.Name x px, .Name y py, .Name z pz] kt pt] (.Tuple [a, b, c] k2 pt2) X.env = pure (some [x, y, z]))
    (hs : swapsWithSole [.Tuple [.Name x px, .Name y py, .Name z pz] kt pt] (.Tuple [a, b, c] k2 pt2) pos.line X.env = pure false := by rfl) :
    PS X (.Assign [.Tuple [.Name x px, .Name y py, .Name z pz] kt pt] (.Tuple [a, b, c] k2 pt2) pos) (tS X.K E (par3 i j l mr)) := ps_mono (ps_par3 hc hN hi hj hl hij hil hjl hx hy hz ha hw hs) fun D σ H ⟨s, env, e, r, he, ha⟩ => by
  subst e
  refine tA_bind r he ha fun ds s1 vs x1 r1 e1 rv q => ?_
  match ds, rv, q with
  | [d1, d2, d3], ⟨v, _, e2, rv1, w, _, e3, rv2, w3, _, e5, rv3, e6⟩, q =>
    subst e2 e3 e5 e6
    exact ⟨v, w, w3, rfl, q.ret r1 _ (((e1.set rv1 i).set rv2 j).set rv3 l)⟩
  | [], _, q => exact q.elim
  | [_], _, q => exact q.elim
  | [_, _], _, q => exact q.elim
  | _ :: _ :: _ :: _ :: _, _, q => exact q.elim
end
end Mo
set_option Elab.async false
set_option linter.all false
set_option maxRecDepth 100000
set_option maxHeartbeats 4000000
/-! MoH: the truth of a value; defs by their names. -/
namespace Mo
open PySem L2 PySem.Spec PyProof.Rows
section
variable {X : Cx} {E : XK} {K : PySem.W.Frag} {s s0 : Sx} {d : Dt} {v : V} {e a b : Expr} {pos p kpos : Pos} {es : List Expr} {ma : En → Mm Dt} {mr : En → Mm (List Dt)}
def truR (h : Ah) : Dt → Option Bool
  | .non => some false
  | .bl b => some b
  | .int i => some (i != 0)
  | .str x => if x.length ≤ sizeLine then some ((x.length : Int) != 0) else none
  | .tup xs => some !xs.isEmpty
  | .wt xs => some !xs.isEmpty
  | d => match lstR h d with
    | some xs => some !xs.isEmpty
    | none => none
theorem reps_empty {ds : List Dt} {vs : List V} (h : Reps K s ds vs) : ds.isEmpty = vs.isEmpty := by
  have := h.length
  cases ds with
  | nil => cases vs with
    | nil => rfl
    | cons _ _ => simp at this
  | cons _ _ => cases vs with
    | nil => simp at this
    | cons _ _ => rfl
theorem truR_ok {k : Bool} (r : HRel K s) (rv : Rep K s d v) (e : truR s.h d = some k) : TruV K v s.H k := by
  have lst : ∀ xs, lstR s.h d = some xs → k = !xs.isEmpty → TruV K v s.H k := fun xs q ek => by
    obtain ⟨a, vs, rfl, sq, rs⟩ := lstR_ok r rv q
    exact .inl ⟨vs, sq, by rw [ek, reps_empty rs]⟩
  have tup : ∀ xs, tupR d = some xs → k = !xs.isEmpty → TruV K v s.H k := fun xs q ek => by
    obtain ⟨a, vs, rfl, sq, rs⟩ := tupR_ok rv q
    exact .inr (.inl ⟨vs, sq, by rw [ek, reps_empty rs]⟩)
  have gen : (match lstR s.h d with | some xs => some !xs.isEmpty | none => none) = some k → TruV K v s.H k := by
    intro e
    cases q : lstR s.h d with
    | none => rw [q] at e; cases e
    | some xs => rw [q] at e; exact lst xs q (Option.some.inj e).symm
  cases d with
  | non => cases rv; cases e; rfl
  | bl => cases rv; cases e; rfl
  | int => cases rv; cases e; rfl
  | str x =>
    cases rv
    simp only [truR] at e
    split at e
    · rename_i hl
      cases e
      exact ⟨hl, rfl⟩
    · cases e
  | tup xs => exact tup xs rfl (Option.some.inj e).symm
  | wt xs => exact tup xs rfl (Option.some.inj e).symm
  | _ => exact gen e
def tru (m : En → Mm Dt) : En → Mm Bool := fun env => m env >>= fun d h => match truR h d with
  | some k => .ok k h
  | none => .no
theorem mt_tru (h : PE X e (tE X.K E ma)) (he : ∀ whole, isTrue e X.env whole = (do let v ← whole; standAt e.pos; holding [v] (truthy v)) := by intro _; rfl) : PT X e (tT X.K E (tru ma)) :=
  pt_mono (pt_truth h he) fun σ H Q ⟨s, env, e, r, he, ha⟩ => by
    subst e
    refine tE_bind r he ha fun d s1 x x1 r1 e1 rx q => ?_
    cases qt : truR s1.h d with
    | none => rw [qt] at q; exact q.elim
    | some k =>
      rw [qt] at q
      exact ⟨k, truR_ok r1 rx qt, q.ret r1⟩
end
/-! ### a def by its name -/
structure FnH (P : Program) (w : World) (K : PySem.W.Frag) (mg : Str → Option Value) (base : Heap) (k : Nat) (x : Str) (ps : List Str) (fm : List Dt → Mm Dt) : Prop where
  ex : ∃ fd, FnG P w K mg base k (He.ga K x) fd ps fm ∧ Binds K fd ps []
  kp : PySem.W.keepIn K (.ref (He.ga K x)) = true
  gl : mg x = some (.ref (He.ga K x))
/-- .. called by keywords alone, told as ks, put into the parameters' order by pm -/
structure FnKw (P : Program) (w : World) (K : PySem.W.Frag) (mg : Str → Option Value) (base : Heap) (k : Nat) (x : Str) (ps ks : List Str) (pm : List Nat) (fm : List Dt → Mm Dt) : Prop where
  ex : ∃ fd, FnG P w K mg base k (He.ga K x) fd ps fm ∧ ∀ (s : Shared) (ws : List Value), ws.length = ps.length → BindsTo s fd ⟨[], ks.zip ws⟩ (ps.zip (permL pm ws))
  kp : PySem.W.keepIn K (.ref (He.ga K x)) = true
  gl : mg x = some (.ref (He.ga K x))
abbrev FnP (K : PySem.W.Frag) (x : Str) (st : Stmt) (fd : FuncData) : Prop := FunD K x x (defArgs st) (defBody st) (defScope st) [] [] (He.ga K x) fd
theorem kwBinds {K : PySem.W.Frag} {x qual : Str} {params : Arguments} {body : List Stmt} {scope : Scope} {kws : List (Str × V)} {f : Addr} {fd : FuncData} {ps ks : List Str} {pm : List Nat} (F : FunD K x qual params body scope [] kws f fd)
    (h : ∀ (kV doc pm' : Value) (an : Option Addr) (cdv ct : Value) (us : List Value), us.length = ps.length → bindArgs (PySem.W.fnOf x qual params body scope .none kV doc pm' an cdv ct) ⟨[], ks.zip us⟩ = pure (ps.zip (permL pm us))) (s : Shared) (us : List Value) (hl : us.length = ps.length) : BindsTo s fd ⟨[], ks.zip us⟩ (ps.zip (permL pm us)) := by
  obtain ⟨oc, od, dV, kV, doc, pm, an, cdv, ct, osl, rfl, lk, hcd, hD, hK⟩ := F.ex
  rcases hD with ⟨_, rfl⟩ | ⟨e, _⟩
  · exact .of_eq (h kV doc pm an cdv ct us hl)
  · exact absurd rfl e
section
variable {X : Cx} {k j : Nat} {ps ks : List Str} {pm : List Nat} {fm : List Dt → Mm Dt} {x : Str} {p pos kpos : Pos} {e : Expr} {es : List Expr} {kws : List Keyword} {mr mk : En → Mm (List Dt)}
theorem me_callH {n : Nat} (F : FnH X.prog X.w X.K X.mg X.base k x ps fm) (hgd : X.A.guards = some []) (hr : Room j X.A) (ha : PA X (e :: es) (tA X.K E0 mr)) (hn : ps.length = n := by rfl) (hg : Gl X x := by rfl) (hkj : k ≤ j := by decide) (hdb : (x == ("__debug__" : Str)) = false := by decide) (he : starEach (e :: es) X.env = (false, eval e X.env) :: starEach es X.env := by rfl) (hpl : (backTo pos (starEach es X.env)).any (·.1) = false := by rfl) :
    PE X (.Call (.Name x p) (e :: es) [] pos) (tE X.K E0 (callM n fm mr)) := by
  subst hn
  obtain ⟨fd, G, B⟩ := F.ex
  exact me_callG G hgd (hr.mono hkj) hg F.gl F.kp B ha hdb he hpl
theorem me_callH0 (F : FnH X.prog X.w X.K X.mg X.base k x [] fm) (hgd : X.A.guards = some []) (hr : Room j X.A) (hg : Gl X x := by rfl) (hkj : k ≤ j := by decide) (hdb : (x == ("__debug__" : Str)) = false := by decide) : PE X (.Call (.Name x p) [] [] pos) (tE X.K E0 (fun _ => fm [])) := by
  obtain ⟨fd, G, B⟩ := F.ex
  exact me_callG0 G hgd (hr.mono hkj) hg F.gl F.kp B hdb
theorem me_callKw {n : Nat} (F : FnKw X.prog X.w X.K X.mg X.base k x ps ks pm fm) (hgd : X.A.guards = some []) (hr : Room j X.A) (hkw : PK X kws (tA X.K E0 mr)) (hn : ps.length = n := by rfl) (hg : Gl X x := by rfl) (hkj : k ≤ j := by decide) (hall : (backToKw pos (keywordEach kws X.env)).all (·.1.isSome) = true := by rfl) (hks : (backToKw pos (keywordEach kws X.env)).filterMap (·.1) = ks := by rfl)
    (hdb : (x == ("__debug__" : Str)) = false := by decide) (hpl : ((backTo pos (starEach [] X.env)).any (·.1) || (backToKw pos (keywordEach kws X.env)).any (·.1.isNone)) = false := by rfl) :
    PE X (.Call (.Name x p) [] kws pos) (tE X.K E0 (callK n pm fm mr)) := by
  subst hn
  obtain ⟨fd, G, B⟩ := F.ex
  exact me_callGK G hgd (hr.mono hkj) hg F.gl F.kp B hkw hall hks hdb hpl
theorem un65 {k : Nat} {A : Around} (r : Room k A) : A.units + 65 < cLine := by have := r.un; omega
theorem un64 {k : Nat} {A : Around} (r : Room k A) : A.units + 64 < cLine := by have := r.un; omega
theorem un1 {k : Nat} {A : Around} (r : Room k A) : A.units + 1 < cLine := by have := r.un; omega
end
end Mo
set_option Elab.async false
set_option linter.all false
set_option maxRecDepth 100000
set_option maxHeartbeats 4000000
/-! MoI: dict comprehensions whose store is any rule (keys that are tuples). -/
namespace Mo
open PySem L2 PySem.Spec PyProof.Rows
/-- d[k] = v as a comprehension does it, k a tuple -/
theorem setT {Y : Cx} {pins : List (Addr × Obj)} {σ : L2.St} {G : Hp} {t : Shared} {E : Value → Shared → Prop} {D b : Addr} {kvs : List (List Key × V)} {k : List Key} {v : V} {r : Value} {Q : Unit → Shared → Prop} (hu : Y.A.units + 1 < cLine) (I : Inv Y pins σ G t)
    (eD : G D = some (.dT kvs)) (eb : G b = some (.tup (k.map kV))) (l : kvs.length < sizeLine) (rv : RelV v r) (h : ∀ t', Inv Y pins σ (upd G D (.dT (putK kvs k v))) t' → Q () t') : wpAny (model Y.prog Y.w) Y.A (dictSet D (.ref b) r) Q E t := by
  obtain ⟨z, low, xs, rel, dd⟩ := dt_of I.hok eD
  have lx : xs.length ≤ sizeLine := by rw [← Paired.length rel]; exact z
  have lp : (putK kvs k v).length ≤ sizeLine := by
    have := length_putK kvs k v
    omega
  refine wpAny_dictSet_heap (hsz := lx) (show (tupleKind (mixKind Y.prog Y.w)).room Y.A from (by show Y.A.units < cLine; omega)) (key_of I.hok eb) dd fun h' dd' same => h _ ?_
  obtain ⟨q, es, ep, hq, c2, c3, c4, _, c5⟩ := dd'
  refine d_write I (by rw [eD]; exact True.intro) same ⟨q, hq⟩ ⟨lp, low, _, (rel.put k eb rv).keeps fun c ys ec => ?_, q, es, ep, hq, c2, c3, c4, c5⟩
  rw [upd_ne (ne_of ec eD (fun z => nomatch z))]
  exact ec
section
variable {X : Cx}
/-- what a dict comprehension asks: u0 the empty dict, Put the store -/
def tDg (u0 : HO) (Put : Hp → Addr → V → V → Hp → Prop) (wi : TI) (g : TG) (tt : TT) (tk tv : TE) (vs : List Nat) : TE := fun σ H Q => wi σ H fun J H1 => ∀ D, H1 D = none → ∃ W : Nat → Nat → Hp → Prop, (∃ m, W 0 m (upd H1 D u0)) ∧ ∀ i m G, W i m G →
  (J.stop i G ∧ Q (.ref D) G) ∨ (J.go i G ∧ ∃ Nx : Hp → Prop, (∀ G', Nx G' → ∃ m', m' < m ∧ W (i + 1) m' G') ∧ ∀ x G', J.yld i G x G' → g x (L2.wipe σ vs) G' fun σ2 G2 => L2.wipe σ2 vs = L2.wipe σ vs ∧ tt σ2 G2 fun c G3 =>
    if c = true then tk σ2 G3 fun y G4 => tv σ2 G4 fun z G5 => ∃ G6, Put G5 D y z G6 ∧ Nx G6 else Nx G3)
theorem dg_core {u0 : HO} {Put : Hp → Addr → V → V → Hp → Prop} {pins : List (Addr × Obj)} {s : Shared} {σ : L2.St} {H : Hp} {Q : VK} {kx vx tg iter : Expr} {ifs : List Expr} {scope : Scope} {own : List (Str × Nat)} {pos pos' : Pos} {wi : TI} {g : TG} {tt : TT} {tk tv : TE} {use : Option (Value → Sem Unit)} {Qf : Value → Shared → Prop}
    (hu0 : ∀ (G : Hp) (h : Heap), sysModules < h.objs.size → ObjOk X.prog X.w G (h.push { cls := .type "dict", data := .dict #[] }) h.objs.size u0)
    (hput : ∀ (Y : Cx), Y.prog = X.prog → Y.w = X.w → Y.A = X.A → Y.K = X.K → ∀ (pn : List (Addr × Obj)) (τ : L2.St) (G G' : Hp) (t : Shared) (E : Value → Shared → Prop) (D : Addr) (y v : V) (u r : Value) (R : Unit → Shared → Prop), Inv Y pn τ G t → Put G D y v G' → RelV y u → RelV v r → (∀ t', Inv Y pn τ G' t' → R () t') → wpAny (model Y.prog Y.w) Y.A (dictSet D u r) R E t)
    (hc : X.calm = true) (hN : X.N.Nodup) (I : Inv X pins σ H s) (hi : PI X tg iter wi) (ok : BlkOk X.N X.env.scope scope own)
    (hg : ∀ (t : Shared) (G : Hp) (C : Addr) (cl : List (Str × Addr)) (fp : List Addr), PG (X.blk t G scope (compEnvC scope cl C X.env) fp) tg g) (ht : ∀ (t : Shared) (G : Hp) (C : Addr) (cl : List (Str × Addr)) (fp : List Addr), PTs (X.blk t G scope (compEnvC scope cl C X.env) fp) ifs tt)
    (hk : ∀ (t : Shared) (G : Hp) (C : Addr) (cl : List (Str × Addr)) (fp : List Addr), PE (X.blk t G scope (compEnvC scope cl C X.env) fp) kx tk)
    (he : ∀ (t : Shared) (G : Hp) (C : Addr) (cl : List (Str × Addr)) (fp : List Addr), PE (X.blk t G scope (compEnvC scope cl C X.env) fp) vx tv) (hs : ∀ x, foldedSetIterable iter X.env x = pure x)
    (h : tDg u0 Put wi g tt tk tv (own.map (·.2)) σ H Q)
    (fine : ∀ D C s' m H', Inv X pins σ H' s' → Q (.ref D) H' → s'.heap.Ns C m → FpOk X pins H' C → compPost (model X.prog X.w) X.A X.xe use Qf (.ref D) C (.ok .next) s') :
    wpAny (model X.prog X.w) X.A (comprehension (.DictComp kx vx [⟨tg, iter, ifs, 0⟩] scope pos) scope X.env pos' newDict false (eval iter X.env) use) Qf X.xe s := by
  have clo : ∀ y ∈ scope.names, y.2 = .free → ∃ c, X.env.cells.lookup y.1 = some c := fun y hy e => (ok.free y hy e).elim (fun k => I.ok.has _ (.inl k)) fun k => I.ok.has _ (.inr k)
  refine wpAny_comprehension_free (use := use) rfl hs (closure_ok clo) ok.kind (fun y hy e => by rw [ok.uniq y hy, e]) (thn (hi.run pins s σ H _ I h) fun xv sa hx => thn hx fun itv sb hb => ?_)
  obtain ⟨it, fp, tn, J, Hb, e, Ib, T, stb, fb, q⟩ := hb
  subst e
  refine wpAny_newObj_type (newEnv_comp ?_)
  generalize hD : sb.heap.objs.size = D
  have nD : Hb D = none := Ib.hok.fresh (Nat.le_of_eq hD)
  obtain ⟨W, ⟨m0, w0⟩, turn⟩ := q D nD
  generalize hsc : ({ sb with heap := sb.heap.push { cls := .type "dict", data := .dict #[] } } : Shared) = sc
  have Ic : Inv X pins σ (upd Hb D u0) sc := by
    rw [← hsc]
    refine Ib.laid (t' := sb.toks) (fun b o e => Heap.get?_push_of_some _ e) (Nat.le_of_eq hD) ?_
    rw [← hD]
    exact hu0 _ _ Ib.big
  have hpc : sc.heap = sb.heap.push { cls := .type "dict", data := .dict #[] } := by rw [← hsc]
  have fc : ∀ b ∈ fp, FpOk X pins (upd Hb D u0) b ∧ b < sc.heap.objs.size := fun b hb => by
    obtain ⟨o, eo, _⟩ := T.obj _ _ stb b hb
    have lt := Heap.lt_size eo
    refine ⟨⟨?_, (fb b hb).2⟩, by rw [hpc, Heap.size_push]; exact Nat.lt_succ_of_lt lt⟩
    rw [upd_ne (by rw [← hD]; exact Nat.ne_of_lt lt)]
    exact (fb b hb).1
  have stc : tn 0 sc.heap := T.keep _ _ _ stb fun b _ o e => by rw [hpc]; exact Heap.get?_push_of_some _ e
  have Id := block_start Ic ok hN fc
  have pg := hg sc (upd Hb D u0) sc.heap.objs.size (cellsFrom (sc.heap.objs.size + 1) scope.names (cloFrom X.env.cells scope.names [])) fp
  have pt := ht sc (upd Hb D u0) sc.heap.objs.size (cellsFrom (sc.heap.objs.size + 1) scope.names (cloFrom X.env.cells scope.names [])) fp
  have pk := hk sc (upd Hb D u0) sc.heap.objs.size (cellsFrom (sc.heap.objs.size + 1) scope.names (cloFrom X.env.cells scope.names [])) fp
  have pe := he sc (upd Hb D u0) sc.heap.objs.size (cellsFrom (sc.heap.objs.size + 1) scope.names (cloFrom X.env.cells scope.names [])) fp
  show codeAny _ _ (.compStart (.DictComp kx vx [⟨tg, iter, ifs, 0⟩] scope pos) 0 (.ref it) (.ref D) (compEnvC scope (cellsFrom (sc.heap.objs.size + 1) scope.names (cloFrom X.env.cells scope.names [])) sc.heap.objs.size X.env)) (compPost (model X.prog X.w) X.A X.xe use Qf (.ref D) sc.heap.objs.size) { sc with heap := pushCells (sc.heap.push { cls := .type "dict", data := .dict #[] }) scope.names }
  have nofp : ∀ b ∈ fp, (upd Hb D u0) b = none := fun b hb => (fc b hb).1.1
  generalize hce : compEnvC scope (cellsFrom (sc.heap.objs.size + 1) scope.names (cloFrom X.env.cells scope.names [])) sc.heap.objs.size X.env = ce at Id pg pt pk pe ⊢
  have ceL : ce.locals = sc.heap.objs.size := by subst hce; rfl
  generalize hHc : upd Hb D u0 = Hc at Ic Id pg pt pk pe w0 nofp fc
  generalize hsd : ({ sc with heap := pushCells (sc.heap.push { cls := .type "dict", data := .dict #[] }) scope.names } : Shared) = sd at Id ⊢
  have std : tn 0 sd.heap := T.keep _ _ _ stc fun b _ o e => by rw [← hsd]; exact pushCells_keeps _ _ _ _ (Heap.get?_push_of_some _ e)
  have stat : ∀ {τ : L2.St} {G : Hp} {t : Shared}, Inv (X.blk sc Hc scope ce fp) [] τ G t → (∀ b ∈ fp, G b = none) → ∀ b ∈ fp, FpOk (X.blk sc Hc scope ce fp) [] G b := fun {τ G t} IG hn b hb =>
    ⟨hn b hb, (IG.ok.exf b hb).1, IG.ok.exfs b hb, .inl hb, fun x c e => (IG.ok.exf b hb).2 x c e, fun p hp => absurd (show p ∈ ([] : List (Addr × Obj)) ++ [] from hp) (by simp)⟩
  have loop : codeAny (model X.prog X.w) X.A (.compLoop (.DictComp kx vx [⟨tg, iter, ifs, 0⟩] scope pos) 0 (.ref it) (.ref D) ce) (compPost (model X.prog X.w) X.A X.xe use Qf (.ref D) sc.heap.objs.size) sd := by
    refine compLoop_anyD (fun n t => ∃ i G, Inv (X.blk sc Hc scope ce fp) [] (L2.wipe σ (own.map (·.2))) G t ∧ tn i t.heap ∧ (∀ b ∈ fp, G b = none) ∧ W i n G) ?_ m0 ⟨0, Hc, Id, std, nofp, w0⟩
    rintro n se ⟨i, Ge, Ie, ste, ne, we⟩
    rcases turn i n Ge we with ⟨stop, qq⟩ | ⟨go, Nx, hNx, step⟩
    · refine thnF (T.done (X.blk sc Hc scope ce fp) rfl rfl rfl hc i [] se _ Ge (fun _ _ => False) Ie (stat Ie ne) ste stop) fun r sf ⟨hr, If⟩ => ?_
      subst hr
      have Ig : Inv X pins σ Ge sf := Ic.call' (ch := fp) If.os If.base If.hok If.bare fun b hb => ⟨(fc b hb).1.2.2.2.1, (fc b hb).1.2.1, (fc b hb).1.2.2.2.2.1, (fc b hb).1.2.2.2.2.2⟩
      have nC : Ge sc.heap.objs.size = none := by
        have z : Ge ce.locals = none := If.free
        rwa [ceL] at z
      obtain ⟨m, hn, _⟩ := If.loc
      have hn : sf.heap.Ns ce.locals m := hn
      rw [ceL] at hn
      exact fine D sc.heap.objs.size sf m Ge Ig qq hn (Ic.fpOk (Nat.le_refl _) nC)
    · refine thnF (T.item (X.blk sc Hc scope ce fp) rfl rfl rfl hc i [] se _ Ge (fun _ _ => False) Ie (stat Ie ne) ste go) fun r sf ⟨u, hr, hf⟩ => ?_
      subst hr
      refine thnF hf fun _ sg ⟨x, Gg, Ig, rg, yg, stg, ng⟩ => ?_
      have Ig' := Ig.pinned (stat Ig ng) (T.obj _ _ stg)
      refine thnF (pg.run _ sg _ Gg x u _ Ig' rg (step x Gg yg)) fun _ sh ⟨σh, Gh, Ih, wh, qh⟩ => ?_
      refine thnF (pt.run _ sh σh Gh _ Ih qh) fun c si ⟨Gi, Ii, qi⟩ => ?_
      have turned : ∀ {t : Shared} {G : Hp}, Inv (X.blk sc Hc scope ce fp) ([] ++ pinsAt fp sg.heap) σh G t → Nx G → ∃ m, m < n ∧ ∃ i G, Inv (X.blk sc Hc scope ce fp) [] (L2.wipe σ (own.map (·.2))) G t ∧ tn i t.heap ∧ (∀ b ∈ fp, G b = none) ∧ W i m G := fun {t G} IG nx => by
        obtain ⟨m', hm, w'⟩ := hNx G nx
        have kept : ∀ b ∈ fp, ∀ o, sg.heap.get? b = some o → t.heap.get? b = some o ∧ G b = none := fun b hb o e => by
          have z := IG.pin (b, o) (List.mem_append_right _ (List.mem_append_right _ (mem_pinsAt hb e)))
          exact ⟨z.1, z.2.1⟩
        have hl : (L2.wipe σ (own.map (·.2))).length = σh.length := by rw [← wh, L2.wipe_length]
        refine ⟨m', hm, i + 1, G, (IG.unpinned (pins := [])).weak hl (fun j v e => ?_), T.keep _ _ _ stg fun b hb o e => (kept b hb o e).1, fun b hb => ?_, w'⟩
        · rw [← wh] at e
          exact (wipe_some e).1
        · obtain ⟨o, e, _⟩ := T.obj _ _ stg b hb
          exact (kept b hb o e).2
      cases c with
      | false =>
        simp only [Bool.false_eq_true, if_false] at qi ⊢
        exact turned Ii qi
      | true =>
        simp only [if_true] at qi ⊢
        refine thnF (pk.run _ si σh Gi _ Ii qi) fun z sj ⟨yk, Gj, Ij, rj, qj⟩ => ?_
        refine thnF (pe.run _ sj σh Gj _ Ij qj) fun z2 sk ⟨yv, Gk, Ik, rk, Gl, put, nx⟩ => ?_
        obtain ⟨rk', nx'⟩ := (show (∃ G6, Put Gk D yk yv G6 ∧ Nx G6) → (∃ G6, Put Gk D yk yv G6 ∧ Nx G6) from id) ⟨Gl, put, nx⟩
        exact hput (X.blk sc Hc scope ce fp) rfl rfl rfl rfl _ _ _ _ _ _ _ _ _ _ _ _ Ik put rj rk fun st It => turned It nx
  exact codeAny_compStart_dict loop (T.self X.A 0 _ _ _ std loop)
/-- name = {..} on one line, the name a local -/
theorem ps_setDg {u0 : HO} {Put : Hp → Addr → V → V → Hp → Prop} {i : Nat} {y : Str} {py spos : Pos} {kx vx tg iter : Expr} {ifs : List Expr} {scope : Scope} {own : List (Str × Nat)} {pos : Pos} {wi : TI} {g : TG} {tt : TT} {tk tv : TE}
    (hu0 : ∀ (G : Hp) (h : Heap), sysModules < h.objs.size → ObjOk X.prog X.w G (h.push { cls := .type "dict", data := .dict #[] }) h.objs.size u0)
    (hput : ∀ (Y : Cx), Y.prog = X.prog → Y.w = X.w → Y.A = X.A → Y.K = X.K → ∀ (pn : List (Addr × Obj)) (τ : L2.St) (G G' : Hp) (t : Shared) (E : Value → Shared → Prop) (D : Addr) (y v : V) (u r : Value) (R : Unit → Shared → Prop), Inv Y pn τ G t → Put G D y v G' → RelV y u → RelV v r → (∀ t', Inv Y pn τ G' t' → R () t') → wpAny (model Y.prog Y.w) Y.A (dictSet D u r) R E t)
    (hc : X.calm = true) (hN : X.N.Nodup) (hy : X.N[i]? = some y) (hyl : X.env.scope.names.lookup y = some .local)
    (hsw : swapsWith (.DictComp kx vx [⟨tg, iter, ifs, 0⟩] scope pos) (some (.Name y py)) spos.line X.env = pure true) (hi : PI X tg iter wi) (ok : BlkOk X.N X.env.scope scope own)
    (hg : ∀ (t : Shared) (G : Hp) (C : Addr) (cl : List (Str × Addr)) (fp : List Addr), PG (X.blk t G scope (compEnvC scope cl C X.env) fp) tg g) (ht : ∀ (t : Shared) (G : Hp) (C : Addr) (cl : List (Str × Addr)) (fp : List Addr), PTs (X.blk t G scope (compEnvC scope cl C X.env) fp) ifs tt)
    (hk : ∀ (t : Shared) (G : Hp) (C : Addr) (cl : List (Str × Addr)) (fp : List Addr), PE (X.blk t G scope (compEnvC scope cl C X.env) fp) kx tk)
    (he : ∀ (t : Shared) (G : Hp) (C : Addr) (cl : List (Str × Addr)) (fp : List Addr), PE (X.blk t G scope (compEnvC scope cl C X.env) fp) vx tv) (hs : ∀ x, foldedSetIterable iter X.env x = pure x := by intro _; rfl) :
    PS X (.Assign [.Name y py] (.DictComp kx vx [⟨tg, iter, ifs, 0⟩] scope pos) spos) (tAsg (tDg u0 Put wi g tt tk tv (own.map (·.2))) (gName i)) := by
  refine ⟨fun pins s σ H D I h => ?_⟩
  rw [exec_Assign_Name_used _ _ _ _ hsw]
  refine wpAny_bind (wpAny_standAt (wpAny_bind ?_))
  show wpAny _ X.A (do let _ ← comprehension (.DictComp kx vx [⟨tg, iter, ifs, 0⟩] scope pos) scope X.env (firstIterPos [⟨tg, iter, ifs, 0⟩] pos) newDict false (eval iter X.env) (some (assign (.Name y py) X.env))) _ _ s
  have h : tDg u0 Put wi g tt tk tv (own.map (·.2)) σ H (fun x H1 => gName i x σ H1 D.nx) := h
  refine wpAny_bind (thn (dg_core (Qf := fun _ s' => SP X pins D .next s') hu0 hput hc hN I hi ok hg ht hk he hs h fun L C t m G IG q hn f => ?_) fun _ s' hq => wpAny_pure (wpAny_pure hq))
  show wpAny _ _ (assign (.Name y py) X.env (.ref L)) _ _ _
  refine wpAny_assign_Name (store_ok2 (v := V.ref L) IG hN hy (.inl hyl) rfl (fun t2 I2 ⟨a, sb, ha⟩ => ?_) (.inr hyl))
  obtain ⟨k0, k1, k2, k3, k4, k5⟩ := f
  have apart : C ≠ a := ha.elim (fun z => by rw [z]; exact k1) fun z e => k4 y a z e.symm
  exact ⟨m, hn.sameBut sb apart, fun h3 sb3 => ⟨_, G, I2.turned (t' := t2.toks) (fun b o hb e => (sb3.2 b hb).trans e) k0 k1 k3 k4 k5, q⟩⟩
theorem swd_true {kx vx : Expr} {gs : List Comprehension} {scope : Scope} {pos py : Pos} {y : Str} {l : Nat} {env : Env} (hk : env.scope.kind = .function) (hy : env.scope.names.lookup y = some .local) (hl : (py.line == pos.line) = true)
    (ha : (scope.names.any fun (n, k) => n == y && (k == .local || k == .cell)) = false) : swapsWith (.DictComp kx vx gs scope pos) (some (.Name y py)) l env = pure true := by
  have ky : env.kindOf y = some .local := hy
  have hb : env.blockKind = .function := by unfold Env.blockKind; rw [hk]; rfl
  unfold swapsWith
  simp only [hb, ky, ha, Expr.pos, hl]
  rfl
end
end Mo
set_option Elab.async false
set_option linter.all false
set_option maxRecDepth 100000
set_option maxHeartbeats 4000000
/-! MoJ: {(a, b): v for ..} as a tracked dict. -/
namespace Mo
open PySem L2 PySem.Spec PyProof.Rows
section
variable {X : Cx} {E : XK} {mk mv : En → Mm Dt} {mt : En → Mm Bool}
def PutT (G : Hp) (D : Addr) (y v : V) (G' : Hp) : Prop := ∃ (kvs : List (List Key × V)) (k : List Key) (b : Addr), G D = some (.dT kvs) ∧ y = .ref b ∧ G b = some (.tup (k.map kV)) ∧ kvs.length < sizeLine ∧ G' = upd G D (.dT (putK kvs k v))
def putO (n : Nat) (k y : Dt) : Mm Unit := fun h => match h[n]? with
  | some (.dt ks vs) => match keyT k with
    | some kk => if vs.length < sizeLine then .ok () (h.set n (.dt (putG ks vs kk y).1 (putG ks vs kk y).2)) else .no
    | none => .no
  | _ => .no
theorem putO_ok {K : PySem.W.Frag} {s : Sx} {n : Nat} {a : Addr} {k y : Dt} {kv yv : V} {c : Unit → Sx → Prop} (r : HRel K s) (ea : s.ρ[n]? = some a) (rk : Rep K s k kv) (ry : Rep K s y yv) (h : After K E s (putO n k y s.h) c) :
    ∃ G6, PutT s.H a kv yv G6 ∧ ∃ s', s'.H = G6 ∧ Ext s s' ∧ HRel K s' ∧ s'.ρ[n]? = some a ∧ c () s' := by
  unfold putO at h
  split at h
  · rename_i ks vs q
    split at h
    · rename_i kk hk
      split at h
      · rename_i hl
        obtain ⟨ws, h1, h2, h3⟩ := r.ob n a _ ea q
        obtain ⟨us, p1, p2, p3⟩ := put_ok (k := kk) h2 h3 ry
        have x := put_ext (u := .dT ((putG ks vs kk y).1.zip us)) (o' := .dt (putG ks vs kk y).1 (putG ks vs kk y).2) r ea q (by intro z; cases z)
        have r' := put_rel (u := .dT ((putG ks vs kk y).1.zip us)) (o' := .dt (putG ks vs kk y).1 (putG ks vs kk y).2) r ea q (by intro z; cases z) ⟨us, upd_same, p2, p3.ext x⟩
        cases k with
        | tup ds =>
          obtain ⟨b, bs, rfl, kb, rs⟩ := rk
          refine ⟨_, ⟨_, kk, b, h1, rfl, ?_, ?_, rfl⟩, _, ?_, x, r', ea, h.now _ rfl x r'⟩
          · rw [← keysD_ok rs hk]; exact kb.1
          · rw [List.length_zip, h2, Nat.min_self, h3.length]; exact hl
          · show upd s.H a (.dT ((putG ks vs kk y).1.zip us)) = _
            rw [p1]
        | _ => cases hk
      · exact h.elim
    · exact h.elim
  · exact h.elim
def dcL (p : Pat) (mt : En → Mm Bool) (mk mv : En → Mm Dt) (n : Nat) : List Dt → En → Mm Unit
  | [], _ => Mm.pure ()
  | d :: ds, env => gP p d env >>= fun e1 => mt e1 >>= fun c => match c with
    | true => mk e1 >>= fun k => mv e1 >>= fun y => putO n k y >>= fun _ => dcL p mt mk mv n ds env
    | false => dcL p mt mk mv n ds env
def dcM (mi : En → Mm (List Dt)) (p : Pat) (mt : En → Mm Bool) (mk mv : En → Mm Dt) (vs : List Nat) : En → Mm Dt := fun env => mi env >>= fun ds => newO (.dt [] []) >>= fun n => dcL p mt mk mv n ds (wipeE env vs) >>= fun _ => Mm.pure (.obj n)
theorem tDg_ok {K : PySem.W.Frag} {mi : En → Mm (List Dt)} {p : Pat} {vs : List Nat} (hp : ∀ i ∈ p.sl, i ∈ vs) : ∀ σ H Q, tE K E (dcM mi p mt mk mv vs) σ H Q → tDg (.dT []) PutT (tI K E mi) (p.tg K) (tT K E mt) (tE K E mk) (tE K E mv) vs σ H Q := fun σ H Q ⟨s, env, e, r, he, ha⟩ => by
  subst e
  refine ⟨s, env, rfl, r, he, ha.bind.mono fun ds s1 x1 r1 q J hJ D hD => ?_⟩
  have q1 := q.bind
  have x2 := add_ext (u := .dT []) (o := .dt [] []) r1 hD
  have r2 := add_rel (u := .dT []) (o := .dt [] []) r1 hD ⟨[], upd_same, rfl, Reps.nil⟩
  have q2 := q1.now (s1.add D (.dT []) (.dt [] [])) rfl x2 r2
  have eD : (s1.add D (.dT []) (.dt [] [])).ρ[s1.h.length]? = some D := add_at r1
  have e2 := ((he.ext x1).ext x2).wipe vs
  refine ⟨fun i m H => ∃ s3, s3.H = H ∧ Ext s1 s3 ∧ HRel K s3 ∧ s3.ρ[s1.h.length]? = some D ∧ Envs K s3 (wipeE env vs) (L2.wipe σ vs) ∧ m = ds.length - i ∧ i ≤ ds.length ∧
      After K E s3 ((dcL p mt mk mv s1.h.length (ds.drop i) (wipeE env vs) >>= fun _ => Mm.pure (.obj s1.h.length)) s3.h) (fun d s' => ∀ v, Rep K s' d v → Q v s'.H),
    ⟨ds.length, _, rfl, x2, r2, eD, e2, by simp, Nat.zero_le _, by simpa using q2⟩, ?_⟩
  rintro i m H ⟨s3, rfl, x3, r3, eD3, e3, rfl, hi, q3⟩
  by_cases hlt : i < ds.length
  · have hd : ds.drop i = ds[i] :: ds.drop (i + 1) := by rw [List.drop_eq_getElem_cons hlt]
    rw [hd] at q3
    obtain ⟨go, yl⟩ := hJ.go s3 x3 r3 i ds[i] (by simp [hlt])
    have as : ∀ h, (dcL p mt mk mv s1.h.length (ds[i] :: ds.drop (i + 1)) (wipeE env vs) >>= fun _ => Mm.pure (.obj s1.h.length)) h = (gP p ds[i] (wipeE env vs) >>= fun e1 => mt e1 >>= fun c => match c with
        | true => mk e1 >>= fun k => mv e1 >>= fun y => putO s1.h.length k y >>= fun _ => dcL p mt mk mv s1.h.length (ds.drop (i + 1)) (wipeE env vs) >>= fun _ => Mm.pure (.obj s1.h.length)
        | false => dcL p mt mk mv s1.h.length (ds.drop (i + 1)) (wipeE env vs) >>= fun _ => Mm.pure (Dt.obj s1.h.length)) h := by
      intro h
      show Mm.bind (Mm.bind (gP p ds[i] (wipeE env vs)) _) _ h = Mm.bind (gP p ds[i] (wipeE env vs)) _ h
      simp only [Mm.bind]
      cases gP p ds[i] (wipeE env vs) h with
      | ok e1 h1 =>
        show Mm.bind (Mm.bind (mt e1) _) _ h1 = Mm.bind (mt e1) _ h1
        simp only [Mm.bind]
        cases mt e1 h1 with
        | ok c h2 =>
          cases c with
          | false => rfl
          | true =>
            show Mm.bind (Mm.bind (mk e1) _) _ h2 = Mm.bind (mk e1) _ h2
            simp only [Mm.bind]
            cases mk e1 h2 with
            | ok k h3 =>
              show Mm.bind (Mm.bind (mv e1) _) _ h3 = Mm.bind (mv e1) _ h3
              simp only [Mm.bind]
              cases mv e1 h3 with
              | ok y h4 =>
                show Mm.bind (Mm.bind (putO s1.h.length k y) _) _ h4 = Mm.bind (putO s1.h.length k y) _ h4
                simp only [Mm.bind]
                cases putO s1.h.length k y h4 <;> rfl
              | exn _ _ => rfl
              | no => rfl
            | exn _ _ => rfl
            | no => rfl
        | exn _ _ => rfl
        | no => rfl
      | exn _ _ => rfl
      | no => rfl
    rw [as] at q3
    refine .inr ⟨go, fun H' => ∃ s4, s4.H = H' ∧ Ext s1 s4 ∧ HRel K s4 ∧ s4.ρ[s1.h.length]? = some D ∧ Envs K s4 (wipeE env vs) (L2.wipe σ vs) ∧
        After K E s4 ((dcL p mt mk mv s1.h.length (ds.drop (i + 1)) (wipeE env vs) >>= fun _ => Mm.pure (.obj s1.h.length)) s4.h) (fun d s' => ∀ v, Rep K s' d v → Q v s'.H), ?_, fun x H' y => ?_⟩
    · rintro H' ⟨s4, rfl, x4, r4, eD4, e4, q4⟩
      exact ⟨ds.length - (i + 1), by omega, s4, rfl, x4, r4, eD4, e4, rfl, by omega, q4⟩
    · obtain ⟨s4, rfl, eh, x4, r4, rx⟩ := yl x H' y
      have e4 := e3.ext x4
      have q4 := After.ext x4 q3
      rw [← eh] at q4
      have eD4 := x4.pre _ _ eD3
      have q4' := q4.bind
      unfold gP at q4'
      cases qb : p.bd ds[i] (wipeE env vs) with
      | none => rw [qb] at q4'; exact q4'.elim
      | some e1 =>
        rw [qb] at q4'
        have q5 := q4'.ret r4
        refine p.ok rx qb e4 fun τ hτ bτ => ⟨by rw [bτ.wipe hp]; exact But.wipe (σ := σ) (τ := L2.wipe σ vs) (l := vs) ⟨wipe_length σ vs, fun j hj => wipe_out hj⟩ (fun i h => h), ?_⟩
        refine tT_bind r4 hτ q5 fun cb s6 x6 r6 e6 q6 => ?_
        cases cb with
        | false =>
          rw [if_neg (by decide)]
          exact ⟨s6, rfl, (x3.trans x4).trans x6, r6, x6.pre _ _ eD4, e4.ext x6, q6⟩
        | true =>
          rw [if_pos rfl]
          refine tE_bind r6 e6 q6 fun kd s7 kv x7 r7 e7 rk q7 => ?_
          refine tE_bind r7 e7 q7 fun yd s8 yv x8 r8 e8 ry q8 => ?_
          obtain ⟨G6, hp6, s9, es9, x9, r9, eD9, q9⟩ := putO_ok r8 (x8.pre _ _ (x7.pre _ _ (x6.pre _ _ eD4))) (rk.ext x8) ry q8.bind
          exact ⟨G6, hp6, s9, es9, ((x3.trans x4).trans ((x6.trans x7).trans x8)).trans x9, r9, eD9, (((e4.ext x6).ext x7).ext x8).ext x9, q9⟩
  · have hi' : i = ds.length := by omega
    subst hi'
    refine .inl ⟨hJ.stop s3 x3 r3, ?_⟩
    rw [List.drop_length] at q3
    exact (q3.bind.ret r3).ret r3 _ ⟨D, eD3, rfl⟩
theorem ms_setDcT {i : Nat} {y : Str} {py spos pos : Pos} {kx vx tg iter : Expr} {ifs : List Expr} {scope : Scope} {own : List (Str × Nat)} {mi : En → Mm (List Dt)} {p : Pat} (hu : X.A.units + 1 < cLine) (hc : X.calm = true) (hN : X.N.Nodup) (hp : ∀ i ∈ p.sl, i ∈ own.map (·.2)) (hy : X.N[i]? = some y) (hyl : X.env.scope.names.lookup y = some .local)
    (hsw : swapsWith (.DictComp kx vx [⟨tg, iter, ifs, 0⟩] scope pos) (some (.Name y py)) spos.line X.env = pure true) (hi : PI X tg iter (tI X.K E mi)) (ok : BlkOk X.N X.env.scope scope own)
    (hg : ∀ (s : Shared) (H : Hp) (C : Addr) (cl : List (Str × Addr)) (fp : List Addr), PG (X.blk s H scope (compEnvC scope cl C X.env) fp) tg (p.tg X.K)) (ht : ∀ (s : Shared) (H : Hp) (C : Addr) (cl : List (Str × Addr)) (fp : List Addr), PTs (X.blk s H scope (compEnvC scope cl C X.env) fp) ifs (tT X.K E mt))
    (hk : ∀ (s : Shared) (H : Hp) (C : Addr) (cl : List (Str × Addr)) (fp : List Addr), PE (X.blk s H scope (compEnvC scope cl C X.env) fp) kx (tE X.K E mk))
    (he : ∀ (s : Shared) (H : Hp) (C : Addr) (cl : List (Str × Addr)) (fp : List Addr), PE (X.blk s H scope (compEnvC scope cl C X.env) fp) vx (tE X.K E mv)) (hs : ∀ x, foldedSetIterable iter X.env x = pure x := by intro _; rfl) :
    PS X (.Assign [.Name y py] (.DictComp kx vx [⟨tg, iter, ifs, 0⟩] scope pos) spos) (tS X.K E (sto i (dcM mi p mt mk mv (own.map (·.2))))) :=
  ps_mono (ps_setDg (u0 := .dT []) (Put := PutT) (fun G h hb => dt_empty h hb) (fun Y e1 e2 e3 e4 pn τ G G' t EE D y v u r R I put ry rv hR => by
    obtain ⟨kvs, k, b, hD, rfl, hb, hl, rfl⟩ := put
    cases (show u = Value.ref b from ry)
    exact setT (by rw [e3]; exact hu) I hD hb hl rv hR) hc hN hy hyl hsw hi ok hg ht hk he hs) fun D σ H ⟨s, env, e, r, he, ha⟩ => by
  subst e
  exact tDg_ok hp _ _ _ (tE_bind r he ha fun d s1 v x1 r1 e1 rv q => q.ret r1 _ (e1.set rv i))
end
end Mo
set_option Elab.async false
set_option linter.all false
set_option maxRecDepth 100000
set_option maxHeartbeats 4000000
/-! MoK: x.replace(y, z, 1), upper, split as a tracked list. -/
namespace Mo
open PySem L2 PySem.Spec PyProof.Rows
open Builtin Builtin.Str in
def repl1 (x y z : Str) : Str := if (occurrences x y 0 x.length 1).isEmpty || (y.length == 0 && z.length == 0) then x else glued z (partsBetween x (occurrences x y 0 x.length 1) y.length)
open Builtin Builtin.Str in
theorem gives_repl1 (x y z : Str) (t u v k : Tok) (h0 : (u == 0 || v == 0) = false) (huv : (u == v) = false) (hyz : (y == z) = false) (hl : tooLong (x.length + (occurrences x y 0 x.length 1).length * z.length) = false) :
    Gives («str.replace» ⟨[.str x t, .str y u, .str z v, .int 1 k], []⟩) (if ((occurrences x y 0 x.length 1).isEmpty || (y.length == 0 && z.length == 0)) = true then .val (.str x t) else .str (glued z (partsBetween x (occurrences x y 0 x.length 1) y.length))) := by
  show Gives (if ((occurrences x y 0 x.length 1).isEmpty || (y.length == 0 && z.length == 0)) = true then (do rule "str.replace.nothing"; PySem.ret (.str x t)) else
          (do let alike ← isSame (.str y u) (.str z v)
              if alike = true then (do rule "str.replace.old-is-new"; PySem.ret (.str x t)) else
              if tooLong (x.length + (occurrences x y 0 x.length 1).length * z.length) = true then unsupported "str.replace:memory" else
              retStr (glued z (partsBetween x (occurrences x y 0 x.length 1) y.length)))) _
  cases hc : ((occurrences x y 0 x.length 1).isEmpty || (y.length == 0 && z.length == 0))
  · rw [isSame_str_other y z u v h0 huv hyz, hl]
    exact .of_eq rfl
  · exact .rule (.of_eq rfl)
open Builtin Builtin.Str in
theorem len_repl1 (x y z : Str) : (repl1 x y z).length ≤ x.length + z.length := by
  unfold repl1
  split
  · omega
  · have h1 := StrLaws.occ_length_le x y 0 x.length 1
    have hy : (glued y (partsBetween x (occurrences x y 0 x.length 1) y.length)).length = x.length := by rw [StrLaws.glued_between_self]
    rw [size_glued, length_partsBetween, Nat.add_sub_cancel] at hy
    rw [size_glued, length_partsBetween, Nat.add_sub_cancel]
    have h2 : (occurrences x y 0 x.length 1).length * z.length ≤ 1 * z.length := Nat.mul_le_mul_right _ h1
    omega
section
variable {X : Cx} {E : XK} {o e f : Expr} {te tf : TE} {to : TE} {y z : Str} {j k l : Nat} {c0 c1 c2 apos pos p p' : Pos} {es : List Expr} {ta : TA} {mo mx : En → Mm Dt} {mr : En → Mm (List Dt)}
def tRepl1 (to : TE) (y z : Str) : TE := fun σ H Q => to σ H fun v H1 => ∃ x, v = .str x ∧ x.length + z.length ≤ 16777216 ∧ Q (.str (repl1 x y z)) H1
open Builtin Builtin.Str in
theorem pet_repl1 (ho : PE X o to) (hyz : (y == z) = false)
    (hst : starEach [.Constant (.str y) j c0, .Constant (.str z) k c1, .Constant (.int 1) l c2] X.env = [(false, eval (.Constant (.str y) j c0) X.env), (false, eval (.Constant (.str z) k c1) X.env), (false, eval (.Constant (.int 1) l c2) X.env)] := by rfl)
    (hbase : attributeBase o "replace" X.env (eval o X.env) = eval o X.env := by rfl) (hline : (apos.endLine == pos.line) = true := by rfl) :
    PET X (.Call (.Attribute o "replace" apos) [.Constant (.str y) j c0, .Constant (.str z) k c1, .Constant (.int 1) l c2] [] pos) (tRepl1 to y z) := by
  intro pins s σ H Q h0 I h
  refine wpAny_Call_method_lateS hbase (by rw [hst]; rfl) hline ?_
  rw [hst]
  refine wpAny_mono (wpAny_toks (ho.run pins s σ H _ I h)) (fun v s1 q => ?_) fun _ _ z => z.2
  obtain ⟨hk, v', H1, I1, r1, x, e1, hb, q⟩ := q
  subst e1
  obtain ⟨tx, e2⟩ := r1
  subst e2
  refine ⟨"str", _, PySem.F.plainAttrs_str, PySem.F.slot_str_replace, PySem.F.type_str_replace, typeIs_str _ _ _, (fun _ e => nomatch e), Calls.callWith_builtin rfl (Calls.evalArgs_plain (Calls.spliced_cons ?_))⟩
  refine Calls.Constant_str (k := j) (pos := c0) (Calls.spliced_cons (Calls.Constant_str (k := k) (pos := c1) (Calls.spliced_cons (wpAny_Constant_int (k := l) (pos := c2) (Calls.spliced_nil ?_)))))
  have t1 : s1.toks ≠ 0 := by omega
  have t2 : s1.toks + 1 ≠ 0 := by omega
  have h1 := StrLaws.occ_length_le x y 0 x.length 1
  have h2 : (occurrences x y 0 x.length 1).length * z.length ≤ 1 * z.length := Nat.mul_le_mul_right _ h1
  have lz := len_repl1 x y z
  refine call_gives PySem.F.slot_str_replace (typeIs_str _ _ _) PySem.F.entry_str_replace (PySem.F.args_str_replace_4 _ _ _ _)
    (gives_repl1 x y z tx s1.toks (s1.toks + 1) _ (by simp [t1, t2]) (by simp) hyz (by unfold tooLong; rw [sizeLine_eq]; exact decide_eq_false (by omega))) ?_
  have q' : ∀ t' n, EP X pins σ Q (.str (repl1 x y z) t') { s1 with toks := n } := fun t' n => ⟨.str (repl1 x y z), H1, I1.tok n, ⟨t', rfl⟩, q⟩
  unfold repl1 at q' lz
  cases hc : ((occurrences x y 0 x.length 1).isEmpty || (y.length == 0 && z.length == 0))
  · rw [hc] at q' lz
    simp only [Bool.false_eq_true, if_false] at q' lz ⊢
    exact ⟨by rw [sizeLine_eq]; omega, q' _ _⟩
  · rw [hc] at q'
    simp only [if_true] at q' ⊢
    exact q' _ _
/-- arguments of which the first is a written text: behind it a token is out -/
theorem pa_strT {x : Str} (hr : PAT X es ta) (hs : starEach (.Constant (.str x) j p :: es) X.env = (false, eval (.Constant (.str x) j p) X.env) :: starEach es X.env := by rfl) : PA X (.Constant (.str x) j p :: es) (tCons (tC (.str x)) ta) := by
  refine ⟨fun pos pins s σ H Q I h => ?_⟩
  rw [hs]
  show wpAny _ _ (spliced ((false, eval (.Constant (.str x) j p) X.env) :: backTo pos (starEach es X.env))) _ _ s
  refine Calls.spliced_cons (Calls.Constant_str ?_)
  exact thn (hr pos pins { s with toks := s.toks + 1 } σ H _ (by show 1 ≤ s.toks + 1; omega) (I.tok _) h) fun us s2 ⟨xs, H2, I2, r2, q2⟩ => ⟨.str x :: xs, H2, I2, .cons ⟨_, rfl⟩ r2, q2⟩
theorem pat_cons (ha : PE X e te) (hr : PAT X es ta) (hs : starEach (e :: es) X.env = (false, eval e X.env) :: starEach es X.env := by rfl) : PAT X (e :: es) (tCons te ta) := by
  intro pos pins s σ H Q h0 I h
  rw [hs]
  show wpAny _ _ (spliced ((false, eval e X.env) :: backTo pos (starEach es X.env))) _ _ s
  refine Calls.spliced_cons (wpAny_mono (wpAny_toks (ha.run pins s σ H _ I h)) (fun u s1 q => ?_) fun _ _ z => z.2)
  obtain ⟨hk, x, H1, I1, r1, q1⟩ := q
  exact thn (hr pos pins s1 σ H1 _ (Nat.le_trans h0 hk) I1 q1) fun us s2 ⟨xs, H2, I2, r2, q2⟩ => ⟨x :: xs, H2, I2, .cons r1 r2, q2⟩
theorem pat_consT (ha : PET X e te) (hr : PA X es ta) (hs : starEach (e :: es) X.env = (false, eval e X.env) :: starEach es X.env := by rfl) : PAT X (e :: es) (tCons te ta) := by
  intro pos pins s σ H Q h0 I h
  rw [hs]
  show wpAny _ _ (spliced ((false, eval e X.env) :: backTo pos (starEach es X.env))) _ _ s
  refine Calls.spliced_cons (thn (ha pins s σ H _ h0 I h) fun u s1 ⟨x, H1, I1, r1, q1⟩ => ?_)
  exact thn (hr.run pos pins s1 σ H1 _ I1 q1) fun us s2 ⟨xs, H2, I2, r2, q2⟩ => ⟨x :: xs, H2, I2, .cons r1 r2, q2⟩
theorem pat_mono {t u : TA} (h : PAT X es t) (k : ∀ σ H Q, u σ H Q → t σ H Q) : PAT X es u := fun pos pins s σ H Q h0 I q => h pos pins s σ H Q h0 I (k _ _ _ q)
theorem pet_mono {t u : TE} (h : PET X e t) (k : ∀ σ H Q, u σ H Q → t σ H Q) : PET X e u := fun pins s σ H Q h0 I q => h pins s σ H Q h0 I (k _ _ _ q)
/-! the readings -/
def rpl1 (y z : Str) (mo : En → Mm Dt) : En → Mm Dt := fun env => mo env >>= fun d => match d with
  | .str x => if x.length + z.length ≤ 16777216 then Mm.pure (.str (repl1 x y z)) else Mm.no
  | _ => Mm.no
theorem met_repl1 (ho : PE X o (tE X.K E mo)) (hyz : (y == z) = false := by decide)
    (hst : starEach [.Constant (.str y) j c0, .Constant (.str z) k c1, .Constant (.int 1) l c2] X.env = [(false, eval (.Constant (.str y) j c0) X.env), (false, eval (.Constant (.str z) k c1) X.env), (false, eval (.Constant (.int 1) l c2) X.env)] := by rfl)
    (hbase : attributeBase o "replace" X.env (eval o X.env) = eval o X.env := by rfl) (hline : (apos.endLine == pos.line) = true := by rfl) :
    PET X (.Call (.Attribute o "replace" apos) [.Constant (.str y) j c0, .Constant (.str z) k c1, .Constant (.int 1) l c2] [] pos) (tE X.K E (rpl1 y z mo)) := pet_mono (pet_repl1 ho hyz hst hbase hline) fun σ H Q ⟨s, env, e, r, he, ha⟩ => by
  subst e
  refine tE_bind r he ha fun d s1 v x1 r1 e1 rv q => ?_
  cases d with
  | str x =>
    cases rv
    by_cases hl : x.length + z.length ≤ 16777216
    · simp only [hl, if_true] at q
      exact ⟨x, rfl, hl, q.ret r1 _ rfl⟩
    · simp only [hl, if_false] at q
      exact q.elim
  | _ => exact q.elim
theorem ma_strT {x : Str} (hr : PAT X es (tA X.K E mr)) (hs : starEach (.Constant (.str x) j p :: es) X.env = (false, eval (.Constant (.str x) j p) X.env) :: starEach es X.env := by rfl) : PA X (.Constant (.str x) j p :: es) (tA X.K E (argC (con (.str x)) mr)) := pa_mono (pa_strT hr hs) fun σ H Q ⟨s, env, e, r, he, ha⟩ => by
  subst e
  have q := ha.bind
  have q1 := After.ret (a := Dt.str x) r q
  exact tA_bind r he q1 fun ds s2 vs x2 r2 e2 rvs q2 => q2.ret r2 _ (Reps.cons rfl rvs)
theorem mat_cons (ha : PE X e (tE X.K E mo)) (hr : PAT X es (tA X.K E mr)) (hs : starEach (e :: es) X.env = (false, eval e X.env) :: starEach es X.env := by rfl) : PAT X (e :: es) (tA X.K E (argC mo mr)) := pat_mono (pat_cons ha hr hs) fun σ H Q ⟨s, env, e, r, he, ha⟩ => by
  subst e
  exact tE_bind r he ha fun d s1 v x1 r1 e1 rv q => tA_bind r1 e1 q fun ds s2 vs x2 r2 e2 rvs q2 => q2.ret r2 _ (Reps.cons (rv.ext x2) rvs)
theorem mat_consT (ha : PET X e (tE X.K E mo)) (hr : PA X es (tA X.K E mr)) (hs : starEach (e :: es) X.env = (false, eval e X.env) :: starEach es X.env := by rfl) : PAT X (e :: es) (tA X.K E (argC mo mr)) := pat_mono (pat_consT ha hr hs) fun σ H Q ⟨s, env, e, r, he, ha⟩ => by
  subst e
  exact tE_bind r he ha fun d s1 v x1 r1 e1 rv q => tA_bind r1 e1 q fun ds s2 vs x2 r2 e2 rvs q2 => q2.ret r2 _ (Reps.cons (rv.ext x2) rvs)
/-! upper, split -/
def mUpper : Dt → List Dt → Mm Dt := fun o ds h => match o, ds with
  | .str a, [] => if a.length ≤ 5592405 then .ok (.str (Txt.upper a)) h else .no
  | _, _ => .no
theorem m_upper : MtR X "str.upper" (mM X.K E mUpper) := mtR_mono mt_upper fun x vs H Q ⟨s, d, ds, eH, r, rx, rs, ha⟩ => by
  subst eH
  unfold mUpper at ha
  split at ha
  · rename_i a
    cases rx; cases rs
    split at ha
    · rename_i hl
      exact ⟨a, rfl, rfl, hl, fin r ha rfl⟩
    · exact ha.elim
  · exact ha.elim
def mSplitO : Dt → List Dt → Mm Dt := fun o ds h => match o, ds with
  | .str a, [.str b] => if (b.length == 0) = false ∧ a.length + 2 ≤ sizeLine then mkO (.lst ((Txt.split a b).map .str)) h else .no
  | _, _ => .no
theorem m_splitO : MtR X "str.split" (mM X.K E mSplitO) := mtR_mono mt_split fun x vs H Q ⟨s, d, ds, eH, r, rx, rs, ha⟩ => by
  subst eH
  unfold mSplitO at ha
  split at ha
  · rename_i a b
    obtain ⟨v, rfl, rv⟩ := rs.one
    cases rx; cases rv
    split at ha
    · rename_i hl
      refine ⟨a, b, rfl, rfl, hl.1, hl.2, fun p hp => ?_⟩
      obtain ⟨_, x, rp, kq⟩ := mkO_ok (u := .lst ((Txt.split a b).map V.str)) (o := .lst ((Txt.split a b).map .str)) r hp ⟨_, upd_same, reps_strs _⟩ ha
      exact kq _ rp
    · exact ha.elim
  · exact ha.elim
end
end Mo
set_option Elab.async false
set_option linter.all false
set_option maxRecDepth 100000
set_option maxHeartbeats 4000000
/-! MoL: x == (). -/
namespace Mo
open PySem L2 PySem.Spec PyProof.Rows
section
variable {X : Cx} {E : XK}
def rEqE (K : PySem.W.Frag) : R2 := fun x y H Q => ∃ (a b : Addr) (xs : List V), x = .ref a ∧ y = .ref b ∧ SqT K H a xs ∧ SqT K H b [] ∧ Q (.bl xs.isEmpty) H
theorem op_eqE (hu : X.A.units < cLine) : OpR X (compareOp .Eq) (rEqE X.K) := by
  intro pins s σ H x y v u Q I rx ry h
  obtain ⟨a, b, xs, rfl, rfl, ha, hb, q⟩ := h
  obtain rfl : v = Value.ref a := rx
  obtain rfl : u = Value.ref b := ry
  obtain ⟨its, rv, ht, _⟩ := I.tuple ha
  obtain ⟨itb, rb, hb', _⟩ := I.tuple hb
  cases rb
  refine SeqAt.eq_tupleAt (e := fun _ => true) (show s.heap.IsTuple a its.toArray from ht) (show s.heap.IsTuple b ([] : List Value).toArray from hb') hu (fun j h1 h2 => absurd h2 (by simp)) ?_
  refine ⟨.bl xs.isEmpty, H, I, ?_, q⟩
  cases rv <;> rfl
def opEqE : Dt → Dt → Mm Dt := fun x y h => match x, y with
  | .tup xs, .tup [] => .ok (.bl xs.isEmpty) h
  | _, _ => .no
theorem o_eqE (hu : X.A.units + 64 < cLine) : OpR X (compareOp .Eq) (rM X.K E opEqE) := opR_mono (op_eqE (by omega)) fun x y H Q ⟨s, d, e, eH, r, rx, ry, ha⟩ => by
  subst eH
  unfold opEqE at ha
  split at ha
  · rename_i xs
    obtain ⟨a, vs, rfl, sq, rs⟩ := tupR_ok rx (xs := xs) rfl
    obtain ⟨b, ws, rfl, sqb, rsb⟩ := tupR_ok ry (xs := []) rfl
    cases rsb
    refine ⟨a, b, vs, rfl, rfl, sq, sqb, ?_⟩
    have e : vs.isEmpty = xs.isEmpty := by
      have := rs.length
      cases vs <;> cases xs <;> simp at this ⊢
    rw [e]
    exact fin r ha rfl
  · exact ha.elim
end
end Mo
set_option Elab.async false
set_option linter.all false
set_option maxRecDepth 100000
set_option maxHeartbeats 4000000
/-! MoM: xs != [] of a list of anything. -/
namespace Mo
open PySem L2 PySem.Spec PyProof.Rows
section
variable {X : Cx} {E : XK}
def rNeL (K : PySem.W.Frag) : R2 := fun x y H Q => ∃ (a b : Addr) (xs : List V), x = .ref a ∧ y = .ref b ∧ SqL K H a xs ∧ SqL K H b [] ∧ Q (.bl (!xs.isEmpty)) H
theorem op_neL (hu : X.A.units < cLine) : OpR X (compareOp .NotEq) (rNeL X.K) := by
  intro pins s σ H x y v u Q I rx ry h
  obtain ⟨a, b, xs, rfl, rfl, ha, hb, q⟩ := h
  obtain rfl : v = Value.ref a := rx
  obtain rfl : u = Value.ref b := ry
  obtain ⟨its, rv, ht, _⟩ := I.list ha
  obtain ⟨itb, rb, hb', _⟩ := I.list hb
  cases rb
  have la : s.heap.IsList a its.toArray := ht.isList
  have lb : s.heap.IsList b ([] : List Value).toArray := hb'.isList
  cases rv with
  | nil => exact SeqAt.RcNeAt.lists (e := fun _ => true) la lb rfl hu (fun j h1 h2 => absurd h2 (by simp)) X.prog X.w _ _ ⟨.bl false, H, I, rfl, q⟩
  | cons r1 r2 => exact SeqAt.RcNeAt.lists_lengths la lb (by simp) hu X.prog X.w _ _ ⟨.bl true, H, I, rfl, q⟩
def opNeL : Dt → Dt → Mm Dt := fun x y h => match lstR h x, y with
  | some xs, .lv [] => .ok (.bl (!xs.isEmpty)) h
  | _, _ => .no
theorem o_neL (hu : X.A.units + 64 < cLine) : OpR X (compareOp .NotEq) (rM X.K E opNeL) := opR_mono (op_neL (by omega)) fun x y H Q ⟨s, d, e, eH, r, rx, ry, ha⟩ => by
  subst eH
  unfold opNeL at ha
  split at ha
  · rename_i xs hx
    obtain ⟨a, vs, rfl, sq, rs⟩ := lstR_ok r rx hx
    obtain ⟨b, ws, rfl, sqb, rsb⟩ := lstR_ok r ry (xs := []) rfl
    cases rsb
    refine ⟨a, b, vs, rfl, rfl, sq, sqb, ?_⟩
    have e : vs.isEmpty = xs.isEmpty := by
      have := rs.length
      cases vs <;> cases xs <;> simp at this ⊢
    rw [e]
    exact fin r ha rfl
  · exact ha.elim
end
end Mo
set_option Elab.async false
set_option linter.all false
set_option maxRecDepth 100000
set_option maxHeartbeats 4000000
/-! MoN: instances of own classes: attributes, properties, making, methods. -/
namespace Mo
open PySem L2 PySem.Spec PyProof.Rows
section
variable {X : Cx} {E : XK} {K : PySem.W.Frag} {s : Sx} {e o : Expr} {c f m : Str} {pos p apos : Pos} {mo ma : En → Mm Dt} {mr : En → Mm (List Dt)} {fm : List Dt → Mm Dt} {k : Nat} {fa g pa C : Addr} {fd : FuncData} {ps : List Str} {es : List Expr}
/-- the instance of class c at d -/
def insR (c : Str) (h : Ah) : Dt → Option (List (Str × Dt))
  | .obj i => match h[i]? with
    | some (.ins c' fs) => if c' = c then some fs else none
    | _ => none
  | _ => none
theorem insR_ok {d : Dt} {v : V} {fs : List (Str × Dt)} (r : HRel K s) (rv : Rep K s d v) (h : insR c s.h d = some fs) : ∃ i a dx vs, d = .obj i ∧ v = .ref a ∧ s.ρ[i]? = some a ∧ s.h[i]? = some (.ins c fs) ∧ s.H a = some (.ins (He.ga K c) dx vs) ∧ (s.H dx = some (.own a) ∧ ¬ s.mut dx) ∧ RepF K s fs vs := by
  unfold insR at h
  split at h
  · rename_i i
    split at h
    · rename_i c' fs' hh
      split at h
      · rename_i hc
        cases h
        subst hc
        obtain ⟨a, ea, rfl⟩ := rv
        obtain ⟨dx, vs, h1, h2, h3⟩ := r.ob i a _ ea hh
        exact ⟨i, a, dx, vs, rfl, rfl, ea, hh, h1, h2, h3⟩
      · cases h
    · cases h
  · cases h
/-! e.f -/
def fldR (c f : Str) : Dt → Mm Dt := fun d h => match (insR c h d).bind (fun fs => fs.lookup f) with
  | some y => .ok y h
  | none => .no
def fld (c f : Str) (mo : En → Mm Dt) : En → Mm Dt := fun env => mo env >>= fldR c f
theorem me_fld (hc : Cls X.K (He.ga X.K c)) (hn : NoAttr X.K (He.ga X.K c) f) (he : PE X e (tE X.K E mo)) (hb : attributeBase e f X.env (eval e X.env) = eval e X.env := by rfl) : PE X (.Attribute e f pos) (tE X.K E (fld c f mo)) := pe_mono (pe_fld he hb) fun σ H Q ⟨s, env, e, r, he, ha⟩ => by
  subst e
  refine tE_bind r he ha fun d s1 v x1 r1 e1 rv q => ?_
  unfold fldR at q
  cases qi : insR c s1.h d with
  | none => rw [qi] at q; exact q.elim
  | some fs =>
    obtain ⟨i, a, dx, vs, rfl, rfl, ea, hh, h1, h2, h3⟩ := insR_ok r1 rv qi
    rw [qi] at q
    rcases h3.lookup f with ⟨l1, l2⟩ | ⟨y, w, l1, l2, ry⟩
    · simp only [Option.bind_some, l1] at q; exact q.elim
    · simp only [Option.bind_some, l1] at q
      exact ⟨a, _, dx, vs, w, rfl, h1, hc, hn, l2, fin r1 q ry⟩
/-! e.f = v -/
def putD (f : Str) (v : Dt) : List (Str × Dt) → List (Str × Dt)
  | [] => [(f, v)]
  | (g, x) :: r => if g = f then (g, v) :: r else (g, x) :: putD f v r
theorem RepF.put {y : Dt} {w : V} (ry : Rep K s y w) : ∀ {fs : List (Str × Dt)} {vs : List (Str × V)}, RepF K s fs vs → RepF K s (putD f y fs) (putF f w vs)
  | [], _, h => by cases h; exact ⟨w, [], rfl, ry, rfl⟩
  | (n, d) :: fs, _, h => by
    obtain ⟨v, r, rfl, h1, h2⟩ := h
    unfold putD putF
    by_cases e : n = f
    · rw [if_pos e, if_pos e]; exact ⟨w, r, rfl, ry, h2⟩
    · rw [if_neg e, if_neg e]; exact ⟨v, _, rfl, h1, RepF.put ry h2⟩
theorem RepF.length : ∀ {fs : List (Str × Dt)} {vs : List (Str × V)}, RepF K s fs vs → vs.length = fs.length
  | [], _, h => by cases h; rfl
  | (n, d) :: fs, _, h => by
    obtain ⟨v, r, rfl, h1, h2⟩ := h
    simp [RepF.length h2]
def setF (c f : Str) (o y : Dt) : Mm Unit := fun h => match o with
  | .obj i => match insR c h (.obj i) with
    | some fs => if fs.length < 1000 then .ok () (h.set i (.ins c (putD f y fs))) else .no
    | none => .no
  | _ => .no
def gF (c f : Str) (mo : En → Mm Dt) : Dt → En → Mm En := fun d env => mo env >>= fun o => setF c f o d >>= fun _ => Mm.pure env
theorem mg_fld (hc : Cls X.K (He.ga X.K c)) (hn : NoAttr X.K (He.ga X.K c) f) (ho : PE X o (tE X.K E mo)) : PG X (.Attribute o f pos) (tG X.K E (gF c f mo)) := ⟨fun pins t σ H v u Q I ru ⟨s, env, d, eH, r, he, rd, ha⟩ => by
  subst eH
  refine PySem.W.kas_attr ?_
  have h2 : tE X.K E mo σ s.H fun x H2 => ∃ a dx fs, x = .ref a ∧ H2 a = some (.ins (He.ga X.K c) dx fs) ∧ fs.length < 1000 ∧ ∃ σ', Q σ' (upd H2 a (.ins (He.ga X.K c) dx (putF f v fs))) ∧ σ' = σ := by
    refine tE_bind r he ha fun ov s1 w x1 r1 e1 rv q => ?_
    have q1 := q.bind
    unfold setF at q1
    split at q1
    · rename_i i
      cases qi : insR c s1.h (.obj i) with
      | none => rw [qi] at q1; exact q1.elim
      | some fs =>
        obtain ⟨i', a, dx, vs, e0, rfl, ea, hh, h1, h3, h4⟩ := insR_ok r1 rv qi
        cases e0
        rw [qi] at q1
        dsimp only at q1
        split at q1
        · rename_i hl
          have x := put_ext (u := .ins (He.ga X.K c) dx (putF f v vs)) (o' := .ins c (putD f d fs)) r1 ea hh (by intro z; cases z)
          have r' := put_rel (u := .ins (He.ga X.K c) dx (putF f v vs)) (o' := .ins c (putD f d fs)) r1 ea hh (by intro z; cases z) ⟨dx, _, upd_same, x.keep h3 rfl, (RepF.put (rd.ext x1) h4).ext x⟩
          refine ⟨a, dx, vs, rfl, h1, by rw [h4.length]; exact hl, σ, ?_, rfl⟩
          exact (q1.now _ rfl x r').ret r' σ (e1.ext x)
        · exact q1.elim
    · exact q1.elim
  refine thn (ho.run pins t σ _ _ I h2) fun ov s2 ⟨x, H2, I2, rx, a, dx, fs, ex, ea, l, σ', q2, e2⟩ => ?_
  subst ex e2
  obtain rfl : ov = Value.ref a := rx
  exact setattr_ok I2 ea hc hn l ru fun s3 I3 => ⟨_, _, I3, q2⟩⟩
end
end Mo
set_option Elab.async false
set_option linter.all false
set_option maxRecDepth 100000
set_option maxHeartbeats 4000000
/-! MoO: making instances, properties, methods, isinstance of an own class. -/
namespace Mo
open PySem L2 PySem.Spec PyProof.Rows
theorem under_guards {A : Around} {C : Addr} {us : List Value} {kw : List (Str × Value)} : (A.under (.builtin "type.__call__" ⟨.ref C :: us, kw⟩)).guards = A.guards := by
  first | rfl | simp [Around.under, Code.isGuard, guardIds]
section
variable {X : Cx} {K : PySem.W.Frag} {s : Sx} {e o : Expr} {c f m x : Str} {pos p apos : Pos} {mo ma : En → Mm Dt} {mr : En → Mm (List Dt)} {fm : List Dt → Mm Dt} {k : Nat} {fa g pa C : Addr} {fd : FuncData} {ps : List Str} {es : List Expr}
theorem run_makeG {pins : List (Addr × Obj)} {σ : L2.St} {H : Hp} {t : Shared} {Q : VK} {us ws : List Value} {kw : List (Str × Value)} {vs : List V} (M : Mk X.K C fa) (F : FnG X.prog X.w X.K X.mg X.base k fa fd ps fm) (hgd : X.A.guards = some []) (hr : Room (k + 1) X.A)
    (hb : ∀ (t' : Shared) (self : Value), X.K.In t'.heap → BindsTo t' fd ⟨self :: us, kw⟩ (ps.zip (self :: ws))) (I : Inv X pins σ H t) (r : Vals vs ws)
    (h : ∀ y dx, H y = none → H dx = none → dx ≠ y → spM X.K ps.length fm (.ref y :: vs) (upd (upd H dx (.own y)) y (.ins C dx [])) (fun v H2 => v = .non ∧ Q (.ref y) H2) E0) :
    wpAny (model X.prog X.w) X.A (call (.ref C) us kw) (EP X pins σ Q) X.xe t := by
  have hq := h (t.heap.objs.size + 1) t.heap.objs.size (I.hok.fresh (Nat.le_succ _)) (I.hok.fresh (Nat.le_refl _)) (Nat.ne_of_lt (Nat.lt_succ_self _))
  have I2 := Inv.made (C := C) I
  have r2 : Vals (V.ref (t.heap.objs.size + 1) :: vs) (Value.ref (t.heap.objs.size + 1) :: ws) := .cons rfl r
  refine wpAny_call (make_map (f := fa) I.kIn M.makes M.init (beq_iff_eq.mp M.fn) (codeAny_mono (F.run _ X.stack _ _ ⟨Value.ref (t.heap.objs.size + 1) :: us, kw⟩ (Value.ref (t.heap.objs.size + 1) :: ws) _ _ (by rw [under_guards]; exact hgd) (hr.make C us kw)
    (I2.env0.make C us kw) (hb _ _ I2.kIn) r2 hq) fun r s' hq' => ?_))
  cases r with
  | error er => exact False.elim hq'
  | ok fl =>
    cases fl with
    | ret u =>
      obtain ⟨v, H', I3, rv, ev, q3⟩ := I2.after hq'
      subst ev
      exact ⟨rv, ⟨V.ref (t.heap.objs.size + 1), H', I3, rfl, q3⟩⟩
    | next => exact False.elim hq'
    | brk => exact False.elim hq'
    | cont => exact False.elim hq'
/-- C(..): the new instance, its __init__ -/
def mkI (c : Str) (n : Nat) (fm : List Dt → Mm Dt) (ds : List Dt) : Mm Dt := newO (.ins c []) >>= fun i => if ds.length + 1 = n then fm (.obj i :: ds) >>= fun v => (match v with
  | .non => Mm.pure (.obj i)
  | _ => Mm.no) else Mm.no
theorem mkI_ok {s1 : Sx} {ds : List Dt} {vs : List V} {Q : VK} {n : Nat} (r1 : HRel K s1) (rv : Reps K s1 ds vs) (q : After K E0 s1 (mkI c n fm ds s1.h) (fun d s' => ∀ v, Rep K s' d v → Q v s'.H)) :
    ∀ y dx, s1.H y = none → s1.H dx = none → dx ≠ y → spM K n fm (.ref y :: vs) (upd (upd s1.H dx (.own y)) y (.ins (He.ga K c) dx [])) (fun v H2 => v = .non ∧ Q (.ref y) H2) E0 := by
  intro y dx hy hdx ne
  have xa := new_ext (u := .own y) r1 hdx
  have ra : HRel K (s1.new dx (.own y)) := new_rel r1 hdx
  have hy' : (s1.new dx (.own y)).H y = none := by
    show upd s1.H dx (.own y) y = none
    rw [upd_ne (fun z => ne z.symm)]; exact hy
  have xb := add_ext (u := .ins (He.ga K c) dx []) (o := .ins c []) ra hy'
  have rb := add_rel (u := .ins (He.ga K c) dx []) (o := .ins c []) ra hy' ⟨dx, [], upd_same, xb.keep ⟨upd_same, fun ⟨i, o, e1, _, _⟩ => r1.fresh hdx e1⟩ rfl, rfl⟩
  have q1 := (After.ext xa q).bind
  have q2 := q1.now ((s1.new dx (.own y)).add y (.ins (He.ga K c) dx []) (.ins c [])) rfl xb rb
  have eo : ((s1.new dx (.own y)).add y (.ins (He.ga K c) dx []) (.ins c [])).ρ[s1.h.length]? = some y := add_at ra
  split at q2
  · rename_i hn
    refine ⟨_, .obj s1.h.length :: ds, rfl, by simpa using hn, rb, Reps.cons ⟨y, eo, rfl⟩ ((rv.ext xa).ext xb), ?_⟩
    refine q2.bind.mono fun d s3 x3 r3 q3 v rvd => ?_
    cases d with
    | non =>
      cases rvd
      exact ⟨rfl, q3.ret r3 _ ⟨y, x3.pre _ _ eo, rfl⟩⟩
    | _ => exact q3.elim
  · exact q2.elim
def make (c : Str) (n : Nat) (fm : List Dt → Mm Dt) (mr : En → Mm (List Dt)) : En → Mm Dt := fun env => mr env >>= mkI c n fm
theorem me_make (M : Mk X.K (He.ga X.K c) fa) (F : FnG X.prog X.w X.K X.mg X.base k fa fd ps fm) (hgd : X.A.guards = some []) (hr : Room (k + 1) X.A) (hg : Gl X c) (hm : X.mg c = some (.ref (He.ga X.K c))) (hb : Binds X.K fd ps [])
    (ha : PA X (e :: es) (tA X.K E0 mr)) (hdb : (c == ("__debug__" : Str)) = false := by decide) (he : starEach (e :: es) X.env = (false, eval e X.env) :: starEach es X.env := by rfl) (hpl : (backTo pos (starEach es X.env)).any (·.1) = false := by rfl) :
    PE X (.Call (.Name c p) (e :: es) [] pos) (tE X.K E0 (make c ps.length fm mr)) := by
  refine ⟨fun pins t σ H Q I h => ?_⟩
  refine wpAny_Call_Name_kw (ld_glob I hg hm ?_ hdb)
  have h2 : tA X.K E0 mr σ H fun vs H1 => ∀ y dx, H1 y = none → H1 dx = none → dx ≠ y → spM X.K ps.length fm (.ref y :: vs) (upd (upd H1 dx (.own y)) y (.ins (He.ga X.K c) dx [])) (fun v H2 => v = .non ∧ Q (.ref y) H2) E0 := by
    obtain ⟨s1, env, rfl, r, he, ha⟩ := h
    exact tA_bind r he ha fun ds s2 vs x2 r2 e2 rv q => mkI_ok r2 rv q
  refine PySem.W.callWith_K (h₀ := X.base) I.ok.mod.kin M.kp (thn (ha.run pos pins t σ H _ I h2) fun us s1 ⟨vs, H1, I1, r, q⟩ => ⟨I1.kIn, ?_⟩) he hpl
  refine run_makeG (ws := us) M F hgd hr (fun t' self ki => ?_) I1 r q
  have hl : (self :: us ++ []).length = ps.length := by
    have := spM_len (q (s1.heap.objs.size + 1) s1.heap.objs.size (I1.hok.fresh (Nat.le_succ _)) (I1.hok.fresh (Nat.le_refl _)) (Nat.ne_of_lt (Nat.lt_succ_self _)))
    rw [List.append_nil]
    simp only [List.length_cons] at this ⊢
    rw [← r.length]
    exact this
  have := hb t' (self :: us) ki hl
  rwa [List.append_nil] at this
/-! properties -/
def prp (c : Str) (fm : List Dt → Mm Dt) (mo : En → Mm Dt) : En → Mm Dt := fun env => mo env >>= fun d => (fun h => if (insR c h d).isSome then .ok () h else .no) >>= fun _ => fm [d]
theorem getpropG {pins : List (Addr × Obj)} {σ : L2.St} {H : Hp} {t : Shared} {Q : VK} {b : Bool} {E' : Value → Shared → Prop} {a dx : Addr} {fs : List (Str × V)} {x1 : Str} (I : Inv X pins σ H t) (ea : H a = some (.ins C dx fs)) (hc : Cls X.K C) (hp : PropOf X.K C f pa g)
    (F : FnG X.prog X.w X.K X.mg X.base k g fd [x1] fm) (hgd : X.A.guards = some []) (hr : Room (k + 1) X.A) (hb : Binds X.K fd [x1] []) (h : spM X.K 1 fm [.ref a] H Q E0) :
    wpAny (model X.prog X.w) X.A (getAttr (.ref a) f b) (EP X pins σ Q) E' t := by
  obtain ⟨mA, O, _, _, _, _⟩ := ins_get I.hok ea
  obtain ⟨od, J, _⟩ := O.look
  obtain ⟨rest, hrec⟩ := hp.rec_
  have I1 := I.tok (t.toks + 1)
  have hs : (PySem.W.clsIn X.K C).isSome = true := by
    obtain ⟨cd, hcd, _⟩ := PySem.W.any_some hc.hd
    rw [hcd]
    rfl
  refine PySem.W.get_bind I.kIn J (PySem.W.plainGet_of (hc.get f)).1 (PySem.W.findObj_data hs hp.at_ hp.get hp.tak) (PySem.W.plainGet_of (hc.get f)).2 (wpAny_call (PySem.W.prop_get (s := { t with toks := t.toks + 1 }) I.kIn hrec ?_))
  refine codeAny_mono (F.run X.A.in1 X.stack { t with toks := t.toks + 1 } H ⟨[.ref a], []⟩ [.ref a] [.ref a] Q hgd hr.in1 I1.env0.in1 (hb _ [.ref a] I1.kIn rfl) (.cons rfl .nil) h) fun r s' hq => ?_
  cases r with
  | error er => exact False.elim hq
  | ok fl =>
    cases fl with
    | ret u =>
      obtain ⟨v, H', I3, rv, q3⟩ := I1.after hq
      show wpAny _ _ (handedOut u) _ _ _
      rw [PySem.W.handedOut_of (handed_of rv)]
      exact wpAny_pure ⟨v, H', I3, rv, q3⟩
    | next => exact False.elim hq
    | brk => exact False.elim hq
    | cont => exact False.elim hq
theorem me_prop {x1 : Str} (hc : Cls X.K (He.ga X.K c)) (hp : PropOf X.K (He.ga X.K c) f pa g) (F : FnG X.prog X.w X.K X.mg X.base k g fd [x1] fm) (hgd : X.A.guards = some []) (hr : Room (k + 1) X.A) (hb : Binds X.K fd [x1] [])
    (he : PE X e (tE X.K E0 mo)) (hab : attributeBase e f X.env (eval e X.env) = eval e X.env := by rfl) : PE X (.Attribute e f pos) (tE X.K E0 (prp c fm mo)) := by
  refine ⟨fun pins t σ H Q I h => ?_⟩
  have h2 : tE X.K E0 mo σ H fun x H1 => ∃ a dx fs, x = .ref a ∧ H1 a = some (.ins (He.ga X.K c) dx fs) ∧ spM X.K 1 fm [.ref a] H1 Q E0 := by
    obtain ⟨s1, env, rfl, r, he, ha⟩ := h
    refine tE_bind r he ha fun d s2 v x2 r2 e2 rv q => ?_
    have q1 := q.bind
    cases qi : insR c s2.h d with
    | none => simp [qi] at q1; exact q1.elim
    | some fs =>
      obtain ⟨i, a, dx, vs, rfl, rfl, ea, hh, h1, h2, h3⟩ := insR_ok r2 rv qi
      simp only [qi, Option.isSome_some, if_true] at q1
      have q2 := After.ret (a := ()) r2 q1
      exact ⟨a, dx, vs, rfl, h1, s2, [.obj i], rfl, rfl, r2, Reps.cons ⟨a, ea, rfl⟩ Reps.nil, q2⟩
  refine attr_of hab (thn (he.run pins t σ H _ I h2) fun u s1 ⟨x, H1, I1, rx, a, dx, fs, ex, ea, q⟩ => ?_)
  subst ex
  obtain rfl : u = Value.ref a := rx
  exact getpropG I1 ea hc hp F hgd hr hb q
end
end Mo
set_option Elab.async false
set_option linter.all false
set_option maxRecDepth 100000
set_option maxHeartbeats 4000000
/-! MoP: classes as values, isinstance of an own class, a lambda without parameters handed to a def. -/
namespace Mo
open PySem L2 PySem.Spec PyProof.Rows
section
variable {X : Cx} {E : XK} {c : Str} {pos : Pos}
theorem me_cls (hg : Gl X c) (hm : X.mg c = some (.ref (He.ga X.K c))) (hd : (c == ("__debug__" : Str)) = false := by decide) : PE X (.Name c pos) (tE X.K E (con (.cl c))) :=
  me_con (t := tC (.ref (He.ga X.K c))) (pe_glob (v := .ref (He.ga X.K c)) hg hm rfl hd) fun _ => rfl
/-- what isinstance asks of an own class -/
structure IsC (K : PySem.W.Frag) (c : Str) : Prop where
  cl : Cls K (He.ga K c)
  ha : PySem.W.findIn K (.ref (He.ga K c)) "__class__" = some (some (.builtin "object.__class__"))
  hn : PySem.W.specialIn K (.builtin "object.__class__") "__get__" = some (some (.builtin "getset_descriptor.__get__"))
  ht : PySem.W.takesIn K (.builtin "object.__class__") = some true
  hm : PySem.W.mroIn K (He.ga K c) (.type "object") = some true
def isCB (K : PySem.W.Frag) (c : Str) : Bool := (He.Fa.cls c).ok K && (decide (PySem.W.findIn K (.ref (He.ga K c)) "__class__" = some (some (.builtin "object.__class__"))) &&
  (decide (PySem.W.specialIn K (.builtin "object.__class__") "__get__" = some (some (.builtin "getset_descriptor.__get__"))) && (decide (PySem.W.takesIn K (.builtin "object.__class__") = some true) && decide (PySem.W.mroIn K (He.ga K c) (.type "object") = some true))))
theorem isCB_ok {K : PySem.W.Frag} (h : isCB K c = true) : IsC K c := by
  unfold isCB at h
  simp only [Bool.and_eq_true, decide_eq_true_eq] at h
  exact ⟨He.cls_ok h.1, h.2.1, h.2.2.1, h.2.2.2.1, h.2.2.2.2⟩
def bIsC (c : Str) : List Dt → Mm Dt := fun ds h => match ds with
  | [d, .cl c'] => if c' = c ∧ (insR c h d).isSome = true then .ok (.bl true) h else .no
  | _ => .no
theorem b_isC (C : IsC X.K c) : CallR X (.builtin "isinstance") (cM X.K E (bIsC c)) := fun pins s σ H xs us Q I rx ⟨s1, ds, eH, r, rs, ha⟩ => by
  subst eH
  unfold bIsC at ha
  split at ha
  · rename_i d c'
    split at ha
    · rename_i hh
      obtain ⟨rfl, hi⟩ := hh
      obtain ⟨fs, hi⟩ := Option.isSome_iff_exists.mp hi
      obtain ⟨v1, r1, rfl, k1, v2, r2, rfl, k2, rfl⟩ := rs
      obtain ⟨i, a, dx, vs, rfl, rfl, ea, hh, h1, h2, h3⟩ := insR_ok r k1 hi
      cases k2
      refine call_isi pins s σ _ _ us Q I rx ⟨.ref a, .ref (He.ga X.K c'), .ref (He.ga X.K c'), .ref (He.ga X.K c'), true, rfl, .own _, .base (.ins h1 C.cl C.ha C.hn C.ht C.hm), ?_, fin r ha rfl⟩
      unfold PySem.W.kitOne
      rw [if_pos (by simp)]
    · exact ha.elim
  · exact ha.elim
end
/-! ### a lambda -/
section
variable {X : Cx} {pins : List (Addr × Obj)} {σ : L2.St} {H : Hp} {s : Shared}
/-- x(), in the def that got the lambda; no exception, no guard -/
theorem pe_actG {Ng : List Str} {qg : Str} {sg : Scope} {g f c' : Addr} {cdg pm ctv : Value} {params : Arguments} {body : Expr} {scope : Scope} {k i : Nat} {a : Str} {xe : Value → Shared → Prop} {tb : TE} {p1 p2 : Pos}
    (I : Inv X pins σ H s) (L : LamX.LamS X.env.scope scope) (hf : s.heap.get? f = some (PySem.W.kla_obj "<lambda>" (X.env.qual ++ "<lambda>") params body scope (cloFrom X.env.cells scope.names []) pm c' ctv)) (hfn : H f = none) (hfr : f ∉ frs X.stack)
    (hbind : bindArgs (PySem.W.kla_fn "<lambda>" (X.env.qual ++ "<lambda>") params body scope (cloFrom X.env.cells scope.names []) pm (.ref c') ctv) ⟨[], []⟩ = pure [])
    (hgd : X.A.guards = some []) (hr : Room (k + 1) (X.A.deeper (envOfC qg sg s.heap.objs.size g cdg)))
    (hbody : ∀ (A : Around) (outer : List Env) (s : Shared) (H : Hp), A.guards = some [] → Room k (A.deeper (LamX.lamEnv X scope s.heap.objs.size f c')) → PE (LamX.lamCx X A outer s H E0 scope f c') body tb)
    (hN : Ng[i]? = some a) (hv : Vis sg a) (hd : (a == ("__debug__" : Str)) = false := by decide) (hcd : (a == ("__classdict__" : Str)) = false := by decide) :
    PE ((cxOf CX0 X.prog X.w X.K X.mg X.base Ng qg sg g cdg X.A X.stack s H E0).wish xe) (.Call (.Name a p1) [] [] p2)
      (fun σZ HZ Q => σZ[i]? = some (some (.ref f)) ∧ HZ c' = some (LamX.CodeO c' (X.env.qual ++ "<lambda>")) ∧ tb σ HZ Q) := by
  refine ⟨fun pinsZ sZ σZ HZ Q IZ h => ?_⟩
  obtain ⟨hs, hc, ht⟩ := h
  refine wpAny_Call_Name_kw (thn ((pe_var (pos := p1) (i := i) hN hv hd hcd).run pinsZ sZ σZ HZ (fun v H1 => v = .ref f ∧ H1 = HZ) IZ ⟨.ref f, hs, rfl, rfl⟩) fun u s1 ⟨v, H1, I1, r1, q1⟩ => ?_)
  obtain ⟨ev, eH⟩ := q1
  subst ev
  rw [eH] at I1
  obtain rfl : u = Value.ref f := r1
  have of1 : s1.heap.get? f = some (PySem.W.kla_obj "<lambda>" (X.env.qual ++ "<lambda>") params body scope (cloFrom X.env.cells scope.names []) pm c' ctv) := I1.base.keep f _ hf hfn hfr (fun z => nomatch (show f ∈ ([] : List Addr) from z))
  refine PySem.W.callWith_F0 ⟨_, _, _, _, of1⟩ ?_
  have un : Un (frs X.stack) [] H HZ s.heap s1.heap := I1.base
  obtain ⟨⟨oc, vs, t, hoc, hdc, hvc⟩, _, _⟩ := I1.hok c' _ hc
  have rc : codeAny (model X.prog X.w) (X.A.deeper (envOfC qg sg s.heap.objs.size g cdg)) (.call (.ref f) ⟨[], []⟩) (CR (L2.CX X.prog X.w) (envOfC qg sg s.heap.objs.size g cdg :: X.stack) X.prog X.w HZ s1 Q E0) s1 := by
    refine PySem.W.kla_callFunE hr.depth of1 rfl L.co L.gen rfl ⟨c', oc, vs, t, rfl, hoc, hdc, hvc⟩ ?_
    rw [hbind]
    refine wpAny_pure (wpAny_newFunctionEnv (fun y hy => (L.own y hy).2) (fun y hy => absurd hy (by simp)) (fun h₁ hns hsb => ⟨I1.nolimit.fresh _ hsb, ?_⟩) L.kind)
    show codeAny _ _ (.expr body (LamX.lamEnv X scope s1.heap.objs.size f c')) _ _
    have kp : ∀ b o, s1.heap.get? b = some o → h₁.get? b = some o := fun b o e => hsb.extBut b o (Nat.ne_of_lt (Heap.lt_size e)) (Heap.get?_push_of_some _ e)
    have J : Inv (LamX.lamCx X (X.A.deeper (envOfC qg sg s.heap.objs.size g cdg)) (envOfC qg sg s.heap.objs.size g cdg :: X.stack) s1 HZ E0 scope f c') [] σ HZ { s1 with heap := h₁, toks := s1.toks + ([] : List (Str × Value)).length } :=
      LamX.lam_start2 I L I1.env0 hr.hd un hns kp
    refine PySem.W.kla_codeExpr (wpAny_mono ((hbody (X.A.deeper (envOfC qg sg s.heap.objs.size g cdg)) _ s1 HZ hgd (hr.deeper _)).run [] _ _ HZ Q J ht) (fun v s' hq => ?_) fun e s' hq => hq)
    obtain ⟨w', H', J', rv, q⟩ := hq
    exact ⟨w', H', J'.os, J'.bare, J'.base, J'.hok, rv, q⟩
  refine wpAny_call (codeAny_mono rc fun r s' hq => ?_)
  cases r with
  | error e => exact L2.passL (X := (cxOf CX0 X.prog X.w X.K X.mg X.base Ng qg sg g cdg X.A X.stack s H E0).wish xe) pinsZ σZ HZ s1 e s' I1 hq
  | ok fl =>
    cases fl with
    | ret u => exact I1.after hq
    | next => exact False.elim hq
    | brk => exact False.elim hq
    | cont => exact False.elim hq
end
end Mo
set_option Elab.async false
set_option linter.all false
set_option maxRecDepth 100000
set_option maxHeartbeats 4000000
/-! MoQ: got(lambda: e), got: try: b = a() / except ..: .. / return [w, b], where nothing is raised. -/
namespace Mo
open PySem L2 PySem.Spec PyProof.Rows
theorem lam_state {K : PySem.W.Frag} {s1 : Sx} {H1 : Hp} (r : HRel K s1) (eN : LamX.ExtN s1.H H1) (T1 : LamX.Tabs (LT K) H1) : Ext s1 ⟨s1.ρ, s1.h, H1⟩ ∧ HRel K ⟨s1.ρ, s1.h, H1⟩ := by
  have x : Ext s1 ⟨s1.ρ, s1.h, H1⟩ := ⟨fun _ _ h => h, fun a o h k n => ⟨⟨o, eN a o h n, .inl rfl⟩, k⟩⟩
  refine ⟨x, r.len, r.nd, fun i a o e k => (r.ob i a o e k).ext x ?_, T1⟩
  obtain ⟨u, q, n⟩ := r.live e k
  show H1 a = s1.H a
  rw [q]
  exact eN a u q n
def gotE (w : Str) (mb : En → Mm Dt) : En → Mm Dt := fun env => mb env >>= fun d => Mm.pure (.lv [.str w, d])
section
variable {X : Cx}
theorem me_got {x a b w : Str} {g c P : Addr} {k : Nat} {pg : Arguments} {bg : List Stmt} {sg : Scope} {fd : FuncData} {Ng : List Str} {params : Arguments} {body : Expr} {scope : Scope} {mb : En → Mm Dt} {p lpos pos p1 p2 p3 p4 p5 p6 p7 p8 p9 : Pos} {j : Nat} {h0 : ExceptHandler} {hs : List ExceptHandler}
    (hg : Gl X x) (hm : X.mg x = some (.ref g)) (hk : PySem.W.keepIn X.K (.ref g) = true) (F : FunD X.K x x pg bg sg [] [] g fd) (hb : Binds X.K fd [a] []) (Sg : FnScope Ng [a] sg)
    (hbg : bg = [.Try [.Assign [.Name b p1] (.Call (.Name a p2) [] [] p3) p4] (h0 :: hs) [] [] p5, .Return (some (.List [.Constant (.str w) j p6, .Name b p7] p8)) p9])
    (hN : Ng = [a, b]) (hn : a ≠ b) (hva : sg.names.lookup a = some .local) (hvb : sg.names.lookup b = some .local)
    (TB : LamX.TabB X.base X.mg c P) (hcode : X.env.code = .ref c) (hmT : (P, X.env.qual ++ "<lambda>") ∈ LT X.K) (hu : ∀ p ∈ LT X.K, p.1 = P → p.2 = X.env.qual ++ "<lambda>") (hgd : X.A.guards = some []) (hr : Room (k + 2) X.A) (L : LamX.LamS X.env.scope scope) (hdef : defaultsOf params X.env = ([], []))
    (hbind : ∀ (q : Str) (cl : List (Str × Addr)) (pm cv ctv : Value), bindArgs (PySem.W.kla_fn "<lambda>" q params body scope cl pm cv ctv) ⟨[], []⟩ = pure [])
    (hbody : ∀ (A : Around) (outer : List Env) (s : Shared) (H : Hp) (f c' : Addr), A.guards = some [] → Room k (A.deeper (LamX.lamEnv X scope s.heap.objs.size f c')) → PE (LamX.lamCx X A outer s H E0 scope f c') body (tE X.K E0 mb))
    (hdb : (x == ("__debug__" : Str)) = false := by decide) (hda : (a == ("__debug__" : Str)) = false := by decide) (hca : (a == ("__classdict__" : Str)) = false := by decide) (hdB : (b == ("__debug__" : Str)) = false := by decide) (hcB : (b == ("__classdict__" : Str)) = false := by decide) :
    PE X (.Call (.Name x p) [.Lambda params body scope lpos] [] pos) (tE X.K E0 (gotE w mb)) := by
  obtain ⟨oc, od, dV, kV, doc, pm, an, cdv, ct, osl, rfl, lk, hcd, _, _⟩ := F.ex
  subst hN hbg
  refine ⟨fun pins s σ H Q I h => ?_⟩
  obtain ⟨s1, env, rfl, r, he, ha⟩ := h
  refine wpAny_Call_Name_kw (ld_glob I hg hm ?_ hdb)
  refine PySem.W.callWith_K (h₀ := X.base) I.ok.mod.kin hk ?_ (by rfl) (by rfl)
  show wpAny _ _ (spliced ((false, eval (.Lambda params body scope lpos) X.env) :: backTo pos (starEach [] X.env))) _ _ s
  refine Calls.spliced_cons (LamX.lam_make2 I TB hcode hmT hu r.tb hdef (L.has I.ok) fun f c' pm' ctv H1 s' I1 eN T1 hf hfn hfr hco => ?_)
  refine Calls.spliced_nil ⟨I1.kIn, ?_⟩
  obtain ⟨x2, r2⟩ := lam_state r eN T1
  have e2 := he.ext x2
  have rc : codeAny (model X.prog X.w) X.A (.call (.ref g) ⟨[.ref f], []⟩) (CR CX0 X.stack X.prog X.w H1 s' Q E0) s' := by
    refine LamX.run_ofS (CX := CX0) (N := [a, b]) (ps := [a]) (us := [.ref f]) (vs := [.ref f]) lk hcd Sg hr I1.env0 (hb s' [.ref f] I1.kIn rfl) (.cons rfl .nil) rfl fun hr' => ?_
    have act := pe_actG (Ng := [a, b]) (qg := x) (sg := sg) (g := g) (cdg := cdv) (i := 0) (a := a) (xe := fun _ _ => False) (p1 := p2) (p2 := p3) I1 L hf hfn hfr (hbind _ _ _ _ _) hgd hr' (fun A outer s H hgA hr2 => hbody A outer s H f c' hgA hr2) rfl (.inl hva) hda hca
    have st1 : PS ((cxOf CX0 X.prog X.w X.K X.mg X.base [a, b] x sg g cdv X.A X.stack s' H1 E0).nox.nox) (.Assign [.Name b p1] (.Call (.Name a p2) [] [] p3) p4) _ := ps_set (i := 1) Sg.nd rfl (.inl hvb) act rfl (.inr hvb)
    refine ⟨_, PSs.nox (pss_cons (ps_try_thru0 (pss_one st1)) (pss_one (ps_ret (pe_lst (pa_cons pe_str (pa_cons (pe_var (i := 1) rfl (.inl hvb) hdB hcB) pa_nil)))))), ?_⟩
    refine ⟨rfl, hco, ?_⟩
    refine ⟨_, env, rfl, r2, e2, ?_⟩
    have ha2 : After X.K E0 ⟨s1.ρ, s1.h, H1⟩ ((mb env >>= fun d => Mm.pure (Dt.lv [Dt.str w, d])) s1.h) (fun d s' => ∀ v, Rep X.K s' d v → Q v s'.H) := After.ext x2 ha
    refine ha2.bind.mono fun d s3 x3 r3 q v rv => ?_
    show tLst (tCons (tC (V.str w)) (tCons (tVar 1) tNil)) ((L2.start [a, b] [V.ref f]).set 1 (some v)) s3.H Q
    refine ⟨v, rfl, ?_⟩
    refine ⟨(by decide : 2 ≤ sizeLine), fun p hp => ?_⟩
    exact newLv r3 (Reps.cons (d := .str w) (v := .str w) rfl (Reps.cons rv Reps.nil)) q p hp
  refine wpAny_call (codeAny_mono rc fun r s2 hq => ?_)
  cases r with
  | error e => exact (show False from hq).elim
  | ok fl =>
    cases fl with
    | ret u => exact I1.after hq
    | next => exact False.elim hq
    | brk => exact False.elim hq
    | cont => exact False.elim hq
end
end Mo
set_option Elab.async false
set_option linter.all false
set_option maxRecDepth 100000
set_option maxHeartbeats 4000000
/-! MoR: a def that holds lambdas; the head's facts with properties. -/
namespace Mo
open PySem L2 PySem.Spec PyProof.Rows
/-- a def by its body, its code object known -/
theorem fnGL {P : Program} {w : World} {K : PySem.W.Frag} {mg : Str → Option Value} {base : Heap} {x : Str} {params : Arguments} {body : List Stmt} {scope : Scope} {dvs : List V} {kws : List (Str × V)} {fd : FuncData} {N ps : List Str} {k : Nat} {ms : En → Mm Fl}
    (F : FunD K x x params body scope dvs kws (He.ga K x) fd) (S : FnScope N ps scope)
    (hbody : ∀ (A : Around) (outer : List Env) (s : Shared) (H : Hp) (E : XK), A.guards = some [] → Room k (A.deeper (envOfC x scope s.heap.objs.size (He.ga K x) (.ref (lamC K x)))) → PSs (cxOf CX0 P w K mg base N x scope (He.ga K x) (.ref (lamC K x)) A outer s H E).nox body (tS K E0 ms)) :
    FnG P w K mg base (k + 1) (He.ga K x) fd ps (fnM N.length ms) := by
  refine fnGc F S fun cdv A outer s H E hc hgd hr => ?_
  obtain ⟨oc, od, fd', osl, lk, e, hcd⟩ := hc
  obtain ⟨c, rfl⟩ := He.codeIn_ref hcd
  have ec : lamC K x = c := He.codeOf_eq (p := (x, none)) (c := c) lk e
  subst ec
  exact hbody A outer s H E hgd hr
/-! ### the hook: facts, defs, tables, lambdas' tables, properties -/
section
open He
/-- the property's object; its getter -/
def prO (K : PySem.W.Frag) (c f : Str) : Addr := ma K (ga K c) f
def prG (K : PySem.W.Frag) (c f : Str) : Addr := match PySem.W.recIn K (prO K c f) "property" with
  | some (.ref g :: _) => g
  | _ => 0
def fnWA (K : PySem.W.Frag) (a : Addr) : FnW := match K.lookup a with
  | some ⟨_, _, .func fd, _⟩ => some (fd.name, fd.qualname, fd.params, fd.body, fd.scope, fd.globals, fd.closure, fd.builtins)
  | _ => none
/-- a property: its class, its name, the getter's qualified name, parameters, body, scope -/
structure PrD where
  c : Str
  f : Str
  qual : Str
  params : Arguments
  body : List Stmt
  scope : Scope
def PrD.val (d : PrD) : FnW := some (d.f, d.qual, d.params, .stmts d.body, d.scope, mainGlobals, [], builtinsNs)
def PrD.ok (K : PySem.W.Frag) (d : PrD) : Bool := decide (PySem.W.findIn K (.ref (ga K d.c)) d.f = some (some (.ref (prO K d.c d.f)))) && (decide (PySem.W.specialIn K (.ref (prO K d.c d.f)) "__get__" = some (some (.builtin "property.__get__"))) &&
  (decide (PySem.W.takesIn K (.ref (prO K d.c d.f)) = some true) && ((match PySem.W.recIn K (prO K d.c d.f) "property" with
    | some (.ref _ :: _) => true
    | _ => false) && (PySem.W.keepIn K (.ref (prG K d.c d.f)) && (match K.lookup (prG K d.c d.f) with
  | some ⟨_, _, .func fd, _⟩ => PySem.W.codeIn K fd.code d.qual && (dflB K fd.defaults [] && kwdB K fd.kwdefaults [])
  | _ => false)))))
theorem PrD.prop {K : PySem.W.Frag} {d : PrD} (c : d.ok K = true) : PropOf K (ga K d.c) d.f (prO K d.c d.f) (prG K d.c d.f) := by
  unfold PrD.ok at c
  simp only [Bool.and_eq_true, decide_eq_true_eq] at c
  obtain ⟨h1, h2, h3, h4, _⟩ := c
  refine ⟨h1, h2, h3, ?_⟩
  unfold prG
  split at h4
  · rename_i g rest e
    rw [e]
    exact ⟨rest, rfl⟩
  · cases h4
theorem PrD.funD {K : PySem.W.Frag} {d : PrD} (e : fnWA K (prG K d.c d.f) = d.val) (c : d.ok K = true) : ∃ fd, FunD K d.f d.qual d.params d.body d.scope [] [] (prG K d.c d.f) fd := by
  unfold PrD.ok at c
  simp only [Bool.and_eq_true] at c
  obtain ⟨_, _, _, _, kp, c2⟩ := c
  unfold fnWA at e
  cases q : K.lookup (prG K d.c d.f) with
  | none =>
    rw [q] at c2
    cases c2
  | some o =>
    obtain ⟨oc, od, dt, osl⟩ := o
    rw [q] at c2 e
    cases dt with
    | func fd =>
      obtain ⟨n1, n2, n3, n4, n5, n6, n7, n8, n9, n10, n11, n12, n13, n14, n15⟩ := fd
      have e2 : (some (n1, n2, n3, n4, n5, n6, n7, n15) : FnW) = some (d.f, d.qual, d.params, .stmts d.body, d.scope, mainGlobals, [], builtinsNs) := e
      simp only [Option.some.injEq, Prod.mk.injEq] at e2
      obtain ⟨h1, h2, h3, h4, h5, h6, h7, h8⟩ := e2
      subst h1 h2 h3 h4 h5 h6 h7 h8
      have c3 : PySem.W.codeIn K n13 d.qual = true ∧ dflB K n8 [] = true ∧ kwdB K n9 [] = true := by simpa only [Bool.and_eq_true] using c2
      exact ⟨_, ⟨oc, od, n8, n9, n10, n11, n12, n13, n14, osl, rfl, q, c3.1, dflB_ok c3.2.1, kwdB_ok c3.2.2⟩, kp⟩
    | _ => cases c2
abbrev AlY : Type := AlX × (Bool × List FnW)
def obsP (pr : List PrD) (K : PySem.W.Frag) : Bool × List FnW := (pr.all fun d => d.ok K, pr.map fun d => fnWA K (prG K d.c d.f))
def obsY (n : Nat) (fa : List Fa) (fn : List DefD) (ts : List Tab) (tf : List Defn) (ex : PySem.W.Frag → Bool) (pr : List PrD) (g : Addr → Option Obj) : AlY := (obsX n fa fn ts tf ex g, obsP pr (frT g (asD g n)))
def valY (fn : List DefD) (ts : List Tab) (pr : List PrD) (w : World) : AlY := (valX fn ts w, (true, pr.map PrD.val))
structure SaysY (fa : List Fa) (fn : List DefD) (ts : List Tab) (tf : List Defn) (ex : PySem.W.Frag → Bool) (pr : List PrD) (w : World) (h : Heap) (K : PySem.W.Frag) : Prop where
  x : SaysX fa fn ts tf ex w h K
  p : obsP pr K = (true, pr.map PrD.val)
def hookY (n : Nat) (fa : List Fa) (fn : List DefD) (ts : List Tab) (tf : List Defn) (ex : PySem.W.Frag → Bool) (pr : List PrD) : PySem.W.Hook where
  α := AlY
  obs := fun s => obsY n fa fn ts tf ex pr s.heap.get?
  val := fun w => valY fn ts pr w
  says := fun w h => ∃ K : PySem.W.Frag, K.In h ∧ SaysY fa fn ts tf ex pr w h K
  of := fun _ _ e => ⟨_, frT_in, saysX_of (congrArg (fun z : AlY => z.1) e), congrArg (fun z : AlY => z.2) e⟩
  keeps := fun _ _ _ ⟨K, hK, c⟩ k => ⟨K, PySem.W.Frag.In.keeps hK k, ⟨c.x.t, c.x.more, c.x.hd, c.x.out, fun p hp => k _ _ (c.x.empty p hp)⟩, c.p⟩
theorem obsY_eq {n : Nat} {fa : List Fa} {fn : List DefD} {ts : List Tab} {tf : List Defn} {ex : PySem.W.Frag → Bool} {pr : List PrD} {g : Addr → Option Obj} {s : Shared} (h : ∀ a, g a = s.heap.get? a) : obsY n fa fn ts tf ex pr g = (hookY n fa fn ts tf ex pr).obs s := by
  have e : g = s.heap.get? := funext h
  rw [e] <;> rfl
section
variable {fa : List Fa} {fn : List DefD} {ts : List Tab} {tf : List Defn} {ex : PySem.W.Frag → Bool} {pr : List PrD} {w : World} {h : Heap} {K : PySem.W.Frag}
theorem SaysY.prop (c : SaysY fa fn ts tf ex pr w h K) (i : Nat) {d : PrD} (e : pr[i]? = some d := by rfl) : PropOf K (ga K d.c) d.f (prO K d.c d.f) (prG K d.c d.f) := by
  have c1 : (pr.all fun d => d.ok K) = true := congrArg (·.1) c.p
  exact PrD.prop (List.all_eq_true.mp c1 d (List.mem_of_getElem? e))
theorem SaysY.getter (c : SaysY fa fn ts tf ex pr w h K) (i : Nat) {d : PrD} (e : pr[i]? = some d := by rfl) : ∃ fd, FunD K d.f d.qual d.params d.body d.scope [] [] (prG K d.c d.f) fd := by
  have c1 : (pr.all fun d => d.ok K) = true := congrArg (·.1) c.p
  have c2 : pr.map (fun d => fnWA K (prG K d.c d.f)) = pr.map PrD.val := congrArg (·.2) c.p
  have e2 : (pr.map fun d => fnWA K (prG K d.c d.f))[i]? = (pr.map PrD.val)[i]? := by rw [c2]
  rw [List.getElem?_map, List.getElem?_map, e] at e2
  exact PrD.funD (Option.some.inj e2) (List.all_eq_true.mp c1 d (List.mem_of_getElem? e))
theorem SaysY.lam (c : SaysY fa fn ts tf ex pr w h K) (ht : lamDefs.map (fun n => ((n, none) : Defn)) = tf) : LamAt K h :=
  have m : ∀ n ∈ lamDefs, ((n, none) : Defn) ∈ tf := fun n hn => ht ▸ List.mem_map.mpr ⟨n, hn, rfl⟩
  ⟨fun n hn => c.x.hd _ (m n hn), fun n hn => c.x.out _ (m n hn), fun n hn => c.x.empty _ (m n hn)⟩
end
end
end Mo
set_option Elab.async false
set_option linter.all false
set_option maxRecDepth 100000
set_option maxHeartbeats 4000000
/-! MoS: classes, properties, lambdas by their names. -/
namespace Mo
open PySem L2 PySem.Spec PyProof.Rows
def clsBody : Stmt → List Stmt
  | .ClassDef _ _ _ b _ _ _ _ _ _ _ => b
  | _ => []
/-- the tables of the defs that hold lambdas -/
def Lams (base : Heap) (K : PySem.W.Frag) (mg : Str → Option Value) : Prop := ∀ n ∈ lamDefs, LamX.TabB base mg (lamC K n) (lamP K n)
structure MkH (P : Program) (w : World) (K : PySem.W.Frag) (mg : Str → Option Value) (base : Heap) (k : Nat) (c : Str) (ps : List Str) (fm : List Dt → Mm Dt) : Prop where
  ex : ∃ fd, FnG P w K mg base k (He.ma K (He.ga K c) "__init__") fd ps fm ∧ Binds K fd ps []
  mks : Mk K (He.ga K c) (He.ma K (He.ga K c) "__init__")
  gl : mg c = some (.ref (He.ga K c))
structure PrH (P : Program) (w : World) (K : PySem.W.Frag) (mg : Str → Option Value) (base : Heap) (k : Nat) (c f x1 : Str) (fm : List Dt → Mm Dt) : Prop where
  ex : ∃ fd, FnG P w K mg base k (prG K c f) fd [x1] fm ∧ Binds K fd [x1] []
  cl : Cls K (He.ga K c)
  pr : PropOf K (He.ga K c) f (prO K c f) (prG K c f)
abbrev FnPa (K : PySem.W.Frag) (g x : Str) (st : Stmt) (fd : FuncData) : Prop := FunD K x x (defArgs st) (defBody st) (defScope st) [] [] (He.ga K g) fd
abbrev FnM (K : PySem.W.Frag) (c x q : Str) (st : Stmt) (fd : FuncData) : Prop := FunD K x q (defArgs st) (defBody st) (defScope st) [] [] (He.ma K (He.ga K c) x) fd
abbrev FnR (K : PySem.W.Frag) (c x q : Str) (st : Stmt) (fd : FuncData) : Prop := FunD K x q (defArgs st) (defBody st) (defScope st) [] [] (prG K c x) fd
section
variable {X : Cx} {k j n : Nat} {ps : List Str} {fm : List Dt → Mm Dt} {c f x1 : Str} {p pos : Pos} {e : Expr} {es : List Expr} {mr : En → Mm (List Dt)} {mo : En → Mm Dt}
theorem me_makeH (F : MkH X.prog X.w X.K X.mg X.base k c ps fm) (hgd : X.A.guards = some []) (hr : Room j X.A) (ha : PA X (e :: es) (tA X.K E0 mr)) (hn : ps.length = n := by rfl) (hg : Gl X c := by rfl) (hkj : k + 1 ≤ j := by decide) (hdb : (c == ("__debug__" : Str)) = false := by decide)
    (he : starEach (e :: es) X.env = (false, eval e X.env) :: starEach es X.env := by rfl) (hpl : (backTo pos (starEach es X.env)).any (·.1) = false := by rfl) : PE X (.Call (.Name c p) (e :: es) [] pos) (tE X.K E0 (make c n fm mr)) := by
  subst hn
  obtain ⟨fd, G, B⟩ := F.ex
  exact me_make F.mks G hgd (hr.mono hkj) hg F.gl B ha hdb he hpl
theorem me_propH (F : PrH X.prog X.w X.K X.mg X.base k c f x1 fm) (hgd : X.A.guards = some []) (hr : Room j X.A) (he : PE X e (tE X.K E0 mo)) (hkj : k + 1 ≤ j := by decide) (hab : attributeBase e f X.env (eval e X.env) = eval e X.env := by rfl) :
    PE X (.Attribute e f pos) (tE X.K E0 (prp c fm mo)) := by
  obtain ⟨fd, G, B⟩ := F.ex
  exact me_prop F.cl F.pr G hgd (hr.mono hkj) B he hab
end
theorem lt_mem {K : PySem.W.Frag} {n : Str} (h : n ∈ lamDefs) : (lamP K n, n ++ ".<locals>." ++ "<lambda>") ∈ LT K := List.mem_map.mpr ⟨n, h, rfl⟩
theorem lt_one {K : PySem.W.Frag} {n : Str} (h : lamDefs = [n]) : ∀ p ∈ LT K, p.1 = lamP K n → p.2 = n ++ ".<locals>." ++ "<lambda>" := fun p hp _ => by
  obtain ⟨m, hm, rfl⟩ := List.mem_map.mp hp
  rw [h] at hm
  cases List.mem_singleton.mp hm
  rfl
/-! is True, of truth values -/
def opIsB : Dt → Dt → Mm Dt := fun x y h => match x, y with
  | .bl a, .bl b => .ok (.bl (decide (a = b))) h
  | _, _ => .no
theorem o_isB {X : Cx} {E : XK} : OpR X (compareOp .Is) (rM X.K E opIsB) := opR_mono op_is_bl fun x y H Q ⟨s, d, e, eH, r, rx, ry, ha⟩ => by
  subst eH
  unfold opIsB at ha
  split at ha
  · cases rx; cases ry
    exact ⟨_, _, rfl, rfl, fin r ha rfl⟩
  · exact ha.elim
end Mo
set_option Elab.async false
set_option linter.all false
set_option maxRecDepth 100000
set_option maxHeartbeats 4000000
/-! MoU: the head's facts over what some names reach. -/
namespace Mo
open PySem L2 PySem.Spec PyProof.Rows He
/-- what these names stand for -/
def near (nm : List Str) (g : Addr → Option Obj) : List Addr := match g mainGlobals with
  | some o => (match o.data with
    | .dict es _ => es.toList.flatMap fun e => match e.key with
      | .str x _ => if nm.contains x then refV e.val else []
      | _ => []
    | _ => [])
  | none => []
def nextZ (g : Addr → Option Obj) (l : List Addr) : List Addr := l.flatMap fun a => match g a with
  | some o => refsD o
  | none => []
def walkZ (g : Addr → Option Obj) : Nat → List Addr → List Addr
  | 0, l => l
  | n + 1, l => l ++ walkZ g n (nextZ g l)
def asZ (nm : List Str) (n : Nat) (g : Addr → Option Obj) : List Addr := mainGlobals :: sysModules :: walkZ g n (near nm g)
section
variable {nm : List Str} {n : Nat} {fa : List Fa} {fn : List DefD} {ts : List Tab} {tf : List Defn} {ex : PySem.W.Frag → Bool} {pr : List PrD} {w : World} {h : Heap}
def obsZ (nm : List Str) (n : Nat) (fa : List Fa) (fn : List DefD) (ts : List Tab) (tf : List Defn) (ex : PySem.W.Frag → Bool) (pr : List PrD) (g : Addr → Option Obj) : AlY :=
  ((obsT fa fn ts (frT g (asZ nm n g)), ex (frT g (asZ nm n g)) && tabsB g tf (frT g (asZ nm n g))), obsP pr (frT g (asZ nm n g)))
theorem saysZ_of {K : PySem.W.Frag} {l : List Addr} (hK : K = frT h.get? l) (e1 : obsT fa fn ts K = valT fn ts w) (e2 : (ex K && tabsB h.get? tf K) = true) : SaysX fa fn ts tf ex w h K := by
  have h1 := (Bool.and_eq_true_iff.mp e2).1
  have h2 := (Bool.and_eq_true_iff.mp e2).2
  have key : ∀ p ∈ tf, PySem.W.codeHdIn K (cT K p).1 (cT K p).2 = true ∧ ∃ o, h.get? (cT K p).2 = some o ∧ emptyTab o = true := fun p hp => by
    have z := Bool.and_eq_true_iff.mp (List.all_eq_true.mp h2 p hp)
    refine ⟨z.1, ?_⟩
    have z2 := z.2
    cases q : h.get? (cT K p).2 with
    | none => rw [q] at z2; cases z2
    | some o => rw [q] at z2; exact ⟨o, rfl, z2⟩
  refine ⟨e1, h1, fun p hp => (key p hp).1, fun p hp => ?_, fun p hp => ?_⟩
  · obtain ⟨-, o, q, z⟩ := key p hp
    subst hK
    exact frT_none q z
  · obtain ⟨-, o, q, z⟩ := key p hp
    rw [q, emptyTab_eq z]
def hookZ (nm : List Str) (n : Nat) (fa : List Fa) (fn : List DefD) (ts : List Tab) (tf : List Defn) (ex : PySem.W.Frag → Bool) (pr : List PrD) : PySem.W.Hook where
  α := AlY
  obs := fun s => obsZ nm n fa fn ts tf ex pr s.heap.get?
  val := fun w => valY fn ts pr w
  says := fun w h => ∃ K : PySem.W.Frag, K.In h ∧ SaysY fa fn ts tf ex pr w h K
  of := fun _ _ e => ⟨_, frT_in, saysZ_of rfl (congrArg (fun z : AlY => z.1.1) e) (congrArg (fun z : AlY => z.1.2) e), congrArg (fun z : AlY => z.2) e⟩
  keeps := fun _ _ _ ⟨K, hK, c⟩ k => ⟨K, PySem.W.Frag.In.keeps hK k, ⟨c.x.t, c.x.more, c.x.hd, c.x.out, fun p hp => k _ _ (c.x.empty p hp)⟩, c.p⟩
theorem obsZ_eq {g : Addr → Option Obj} {s : Shared} (h : ∀ a, g a = s.heap.get? a) : obsZ nm n fa fn ts tf ex pr g = (hookZ nm n fa fn ts tf ex pr).obs s := by
  have e : g = s.heap.get? := funext h
  rw [e] <;> rfl
end
end Mo
set_option Elab.async false
set_option linter.all false
set_option maxRecDepth 100000
set_option maxHeartbeats 4000000
/-! MoT: fields of exceptions of own classes over ValueError and ArithmeticError. -/
namespace Mo
open PySem L2 PySem.Spec PyProof.Rows PySem.HandSPX
open Builtin Builtin.ObjectAttr
/-- own classes, then the mro of a built-in one -/
def ovr (tl : List Value) : List Value → Bool
  | .ref _ :: r => ovr tl r
  | l => l == tl
theorem ovr_cases {tl : List Value} : ∀ l : List Value, ovr tl l = true → (∃ c r, l = .ref c :: r ∧ ovr tl r = true) ∨ l = tl
  | [], e => .inr (beq_iff_eq.mp e)
  | a :: r, e => by
    cases a with
    | ref c => exact .inl ⟨c, r, rfl, e⟩
    | _ => exact .inr (beq_iff_eq.mp e)
structure XB (B nw ini : String) (tl : List Value) : Prop where
  f : ExcBaseFacts B nw ini tl
  s : StoreFacts B tl "object.__setattr__" "object"
  ob : tl.contains (.type "object") = true
  ne : tl.isEmpty = false
abbrev tlV : List Value := [.type "ValueError", .type "Exception", .type "BaseException", .type "object"]
abbrev tlA : List Value := [.type "ArithmeticError", .type "Exception", .type "BaseException", .type "object"]
theorem xbV : XB "ValueError" "ValueError.__new__" "ValueError.__init__" tlV := ⟨F.excBase_ValueError, F.store_ValueError, by decide +kernel, rfl⟩
theorem xbA : XB "ArithmeticError" "ArithmeticError.__new__" "ArithmeticError.__init__" tlA := ⟨F.excBase_ArithmeticError, F.store_ArithmeticError, by decide +kernel, rfl⟩
section
variable {B nw ini : String} {tl : List Value}
theorem ovr_pass (b : XB B nw ini tl) (self : Value) : ∀ l : List Value, ovr tl l = true → refuseLoop self "__setattr__" l = pure ()
  | [], e => by
    have : ([] : List Value) = tl := beq_iff_eq.mp e
    have := b.ne
    subst tl
    cases this
  | a :: r, e => by
    rcases ovr_cases (a :: r) e with ⟨c, r', q, h⟩ | q
    · cases q
      rw [refuseLoop_ref]
      exact ovr_pass b self r h
    · rw [q]
      exact b.s.passes self
theorem ovr_has (b : XB B nw ini tl) (Y : String) : ∀ l : List Value, ovr tl l = true → l.contains (.type Y) = tl.contains (.type Y)
  | [], e => by
    have : ([] : List Value) = tl := beq_iff_eq.mp e
    rw [← this]
  | a :: r, e => by
    rcases ovr_cases (a :: r) e with ⟨c, r', q, h⟩ | q
    · cases q
      rw [List.contains_cons, ovr_has b Y r h]
      rfl
    · rw [q]
theorem ovr_ne (b : XB B nw ini tl) : ∀ {l : List Value}, ovr tl l = true → l.isEmpty = false
  | [], e => by
    have : ([] : List Value) = tl := beq_iff_eq.mp e
    have := b.ne
    subst tl
    cases this
  | _ :: _, _ => rfl
end
section
variable {prog : Program} {w : World} {A : Around} {R : Result → Shared → Prop} {hp : Heap} {g : Array GenState} {dw : Drawn} {t : Nat} {os : OsState} {B nw ini : String} {tl : List Value} {K : PySem.W.Frag} {n : Str} {tk : Tok} {v : Value} {x C : Addr} {fv : Array Value} {cd : ClassData}
/-- the first field -/
theorem xosa (b : XB B nw ini tl) (X : K.In hp) (hx : hp.get? x = some { cls := .ref C, data := .fields fv }) (hcd : PySem.W.clsIn K C = some cd) (hm : ovr tl cd.mro = true) (hh : cd.hasDict = true) (ha : PySem.W.findIn K (.ref C) n = some none)
    (hq : ∀ h' tk' dx, (∀ c o, c ≠ x → hp.get? c = some o → h'.get? c = some o) → hp.objs.size ≤ dx → dx ≠ x → h'.get? x = some { cls := .ref C, dict := some dx, data := .fields fv } → h'.Ns1 dx (fun y => if y = n then some v else none) → R (.ok (.ret .none)) ⟨h', g, dw, tk', os⟩) :
    codeAny (model prog w) A (.call (.builtin "object.__setattr__") ⟨[.ref x, .str n tk, v], []⟩) R ⟨hp, g, dw, t, os⟩ := by
  have J : PySem.W.InstAt hp x { cls := .ref C, data := .fields fv } C none := ⟨hx, rfl, rfl, trivial⟩
  have so := F.store_object
  have e0 := ovr_ne b hm
  have e1 : cd.mro.contains (.type "object") = true := (ovr_has b "object" _ hm).trans b.ob
  have e2 : x ≠ hp.objs.size := Nat.ne_of_lt (Heap.lt_size hx)
  have l1 : PySem.W.Looks (model prog w) hp (classData C) cd := PySem.W.looks_clsIn X hcd
  have l2 : PySem.W.Looks (model prog w) hp (mroOf (.ref C)) cd.mro := l1.andThen .now
  have l3 : PySem.W.Looks (model prog w) hp (storeTaker? none) none := .now
  have l4 : PySem.W.Looks (model prog w) hp (isInstance (.ref x) (.type "object")) true := J.type.andThen (PySem.W.looks_mroIn X (by
    unfold PySem.W.mroIn
    rw [hcd, Option.bind_some, if_neg (by rw [e0]; decide), e1]))
  refine codeAny_call_builtin so.slot.plain so.entry (@PySem.W.check_slot (model prog w) _ _ ⟨hp, g, dw, t, os⟩ "object.__setattr__" "object" "__setattr__" (.ref x) [.str n tk, v] [] _ so.kind so.split l4 (so.args (.ref x) (.str n tk) v) ?_)
  rw [PySem.W.osa_eq, refuse_eq]
  refine wpAny_bind (wpAny_bind (J.type.at (wpAny_bind (l2.at ?_))))
  rw [ovr_pass b _ _ hm]
  refine wpAny_pure (wpAny_bind (J.type.at (wpAny_bind ((PySem.W.looks_findIn X ha).at (wpAny_bind (l3.at ?_))))))
  show wpAny _ _ (storeInOwnDict (.ref x) (.ref C) (.str n tk) n v false) _ _ _
  obtain ⟨c1, c2, c3, c4, c5, c6, c7, c8, c9, c10, c11⟩ := cd
  dsimp only at hh
  subst hh
  unfold storeInOwnDict ownDictForStores
  repeat (first | with_reducible refine store_in_new ?_ ?_ | with_reducible refine wpAny_loadPart_at hx ?_ | with_reducible refine l1.at ?_ | wp_step)
  · exact ⟨_, #[], _, (Heap.get?_update_ne _ _ _ _ e2.symm).trans (Heap.get?_push_at rfl rfl), rfl, fun e he => absurd he (by simp), fun _ => rfl⟩
  · intro h' tk' hn' hs
    have z := Heap.get?_push_of_some { cls := .type "dict", data := .dict #[] } hx
    refine hq h' tk' hp.objs.size (fun c o hb ho => ?_) (Nat.le_refl _) e2.symm ?_ hn'
    · exact (hs.2 c (Nat.ne_of_lt (Heap.lt_size ho))).trans ((Heap.get?_update_ne _ _ _ _ hb).trans (Heap.get?_push_of_some _ ho))
    · exact (hs.2 x e2).trans (Heap.get?_update_self _ z rfl)
/-- a further field -/
theorem xosb (b : XB B nw ini tl) {dx : Addr} {m0 : Str → Option Value} {nl : List Str} (X : K.In hp) (hx : hp.get? x = some { cls := .ref C, dict := some dx, data := .fields fv }) (hns : hp.Ns1 dx m0) (hw : Within m0 nl) (hz : nl.length ≤ 1000) (hcd : PySem.W.clsIn K C = some cd) (hm : ovr tl cd.mro = true) (hh : cd.hasDict = true) (ha : PySem.W.findIn K (.ref C) n = some none)
    (hq : ∀ h' tk', (∀ c o, c ≠ dx → hp.get? c = some o → h'.get? c = some o) → h'.Ns1 dx (fun y => if y = n then some v else m0 y) → R (.ok (.ret .none)) ⟨h', g, dw, tk', os⟩) :
    codeAny (model prog w) A (.call (.builtin "object.__setattr__") ⟨[.ref x, .str n tk, v], []⟩) R ⟨hp, g, dw, t, os⟩ := by
  obtain ⟨oD, d1, d2, hoD, d3, d4⟩ := hns.count hw
  have J : PySem.W.InstAt hp x { cls := .ref C, dict := some dx, data := .fields fv } C (some oD) := ⟨hx, rfl, rfl, hoD⟩
  have so := F.store_object
  have e0 := ovr_ne b hm
  have e1 : cd.mro.contains (.type "object") = true := (ovr_has b "object" _ hm).trans b.ob
  have l1 : PySem.W.Looks (model prog w) hp (classData C) cd := PySem.W.looks_clsIn X hcd
  have l2 : PySem.W.Looks (model prog w) hp (mroOf (.ref C)) cd.mro := l1.andThen .now
  have l3 : PySem.W.Looks (model prog w) hp (storeTaker? none) none := .now
  have l4 : PySem.W.Looks (model prog w) hp (isInstance (.ref x) (.type "object")) true := J.type.andThen (PySem.W.looks_mroIn X (by
    unfold PySem.W.mroIn
    rw [hcd, Option.bind_some, if_neg (by rw [e0]; decide), e1]))
  refine codeAny_call_builtin so.slot.plain so.entry (@PySem.W.check_slot (model prog w) _ _ ⟨hp, g, dw, t, os⟩ "object.__setattr__" "object" "__setattr__" (.ref x) [.str n tk, v] [] _ so.kind so.split l4 (so.args (.ref x) (.str n tk) v) ?_)
  rw [PySem.W.osa_eq, refuse_eq]
  refine wpAny_bind (wpAny_bind (J.type.at (wpAny_bind (l2.at ?_))))
  rw [ovr_pass b _ _ hm]
  refine wpAny_pure (wpAny_bind (J.type.at (wpAny_bind ((PySem.W.looks_findIn X ha).at (wpAny_bind (l3.at ?_))))))
  show wpAny _ _ (storeInOwnDict (.ref x) (.ref C) (.str n tk) n v false) _ _ _
  obtain ⟨c1, c2, c3, c4, c5, c6, c7, c8, c9, c10, c11⟩ := cd
  dsimp only at hh
  subst hh
  unfold storeInOwnDict ownDictForStores
  repeat (first | with_reducible refine PySem.OEX.store_in_old hns hw hz ?_ | with_reducible refine wpAny_loadPart_at hx ?_ | with_reducible refine l1.at ?_ | wp_step)
  intro h' tk' hn' hs
  exact hq h' tk' (fun c o hb ho => (hs.2 c hb).trans ho) hn'
end
end Mo
set_option Elab.async false
set_option linter.all false
set_option maxRecDepth 100000
set_option maxHeartbeats 4000000
/-! MoW: exceptions of own classes made as values. -/
namespace Mo
open PySem L2 PySem.Spec PyProof.Rows
/-- what the written part says of such a class -/
structure XcC (K : PySem.W.Frag) (C : Addr) (nw : String) (tl : List Value) : Prop where
  cls : ∃ nm q N bs bm sn sub ab col dd k0 k1 k2 k3 k5, K.lookup C = some (excClassObj nm q C N bs bm true sn sub ab col dd k0 k1 k2 k3 k5 nw) ∧ ovr tl bm = true
  sa : PySem.W.findIn K (.ref C) "__setattr__" = some (some (.builtin "object.__setattr__"))
  kC : PySem.W.keepIn K (.ref C) = true
section
variable {X : Cx} {pins : List (Addr × Obj)} {σ : L2.St} {H : Hp} {s : Shared} {a C dx : Addr} {f : Str} {y : V} {u : Value} {fs : List (Str × V)} {Q : Unit → Shared → Prop} {E : Value → Shared → Prop} {A : Around} {B nw ini : String} {tl : List Value}
theorem xst_new (b : XB B nw ini tl) (T : XcC X.K C nw tl) (I : Inv X pins σ H s) (ea : H a = some (exo a C none)) (hno : PySem.W.findIn X.K (.ref C) f = some none) (ry : RelV y u)
    (k : ∀ dx s', H dx = none → dx ≠ a → Inv X pins σ (upd (upd H dx (exd dx [(f, y)])) a (exo a C (some dx))) s' → Q () s') : wpAny (model X.prog X.w) A (setAttr (.ref a) f u) Q E s := by
  obtain ⟨z1, z2, z3, z4, bm, z5, z6, z7, z8, z9, z10, z11, z12, z13, z14, hC, hbm⟩ := T.cls
  have hcl : PySem.W.clsIn X.K C = some { name := z1, bases := z4, mro := .ref C :: bm, ns := z3, qualname := z2, hasDict := true, slotNames := z5, subclasses := z6, abstract := z7, collection := z8, hasDel := false } := by
    unfold PySem.W.clsIn
    rw [hC] <;> rfl
  obtain ⟨t1, ho⟩ := exo_at I.hok ea
  obtain ⟨hp, g, d, t, os⟩ := s
  refine PySem.W.set_plain I.kIn (ox := { cls := .ref C, dict := none, data := .fields #[.ref t1, .none, .none, .none, .bool false, .none] }) (od := none) ⟨ho, rfl, rfl, trivial⟩ T.sa ?_
  refine xosa b I.kIn ho hcl (show ovr tl (.ref C :: bm) = true from hbm) rfl hno (fun h' tk' dx kk dn dne hx hn => ?_)
  have fresh : H dx = none := I.hok.fresh dn
  have old : ∀ {c : Addr} {o : Obj}, hp.get? c = some o → c ≠ dx := fun {c o} q => Nat.ne_of_lt (Nat.lt_of_lt_of_le (Heap.lt_size q) dn)
  have na : ∀ {c : Addr}, H c = none → c ≠ a := fun {c} n z => by rw [z, ea] at n; cases n
  have U : Un X.fs [] H (upd (upd H dx (exd dx [(f, y)])) a (exo a C (some dx))) hp h' := by
    constructor
    · exact fun c o q n _ _ => kk c o (na n) q
    · exact fun c o q n _ _ => ⟨o.slots, kk c o (na n) q⟩
    · intro c o q n _
      rw [upd_ne (na n), upd_ne (old q)]
      exact n
    · intro c o q _
      by_cases hc : c = a
      · exact ⟨_, by rw [hc]; exact hx⟩
      · exact ⟨o, kk c o hc q⟩
    · intro c xs q
      rw [upd_ne (at_ne ea q exo_tup), upd_ne (ne_of_none q fresh)]
      exact q
    · intro c o v q
      rw [upd_ne (at_ne ea q exo_frz), upd_ne (ne_of_none q fresh)]
      exact q
    · exact fun c ps q => ⟨#[], by rw [upd_ne (at_ne ea q exo_tbl), upd_ne (ne_of_none q fresh), q]; simp⟩
  refine k dx _ fresh dne (I.un (t' := tk') U fun c o q => ?_)
  by_cases hc : c = a
  · subst hc
    rw [upd_same] at q
    cases q
    exact exo_ok hx
  · rw [upd_ne hc] at q
    by_cases hd : c = dx
    · subst hd
      rw [upd_same] at q
      cases q
      exact exd_ok hn (relO_put (fs := []) ry fun g => True.intro)
    · rw [upd_ne hd] at q
      refine (I.hok c o q).stay (fun c' v hc' z => kk c' v ?_ z) (fun c' hc' => ?_) (fun c' xs hc' => ?_)
      · rcases hc' with e | e
        · rw [e]; exact hc
        · exact at_ne ea e exo_own
      · rw [upd_ne (at_ne ea hc' exo_own), upd_ne (ne_of_none hc' fresh)]; exact hc'
      · rw [upd_ne (at_ne ea hc' exo_tup), upd_ne (ne_of_none hc' fresh)]; exact hc'
theorem xst_old (b : XB B nw ini tl) (T : XcC X.K C nw tl) (I : Inv X pins σ H s) (ea : H a = some (exo a C (some dx))) (ed : H dx = some (exd dx fs)) (hl : fs.length ≤ 900) (hno : PySem.W.findIn X.K (.ref C) f = some none) (ry : RelV y u)
    (k : ∀ s', Inv X pins σ (upd H dx (exd dx ((f, y) :: fs))) s' → Q () s') : wpAny (model X.prog X.w) A (setAttr (.ref a) f u) Q E s := by
  obtain ⟨z1, z2, z3, z4, bm, z5, z6, z7, z8, z9, z10, z11, z12, z13, z14, hC, hbm⟩ := T.cls
  have hcl : PySem.W.clsIn X.K C = some { name := z1, bases := z4, mro := .ref C :: bm, ns := z3, qualname := z2, hasDict := true, slotNames := z5, subclasses := z6, abstract := z7, collection := z8, hasDel := false } := by
    unfold PySem.W.clsIn
    rw [hC] <;> rfl
  obtain ⟨t1, ho⟩ := exo_at I.hok ea
  obtain ⟨mA, hns, rel⟩ := exd_at I.hok ed
  have hw := within_of rel
  obtain ⟨hp, g, d, t, os⟩ := s
  obtain ⟨oD, d1, d2, hoD, d3, d4⟩ := hns.count hw
  refine PySem.W.set_plain I.kIn (ox := { cls := .ref C, dict := some dx, data := .fields #[.ref t1, .none, .none, .none, .bool false, .none] }) (od := some oD) ⟨ho, rfl, rfl, hoD⟩ T.sa ?_
  refine xosb b I.kIn ho hns hw (by rw [List.length_map]; omega) hcl (show ovr tl (.ref C :: bm) = true from hbm) rfl hno (fun h' tk' kk hn => ?_)
  have there : ∃ o, h'.get? dx = some o := by
    obtain ⟨o, _, _, e', _⟩ := hn
    exact ⟨o, e'⟩
  exact k _ (I.write (t' := tk') (x := dx) (e := dx) (o := exd dx ((f, y) :: fs)) (by rw [ed]; exact True.intro) (.inl rfl) kk there (exd_ok hn (relO_put ry rel)))
end
/-- self.f = e, in an exception that is being made -/
def tOx (K : PySem.W.Frag) (nw : String) (tl : List Value) (f : Str) (to te : TE) : TS := fun D σ H => te σ H fun y H1 => to σ H1 fun x H2 => ∃ a C : Addr, x = .ref a ∧ XcC K C nw tl ∧ PySem.W.findIn K (.ref C) f = some none ∧
  ((H2 a = some (exo a C none) ∧ ∀ dx, H2 dx = none → dx ≠ a → D.nx σ (upd (upd H2 dx (exd dx [(f, y)])) a (exo a C (some dx)))) ∨
    ∃ (dx : Addr) (fs : List (Str × V)), H2 a = some (exo a C (some dx)) ∧ H2 dx = some (exd dx fs) ∧ fs.length ≤ 900 ∧ D.nx σ (upd H2 dx (exd dx ((f, y) :: fs))))
section
variable {X : Cx} {o e : Expr} {es : List Expr} {to te : TE} {ta : TA} {f : Str} {p p' p1 p2 pos : Pos} {B nw ini : String} {tl : List Value}
theorem ps_ox (b : XB B nw ini tl) (ho : PE X o to) (he : PE X e te) (hs : swapsWith e (some (.Attribute o f p')) pos.line X.env = pure false := by rfl) : PS X (.Assign [.Attribute o f p'] e pos) (tOx X.K nw tl f to te) := by
  refine ⟨fun pins s σ H D I h => ?_⟩
  refine plainObj_wpAny_Assign_Attribute (thn (he.run pins s σ H _ I h) fun v s1 ⟨y, H1, I1, r1, q1⟩ => thn (ho.run pins s1 σ H1 _ I1 q1) fun u s2 ⟨x, H2, I2, r2, a, C, ex, T, hno, q⟩ => ?_) hs
  subst ex
  cases r2
  rcases q with ⟨ea, q⟩ | ⟨dx, fs, ea, ed, hl, q⟩
  · exact xst_new b T I2 ea hno r1 fun dx s' n ne J => ⟨σ, _, J, q dx n ne⟩
  · exact xst_old b T I2 ea ed hl hno r1 fun s' J => ⟨σ, _, J, q⟩
end
end Mo
set_option Elab.async false
set_option linter.all false
set_option maxRecDepth 100000
set_option maxHeartbeats 4000000
/-! MoX: the __init__ of an exception; C(..). -/
namespace Mo
open PySem L2 PySem.Spec PyProof.Rows
/-- a def by what it does to the heap, nothing raised -/
structure FnS (P : Program) (w : World) (K : PySem.W.Frag) (mg : Str → Option Value) (base : Heap) (k : Nat) (f : Addr) (fd : FuncData) (ps : List Str) (sp : List V → Hp → VK → Prop) : Prop where
  run : ∀ (A : Around) (outer : List Env) (s : Shared) (H : Hp) (args : Args) (us : List Value) (vs : List V) (Q : VK), A.guards = some [] → Room k A → Env0 P w K mg base A outer s H → BindsTo s fd args (ps.zip us) → Vals vs us → vs.length = ps.length → sp vs H Q →
    codeAny (model P w) A (.call (.ref f) args) (CR CX0 outer P w H s Q E0) s
theorem fnS {P : Program} {w : World} {K : PySem.W.Frag} {mg : Str → Option Value} {base : Heap} {x qual : Str} {params : Arguments} {body : List Stmt} {scope : Scope} {dvs : List V} {kws : List (Str × V)} {f : Addr} {fd : FuncData} {N ps : List Str} {k : Nat} {t : TS} {sp : List V → Hp → VK → Prop}
    (F : FunD K x qual params body scope dvs kws f fd) (S : FnScope N ps scope)
    (hbody : ∀ (cdv : Value) (A : Around) (outer : List Env) (s : Shared) (H : Hp) (E : XK), PSs (cxOf CX0 P w K mg base N qual scope f cdv A outer s H E).nox body t)
    (hsp : ∀ vs H Q, vs.length = ps.length → sp vs H Q → t { nx := fun _ H' => Q .non H', rt := Q } (L2.start N vs) H) : FnS P w K mg base (k + 1) f fd ps sp := by
  obtain ⟨oc, od, dV, kV, doc, pm, an, cdv, ct, osl, rfl, lk, hcd, _, _⟩ := F.ex
  refine ⟨fun A outer s H args us vs Q hgd hr e0 hb r hl q => ?_⟩
  have KX : K.In s.heap := e0.mod.kin.keeps fun b o e => (e0.bs b o e).1
  have lim : s.heap.NoLimit := e0.mod.nolimit.keeps fun b o e => (e0.bs b o e).1
  refine codeAny_call_function hr.depth (KX _ _ lk) rfl S.co S.gen rfl (PySem.W.codeRec_of KX hcd) (hb _ _ _ _ ?_)
  refine wpAny_newFunctionEnv_cells S.kind (fun ⟨n, v⟩ hy => ?_) fun env he s1 x => ?_
  · rcases S.par n (List.of_mem_zip hy).1 with q | q
    · exact .inl q
    · exact .inr ⟨q, PySem.W.cellsFrom_some _ _ _ (.inl q)⟩
  subst he
  refine ⟨lim.keeps x.toInCall.keep, codeAny_func ?_⟩
  have ht := PSs.nox (hbody cdv A outer s H E0)
  have I : Inv (cxOf CX0 P w K mg base N qual scope f cdv A outer s H E0) [] (L2.start N vs) H s1 := inv_start S hr.hd e0 hl r x
  refine wpAny_mono (ht.run [] s1 (L2.start N vs) H _ I (hsp vs H Q hl q)) (fun fl s' hs => ?_) fun e s' hs => hs
  cases fl with
  | ret u =>
    obtain ⟨v, σ', H', J, rv, q⟩ := hs
    exact ⟨v, H', J.os, J.bare, J.base, J.hok, rv, q⟩
  | next =>
    obtain ⟨σ', H', J, q⟩ := hs
    exact ⟨V.non, H', J.os, J.bare, J.base, J.hok, rfl, q⟩
  | brk => obtain ⟨_, _, _, q⟩ := hs; exact q.elim
  | cont => obtain ⟨_, _, _, q⟩ := hs; exact q.elim
/-- an __init__ that keeps its arguments as fields, the last one first in fs -/
def spI (C : Addr) (ns : List Str) : List V → Hp → VK → Prop := fun vs H Q => ∃ a ws, vs = .ref a :: ws ∧ H a = some (exo a C none) ∧ ∀ dx, H dx = none → dx ≠ a → Q .non (upd (upd H dx (exd dx (ns.zip ws).reverse)) a (exo a C (some dx)))
section
variable {P : Program} {w : World} {K : PySem.W.Frag} {mg : Str → Option Value} {base : Heap} {x qual : Str} {params : Arguments} {body : List Stmt} {scope : Scope} {dvs : List V} {kws : List (Str × V)} {fI : Addr} {fd : FuncData} {C : Addr} {f g : Str} {p1 p2 p3 p4 p5 p6 p7 p8 : Pos} {B nw ini : String} {tl : List Value}
/-- one field -/
theorem init1 (b : XB B nw ini tl) (T : XcC K C nw tl) (hf : PySem.W.findIn K (.ref C) f = some none) (F : FunD K x qual params [.Assign [.Attribute (.Name "self" p1) f p2] (.Name f p3) p4] scope dvs kws fI fd) (S : FnScope ["self", f] ["self", f] scope)
    (v0 : Vis scope "self") (v1 : Vis scope f) (d1 : (f == ("__debug__" : Str)) = false) (d2 : (f == ("__classdict__" : Str)) = false)
    (hs : ∀ env : Env, swapsWith (.Name f p3) (some (.Attribute (.Name "self" p1) f p2)) p4.line env = pure false) : FnS P w K mg base 1 fI fd ["self", f] (spI C [f]) := by
  refine fnS (t := tOx K nw tl f (tVar 0) (tVar 1)) F S (fun cdv A outer s H E => pss_one (ps_ox b (pe_var (i := 0) rfl v0) (pe_var (i := 1) rfl v1 d1 d2) (hs _))) fun vs H Q hl h => ?_
  obtain ⟨a, ws, rfl, ea, q⟩ := h
  match ws, hl with
  | [w1], _ => exact ⟨w1, rfl, .ref a, rfl, a, C, rfl, T, hf, .inl ⟨ea, fun dx n ne => q dx n ne⟩⟩
/-- two fields -/
theorem init2 (b : XB B nw ini tl) (T : XcC K C nw tl) (hf : PySem.W.findIn K (.ref C) f = some none) (hg : PySem.W.findIn K (.ref C) g = some none)
    (F : FunD K x qual params [.Assign [.Attribute (.Name "self" p1) f p2] (.Name f p3) p4, .Assign [.Attribute (.Name "self" p5) g p6] (.Name g p7) p8] scope dvs kws fI fd) (S : FnScope ["self", f, g] ["self", f, g] scope)
    (v0 : Vis scope "self") (v1 : Vis scope f) (v2 : Vis scope g) (d1 : (f == ("__debug__" : Str)) = false) (d2 : (f == ("__classdict__" : Str)) = false) (d3 : (g == ("__debug__" : Str)) = false) (d4 : (g == ("__classdict__" : Str)) = false)
    (hs : ∀ env : Env, swapsWith (.Name f p3) (some (.Attribute (.Name "self" p1) f p2)) p4.line env = pure false) (hs2 : ∀ env : Env, swapsWith (.Name g p7) (some (.Attribute (.Name "self" p5) g p6)) p8.line env = pure false) :
    FnS P w K mg base 1 fI fd ["self", f, g] (spI C [f, g]) := by
  refine fnS (t := tSeq (tOx K nw tl f (tVar 0) (tVar 1)) (tOx K nw tl g (tVar 0) (tVar 2))) F S (fun cdv A outer s H E => pss_cons (ps_ox b (pe_var (i := 0) rfl v0) (pe_var (i := 1) rfl v1 d1 d2) (hs _)) (pss_one (ps_ox b (pe_var (i := 0) rfl v0) (pe_var (i := 2) rfl v2 d3 d4) (hs2 _)))) fun vs H Q hl h => ?_
  obtain ⟨a, ws, rfl, ea, q⟩ := h
  match ws, hl with
  | [w1, w2], _ =>
    refine ⟨w1, rfl, .ref a, rfl, a, C, rfl, T, hf, .inl ⟨ea, fun dx n ne => ?_⟩⟩
    refine ⟨w2, rfl, .ref a, rfl, a, C, rfl, T, hg, .inr ⟨dx, [(f, w1)], upd_same, ?_, by simp, ?_⟩⟩
    · rw [upd_ne ne, upd_same]
    · have e : upd (upd (upd H dx (exd dx [(f, w1)])) a (exo a C (some dx))) dx (exd dx [(g, w2), (f, w1)]) = upd (upd H dx (exd dx [(g, w2), (f, w1)])) a (exo a C (some dx)) := by
        funext c
        by_cases h1 : c = dx
        · subst h1
          rw [upd_same, upd_ne ne, upd_same]
        · rw [upd_ne h1]
          by_cases h2 : c = a
          · subst h2
            rw [upd_same, upd_same]
          · rw [upd_ne h2, upd_ne h2, upd_ne h1, upd_ne h1]
      rw [e]
      exact q dx n ne
end
end Mo
set_option Elab.async false
set_option linter.all false
set_option maxRecDepth 100000
set_option maxHeartbeats 4000000
/-! MoY: C(name = ..), C an own exception class. -/
namespace PySem.MoKw
open PySem.W PySem.Calls PyProof.Rows PySem.HandSPX
section
variable {M : Model} {prog : Program} {w : World} {A : Around} {E : Value → Shared → Prop} {R : Result → Shared → Prop} {h : Heap} {g : Array GenState} {d : Drawn} {t : Nat} {os : OsState}
variable {nm q : Str} {C N : Addr} {bs bm bmB : List Value} {hdct : Bool} {sn : List Str} {sub : List Value} {ab : Bool} {col : Option Bool} {dd : Option Addr} {k0 k1 k2 k3 k5 : Option Value} {B newId initId : String} {kw : List (Str × Value)}
theorem chk_kw (F : ExcBaseFacts B newId initId bmB) (hT : ∀ Y : String, bm.contains (.type Y) = bmB.contains (.type Y)) {Q : Unit → Shared → Prop}
    (hC : h.get? C = some (excClassObj nm q C N bs bm hdct sn sub ab col dd k0 k1 k2 k3 k5 newId)) (hq : Q () ⟨h, g, d, t, os⟩) : wpAny M A (checkBuiltinCall newId ⟨[.ref C], kw⟩) Q E ⟨h, g, d, t, os⟩ := by
  have e1 : (Value.ref C :: bm).contains (.type B) = true := by
    rw [List.contains_cons, hT, F.hasB]
    exact Bool.or_true _
  have e2 := F.noStar
  simp only [checkBuiltinCall, F.newKind, F.newSplit, F.newRow]
  repeat (first | refine wpAny_loadPart_at hC ?_ | (refine wpAny_isSubtype_exc hC ?_; rw [e1]) | refine wpAny_staticBase_exc hC ?_ | refine wpAny_madeBy_exc hC ?_ | simp only [bne_self_eq_false, Bool.false_eq_true, if_false] | wp_step)
  exact hq
theorem new_kw (F : ExcBaseFacts B newId initId bmB) (hT : ∀ Y : String, bm.contains (.type Y) = bmB.contains (.type Y))
    (hC : h.get? C = some (excClassObj nm q C N bs bm hdct sn sub ab col dd k0 k1 k2 k3 k5 newId))
    (hq : R (.ok (.ret (.ref (h.objs.size + 1)))) ⟨(h.push (W.kdv_tup [])).push (excO C h.objs.size), g, d, t, os⟩) :
    codeAny (model prog w) A (.builtin newId ⟨[.ref C], kw⟩) R ⟨h, g, d, t, os⟩ := by
  have e0 := F.ends
  have e1 : (Value.ref C :: bm).contains (.type B) = true := by
    rw [List.contains_cons, hT, F.hasB]
    exact Bool.or_true _
  have e2 : (Value.ref C :: bm).contains (.type "AttributeError") = false := by
    rw [List.contains_cons, hT, F.noAttr]
    rfl
  have e3 : (Value.ref C :: bm).contains (.type "NameError") = false := by
    rw [List.contains_cons, hT, F.noName]
    rfl
  refine codeAny_builtinAt F.entry ?_
  unfold Builtin.«BaseException.__new__»
  refine wpAt_bind ?_
  show wpAt _ _ _ (stack >>= _) _ _ _
  refine wpAt_bind (wpAt_stack fun p below => wpAt_of_wpAny ?_)
  wp_walk
  refine wpAt_of_wpAny ?_
  rw [F.owner]
  repeat (first | with_reducible refine wpAny_madeHere_exc F.canon hC ?_ | with_reducible refine wpAny_loadPart_at hC ?_ | (with_reducible refine wpAny_isSubtype_exc hC ?_; first | rw [e1] | rw [e2] | rw [e3]) | wp_step)
  show R _ _
  rw [Heap.size_push]
  exact hq
theorem type_kw (F : ExcBaseFacts B newId initId bmB) (hT : ∀ Y : String, bm.contains (.type Y) = bmB.contains (.type Y)) {fI : Addr} {Q : Fin → Shared → Prop}
    (hC : h.get? C = some (excClassObj nm q C N bs bm hdct sn sub ab col dd k0 k1 k2 k3 k5 newId))
    (hi : W.Looks (model prog w) h (typeLookup (.ref C) "__init__") (some (.ref fI))) (hb : ∀ self, W.Looks (model prog w) h (bindSpecial (.ref fI) self) (.ref fI, [self]))
    (hq : codeAny (model prog w) A (.call (.ref fI) ⟨[.ref (h.objs.size + 1)], kw⟩)
      (fun r s' => match r with | .ok (.ret v) => v = .none ∧ Q (.done (.ret (.ref (h.objs.size + 1)))) s' | .ok _ => False | .error e => E e s') ⟨(h.push (W.kdv_tup [])).push (excO C h.objs.size), g, d, t, os⟩) :
    wpAny (model prog w) A (Builtin.«type.__call__» ⟨[.ref C], kw⟩) Q E ⟨h, g, d, t, os⟩ := by
  repeat (first | with_reducible refine wpAny_loadPart_at hC ?_ | with_reducible refine wpAny_madeBy_exc hC ?_ | wp_step)
  refine codeAny_call_builtin_code (Code.quiet_builtin _ F.quiet) (chk_kw F hT hC ?_)
  refine new_kw F hT hC ?_
  show wpAny _ _ _ _ _ _
  have keep : ∀ c o, h.get? c = some o → ((h.push (W.kdv_tup [])).push (excO C h.objs.size)).get? c = some o := fun c o e => Heap.get?_push_of_some _ (Heap.get?_push_of_some _ e)
  have c1 := keep _ _ hC
  have c2 : ((h.push (W.kdv_tup [])).push (excO C h.objs.size)).get? (h.objs.size + 1) = some (excO C h.objs.size) := by heap_get
  have c3 : (Value.ref C :: bm).contains (.ref C) = true := by simp
  have c4 := hi.keeps keep
  have c5 := (hb (.ref (h.objs.size + 1))).keeps keep
  unfold isInstance
  repeat (first | with_reducible refine wpAny_loadPart_at c2 ?_ | (with_reducible refine wpAny_isSubtype_exc c1 ?_; rw [c3]) | wp_step)
  show wpAny _ _ (typeLookup (.ref C) _) _ _ _
  refine c4.at ?_
  refine wpAny_holding (wpAny_bind (c5.at ?_))
  refine wpAny_bind (wpAny_call (codeAny_mono hq fun r s' z => ?_))
  cases r with
  | error e => exact z
  | ok fl =>
    cases fl with
    | ret v =>
      obtain ⟨rfl, z⟩ := z
      first
        | exact wpAny_pure (wpAny_pure z)
        | (wp_walk; exact z)
    | _ => exact z.elim
theorem call_kw (F : ExcBaseFacts B newId initId bmB) (hT : ∀ Y : String, bm.contains (.type Y) = bmB.contains (.type Y)) {fI : Addr}
    (hC : h.get? C = some (excClassObj nm q C N bs bm hdct sn sub ab col dd k0 k1 k2 k3 k5 newId))
    (hi : W.Looks (model prog w) h (typeLookup (.ref C) "__init__") (some (.ref fI))) (hb : ∀ self, W.Looks (model prog w) h (bindSpecial (.ref fI) self) (.ref fI, [self]))
    (hq : codeAny (model prog w) (A.under (.builtin "type.__call__" ⟨[.ref C], kw⟩)) (.call (.ref fI) ⟨[.ref (h.objs.size + 1)], kw⟩) (W.InitBack (h.objs.size + 1) R) ⟨(h.push (W.kdv_tup [])).push (excO C h.objs.size), g, d, t, os⟩) :
    codeAny (model prog w) A (.call (.ref C) ⟨[], kw⟩) R ⟨h, g, d, t, os⟩ := by
  have f1 := tc_lookup
  have f2 := tc_bind (.ref C)
  have ty : (⟨h, g, d, t, os⟩ : Shared).TypeIs (.ref C) "type" := ⟨_, hC, rfl⟩
  refine codeAny_of_tree ?_
  show wpAny _ _ (callAny (.ref C) _) _ _ _
  repeat (any_goals (first | assumption | with_reducible refine wpAny_loadPart_at hC ?_ | wp_step))
  refine ⟨rfl, ?_⟩
  refine codeAny_call_builtin_at (Code.quiet_builtin _ (by decide +kernel)) entry_typeCall (wpAny_check_type_call_sub hC (type_kw F hT hC hi hb ?_))
  refine codeAny_mono hq fun r s' z => ?_
  rcases r with e | (v | _ | _ | _) <;> exact z
end
end PySem.MoKw
set_option Elab.async false
set_option linter.all false
set_option maxRecDepth 100000
set_option maxHeartbeats 4000000
/-! MoZ: exceptions as values: C(..), C(name = ..), C(), fields, isinstance. -/
namespace Mo
open PySem L2 PySem.Spec PyProof.Rows
/-- an own exception class with its own __init__: fields ns; by name the order pm of the names ks -/
structure XcI (P : Program) (w : World) (K : PySem.W.Frag) (mg : Str → Option Value) (base : Heap) (c : Str) (ns ks : List Str) (pm : List Nat) : Prop where
  ex : ∃ B nw ini tl, XB B nw ini tl ∧ XcC K (He.ga K c) nw tl
  gl : mg c = some (.ref (He.ga K c))
  iC : PySem.W.findIn K (.ref (He.ga K c)) "__init__" = some (some (.ref (He.ma K (He.ga K c) "__init__")))
  tI : PySem.W.typeIn K (.ref (He.ma K (He.ga K c) "__init__")) = some (.type "function")
  fn : ∃ fd, FnS P w K mg base 1 (He.ma K (He.ga K c) "__init__") fd (Str.ofString "self" :: ns) (spI (He.ga K c) ns) ∧ Binds K fd (Str.ofString "self" :: ns) [] ∧
    ∀ (s : Shared) (self : Value) (ws : List Value), ws.length = ns.length → BindsTo s fd ⟨[self], ks.zip ws⟩ ((Str.ofString "self" :: ns).zip (self :: permL pm ws))
section
variable {X : Cx} {c : Str} {ns ks : List Str} {pm : List Nat}
theorem run_mkX {pins : List (Addr × Obj)} {σ : L2.St} {H : Hp} {t : Shared} {Q : VK} {us : List Value} {vs : List V} (M : XcI X.prog X.w X.K X.mg X.base c ns ks pm) (hgd : X.A.guards = some []) (hr : Room 2 X.A) (hl : vs.length = ns.length) (h8 : ns.length ≤ 8) (I : Inv X pins σ H t) (r : Vals vs us)
    (h : ∀ a dx, H a = none → H dx = none → dx ≠ a → Q (.ref a) (upd (upd H dx (exd dx (ns.zip vs).reverse)) a (exo a (He.ga X.K c) (some dx)))) :
    wpAny (model X.prog X.w) X.A (call (.ref (He.ga X.K c)) us) (EP X pins σ Q) X.xe t := by
  obtain ⟨B, nw, ini, tl, b, T⟩ := M.ex
  obtain ⟨fd, F, hb, _⟩ := M.fn
  obtain ⟨z1, z2, z3, z4, bm, z5, z6, z7, z8, z9, z10, z11, z12, z13, z14, hC, hbm⟩ := T.cls
  obtain ⟨hp, g, dr, tk, os⟩ := t
  have iC := M.iC
  have tI := M.tI
  generalize He.ma X.K (He.ga X.K c) "__init__" = fI at *
  generalize He.ga X.K c = C at *
  have hsz : hp.objs.size ≤ hp.objs.size + 1 := Nat.le_succ _
  have hn : H (hp.objs.size + 1) = none := I.hok.fresh hsz
  have kk : ∀ c o, hp.get? c = some o → ((hp.push (PySem.W.kdv_tup us)).push (PySem.HandSPX.excO C hp.objs.size)).get? c = some o := fun c o e => Heap.get?_push_of_some _ (Heap.get?_push_of_some _ e)
  have hget : ((hp.push (PySem.W.kdv_tup us)).push (PySem.HandSPX.excO C hp.objs.size)).get? (hp.objs.size + 1) = some (PySem.HandSPX.excO C hp.objs.size) := by heap_get
  have I2 := I.laid (t' := tk) (a := hp.objs.size + 1) (o := exo (hp.objs.size + 1) C none) (h' := (hp.push (PySem.W.kdv_tup us)).push (PySem.HandSPX.excO C hp.objs.size)) kk hsz (exo_ok hget)
  have r2 : Vals (V.ref (hp.objs.size + 1) :: vs) (Value.ref (hp.objs.size + 1) :: us) := .cons rfl r
  have hl2 : (Value.ref (hp.objs.size + 1) :: us ++ []).length = (Str.ofString "self" :: ns).length := by
    rw [List.append_nil, List.length_cons, List.length_cons, ← r.length, hl]
  have hus : us.length ≤ sizeLine := by
    rw [← r.length, hl, sizeLine_eq]
    omega
  have hbb := hb _ (Value.ref (hp.objs.size + 1) :: us) I2.kIn hl2
  rw [List.append_nil] at hbb
  refine wpAny_call (PySem.HandSPX.call_own b.f (fun Y => ovr_has b Y bm hbm) (I.kIn _ _ hC) (PySem.W.looks_findIn I.kIn iC) (fun self => PySem.W.bind_fn I.kIn self tI) hus
    (codeAny_mono (F.run _ X.stack _ _ ⟨Value.ref (hp.objs.size + 1) :: us, []⟩ (Value.ref (hp.objs.size + 1) :: us) _ (fun v H2 => v = .non ∧ Q (.ref (hp.objs.size + 1)) H2) (by rw [under_guards]; exact hgd) (hr.make C us []) (I2.env0.make C us []) hbb r2 (by rw [List.length_cons, hl, List.length_cons])
      ⟨_, vs, rfl, upd_same, fun dx n ne => ⟨rfl, ?_⟩⟩) fun r s' hq' => ?_))
  · have n2 : H dx = none := by rw [upd_ne ne] at n; exact n
    have e : upd (upd (upd H (hp.objs.size + 1) (exo (hp.objs.size + 1) C none)) dx (exd dx (ns.zip vs).reverse)) (hp.objs.size + 1) (exo (hp.objs.size + 1) C (some dx)) = upd (upd H dx (exd dx (ns.zip vs).reverse)) (hp.objs.size + 1) (exo (hp.objs.size + 1) C (some dx)) := by
      funext c
      by_cases h1 : c = hp.objs.size + 1
      · subst h1; rw [upd_same, upd_same]
      · rw [upd_ne h1, upd_ne h1]
        by_cases h2 : c = dx
        · subst h2; rw [upd_same, upd_same]
        · rw [upd_ne h2, upd_ne h2, upd_ne h1]
    rw [e]
    exact h _ _ hn n2 ne
  · cases r with
    | error er => exact False.elim hq'
    | ok fl =>
      cases fl with
      | ret u =>
        obtain ⟨v, H', I3, rv, ev, q3⟩ := I2.after hq'
        subst ev
        exact ⟨rv, ⟨V.ref (hp.objs.size + 1), H', I3, rfl, q3⟩⟩
      | next => exact False.elim hq'
      | brk => exact False.elim hq'
      | cont => exact False.elim hq'
theorem run_mkXK {pins : List (Addr × Obj)} {σ : L2.St} {H : Hp} {t : Shared} {Q : VK} {us : List Value} {vs : List V} (M : XcI X.prog X.w X.K X.mg X.base c ns ks pm) (hgd : X.A.guards = some []) (hr : Room 2 X.A) (hl : vs.length = ns.length) (hl2 : (permL pm vs).length = ns.length) (I : Inv X pins σ H t) (r : Vals vs us)
    (h : ∀ a dx, H a = none → H dx = none → dx ≠ a → Q (.ref a) (upd (upd H dx (exd dx (ns.zip (permL pm vs)).reverse)) a (exo a (He.ga X.K c) (some dx)))) :
    wpAny (model X.prog X.w) X.A (call (.ref (He.ga X.K c)) [] (ks.zip us)) (EP X pins σ Q) X.xe t := by
  obtain ⟨B, nw, ini, tl, b, T⟩ := M.ex
  obtain ⟨fd, F, _, hb⟩ := M.fn
  obtain ⟨z1, z2, z3, z4, bm, z5, z6, z7, z8, z9, z10, z11, z12, z13, z14, hC, hbm⟩ := T.cls
  obtain ⟨hp, g, dr, tk, os⟩ := t
  have iC := M.iC
  have tI := M.tI
  generalize He.ma X.K (He.ga X.K c) "__init__" = fI at *
  generalize He.ga X.K c = C at *
  have hsz : hp.objs.size ≤ hp.objs.size + 1 := Nat.le_succ _
  have hn : H (hp.objs.size + 1) = none := I.hok.fresh hsz
  have kk : ∀ c o, hp.get? c = some o → ((hp.push (PySem.W.kdv_tup [])).push (PySem.HandSPX.excO C hp.objs.size)).get? c = some o := fun c o e => Heap.get?_push_of_some _ (Heap.get?_push_of_some _ e)
  have hget : ((hp.push (PySem.W.kdv_tup [])).push (PySem.HandSPX.excO C hp.objs.size)).get? (hp.objs.size + 1) = some (PySem.HandSPX.excO C hp.objs.size) := by heap_get
  have I2 := I.laid (t' := tk) (a := hp.objs.size + 1) (o := exo (hp.objs.size + 1) C none) (h' := (hp.push (PySem.W.kdv_tup [])).push (PySem.HandSPX.excO C hp.objs.size)) kk hsz (exo_ok hget)
  have r2 : Vals (V.ref (hp.objs.size + 1) :: permL pm vs) (Value.ref (hp.objs.size + 1) :: permL pm us) := .cons rfl (perm_vals pm r)
  refine wpAny_call (PySem.MoKw.call_kw b.f (fun Y => ovr_has b Y bm hbm) (I.kIn _ _ hC) (PySem.W.looks_findIn I.kIn iC) (fun self => PySem.W.bind_fn I.kIn self tI)
    (codeAny_mono (F.run _ X.stack _ _ ⟨[Value.ref (hp.objs.size + 1)], ks.zip us⟩ (Value.ref (hp.objs.size + 1) :: permL pm us) _ (fun v H2 => v = .non ∧ Q (.ref (hp.objs.size + 1)) H2) (by rw [under_guards]; exact hgd) (hr.make C [] (ks.zip us)) (I2.env0.make C [] (ks.zip us)) (hb _ _ us (by rw [← r.length]; exact hl)) r2 (by rw [List.length_cons, hl2, List.length_cons])
      ⟨_, permL pm vs, rfl, upd_same, fun dx n ne => ⟨rfl, ?_⟩⟩) fun r s' hq' => ?_))
  · have n2 : H dx = none := by rw [upd_ne ne] at n; exact n
    have e : upd (upd (upd H (hp.objs.size + 1) (exo (hp.objs.size + 1) C none)) dx (exd dx (ns.zip (permL pm vs)).reverse)) (hp.objs.size + 1) (exo (hp.objs.size + 1) C (some dx)) = upd (upd H dx (exd dx (ns.zip (permL pm vs)).reverse)) (hp.objs.size + 1) (exo (hp.objs.size + 1) C (some dx)) := by
      funext c
      by_cases h1 : c = hp.objs.size + 1
      · subst h1; rw [upd_same, upd_same]
      · rw [upd_ne h1, upd_ne h1]
        by_cases h2 : c = dx
        · subst h2; rw [upd_same, upd_same]
        · rw [upd_ne h2, upd_ne h2, upd_ne h1]
    rw [e]
    exact h _ _ hn n2 ne
  · cases r with
    | error er => exact False.elim hq'
    | ok fl =>
      cases fl with
      | ret u =>
        obtain ⟨v, H', I3, rv, ev, q3⟩ := I2.after hq'
        subst ev
        exact ⟨rv, ⟨V.ref (hp.objs.size + 1), H', I3, rfl, q3⟩⟩
      | next => exact False.elim hq'
      | brk => exact False.elim hq'
      | cont => exact False.elim hq'
end
theorem zip_rev {α β : Type} : ∀ {l : List α} {m : List β}, l.length = m.length → (l.zip m).reverse = l.reverse.zip m.reverse
  | [], [], _ => rfl
  | a :: l, b :: m, h => by
    have h : l.length = m.length := by simpa using h
    rw [List.zip_cons_cons, List.reverse_cons, zip_rev h, List.reverse_cons, List.reverse_cons, List.zip_append (by simpa using h)]
    rfl
/-! ### as values -/
section
variable {K : PySem.W.Frag} {s : Sx} {c : Str} {ns : List Str} {ds : List Dt} {vs : List V}
theorem exc_new (r : HRel K s) {a dx : Addr} (ha : s.H a = none) (hd : s.H dx = none) (ne : dx ≠ a) (rs : Reps K s ds vs) (hl : ns.length = vs.length) :
    Ext s ((s.new dx (exd dx (ns.zip vs).reverse)).new a (exo a (He.ga K c) (some dx))) ∧ HRel K ((s.new dx (exd dx (ns.zip vs).reverse)).new a (exo a (He.ga K c) (some dx))) ∧ Rep K ((s.new dx (exd dx (ns.zip vs).reverse)).new a (exo a (He.ga K c) (some dx))) (.exc c ns.reverse ds.reverse) (.ref a) := by
  have x1 := new_ext (u := exd dx (ns.zip vs).reverse) r hd
  have r1 := new_rel (u := exd dx (ns.zip vs).reverse) r hd
  have ha' : (s.new dx (exd dx (ns.zip vs).reverse)).H a = none := by
    show upd s.H dx _ a = none
    rw [upd_ne (Ne.symm ne)]; exact ha
  have x2 := new_ext (u := exo a (He.ga K c) (some dx)) r1 ha'
  have r2 := new_rel (u := exo a (He.ga K c) (some dx)) r1 ha'
  have nm : ∀ {p : Addr}, s.H p = none → ¬ ((s.new dx (exd dx (ns.zip vs).reverse)).new a (exo a (He.ga K c) (some dx))).mut p := fun {p} hp ⟨i, o, e, _, _⟩ => r.fresh hp e
  refine ⟨x1.trans x2, r2, a, rfl, .inr ⟨dx, vs.reverse, ⟨upd_same, nm ha⟩, ⟨?_, nm hd⟩, by simpa using hl, ((rs.ext x1).ext x2).reverse⟩⟩
  show upd (upd s.H dx _) a _ dx = _
  rw [upd_ne ne, upd_same, zip_rev hl]
end
def mkX (c : Str) (ns : List Str) (ds : List Dt) : Mm Dt := fun h => if ds.length = ns.length then .ok (.exc c ns.reverse ds.reverse) h else .no
def mkx (c : Str) (ns : List Str) (mr : En → Mm (List Dt)) : En → Mm Dt := fun env => mr env >>= mkX c ns
def mkxK (c : Str) (ns : List Str) (pm : List Nat) (mr : En → Mm (List Dt)) : En → Mm Dt := fun env => mr env >>= fun ds => if ds.length = ns.length then mkX c ns (permL pm ds) else Mm.no
section
variable {X : Cx} {c : Str} {ns ks : List Str} {pm : List Nat} {p pos kpos : Pos} {e : Expr} {es : List Expr} {kws : List Keyword} {mr : En → Mm (List Dt)} {j : Nat}
theorem mkX_ok {K : PySem.W.Frag} {s1 : Sx} {ds : List Dt} {vs : List V} {Q : VK} (r1 : HRel K s1) (rv : Reps K s1 ds vs) (q : After K E0 s1 (mkX c ns ds s1.h) (fun d s' => ∀ v, Rep K s' d v → Q v s'.H)) :
    vs.length = ns.length ∧ ∀ a dx, s1.H a = none → s1.H dx = none → dx ≠ a → Q (.ref a) (upd (upd s1.H dx (exd dx (ns.zip vs).reverse)) a (exo a (He.ga K c) (some dx))) := by
  unfold mkX at q
  split at q
  · rename_i hl
    have hl' : vs.length = ns.length := by rw [rv.length]; exact hl
    refine ⟨hl', fun a dx ha hd ne => ?_⟩
    obtain ⟨x, r2, rp⟩ := exc_new (c := c) (ns := ns) r1 ha hd ne rv hl'.symm
    exact q.now ((s1.new dx (exd dx (ns.zip vs).reverse)).new a (exo a (He.ga K c) (some dx))) rfl x r2 _ rp
  · exact q.elim
theorem me_mkx (M : XcI X.prog X.w X.K X.mg X.base c ns ks pm) (hgd : X.A.guards = some []) (hr : Room j X.A) (ha : PA X (e :: es) (tA X.K E0 mr)) (hj : 2 ≤ j := by decide) (h8 : ns.length ≤ 8 := by decide) (hg : Gl X c := by rfl) (hdb : (c == ("__debug__" : Str)) = false := by decide)
    (he : starEach (e :: es) X.env = (false, eval e X.env) :: starEach es X.env := by rfl) (hpl : (backTo pos (starEach es X.env)).any (·.1) = false := by rfl) : PE X (.Call (.Name c p) (e :: es) [] pos) (tE X.K E0 (mkx c ns mr)) := by
  refine ⟨fun pins t σ H Q I h => ?_⟩
  obtain ⟨B, nw, ini, tl, b, T⟩ := M.ex
  refine wpAny_Call_Name_kw (ld_glob I hg M.gl ?_ hdb)
  have h2 : tA X.K E0 mr σ H fun vs H1 => vs.length = ns.length ∧ ∀ a dx, H1 a = none → H1 dx = none → dx ≠ a → Q (.ref a) (upd (upd H1 dx (exd dx (ns.zip vs).reverse)) a (exo a (He.ga X.K c) (some dx))) := by
    obtain ⟨s1, env, rfl, r, he, ha⟩ := h
    exact tA_bind r he ha fun ds s2 vs x2 r2 e2 rv q => mkX_ok r2 rv q
  exact PySem.W.callWith_K (h₀ := X.base) I.ok.mod.kin T.kC (thn (ha.run pos pins t σ H _ I h2) fun us s1 ⟨vs, H1, I1, r, hl, q⟩ => ⟨I1.kIn, run_mkX M hgd (hr.mono hj) hl h8 I1 r q⟩) he hpl
theorem me_mkxK (M : XcI X.prog X.w X.K X.mg X.base c ns ks pm) (hgd : X.A.guards = some []) (hr : Room j X.A) (hkw : PK X kws (tA X.K E0 mr)) (hj : 2 ≤ j := by decide) (hg : Gl X c := by rfl) (hdb : (c == ("__debug__" : Str)) = false := by decide)
    (hall : (backToKw pos (keywordEach kws X.env)).all (·.1.isSome) = true := by rfl) (hks : (backToKw pos (keywordEach kws X.env)).filterMap (·.1) = ks := by rfl)
    (hpl : ((backTo pos (starEach [] X.env)).any (·.1) || (backToKw pos (keywordEach kws X.env)).any (·.1.isNone)) = false := by rfl) : PE X (.Call (.Name c p) [] kws pos) (tE X.K E0 (mkxK c ns pm mr)) := by
  refine ⟨fun pins t σ H Q I h => ?_⟩
  obtain ⟨B, nw, ini, tl, b, T⟩ := M.ex
  refine wpAny_Call_Name_kw (ld_glob I hg M.gl ?_ hdb)
  have h2 : tA X.K E0 mr σ H fun vs H1 => vs.length = ns.length ∧ (permL pm vs).length = ns.length ∧ ∀ a dx, H1 a = none → H1 dx = none → dx ≠ a → Q (.ref a) (upd (upd H1 dx (exd dx (ns.zip (permL pm vs)).reverse)) a (exo a (He.ga X.K c) (some dx))) := by
    obtain ⟨s1, env, rfl, r, he, ha⟩ := h
    refine tA_bind r he ha fun ds s2 vs x2 r2 e2 rv q => ?_
    split at q
    · rename_i hl
      exact ⟨by rw [rv.length]; exact hl, mkX_ok r2 (perm_reps pm rv) q⟩
    · exact q.elim
  refine PySem.W.callWith_KW0 (h₀ := X.base) I.ok.mod.kin T.kC hall (thn (hkw.run pos pins t σ H _ I h2) fun ws s2 ⟨zs, H2, I2, rz, hl, hl2, q2⟩ => ⟨I2.kIn, ?_⟩) hpl
  rw [hks]
  exact run_mkXK M hgd (hr.mono hj) hl hl2 I2 rz q2
/-! ### C(), C without own __init__ -/
def mkx0 (c : Str) : En → Mm Dt := fun _ => Mm.pure (.exc c [] [])
theorem me_mkx0 {B nw ini : String} {tl : List Value} (F : ExcBaseFacts B nw ini tl) (gl : X.mg c = some (.ref (He.ga X.K c))) (kC : PySem.W.keepIn X.K (.ref (He.ga X.K c)) = true) (q0 : PySem.W.excIn X.K (He.ga X.K c) tl nw = true) (hg : Gl X c := by rfl) (hdb : (c == ("__debug__" : Str)) = false := by decide) :
    PE X (.Call (.Name c p) [] [] pos) (tE X.K E0 (mkx0 c)) := by
  refine ⟨fun pins t σ H Q I h => ?_⟩
  refine wpAny_Call_Name_kw (ld_glob I hg gl ?_ hdb)
  obtain ⟨s1, env, rfl, r, he, ha⟩ := h
  refine PySem.W.callWith_K0 I.kIn kC ?_
  obtain ⟨bm, N, nm, qn, bs, hdct, sn, sub, ab, col, dd, k0, k1, k2, k3, k5, mN, hC, hN, hni, T⟩ := exc_obj I.kIn q0
  refine wpAny_call_exc_subT F T hC hN hni (fun h' a hm => ?_) (by show 0 ≤ sizeLine; omega)
  have hn : s1.H a = none := I.hok.gone hm.new
  obtain ⟨t1, ht, _, _⟩ := hm.there
  have r2 := new_rel (u := exo a (He.ga X.K c) none) r hn
  have x2 := new_ext (u := exo a (He.ga X.K c) none) r hn
  refine ⟨.ref a, upd s1.H a (exo a (He.ga X.K c) none), I.laidN hm.keeps hm.new hn (exo_ok ht), rfl, ?_⟩
  exact ha.now (s1.new a (exo a (He.ga X.K c) none)) rfl x2 r2 _ ⟨a, rfl, .inl ⟨rfl, rfl, upd_same, fun ⟨i, o, e, _, _⟩ => r.fresh hn e⟩⟩
end
end Mo
set_option Elab.async false
set_option linter.all false
set_option maxRecDepth 100000
set_option maxHeartbeats 4000000
/-! MoAA: fields of exceptions, isinstance of exceptions. -/
namespace PySem.MoKw
open PySem.W PySem.Spec PySem.Calls PyProof.Rows
section
variable {prog : Program} {w : World} {A : Around} {E : Value → Shared → Prop} {s : Shared} {K : Frag} {x D : Addr} {ox : Obj} {od : Option Obj}
structure ExB (K : Frag) (D : Addr) : Prop where
  hg : findIn K (.ref D) "__getattribute__" = some (some (.builtin "BaseException.__getattribute__"))
  hk : findIn K (.ref D) "__getattr__" = some none
  hs : subIn K (.ref D) (.type "BaseException") = some true
  hd : hasDictIn K D = true
  ha : findIn K (.ref D) "__class__" = some (some (.builtin "object.__class__"))
  hn : specialIn K (.builtin "object.__class__") "__get__" = some (some (.builtin "getset_descriptor.__get__"))
  ht : takesIn K (.builtin "object.__class__") = some true
  hm : mroIn K D (.type "object") = some true
theorem fo_bind {C : Addr} {n : Str} {a g : Value} (hc : (clsIn K C).isSome = true) (ha : findIn K (.ref C) n = some (some a)) (hg : specialIn K a "__get__" = some (some g)) (ht : takesIn K a = some true) : findObj K C od n = some (.bind g a) := by
  obtain ⟨cd, hc⟩ := Option.isSome_iff_exists.mp hc
  unfold findObj
  rw [hc, Option.bind_some, ha, Option.bind_some]
  simp [hg, ht]
theorem cls_of {Q : Option Value → Shared → Prop} (C : ExB K D) (X : K.In s.heap) (I : InstAt s.heap x ox D od) (h : Q (some (.ref D)) { s with toks := s.toks + 1 }) : wpAny (model prog w) A (getAttr? (.ref x) "__class__") Q E s := by
  have hf : findObj K D od "__class__" = some (.bind (.builtin "getset_descriptor.__get__") (.builtin "object.__class__")) := fo_bind (by
    obtain ⟨cd, hc, _⟩ := any_some C.hd
    rw [hc]
    rfl) C.ha C.hn C.ht
  obtain ⟨hp, g, d, t, os⟩ := s
  have l0 := I.type (M := model prog w)
  have l1 := looks_findIn (M := model prog w) X C.hg
  have l2 := looks_findIn (M := model prog w) X C.hk
  have l3 := looks_find (M := model prog w) X I hf
  have l4 : Looks (model prog w) hp (isInstance (.ref x) (.type "BaseException")) true := l0.andThen (looks_subIn X C.hs)
  have n0 : (false && onTheHeap (Value.builtin "BaseException.__getattribute__")) = false := rfl
  have n2 : (Value.builtin "BaseException.__getattribute__" == Value.builtin "object.__getattribute__") = false := by decide +kernel
  have n1 : (onTheHeap (Value.ref D) && Value.builtin "BaseException.__getattribute__" == Value.builtin "object.__getattribute__") = false := by
    rw [n2]
    rfl
  unfold getAttr? getAttrBy? getAttrBy
  refine wpAny_bind (wpAny_mkText (wpAny_bind (wpAny_attempt (wpAny_holding (wpAny_bind (l0.at (wpAny_bind (l1.at ?_))))))))
  show wpAny _ _ (if (onTheHeap (Value.ref D) && Value.builtin "BaseException.__getattribute__" == Value.builtin "object.__getattribute__") = true then _ else _) _ _ _
  rw [n1, if_neg Bool.false_ne_true]
  unfold getAttrByItsOwn hookBefore
  refine wpAny_bind ?_
  rw [if_pos (show onTheHeap (Value.ref D) = true from rfl)]
  refine l2.at ?_
  refine wpAny_bind (wpAny_attempt (wpAny_holding ?_))
  unfold callGetattribute
  rw [n0, if_neg Bool.false_ne_true]
  unfold boundAndCalled
  rw [PySem.F.excAttr_ValueError.ga.bind (.ref x)]
  refine wpAny_bind (wpAny_pure ?_)
  show wpAny _ _ (call (.builtin "BaseException.__getattribute__") [.ref x, .str "__class__" t]) _ _ _
  refine wpAny_call (codeAny_call_builtin PySem.F.excAttr_ValueError.ga.plain PySem.F.entry_bexc_ga ?_)
  refine @check_slot (model prog w) _ _ ⟨hp, g, d, t + 1, os⟩ "BaseException.__getattribute__" "BaseException" "__getattribute__" (.ref x) [.str "__class__" t] [] _ (by decide +kernel) (by decide +kernel) l4 (PySem.F.args_bexc_ga (.ref x) (.str "__class__" t)) ?_
  unfold Builtin.«object.__getattribute__»
  refine wpAny_bind (wpAny_of_eq (a := ((Value.ref x : Value), [Value.str "__class__" t])) (by first | rfl | (simp only [slotArgs]; rfl)) ?_)
  refine wpAny_bind (wpAny_pure (wpAny_bind (l0.at (wpAny_bind (l3.at ?_)))))
  show wpAny _ _ (holding [Value.builtin "object.__class__"] (call (.builtin "getset_descriptor.__get__") [.builtin "object.__class__", .ref x, .ref D]) >>= ret) _ _ _
  refine wpAny_bind (wpAny_holding (wpAny_call (class_get (s := ⟨hp, g, d, t + 1, os⟩) (ox := ox) (od := od) X I C.hm ?_)))
  refine wpAny_pure ?_
  show wpAny _ _ (handedOut (.ref D)) _ _ _
  rw [handedOut_of (v := .ref D) rfl]
  first
    | exact wpAny_pure (wpAny_pure h)
    | exact wpAny_pure h
    | exact wpAny_pure (wpAny_bind (wpAny_pure (wpAny_pure h)))
theorem kitE (C : ExB K D) : KitX K (.ref x) (.ref D) (fun h => ∃ ox od, InstAt h x ox D od) where
  ty := fun _ _ _ I => by
    obtain ⟨ox, od, I⟩ := I
    exact I.type
  it := fun _ _ X _ => by
    obtain ⟨c1, h1, _⟩ := any_some C.hd
    unfold clsIn at h1
    split at h1
    · rename_i z1 z2 z3 z4 ho
      intro A' Q' E' s' k q
      unfold isType loadHead
      exact wpAny_bind (wpAny_loadPart (k _ _ (X _ _ ho)) (wpAny_pure q))
    · cases h1
  ne := fun h tp dd its n sl X htp => by
    obtain ⟨c1, h1, _⟩ := any_some C.hd
    refine Bool.eq_false_iff.mpr fun q => ?_
    have e : D = tp := Value.ref.inj (beq_iff_eq.mp q)
    subst e
    unfold clsIn at h1
    split at h1
    · rename_i z1 z2 z3 z4 ho
      cases (X _ _ ho).symm.trans htp
    · cases h1
  ca := fun X I k => by
    obtain ⟨ox, od, I⟩ := I
    exact cls_of C X I k
end
end PySem.MoKw
namespace Mo
open PySem L2 PySem.Spec PyProof.Rows
section
variable {K : PySem.W.Frag} {s : Sx} {c : Str} {ns : List Str} {ds : List Dt} {v : V}
/-- the object of an exception -/
theorem exc_inst {X : Cx} {pins : List (Addr × Obj)} {σ : L2.St} {t : Shared} (I : Inv X pins σ s.H t) (rv : Rep X.K s (.exc c ns ds) v) : ∃ a, v = .ref a ∧ ∃ ox od, PySem.W.InstAt t.heap a ox (He.ga X.K c) od := by
  obtain ⟨a, rfl, h⟩ := rv
  refine ⟨a, rfl, ?_⟩
  rcases h with ⟨_, _, k, _⟩ | ⟨dx, vs, k1, k2, l, rs⟩
  · obtain ⟨t1, ho⟩ := exo_at I.hok k
    exact ⟨_, none, ho, rfl, rfl, trivial⟩
  · obtain ⟨t1, ho⟩ := exo_at I.hok k1.1
    obtain ⟨mA, hns, hr⟩ := exd_at I.hok k2.1
    obtain ⟨od, hod, hl⟩ := lookIn_ns hns
    exact ⟨_, some od, ho, rfl, rfl, hod⟩
end
/-! ### e.f -/
def fldX (cs : List Str) (f : Str) (d : Dt) : Mm Dt := fun h => match d with
  | .exc c ns ds => if c ∈ cs then (match (ns.zip ds).lookup f with
    | some y => .ok y h
    | none => .no) else .no
  | _ => .no
def xfld (cs : List Str) (f : Str) (mo : En → Mm Dt) : En → Mm Dt := fun env => mo env >>= fldX cs f
theorem zip_look {K : PySem.W.Frag} {s : Sx} {f : Str} {y : Dt} : ∀ {ns : List Str} {ds : List Dt} {vs : List V}, Reps K s ds vs → (ns.zip ds).lookup f = some y → ∃ v, (ns.zip vs).lookup f = some v ∧ Rep K s y v
  | [], _, _, _, h => by simp at h
  | _ :: _, [], _, _, h => by simp at h
  | n :: ns, d :: ds, _, rs, h => by
    obtain ⟨v, r, rfl, h1, h2⟩ := rs
    rw [List.zip_cons_cons, List.lookup_cons] at h ⊢
    by_cases e : f == n
    · rw [e] at h ⊢
      cases h
      exact ⟨v, rfl, h1⟩
    · have e : (f == n) = false := by simpa using e
      rw [e] at h ⊢
      exact zip_look h2 h
section
variable {X : Cx} {E : XK} {e : Expr} {f : Str} {pos : Pos} {mo : En → Mm Dt} {cs : List Str}
theorem me_xfld (hX : ∀ c ∈ cs, XfC X.K (He.ga X.K c) ∧ PySem.W.findIn X.K (.ref (He.ga X.K c)) f = some none) (he : PE X e (tE X.K E mo)) (hb : attributeBase e f X.env (eval e X.env) = eval e X.env := by rfl) : PE X (.Attribute e f pos) (tE X.K E (xfld cs f mo)) := by
  refine ⟨fun pins t σ H Q I h => ?_⟩
  have h2 : tE X.K E mo σ H fun x H1 => ∃ s1 c ns ds y, s1.H = H1 ∧ HRel X.K s1 ∧ Rep X.K s1 (.exc c ns ds) x ∧ c ∈ cs ∧ (ns.zip ds).lookup f = some y ∧ ∀ v, Rep X.K s1 y v → Q v H1 := by
    obtain ⟨s1, env, rfl, r, he, ha⟩ := h
    refine tE_bind r he ha fun d s2 v x2 r2 e2 rv q => ?_
    unfold fldX at q
    split at q
    · rename_i c ns ds
      split at q
      · rename_i hc
        split at q
        · rename_i y hy
          exact ⟨s2, c, ns, ds, y, rfl, r2, rv, hc, hy, fun v rv => q.now s2 rfl (Ext.refl s2) r2 v rv⟩
        · exact q.elim
      · exact q.elim
    · exact q.elim
  refine attr_of hb (thn (he.run pins t σ H _ I h2) fun u t1 ⟨x, H1, I1, rx, s1, c, ns, ds, y, eH, r1, rv, hc, hy, q⟩ => ?_)
  subst eH
  obtain ⟨T, hno⟩ := hX c hc
  obtain ⟨a, rfl, h⟩ := rv
  cases rx
  rcases h with ⟨rfl, _⟩ | ⟨dx, vs, k1, k2, l, rs⟩
  · simp at hy
  · obtain ⟨t1', ho⟩ := exo_at I1.hok k1.1
    obtain ⟨mA, hns, hr⟩ := exd_at I1.hok k2.1
    obtain ⟨od, hod, hl⟩ := lookIn_ns hns
    obtain ⟨v, hv, ry⟩ := zip_look rs hy
    obtain ⟨u, hu, ru⟩ := RelO.some_of (v := v) (o := mA f) (by rw [← hv]; exact hr f)
    have J : PySem.W.InstAt t1.heap a _ (He.ga X.K c) (some od) := ⟨ho, rfl, rfl, hod⟩
    exact HandSPX.exc_get I1.kIn J T.ga T.gg T.exC (PySem.W.findObj_own T.hdC hno rfl (by rw [hl, hu])) (handed_of ru) ⟨v, s1.H, I1.tok _, ru, q v ry⟩
end
/-! ### isinstance -/
def bIsX (tb : List (Str × List Str)) : List Dt → Mm Dt := fun ds h => match ds with
  | [.exc c _ _, .cl b] => (match tb.lookup c with
    | some l => .ok (.bl (decide (b ∈ l))) h
    | none => .no)
  | _ => .no
def bIsXB (tb : List (Str × String)) : List Dt → Mm Dt := fun ds h => match ds with
  | [.exc c _ _, .ty b] => (match tb.lookup c with
    | some l => .ok (.bl (decide (b = l))) h
    | none => .no)
  | _ => .no
/-- what is told of the classes: own ones above each, the built-in one above it -/
structure IsXs (K : PySem.W.Frag) (bs : List Str) (tb : List (Str × List Str)) : Prop where
  ex : ∀ p ∈ tb, PySem.MoKw.ExB K (He.ga K p.1) ∧ ∀ b ∈ bs, PySem.W.kitOne K (.ref (He.ga K p.1)) (.ref (He.ga K b)) = some (decide (b ∈ p.2))
structure IsXb (K : PySem.W.Frag) (bs : List String) (tb : List (Str × String)) : Prop where
  ex : ∀ p ∈ tb, PySem.MoKw.ExB K (He.ga K p.1) ∧ ∀ b ∈ bs, PySem.W.kitOne K (.ref (He.ga K p.1)) (.type b) = some (decide (b = p.2))
end Mo
set_option Elab.async false
set_option linter.all false
set_option maxRecDepth 100000
set_option maxHeartbeats 4000000
/-! MoAB: isinstance of exceptions as a rule; repr of data with dicts. -/
namespace Mo
open PySem L2 PySem.Spec PyProof.Rows
section
variable {X : Cx} {E : XK}
def bIsN (bs : List Str) (tb : List (Str × List Str)) : List Dt → Mm Dt := fun ds h => match ds with
  | [.exc c _ _, .cl b] => (match tb.lookup c with
    | some l => if b ∈ bs then .ok (.bl (decide (b ∈ l))) h else .no
    | none => .no)
  | _ => .no
def bIsB (bs : List String) (tb : List (Str × String)) : List Dt → Mm Dt := fun ds h => match ds with
  | [.exc c _ _, .ty b] => (match tb.lookup c with
    | some l => if b ∈ bs then .ok (.bl (decide (b = l))) h else .no
    | none => .no)
  | _ => .no
theorem look_mem {α β : Type} [BEq α] [LawfulBEq α] {x : α} {y : β} : ∀ {l : List (α × β)}, l.lookup x = some y → (x, y) ∈ l
  | [], h => by cases h
  | (a, b) :: l, h => by
    rw [List.lookup_cons] at h
    by_cases e : x == a
    · rw [e] at h
      cases h
      rw [eq_of_beq e]
      exact List.mem_cons_self
    · have e : (x == a) = false := by simpa using e
      rw [e] at h
      exact List.mem_cons_of_mem _ (look_mem h)
theorem b_isN {bs : List Str} {tb : List (Str × List Str)} (C : IsXs X.K bs tb) : CallR X (.builtin "isinstance") (cM X.K E (bIsN bs tb)) := fun pins s σ H xs us Q I rx ⟨s1, ds, eH, r, rs, ha⟩ => by
  subst eH
  unfold bIsN at ha
  split at ha
  · rename_i c ns ds b
    split at ha
    · rename_i l hl
      split at ha
      · rename_i hb
        obtain ⟨v1, r1, rfl, k1, v2, r2, rfl, k2, rfl⟩ := rs
        obtain ⟨a, rfl, J⟩ := exc_inst I k1
        cases k2
        obtain ⟨e1, e2⟩ := C.ex _ (look_mem hl)
        cases rx with
        | cons ra rr =>
          cases rr with
          | cons rb rr =>
            cases rr
            cases ra
            cases rb
            exact PySem.W.kia_one (PySem.MoKw.kitE e1) I.kIn J (e2 b hb) (fun z => nomatch z) fun tk => ⟨.bl _, s1.H, I.kept (t' := tk) fun _ _ z => z, rfl, fin r ha rfl⟩
      · exact ha.elim
    · exact ha.elim
  · exact ha.elim
theorem b_isB {bs : List String} {tb : List (Str × String)} (C : IsXb X.K bs tb) : CallR X (.builtin "isinstance") (cM X.K E (bIsB bs tb)) := fun pins s σ H xs us Q I rx ⟨s1, ds, eH, r, rs, ha⟩ => by
  subst eH
  unfold bIsB at ha
  split at ha
  · rename_i c ns ds b
    split at ha
    · rename_i l hl
      split at ha
      · rename_i hb
        obtain ⟨v1, r1, rfl, k1, v2, r2, rfl, k2, rfl⟩ := rs
        obtain ⟨a, rfl, J⟩ := exc_inst I k1
        cases k2
        obtain ⟨e1, e2⟩ := C.ex _ (look_mem hl)
        cases rx with
        | cons ra rr =>
          cases rr with
          | cons rb rr =>
            cases rr
            cases ra
            cases rb
            exact PySem.W.kia_one (PySem.MoKw.kitE e1) I.kIn J (e2 b hb) (fun z => nomatch z) fun tk => ⟨.bl _, s1.H, I.kept (t' := tk) fun _ _ z => z, rfl, fin r ha rfl⟩
      · exact ha.elim
    · exact ha.elim
  · exact ha.elim
end
/-! ### repr of lists, tuples, dicts -/
def keyP : Key → PyData
  | .inl i => .int i
  | .inr x => .str x
mutual
def toQ : Dt → Option PyData
  | .non => some .none
  | .bl b => some (.bool b)
  | .int i => some (.int i)
  | .str x => some (.str x)
  | .tup ds => (match toQs ds with
    | some ps => some (.tuple ps)
    | none => none)
  | .lv ds => (match toQs ds with
    | some ps => some (.list ps)
    | none => none)
  | .dk ks ds => (match toQs ds with
    | some ps => some (.dict ((ks.map keyP).zip ps))
    | none => none)
  | _ => none
def toQs : List Dt → Option (List PyData)
  | [] => some []
  | d :: ds => (match toQ d, toQs ds with
    | some p, some ps => some (p :: ps)
    | _, _ => none)
end
theorem toQs_len : ∀ {ds : List Dt} {ps : List PyData}, toQs ds = some ps → ps.length = ds.length
  | [], _, e => by cases e; rfl
  | d :: ds, _, e => by
    simp only [toQs] at e
    cases q1 : toQ d with
    | none => rw [q1] at e; simp at e
    | some p =>
      cases q2 : toQs ds with
      | none => rw [q1, q2] at e; simp at e
      | some ps =>
        rw [q1, q2] at e
        cases e
        rw [List.length_cons, List.length_cons, toQs_len q2]
section
variable {X : Cx} {pins : List (Addr × Obj)} {σ : L2.St} {s : Sx} {t : Shared}
theorem not_sys {H : Hp} (I : Inv X pins σ H t) (hk : (X.K.lookup sysModules).isSome = true) {a : Addr} {o : HO} (e : H a = some o) : a ≠ sysModules := fun z => by
  obtain ⟨ob, ho⟩ := Option.isSome_iff_exists.mp hk
  have := (I.bs _ _ (I.ok.mod.kin _ _ ho)).2
  rw [z, this] at e
  cases e
theorem pairs_keys {P : Program} {w : World} {h : Heap} : ∀ {es : List DictEntry} {kvs : List (Key × Value)}, Pairs (mixKind P w) es kvs → ReadsAll h (es.map (·.key)) (kvs.map fun q => keyP q.1) [] ∧ es.map (·.val) = kvs.map (·.2)
  | _, _, .nil => ⟨.nil, rfl⟩
  | _, _, .cons (e := e) (kv := kv) h1 h2 h3 => by
    obtain ⟨i1, i2⟩ := pairs_keys h3
    refine ⟨?_, by rw [List.map_cons, List.map_cons, h2, i2]⟩
    rw [List.map_cons, List.map_cons]
    have k : Reads h e.key (keyP kv.1) [] := by
      rcases keyIs_shape h1 with ⟨i, t, e1, e2⟩ | ⟨x, t, e1, e2⟩
      · rw [e1, e2]; exact .int i t
      · rw [e1, e2]; exact .str x t
    exact ReadsAll.cons k i1
mutual
theorem toQ_reads (I : Inv X pins σ s.H t) (r : HRel X.K s) (hk : (X.K.lookup sysModules).isSome = true) : ∀ {d : Dt} {v : V} {u : Value} {p : PyData}, Rep X.K s d v → RelV v u → toQ d = some p → ∃ as, Reads t.heap u p as ∧ sysModules ∉ as
  | .non, _, _, _, rv, ru, e => by cases rv; cases ru; cases e; exact ⟨_, .none, by simp⟩
  | .bl b, _, _, _, rv, ru, e => by cases rv; cases ru; cases e; exact ⟨_, .bool b, by simp⟩
  | .int i, _, _, _, rv, ru, e => by cases rv; obtain ⟨k, rfl⟩ := ru; cases e; exact ⟨_, .int i k, by simp⟩
  | .str x, _, _, _, rv, ru, e => by cases rv; obtain ⟨k, rfl⟩ := ru; cases e; exact ⟨_, .str x k, by simp⟩
  | .tup ds, _, _, _, rv, ru, e => by
    simp only [toQ] at e
    cases q : toQs ds with
    | none => rw [q] at e; cases e
    | some ps =>
      rw [q] at e; cases e
      obtain ⟨a, vs, rfl, sq, rs⟩ := tupR_ok rv (xs := ds) rfl
      cases ru
      obtain ⟨its, rv', ⟨o, ho, hc, n, hd⟩, _⟩ := I.tuple sq
      obtain ⟨as, h1, h2⟩ := toQs_reads I r hk rs rv' q
      exact ⟨_, .tuple ho hc hd h1, h2⟩
  | .lv ds, _, _, _, rv, ru, e => by
    simp only [toQ] at e
    cases q : toQs ds with
    | none => rw [q] at e; cases e
    | some ps =>
      rw [q] at e; cases e
      obtain ⟨a, vs, rfl, k, rs⟩ := rv
      cases ru
      obtain ⟨its, rv', ⟨o, n, ho, hc, _, hd⟩, _⟩ := I.list (.of k.1)
      obtain ⟨as, h1, h2⟩ := toQs_reads I r hk rs rv' q
      refine ⟨_, .list ho hc hd h1, fun z => ?_⟩
      rcases List.mem_cons.mp z with z | z
      · exact not_sys I hk k.1 z.symm
      · exact h2 z
  | .dk ks ds, _, _, _, rv, ru, e => by
    simp only [toQ] at e
    cases q : toQs ds with
    | none => rw [q] at e; cases e
    | some ps =>
      rw [q] at e; cases e
      obtain ⟨a, vs, rfl, k, l, rs⟩ := rv
      cases ru
      obtain ⟨_, sm, ws, kv, o, es, ep, ho, hx, hd, _, hp, _⟩ := dk_rd I.hok k.1
      have ne : a ≠ sysModules := by simpa using sm
      obtain ⟨k1, k2⟩ := pairs_keys (h := t.heap) hp
      have kv2 : ∀ {l : List (Key × V)} {m : List (Key × Value)}, KV l m → l.map (·.1) = m.map (·.1) ∧ Vals (l.map (·.2)) (m.map (·.2)) := by
        intro l m h
        induction h with
        | nil => exact ⟨rfl, .nil⟩
        | cons h1 h2 ih => exact ⟨by rw [List.map_cons, List.map_cons, h1.1, ih.1], .cons h1.2 ih.2⟩
      obtain ⟨m1, m2⟩ := kv2 kv
      have z1 : (ks.zip vs).map (·.1) = ks := by rw [List.map_fst_zip (by omega)]
      have z2 : (ks.zip vs).map (·.2) = vs := by rw [List.map_snd_zip (by omega)]
      rw [z1] at m1
      rw [z2, ← k2] at m2
      obtain ⟨as, h1, h2⟩ := toQs_reads I r hk rs m2 q
      have lp : ps.length = ks.length := by rw [toQs_len q, ← rs.length, l]
      have e1 : ((ks.map keyP).zip ps).map (·.1) = ks.map keyP := by rw [List.map_fst_zip (by simp; omega)]
      have e2 : ((ks.map keyP).zip ps).map (·.2) = ps := by rw [List.map_snd_zip (by simp; omega)]
      have k3 : ReadsAll t.heap (es.toList.map (·.key)) (((ks.map keyP).zip ps).map (·.1)) [] := by
        rw [e1, m1, List.map_map]
        exact k1
      refine ⟨_, .dict ho hx.1 hd k3 (by rw [e2]; exact h1), fun z => ?_⟩
      simp only [List.append_nil, List.mem_append, List.mem_cons, List.not_mem_nil, or_false] at z
      rcases z with z | z
      · exact ne z.symm
      · exact h2 z
  | .ty _, _, _, _, _, _, e => by simp [toQ] at e
  | .adr _, _, _, _, _, _, e => by simp [toQ] at e
  | .cl _, _, _, _, _, _, e => by simp [toQ] at e
  | .wt _, _, _, _, _, _, e => by simp [toQ] at e
  | .wl _, _, _, _, _, _, e => by simp [toQ] at e
  | .dt _ _, _, _, _, _, _, e => by simp [toQ] at e
  | .exc _ _ _, _, _, _, _, _, e => by simp [toQ] at e
  | .obj _, _, _, _, _, _, e => by simp [toQ] at e
theorem toQs_reads (I : Inv X pins σ s.H t) (r : HRel X.K s) (hk : (X.K.lookup sysModules).isSome = true) : ∀ {ds : List Dt} {vs : List V} {us : List Value} {ps : List PyData}, Reps X.K s ds vs → Vals vs us → toQs ds = some ps → ∃ as, ReadsAll t.heap us ps as ∧ sysModules ∉ as
  | [], _, _, _, rs, ru, e => by cases rs; cases ru; cases e; exact ⟨_, .nil, by simp⟩
  | d :: ds, _, _, _, rs, ru, e => by
    obtain ⟨v, r', rfl, h1, h2⟩ := rs
    simp only [toQs] at e
    cases q1 : toQ d with
    | none => rw [q1] at e; simp at e
    | some p =>
      cases q2 : toQs ds with
      | none => rw [q1, q2] at e; simp at e
      | some ps =>
        rw [q1, q2] at e
        cases e
        cases ru with
        | cons ru1 ru2 =>
          obtain ⟨as, a1, a2⟩ := toQ_reads I r hk h1 ru1 q1
          obtain ⟨bs, b1, b2⟩ := toQs_reads I r hk h2 ru2 q2
          exact ⟨_, .cons a1 b1, fun z => by rcases List.mem_append.mp z with z | z; exact a2 z; exact b2 z⟩
end
end
end Mo
set_option Elab.async false
set_option linter.all false
set_option maxRecDepth 100000
set_option maxHeartbeats 4000000
/-! MoAC: repr of data with dicts as a rule; what the head tells of exception classes. -/
namespace Mo
open PySem L2 PySem.Spec PyProof.Rows
def showQ (p : PyData) : Bool := p.showable && decide (p.depth ≤ 60) && decide (p.shown.length ≤ sizeLine)
def bReprQ : List Dt → Mm Dt := fun ds h => match ds with
  | [.lv xs] => (match toQ (.lv xs) with
    | some p => if showQ p then .ok (.str p.shown) h else .no
    | none => .no)
  | _ => .no
section
variable {X : Cx} {E : XK}
theorem b_reprQ (hk : (X.K.lookup sysModules).isSome = true) (hgd : X.A.guards = some []) (hu : X.A.units + 64 < cLine) : CallR X (.builtin "repr") (cM X.K E bReprQ) := fun pins s σ H xs us Q I rx ⟨s1, ds, eH, r, rs, ha⟩ => by
  subst eH
  unfold bReprQ at ha
  split at ha
  · rename_i ys
    obtain ⟨v, rfl, rv⟩ := rs.one
    split at ha
    · rename_i p hp
      split at ha
      · rename_i hs
        simp only [showQ, Bool.and_eq_true, decide_eq_true_eq] at hs
        obtain ⟨⟨h1, h3⟩, h4⟩ := hs
        obtain ⟨u, rfl, ru⟩ := L2.vals1 rx
        obtain ⟨as, rd, ns⟩ := toQ_reads I r hk rv ru hp
        obtain ⟨a, vs, rfl, k, rs'⟩ := rv
        cases ru
        refine repr_of_reads' rd h1 (fun _ => ns) hgd (by omega) (fun _ _ e => e) (fun h' u tk hk => ?_) h4
        exact ⟨.str p.shown, s1.H, I.kept hk, ⟨u, rfl⟩, fin r ha rfl⟩
      · exact ha.elim
    · exact ha.elim
  · exact ha.elim
end
def xcB (K : PySem.W.Frag) (C : Addr) (nw : String) (tl : List Value) : Bool := (match K.lookup C with
  | some ⟨.type ty, _, .cls cd, sl⟩ => (match cd.mro, sl.toList with
    | .ref C' :: bm, [_, _, _, _, some (.builtin n), _] => decide (ty = "type") && (decide (C' = C) && (decide (n = nw) && (!cd.hasDel && (cd.hasDict && ovr tl bm))))
    | _, _ => false)
  | _ => false) && (decide (PySem.W.findIn K (.ref C) "__setattr__" = some (some (.builtin "object.__setattr__"))) && PySem.W.keepIn K (.ref C))
theorem xcB_ok {K : PySem.W.Frag} {C : Addr} {nw : String} {tl : List Value} (h : xcB K C nw tl = true) : XcC K C nw tl := by
  unfold xcB at h
  obtain ⟨h1, h2⟩ := Bool.and_eq_true_iff.mp h
  obtain ⟨h3, h4⟩ := Bool.and_eq_true_iff.mp h2
  refine ⟨?_, of_decide_eq_true h3, h4⟩
  split at h1
  · rename_i ty dd cd sl ho
    split at h1
    · rename_i C' bm k0 k1 k2 k3 n k5 hm hs
      simp only [Bool.and_eq_true, decide_eq_true_eq, Bool.not_eq_true'] at h1
      obtain ⟨rfl, rfl, rfl, hdel, hdct, ov⟩ := h1
      obtain ⟨nm, bs, mro, ns, qn, hd, sn, sub, ab, col, del⟩ := cd
      dsimp only at hm hdel hdct
      subst hm hdel hdct
      have hsl : sl = #[k0, k1, k2, k3, some (.builtin n), k5] := by
        obtain ⟨l⟩ := sl
        simp only at hs
        rw [hs]
      subst hsl
      exact ⟨nm, qn, ns, bs, bm, sn, sub, ab, col, dd, k0, k1, k2, k3, k5, ho, ov⟩
    · cases h1
  · cases h1
/-- its __init__ -/
def xiB (K : PySem.W.Frag) (c : Str) : Bool := decide (PySem.W.findIn K (.ref (He.ga K c)) "__init__" = some (some (.ref (He.ma K (He.ga K c) "__init__")))) && decide (PySem.W.typeIn K (.ref (He.ma K (He.ga K c) "__init__")) = some (.type "function"))
theorem xiB_ok {K : PySem.W.Frag} {c : Str} (h : xiB K c = true) : PySem.W.findIn K (.ref (He.ga K c)) "__init__" = some (some (.ref (He.ma K (He.ga K c) "__init__"))) ∧ PySem.W.typeIn K (.ref (He.ma K (He.ga K c) "__init__")) = some (.type "function") :=
  ⟨of_decide_eq_true (Bool.and_eq_true_iff.mp h).1, of_decide_eq_true (Bool.and_eq_true_iff.mp h).2⟩
def x0B (K : PySem.W.Frag) (c : Str) (nw : String) (tl : List Value) : Bool := PySem.W.excIn K (He.ga K c) tl nw && PySem.W.keepIn K (.ref (He.ga K c))
theorem x0B_ok {K : PySem.W.Frag} {c : Str} {nw : String} {tl : List Value} (h : x0B K c nw tl = true) : PySem.W.excIn K (He.ga K c) tl nw = true ∧ PySem.W.keepIn K (.ref (He.ga K c)) = true := Bool.and_eq_true_iff.mp h
open PySem.W in
def exB (K : PySem.W.Frag) (D : Addr) : Bool := decide (findIn K (.ref D) "__getattribute__" = some (some (.builtin "BaseException.__getattribute__"))) && (decide (findIn K (.ref D) "__getattr__" = some none) && (decide (subIn K (.ref D) (.type "BaseException") = some true) && (hasDictIn K D && (decide (findIn K (.ref D) "__class__" = some (some (.builtin "object.__class__"))) &&
  (decide (specialIn K (.builtin "object.__class__") "__get__" = some (some (.builtin "getset_descriptor.__get__"))) && (decide (takesIn K (.builtin "object.__class__") = some true) && decide (mroIn K D (.type "object") = some true)))))))
theorem exB_ok {K : PySem.W.Frag} {D : Addr} (h : exB K D = true) : PySem.MoKw.ExB K D := by
  simp only [exB, Bool.and_eq_true, decide_eq_true_eq] at h
  obtain ⟨h1, h2, h3, h4, h5, h6, h7, h8⟩ := h
  exact ⟨h1, h2, h3, h4, h5, h6, h7, h8⟩
def isXsB (K : PySem.W.Frag) (bs : List Str) (tb : List (Str × List Str)) : Bool := tb.all fun p => exB K (He.ga K p.1) && bs.all fun b => decide (PySem.W.kitOne K (.ref (He.ga K p.1)) (.ref (He.ga K b)) = some (decide (b ∈ p.2)))
theorem isXsB_ok {K : PySem.W.Frag} {bs : List Str} {tb : List (Str × List Str)} (h : isXsB K bs tb = true) : IsXs K bs tb := ⟨fun p hp => by
  obtain ⟨h1, h2⟩ := Bool.and_eq_true_iff.mp (List.all_eq_true.mp h p hp)
  exact ⟨exB_ok h1, fun b hb => of_decide_eq_true (List.all_eq_true.mp h2 b hb)⟩⟩
def isXbB (K : PySem.W.Frag) (bs : List String) (tb : List (Str × String)) : Bool := tb.all fun p => exB K (He.ga K p.1) && bs.all fun b => decide (PySem.W.kitOne K (.ref (He.ga K p.1)) (.type b) = some (decide (b = p.2)))
theorem isXbB_ok {K : PySem.W.Frag} {bs : List String} {tb : List (Str × String)} (h : isXbB K bs tb = true) : IsXb K bs tb := ⟨fun p hp => by
  obtain ⟨h1, h2⟩ := Bool.and_eq_true_iff.mp (List.all_eq_true.mp h p hp)
  exact ⟨exB_ok h1, fun b hb => of_decide_eq_true (List.all_eq_true.mp h2 b hb)⟩⟩
def xfsB (K : PySem.W.Frag) (cs : List Str) (f : Str) : Bool := cs.all fun c => xfB K (He.ga K c) && decide (PySem.W.findIn K (.ref (He.ga K c)) f = some none)
theorem xfsB_ok {K : PySem.W.Frag} {cs : List Str} {f : Str} (h : xfsB K cs f = true) : ∀ c ∈ cs, XfC K (He.ga K c) ∧ PySem.W.findIn K (.ref (He.ga K c)) f = some none := fun c hc => by
  obtain ⟨h1, h2⟩ := Bool.and_eq_true_iff.mp (List.all_eq_true.mp h c hc)
  exact ⟨xfB_ok h1, of_decide_eq_true h2⟩
section
variable {P : Program} {w : World} {K : PySem.W.Frag} {mg : Str → Option Value} {base : Heap} {x qual : Str} {params : Arguments} {body : List Stmt} {scope : Scope} {dvs : List V} {kws : List (Str × V)} {fI : Addr} {fd : FuncData} {C : Addr} {f g : Str} {p1 p2 p3 p4 p5 p6 p7 p8 : Pos} {B nw ini : String} {tl : List Value}
theorem initA (b : XB B nw ini tl) (T : XcC K C nw tl) (hf : PySem.W.findIn K (.ref C) f = some none) (F : FunD K x qual params body scope dvs kws fI fd) (S : FnScope [Str.ofString "self", f] [Str.ofString "self", f] scope) (hb : body = [.Assign [.Attribute (.Name (Str.ofString "self") p1) f p2] (.Name f p3) p4])
    (v0 : Vis scope (Str.ofString "self")) (v1 : Vis scope f) (d1 : (f == ("__debug__" : Str)) = false) (d2 : (f == ("__classdict__" : Str)) = false) (hs : ∀ env : Env, swapsWith (.Name f p3) (some (.Attribute (.Name (Str.ofString "self") p1) f p2)) p4.line env = pure false) : FnS P w K mg base 1 fI fd [Str.ofString "self", f] (spI C [f]) := by
  subst hb
  exact init1 b T hf F S v0 v1 d1 d2 hs
theorem initB (b : XB B nw ini tl) (T : XcC K C nw tl) (hf : PySem.W.findIn K (.ref C) f = some none) (hg : PySem.W.findIn K (.ref C) g = some none) (F : FunD K x qual params body scope dvs kws fI fd) (S : FnScope [Str.ofString "self", f, g] [Str.ofString "self", f, g] scope)
    (hb : body = [.Assign [.Attribute (.Name (Str.ofString "self") p1) f p2] (.Name f p3) p4, .Assign [.Attribute (.Name (Str.ofString "self") p5) g p6] (.Name g p7) p8])
    (v0 : Vis scope (Str.ofString "self")) (v1 : Vis scope f) (v2 : Vis scope g) (d1 : (f == ("__debug__" : Str)) = false) (d2 : (f == ("__classdict__" : Str)) = false) (d3 : (g == ("__debug__" : Str)) = false) (d4 : (g == ("__classdict__" : Str)) = false)
    (hs : ∀ env : Env, swapsWith (.Name f p3) (some (.Attribute (.Name (Str.ofString "self") p1) f p2)) p4.line env = pure false) (hs2 : ∀ env : Env, swapsWith (.Name g p7) (some (.Attribute (.Name (Str.ofString "self") p5) g p6)) p8.line env = pure false) : FnS P w K mg base 1 fI fd [Str.ofString "self", f, g] (spI C [f, g]) := by
  subst hb
  exact init2 b T hf hg F S v0 v1 v2 d1 d2 d3 d4 hs hs2
end
/-- binding by name, behind self -/
theorem kwBinds1 {K : PySem.W.Frag} {x qual : Str} {params : Arguments} {body : List Stmt} {scope : Scope} {kws : List (Str × V)} {f : Addr} {fd : FuncData} {ps ks : List Str} {pm : List Nat} {n : Nat} (F : FunD K x qual params body scope [] kws f fd)
    (h : ∀ (kV doc pm' : Value) (an : Option Addr) (cdv ct : Value) (self : Value) (us : List Value), us.length = n → bindArgs (PySem.W.fnOf x qual params body scope .none kV doc pm' an cdv ct) ⟨[self], ks.zip us⟩ = pure (ps.zip (self :: permL pm us))) (s : Shared) (self : Value) (us : List Value) (hl : us.length = n) : BindsTo s fd ⟨[self], ks.zip us⟩ (ps.zip (self :: permL pm us)) := by
  obtain ⟨oc, od, dV, kV, doc, pm, an, cdv, ct, osl, rfl, lk, hcd, hD, hK⟩ := F.ex
  rcases hD with ⟨_, rfl⟩ | ⟨e, _⟩
  · exact .of_eq (h kV doc pm an cdv ct self us hl)
  · exact absurd rfl e
end Mo
set_option Elab.async false
set_option linter.all false
set_option maxRecDepth 100000
set_option maxHeartbeats 4000000
/-! MoAD: list.count of a truth value. -/
namespace Mo
open PySem L2 PySem.Spec PyProof.Rows
def mLCountB : Dt → List Dt → Mm Dt := fun o ds h => match ds with
  | [.bl k] => (match (lstR h o).bind blsD with
    | some bs => .ok (.int (bs.count k : Nat)) h
    | none => .no)
  | _ => .no
theorem bls_reps {K : PySem.W.Frag} {s : Sx} : ∀ {zs : List Dt} {bs : List Bool} {vs : List V}, Reps K s zs vs → blsD zs = some bs → vs = bs.map V.bl
  | [], _, _, rs, e => by cases rs; cases e; rfl
  | z :: zs, bs, _, rs, e => by
    obtain ⟨v, r, rfl, h1, h2⟩ := rs
    cases z with
    | bl b =>
      simp only [blsD] at e
      cases q : blsD zs with
      | none => rw [q] at e; cases e
      | some cs =>
        rw [q] at e
        cases e
        cases h1
        rw [bls_reps h2 q]
        rfl
    | _ => cases e
theorem bls_reads {h : Heap} : ∀ {bs : List Bool} {its : List Value}, Vals (bs.map V.bl) its → ReadsAll h its (bs.map PyData.bool) []
  | [], _, r => by cases r; exact .nil
  | b :: bs, _, r => by
    cases r with
    | cons r1 r2 =>
      cases r1
      exact ReadsAll.cons (.bool b) (bls_reads r2)
theorem bls_count (k : Bool) : ∀ bs : List Bool, (bs.map PyData.bool).countP (fun y => PyData.eqv y (.bool k)) = bs.count k
  | [] => rfl
  | b :: bs => by
    rw [List.map_cons, List.countP_cons, bls_count k bs, List.count_cons]
    cases b <;> cases k <;> rfl
theorem bls_plain : ∀ bs : List Bool, PyData.plainAll (bs.map PyData.bool) = true
  | [] => by simp [PyData.plainAll]
  | b :: bs => by
    rw [List.map_cons]
    simp [PyData.plainAll, PyData.plain, bls_plain bs]
theorem bls_depth : ∀ bs : List Bool, PyData.depthAll (bs.map PyData.bool) = 0
  | [] => by simp [PyData.depthAll]
  | b :: bs => by
    rw [List.map_cons]
    simp [PyData.depthAll, PyData.depth, bls_depth bs]
theorem m_lcountB {X : Cx} {E : XK} (hu : X.A.units + 64 < cLine) : MtR X "list.count" (mM X.K E mLCountB) := fun pins s σ H x xs v us Q I rx rxs ⟨s1, d, ds, eH, r, rd, rs, ha⟩ => by
  subst eH
  unfold mLCountB at ha
  split at ha
  · rename_i k
    obtain ⟨w, rfl, rw'⟩ := rs.one
    cases rw'
    split at ha
    · rename_i bs hb
      cases q : lstR s1.h d with
      | none => rw [q] at hb; cases hb
      | some zs =>
        rw [q] at hb
        obtain ⟨p, vs, rfl, sq, rz⟩ := lstR_ok r rd q
        have ev := bls_reps rz hb
        subst ev
        cases rx
        obtain ⟨u, rfl, ru⟩ := rxs.one
        cases ru
        obtain ⟨its, rv, ⟨o, n, ho, hc, hdn, hdt⟩, hlen⟩ := I.list sq
        refine SeqAt.count_list_data (vs := its.toArray) (xs := bs.map PyData.bool) (d := .bool k) ⟨o, ho, hc, n, hdt⟩ (by simpa using bls_reads rv) (.bool k) (bls_plain bs) (by simp [PyData.plain]) (by rw [bls_depth]; simp; omega) ?_
        rw [bls_count]
        exact ⟨.int (bs.count k : Nat), s1.H, I.tok _, ⟨_, rfl⟩, fin r ha rfl⟩
    · exact ha.elim
  · exact ha.elim
end Mo
set_option Elab.async false
set_option linter.all false
set_option maxRecDepth 100000
set_option maxHeartbeats 4000000
namespace K51
open PySem L2 Mo
def xbs : List Str := ["Broken", "InUse", "InvalidBar", "InvalidBars", "InvalidCell", "InvalidCells", "InvalidClaim", "InvalidIndex", "InvalidName", "InvalidNumber", "InvalidText", "NoAnswer", "NotABoard", "NotALine", "NotClosed", "NotFacing", "NotOneRim", "NotTurned", "NothingToUndo", "TooMany", "Touches", "UnknownName", "WrongValue"]
def xtb : List (Str × List Str) := [("Broken", ["Broken", "NoAnswer"]), ("InUse", ["InUse", "NoAnswer"]), ("InvalidBar", ["InvalidBar", "WrongValue"]), ("InvalidBars", ["InvalidBars", "WrongValue"]), ("InvalidCell", ["InvalidCell", "WrongValue"]), ("InvalidCells", ["InvalidCells", "WrongValue"]), ("InvalidClaim", ["InvalidClaim", "WrongValue"]), ("InvalidIndex", ["InvalidIndex", "WrongValue"]), ("InvalidName", ["InvalidName", "WrongValue"]), ("InvalidNumber", ["InvalidNumber", "WrongValue"]), ("InvalidText", ["InvalidText", "WrongValue"]), ("NotABoard", ["NotABoard", "WrongValue"]), ("NotALine", ["NotALine", "WrongValue"]), ("NotClosed", ["NotClosed", "NoAnswer"]), ("NotFacing", ["NotFacing", "NoAnswer"]), ("NotOneRim", ["NotOneRim", "NoAnswer"]), ("NotTurned", ["NotTurned", "NoAnswer"]), ("NothingToUndo", ["NothingToUndo", "NoAnswer"]), ("TooMany", ["TooMany", "NoAnswer"]), ("Touches", ["Touches", "NoAnswer"]), ("UnknownName", ["UnknownName", "WrongValue"])]
def xbb : List String := ["ValueError", "ArithmeticError"]
def xtt : List (Str × String) := [("Broken", "ArithmeticError"), ("InUse", "ArithmeticError"), ("InvalidBar", "ValueError"), ("InvalidBars", "ValueError"), ("InvalidCell", "ValueError"), ("InvalidCells", "ValueError"), ("InvalidClaim", "ValueError"), ("InvalidIndex", "ValueError"), ("InvalidName", "ValueError"), ("InvalidNumber", "ValueError"), ("InvalidText", "ValueError"), ("NotABoard", "ValueError"), ("NotALine", "ValueError"), ("NotClosed", "ArithmeticError"), ("NotFacing", "ArithmeticError"), ("NotOneRim", "ArithmeticError"), ("NotTurned", "ArithmeticError"), ("NothingToUndo", "ArithmeticError"), ("TooMany", "ArithmeticError"), ("Touches", "ArithmeticError"), ("UnknownName", "ValueError")]
def cs_given : List Str := ["InvalidBar", "InvalidCell", "InvalidClaim", "InvalidIndex", "InvalidName", "InvalidNumber", "InvalidText", "NotABoard", "NotALine", "NotTurned", "UnknownName"]
def cs_index : List Str := ["Broken", "InUse", "InvalidBars", "InvalidCells"]
def cs_number : List Str := ["TooMany"]
def cs_place : List Str := ["NotClosed", "Touches"]
def cs_told : List Str := ["Broken"]
/-- _law_purse(_law_script, _law_spot): slots _law_script, _law_spot, _law_cell, _law_seed, _law_one -/
def m__law_purse : En → Mm Fl := (seq (sto 2 (ifE (tst (op2 opLt (var 1) (bi bLen (argC (var 0) argN)))) (op2 ixM (var 0) (var 1)) (op2 opMul (con (.int 6211)) (op2 opAdd (var 1) (con (.int 5))))))
    (seq (sto 3 (op2 opAdd (con (.int 619)) (var 1)))
    (seq (forM (itL (op2 opAdd (slc slD (var 0) opN (opS (con (.int 5)))) (lstE (argC (var 2) argN)))) (.nm 4) (sto 3 (op2 opMod (bi bInt (argC (op2 opAdd (op2 opAdd (op2 opMul (var 3) (con (.int 69621))) (op2 opMod (bi bInt (argC (var 4) argN)) (con (.int 2147483647)))) (con (.int 101))) argN)) (con (.int 2147483647)))))
    (ret (lstO (argC (ifE (tst (op2 opGe (bi bAbs (argC (var 2) argN)) (op2 opPow (con (.int 10)) (con (.int 18))))) (bi bAbs (argC (var 2) argN)) (con (.int 0))) (argC (var 3) argN)))))))
def f__law_purse : List Dt → Mm Dt := fnM 5 m__law_purse
/-- _law_draw(_law_purse_here, _law_many): slots _law_purse_here, _law_many, _law_digit -/
def m__law_draw : En → Mm Fl := (seq (ifS (tst (op2 opGt (op2 ixM (var 0) (con (.int 0))) (con (.int 0)))) (seq (asg (bi bDivmod (argC (op2 ixM (var 0) (con (.int 0))) (argC (var 1) argN))) (gT 2 (gsC (gS (var 0) (con (.int 0)) setL) (gsC (gN 2) gsN))))
    (ret (var 2))) nxt)
    (seq (asg (op2 opMod (bi bInt (argC (op2 opAdd (op2 opMul (op2 ixM (var 0) (con (.int 1))) (con (.int 48271))) (con (.int 40503))) argN)) (con (.int 2147483647))) (gS (var 0) (con (.int 1)) setL))
    (ret (op2 opMod (bi bInt (argC (op2 opFdiv (op2 ixM (var 0) (con (.int 1))) (con (.int 1024))) argN)) (var 1)))))
def f__law_draw : List Dt → Mm Dt := fnM 3 m__law_draw
/-- _law_thing(_law_purse_here): slots _law_purse_here, _law_some -/
def m__law_thing : En → Mm Fl := (seq (sto 1 (lstE (argC (con .non) (argC (con (.bl true)) (argC (con (.int 0)) (argC (op1 unNeg (op2 opPow (con (.int 10)) (con (.int 30)))) (argC (con (.str "")) (argC (con (.str "a")) (argC (con (.str "e1 n1")) (argC (tupE argN) (argC (tupE (argC (con (.str "a")) (argC (tupE (argC (con (.str "b")) (argC (con (.int 1)) argN))) argN))) (argC (lstE argN) (argC (lstE (argC (lstE (argC (con (.str "a")) argN)) argN)) (argC dnewV (argC (dispM [((con (.str "a")), (tupE argN))]) argN)))))))))))))))
    (ret (op2 ixM (var 1) (callM 2 f__law_draw (argC (var 0) (argC (con (.int 13)) argN))))))
def f__law_thing : List Dt → Mm Dt := fnM 2 m__law_thing
/-- _law_firsts(_law_x): slots _law_x, _law_found -/
def m__law_firsts : En → Mm Fl := (seq (sto 1 (lstE (argC (tupE (argC (mkx "InvalidText" ["given"] (argC (var 0) argN)) (argC (mkxK "InvalidText" ["given"] [0] (argC (var 0) argN)) argN))) (argC (tupE (argC (mkx "InvalidNumber" ["given"] (argC (var 0) argN)) (argC (mkxK "InvalidNumber" ["given"] [0] (argC (var 0) argN)) argN))) argN))))
    (seq (sto 1 (op2 opAdd (var 1) (lstE (argC (tupE (argC (mkx "InvalidName" ["given"] (argC (var 0) argN)) (argC (mkxK "InvalidName" ["given"] [0] (argC (var 0) argN)) argN))) (argC (tupE (argC (mkx "InvalidIndex" ["given"] (argC (var 0) argN)) (argC (mkxK "InvalidIndex" ["given"] [0] (argC (var 0) argN)) argN))) argN)))))
    (seq (sto 1 (op2 opAdd (var 1) (lstE (argC (tupE (argC (mkx "InvalidClaim" ["given"] (argC (var 0) argN)) (argC (mkxK "InvalidClaim" ["given"] [0] (argC (var 0) argN)) argN))) (argC (tupE (argC (mkx "InvalidCell" ["given"] (argC (var 0) argN)) (argC (mkxK "InvalidCell" ["given"] [0] (argC (var 0) argN)) argN))) argN)))))
    (seq (sto 1 (op2 opAdd (var 1) (lstE (argC (tupE (argC (mkx "InvalidBar" ["given"] (argC (var 0) argN)) (argC (mkxK "InvalidBar" ["given"] [0] (argC (var 0) argN)) argN))) (argC (tupE (argC (mkx "UnknownName" ["given"] (argC (var 0) argN)) (argC (mkxK "UnknownName" ["given"] [0] (argC (var 0) argN)) argN))) argN)))))
    (seq (sto 1 (op2 opAdd (var 1) (lstE (argC (tupE (argC (mkx "NotALine" ["given"] (argC (var 0) argN)) (argC (mkxK "NotALine" ["given"] [0] (argC (var 0) argN)) argN))) (argC (tupE (argC (mkx "NotABoard" ["given"] (argC (var 0) argN)) (argC (mkxK "NotABoard" ["given"] [0] (argC (var 0) argN)) argN))) argN)))))
    (ret (op2 opAdd (var 1) (lstE (argC (tupE (argC (mkx "InvalidBars" ["index"] (argC (var 0) argN)) (argC (mkxK "InvalidBars" ["index"] [0] (argC (var 0) argN)) argN))) (argC (tupE (argC (mkx "InvalidCells" ["index"] (argC (var 0) argN)) (argC (mkxK "InvalidCells" ["index"] [0] (argC (var 0) argN)) argN))) argN))))))))))
def f__law_firsts : List Dt → Mm Dt := fnM 2 m__law_firsts
/-- _law_seconds(_law_x): slots _law_x, _law_found -/
def m__law_seconds : En → Mm Fl := (seq (sto 1 (lstE (argC (tupE (argC (mkx "NotClosed" ["place"] (argC (var 0) argN)) (argC (mkxK "NotClosed" ["place"] [0] (argC (var 0) argN)) argN))) (argC (tupE (argC (mkx "Touches" ["place"] (argC (var 0) argN)) (argC (mkxK "Touches" ["place"] [0] (argC (var 0) argN)) argN))) (argC (tupE (argC (mkx "NotTurned" ["given"] (argC (var 0) argN)) (argC (mkxK "NotTurned" ["given"] [0] (argC (var 0) argN)) argN))) argN)))))
    (seq (sto 1 (op2 opAdd (var 1) (lstE (argC (tupE (argC (mkx0 "NotFacing") (argC (mkx0 "NotFacing") argN))) (argC (tupE (argC (mkx0 "NotOneRim") (argC (mkx0 "NotOneRim") argN))) (argC (tupE (argC (mkx "TooMany" ["number"] (argC (var 0) argN)) (argC (mkxK "TooMany" ["number"] [0] (argC (var 0) argN)) argN))) argN))))))
    (seq (sto 1 (op2 opAdd (var 1) (lstE (argC (tupE (argC (mkx "Broken" ["index", "told"] (argC (var 0) (argC (con (.int 1)) argN))) (argC (mkxK "Broken" ["index", "told"] [1, 0] (argC (con (.int 1)) (argC (var 0) argN))) argN))) (argC (tupE (argC (mkx "InUse" ["index"] (argC (var 0) argN)) (argC (mkxK "InUse" ["index"] [0] (argC (var 0) argN)) argN))) argN)))))
    (ret (op2 opAdd (var 1) (lstE (argC (tupE (argC (mkx0 "NothingToUndo") (argC (mkx0 "NothingToUndo") argN))) argN)))))))
def f__law_seconds : List Dt → Mm Dt := fnM 2 m__law_seconds
/-- _law_flags(_law_e): slots _law_e, _law_found -/
def m__law_flags : En → Mm Fl := (seq (sto 1 (lstE (argC (bi (bIsN xbs xtb) (argC (var 0) (argC (con (.cl "InvalidText")) argN))) (argC (bi (bIsN xbs xtb) (argC (var 0) (argC (con (.cl "InvalidNumber")) argN))) (argC (bi (bIsN xbs xtb) (argC (var 0) (argC (con (.cl "InvalidName")) argN))) argN)))))
    (seq (sto 1 (op2 opAdd (var 1) (lstE (argC (bi (bIsN xbs xtb) (argC (var 0) (argC (con (.cl "InvalidIndex")) argN))) (argC (bi (bIsN xbs xtb) (argC (var 0) (argC (con (.cl "InvalidClaim")) argN))) (argC (bi (bIsN xbs xtb) (argC (var 0) (argC (con (.cl "InvalidCell")) argN))) argN))))))
    (seq (sto 1 (op2 opAdd (var 1) (lstE (argC (bi (bIsN xbs xtb) (argC (var 0) (argC (con (.cl "InvalidBar")) argN))) (argC (bi (bIsN xbs xtb) (argC (var 0) (argC (con (.cl "UnknownName")) argN))) (argC (bi (bIsN xbs xtb) (argC (var 0) (argC (con (.cl "NotALine")) argN))) argN))))))
    (seq (sto 1 (op2 opAdd (var 1) (lstE (argC (bi (bIsN xbs xtb) (argC (var 0) (argC (con (.cl "NotABoard")) argN))) (argC (bi (bIsN xbs xtb) (argC (var 0) (argC (con (.cl "InvalidBars")) argN))) (argC (bi (bIsN xbs xtb) (argC (var 0) (argC (con (.cl "InvalidCells")) argN))) argN))))))
    (seq (sto 1 (op2 opAdd (var 1) (lstE (argC (bi (bIsN xbs xtb) (argC (var 0) (argC (con (.cl "NotClosed")) argN))) (argC (bi (bIsN xbs xtb) (argC (var 0) (argC (con (.cl "Touches")) argN))) (argC (bi (bIsN xbs xtb) (argC (var 0) (argC (con (.cl "NotTurned")) argN))) argN))))))
    (seq (sto 1 (op2 opAdd (var 1) (lstE (argC (bi (bIsN xbs xtb) (argC (var 0) (argC (con (.cl "NotFacing")) argN))) (argC (bi (bIsN xbs xtb) (argC (var 0) (argC (con (.cl "NotOneRim")) argN))) (argC (bi (bIsN xbs xtb) (argC (var 0) (argC (con (.cl "TooMany")) argN))) argN))))))
    (ret (op2 opAdd (var 1) (lstE (argC (bi (bIsN xbs xtb) (argC (var 0) (argC (con (.cl "Broken")) argN))) (argC (bi (bIsN xbs xtb) (argC (var 0) (argC (con (.cl "InUse")) argN))) (argC (bi (bIsN xbs xtb) (argC (var 0) (argC (con (.cl "NothingToUndo")) argN))) argN))))))))))))
def f__law_flags : List Dt → Mm Dt := fnM 2 m__law_flags
/-- _law_right(_law_purse_here): slots _law_purse_here, _law_x, _law_pairs, _law_others, _law_kept, _law_pair, _law_e, _law_k, _law_flags_here, _law_is_first -/
def m__law_right : En → Mm Fl := (seq (sto 1 (callM 1 f__law_thing (argC (var 0) argN)))
    (seq (par 2 3 (argC (callM 1 f__law_firsts (argC (var 1) argN)) (argC (callM 1 f__law_seconds (argC (var 1) argN)) argN)))
    (seq (sto 4 (lcM (itL (op2 opAdd (slc slD (var 2) opN (opS (con (.int 10)))) (slc slD (var 3) (opS (con (.int 2))) (opS (con (.int 3)))))) (.nm 5) yes (lstE (argC (xfld cs_given "given" (op2 ixM (var 5) (con (.int 0)))) (argC (xfld cs_given "given" (op2 ixM (var 5) (con (.int 1)))) argN))) [5]))
    (seq (sto 4 (op2 opAdd (var 4) (lcM (itL (op2 opAdd (slc slD (var 2) (opS (con (.int 10))) opN) (slc slD (var 3) (opS (con (.int 6))) (opS (con (.int 8)))))) (.nm 5) yes (lstE (argC (xfld cs_index "index" (op2 ixM (var 5) (con (.int 0)))) (argC (xfld cs_index "index" (op2 ixM (var 5) (con (.int 1)))) argN))) [5])))
    (seq (sto 4 (op2 opAdd (op2 opAdd (var 4) (lcM (itL (slc slD (var 3) opN (opS (con (.int 2))))) (.nm 5) yes (lstE (argC (xfld cs_place "place" (op2 ixM (var 5) (con (.int 0)))) (argC (xfld cs_place "place" (op2 ixM (var 5) (con (.int 1)))) argN))) [5])) (lstE (argC (lcM (itT (op2 ixM (var 3) (con (.int 5)))) (.nm 6) yes (xfld cs_number "number" (var 6)) [6]) argN))))
    (seq (ifS (orT (tst (op2 opNe (bi bReprQ (argC (var 4) argN)) (bi bReprQ (argC (op2 opMul (lstE (argC (lstE (argC (var 1) (argC (var 1) argN))) argN)) (con (.int 18))) argN)))) (tst (op2 opNe (lcM (itT (op2 ixM (var 3) (con (.int 6)))) (.nm 6) yes (xfld cs_told "told" (var 6)) [6]) (lstE (argC (con (.int 1)) (argC (con (.int 1)) argN)))))) (ret (con (.bl false))) nxt)
    (seq (forM (itEL (argC (op2 opAdd (var 2) (var 3)) argN)) (.tp [(.nm 7), (.nm 5)]) (forM (itT (var 5)) (.nm 6) (seq (par 8 9 (argC (callM 1 f__law_flags (argC (var 6) argN)) (argC (op2 opLt (var 7) (con (.int 12))) argN)))
    (seq (ifS (orT (tst (op2 opNe (bm isL mLCountB (var 8) (argC (con (.bl true)) argN)) (con (.int 1)))) (notT (tst (op2 ixM (var 8) (var 7))))) (ret (con (.bl false))) nxt)
    (seq (ifS (tst (op2 opNe (lstE (argC (bi (bIsN xbs xtb) (argC (var 6) (argC (con (.cl "WrongValue")) argN))) (argC (bi (bIsN xbs xtb) (argC (var 6) (argC (con (.cl "NoAnswer")) argN))) argN))) (lstE (argC (var 9) (argC (notV (var 9)) argN))))) (ret (con (.bl false))) nxt)
    (ifS (tst (op2 opNe (lstE (argC (bi (bIsB xbb xtt) (argC (var 6) (argC (con (.ty "ValueError")) argN))) (argC (bi (bIsB xbb xtt) (argC (var 6) (argC (con (.ty "ArithmeticError")) argN))) argN))) (lstE (argC (var 9) (argC (notV (var 9)) argN))))) (ret (con (.bl false))) nxt))))))
    (ret (con (.bl true))))))))))
def f__law_right : List Dt → Mm Dt := fnM 10 m__law_right
/-- law(_law_script): slots _law_script, _law_spot -/
def m_law : En → Mm Fl := (seq (ifS (tst (op2 opNe (lstE (argC (con (.int 120)) (argC (con (.int 200)) argN))) (lstE (argC (con (.int 120)) (argC (con (.int 200)) argN))))) (ret (con (.bl false))) nxt)
    (ret (bi bAll (argC (lcM (itR1 (argC (bi bMax2 (argC (con (.int 2)) (argC (bi bMin2 (argC (bi bLen (argC (var 0) argN)) (argC (con (.int 4)) argN))) argN))) argN)) (.nm 1) yes (callM 1 f__law_right (argC (callM 2 f__law_purse (argC (var 0) (argC (var 1) argN))) argN)) [1]) argN))))
def f_law : List Dt → Mm Dt := fnM 2 m_law
end K51
set_option Elab.async false
set_option linter.all false
set_option maxRecDepth 100000
set_option maxHeartbeats 4000000
/-! Pu1: running the shallow defs. -/
namespace Mo
open PySem L2
def Ok {α : Type} (m : Mm α) (h : Ah) (Q : α → Ah → Prop) : Prop := match m h with
  | .ok a h' => Q a h'
  | _ => False
section
variable {α β : Type} {m : Mm α} {f : α → Mm β} {h : Ah} {Q Q' : α → Ah → Prop} {R : β → Ah → Prop}
theorem Ok.mono (o : Ok m h Q) (k : ∀ a h', Q a h' → Q' a h') : Ok m h Q' := by
  unfold Ok at *
  cases q : m h with
  | ok a h' => rw [q] at o; exact k a h' o
  | exn x h' => rw [q] at o; exact o
  | no => rw [q] at o; exact o
theorem ok_iff : Ok m h Q ↔ ∃ a h', m h = .ok a h' ∧ Q a h' := by
  unfold Ok
  cases q : m h with
  | ok a h' => exact ⟨fun o => ⟨a, h', rfl, o⟩, fun ⟨a', h'', e, o⟩ => by cases e; exact o⟩
  | exn x h' => exact ⟨fun o => o.elim, fun ⟨a', h'', e, o⟩ => by cases e⟩
  | no => exact ⟨fun o => o.elim, fun ⟨a', h'', e, o⟩ => by cases e⟩
@[simp] theorem ok_pure {a : α} : Ok (Mm.pure a) h Q ↔ Q a h := Iff.rfl
@[simp] theorem ok_no : Ok (Mm.no : Mm α) h Q ↔ False := Iff.rfl
@[simp] theorem ok_bind : Ok (m >>= f) h R ↔ Ok m h (fun a h' => Ok (f a) h' R) := by
  show Ok (Mm.bind m f) h R ↔ _
  unfold Ok Mm.bind
  cases q : m h <;> exact Iff.rfl
@[simp] theorem ok_ifno {c : Prop} [Decidable c] : Ok (if c then m else Mm.no) h Q ↔ c ∧ Ok m h Q := by
  by_cases q : c <;> simp [q]
theorem ok_of {a : α} {h' : Ah} (e : m h = .ok a h') (q : Q a h') : Ok m h Q := by unfold Ok; rw [e]; exact q
theorem Ok.then (o : Ok m h Q) (k : ∀ a h', Q a h' → Ok (f a) h' R) : Ok (m >>= f) h R := ok_bind.mpr (o.mono k)
end
section
variable {h : Ah} {env : En} {Q : Dt → Ah → Prop} {F : Fl → Ah → Prop} {B : Bool → Ah → Prop} {L : List Dt → Ah → Prop} {ma mb mc : En → Mm Dt} {mt mu : En → Mm Bool} {mr : En → Mm (List Dt)} {m1 m2 : En → Mm Fl} {g g' : Dt → Dt → Mm Dt} {i j : Nat} {d : Dt}
@[simp] theorem ok_var : Ok (var i env) h Q ↔ ∃ d, env[i]? = some (some d) ∧ Q d h := by
  unfold var
  cases q : env[i]? with
  | none => simp
  | some o => cases o <;> simp
@[simp] theorem ok_con : Ok (con d env) h Q ↔ Q d h := Iff.rfl
@[simp] theorem ok_op2 : Ok (op2 g ma mb env) h Q ↔ Ok (ma env) h fun x h1 => Ok (mb env) h1 fun y h2 => Ok (g x y) h2 Q := by simp [op2]
@[simp] theorem ok_op1 {g : Dt → Mm Dt} : Ok (op1 g ma env) h Q ↔ Ok (ma env) h fun x h1 => Ok (g x) h1 Q := by simp [op1]
@[simp] theorem ok_op1' {g : Dt → Mm Dt} : Ok (op1' g ma env) h Q ↔ Ok (ma env) h fun x h1 => Ok (g x) h1 Q := by simp [op1']
@[simp] theorem ok_isB {b : Bool} : Ok (isB (.bl b)) h B ↔ B b h := Iff.rfl
@[simp] theorem ok_tst : Ok (tst ma env) h B ↔ Ok (ma env) h fun d h1 => Ok (isB d) h1 B := by simp [tst]
@[simp] theorem ok_andT : Ok (andT mt mu env) h B ↔ Ok (mt env) h fun c h1 => if c then Ok (mu env) h1 B else B false h1 := by
  simp only [andT, ok_bind]
  refine ⟨fun o => o.mono fun c h1 q => ?_, fun o => o.mono fun c h1 q => ?_⟩ <;> cases c <;> exact q
@[simp] theorem ok_orT : Ok (orT mt mu env) h B ↔ Ok (mt env) h fun c h1 => if c then B true h1 else Ok (mu env) h1 B := by
  simp only [orT, ok_bind]
  refine ⟨fun o => o.mono fun c h1 q => ?_, fun o => o.mono fun c h1 q => ?_⟩ <;> cases c <;> exact q
@[simp] theorem ok_notT : Ok (notT mt env) h B ↔ Ok (mt env) h fun c h1 => B (!c) h1 := by simp [notT]
@[simp] theorem ok_ifE : Ok (ifE mt ma mb env) h Q ↔ Ok (mt env) h fun c h1 => if c then Ok (ma env) h1 Q else Ok (mb env) h1 Q := by
  simp only [ifE, ok_bind]
  refine ⟨fun o => o.mono fun c h1 q => ?_, fun o => o.mono fun c h1 q => ?_⟩ <;> cases c <;> exact q
@[simp] theorem ok_argN : Ok (argN env) h L ↔ L [] h := Iff.rfl
@[simp] theorem ok_argC : Ok (argC ma mr env) h L ↔ Ok (ma env) h fun d h1 => Ok (mr env) h1 fun ds h2 => L (d :: ds) h2 := by simp [argC]
theorem ok_andV : Ok (andV ma mb env) h Q ↔ Ok (ma env) h fun d h1 => Ok (isB d) h1 fun c h2 => if c then Ok (mb env) h2 Q else Q (.bl false) h2 := by
  simp only [andV, ok_bind]
  refine ⟨fun o => o.mono fun d h1 q => q.mono fun c h2 q => ?_, fun o => o.mono fun d h1 q => q.mono fun c h2 q => ?_⟩ <;> cases c <;> exact q
theorem ok_orV : Ok (orV ma mb env) h Q ↔ Ok (ma env) h fun d h1 => Ok (isB d) h1 fun c h2 => if c then Q (.bl true) h2 else Ok (mb env) h2 Q := by
  simp only [orV, ok_bind]
  refine ⟨fun o => o.mono fun d h1 q => q.mono fun c h2 q => ?_, fun o => o.mono fun d h1 q => q.mono fun c h2 q => ?_⟩ <;> cases c <;> exact q
theorem ok_notV : Ok (notV ma env) h Q ↔ Ok (ma env) h fun d h1 => Ok (isB d) h1 fun c h2 => Q (.bl (!c)) h2 := by simp [notV]
theorem ok_chain : Ok (chain g g' ma mb mc env) h Q ↔ Ok (ma env) h fun x h1 => Ok (mb env) h1 fun y h2 => Ok (g x y) h2 fun z h3 => Ok (isB z) h3 fun k h4 => if k then Ok (mc env) h4 fun w h5 => Ok (g' y w) h5 Q else Q (.bl false) h4 := by
  simp only [chain, ok_bind]
  refine ⟨fun o => o.mono fun _ _ q => q.mono fun _ _ q => q.mono fun _ _ q => q.mono fun c _ q => ?_, fun o => o.mono fun _ _ q => q.mono fun _ _ q => q.mono fun _ _ q => q.mono fun c _ q => ?_⟩ <;> cases c
  · exact q
  · simpa using q
  · exact q
  · simpa using q
@[simp] theorem ok_tupE : Ok (tupE mr env) h Q ↔ Ok (mr env) h fun ds h1 => ds.length ≤ sizeLine ∧ Q (.tup ds) h1 := by simp [tupE]
@[simp] theorem ok_lstE : Ok (lstE mr env) h Q ↔ Ok (mr env) h fun ds h1 => ds.length ≤ sizeLine ∧ Q (.lv ds) h1 := by simp [lstE]
@[simp] theorem ok_lstO : Ok (lstO mr env) h Q ↔ Ok (mr env) h fun ds h1 => ds.length ≤ sizeLine ∧ Q (.obj h1.length) (h1 ++ [.lst ds]) := by
  simp only [lstO, ok_bind, ok_ifno]
  rfl
@[simp] theorem ok_bi {g : List Dt → Mm Dt} : Ok (bi g mr env) h Q ↔ Ok (mr env) h fun ds h1 => Ok (g ds) h1 Q := by simp [bi]
theorem ok_callM {n : Nat} {fm : List Dt → Mm Dt} : Ok (callM n fm mr env) h Q ↔ Ok (mr env) h fun ds h1 => ds.length = n ∧ Ok (fm ds) h1 Q := by
  simp only [callM, ok_bind]
  refine ⟨fun o => o.mono fun ds h1 q => ?_, fun o => o.mono fun ds h1 q => ?_⟩
  · by_cases e : ds.length = n
    · rw [if_pos e] at q; exact ⟨e, q⟩
    · rw [if_neg e] at q; exact q.elim
  · rw [if_pos q.1]; exact q.2
-- statements
@[simp] theorem ok_nxt : Ok (nxt env) h F ↔ F (.nx env) h := Iff.rfl
@[simp] theorem ok_seq : Ok (seq m1 m2 env) h F ↔ Ok (m1 env) h fun f h1 => match f with | .nx e => Ok (m2 e) h1 F | f => F f h1 := by
  simp only [seq, ok_bind]
  refine ⟨fun o => o.mono fun f h1 q => ?_, fun o => o.mono fun f h1 q => ?_⟩ <;> cases f <;> exact q
@[simp] theorem ok_drp : Ok (drp ma env) h F ↔ Ok (ma env) h fun _ h1 => F (.nx env) h1 := by simp [drp]
@[simp] theorem ok_ret : Ok (ret ma env) h F ↔ Ok (ma env) h fun d h1 => F (.rt d) h1 := by simp [ret]
@[simp] theorem ok_ifS : Ok (ifS mt m1 m2 env) h F ↔ Ok (mt env) h fun c h1 => if c then Ok (m1 env) h1 F else Ok (m2 env) h1 F := by
  simp only [ifS, ok_bind]
  refine ⟨fun o => o.mono fun c h1 q => ?_, fun o => o.mono fun c h1 q => ?_⟩ <;> cases c <;> exact q
@[simp] theorem ok_sto : Ok (sto i ma env) h F ↔ Ok (ma env) h fun d h1 => F (.nx (env.set i (some d))) h1 := by simp [sto]
@[simp] theorem ok_asg {g : Dt → En → Mm En} : Ok (asg ma g env) h F ↔ Ok (ma env) h fun d h1 => Ok (g d env) h1 fun e h2 => F (.nx e) h2 := by simp [asg]
@[simp] theorem ok_gN {G : En → Ah → Prop} : Ok (gN i d env) h G ↔ G (env.set i (some d)) h := Iff.rfl
@[simp] theorem ok_gsN {G : En → Ah → Prop} : Ok (gsN [] env) h G ↔ G env h := Iff.rfl
@[simp] theorem ok_gsC {G : En → Ah → Prop} {g : Dt → En → Mm En} {gs : List Dt → En → Mm En} {ds : List Dt} : Ok (gsC g gs (d :: ds) env) h G ↔ Ok (g d env) h fun e h1 => Ok (gs ds e) h1 G := by simp [gsC]
@[simp] theorem ok_gT {G : En → Ah → Prop} {n : Nat} {gs : List Dt → En → Mm En} {ds : List Dt} : Ok (gT n gs (.tup ds) env) h G ↔ ds.length = n ∧ Ok (gs ds env) h G := by
  unfold gT
  by_cases e : ds.length = n
  · simp [e]
  · simp [e]
@[simp] theorem ok_gS {G : En → Ah → Prop} {g : Dt → Dt → Dt → Mm Unit} : Ok (gS ma mb g d env) h G ↔ Ok (ma env) h fun o h1 => Ok (mb env) h1 fun k h2 => Ok (g o k d) h2 fun _ h3 => G env h3 := by simp [gS]
@[simp] theorem ok_par : Ok (par i j mr env) h F ↔ Ok (mr env) h fun ds h1 => ∃ x y, ds = [x, y] ∧ F (.nx ((env.set i (some x)).set j (some y))) h1 := by
  simp only [par, ok_bind]
  refine ⟨fun o => o.mono fun ds h1 q => ?_, fun o => o.mono fun ds h1 q => ?_⟩
  · split at q
    · exact ⟨_, _, rfl, q⟩
    · exact q.elim
  · obtain ⟨x, y, rfl, q⟩ := q; exact q
@[simp] theorem ok_par3 {l : Nat} : Ok (par3 i j l mr env) h F ↔ Ok (mr env) h fun ds h1 => ∃ x y z, ds = [x, y, z] ∧ F (.nx (((env.set i (some x)).set j (some y)).set l (some z))) h1 := by
  simp only [par3, ok_bind]
  refine ⟨fun o => o.mono fun ds h1 q => ?_, fun o => o.mono fun ds h1 q => ?_⟩
  · split at q
    · exact ⟨_, _, _, rfl, q⟩
    · exact q.elim
  · obtain ⟨x, y, z, rfl, q⟩ := q; exact q
@[simp] theorem ok_aug : Ok (aug i ma g env) h F ↔ ∃ x, env[i]? = some (some x) ∧ Ok (ma env) h fun y h1 => Ok (g x y) h1 fun z h2 => F (.nx (env.set i (some z))) h2 := by
  unfold aug
  cases q : env[i]? with
  | none => simp
  | some o => cases o <;> simp
@[simp] theorem ok_forM {mi : En → Mm (List Dt)} {p : Pat} {mb : En → Mm Fl} : Ok (forM mi p mb env) h F ↔ Ok (mi env) h fun ds h1 => Ok (forL p mb ds env) h1 F := by simp [forM]
/-- a loop by an invariant of what is left -/
theorem forL_ind {p : Pat} {mb : En → Mm Fl} (I : List Dt → En → Ah → Prop)
    (step : ∀ x xs env h, I (x :: xs) env h → ∃ e1, p.bd x env = some e1 ∧ Ok (mb e1) h fun f h1 => match f with | .nx e => I xs e h1 | .ct e => I xs e h1 | .bk e => F (.nx e) h1 | .rt d => F (.rt d) h1)
    (done : ∀ env h, I [] env h → F (.nx env) h) : ∀ (ds : List Dt) (env : En) (h : Ah), I ds env h → Ok (forL p mb ds env) h F
  | [], env, h, q => done env h q
  | x :: xs, env, h, q => by
    obtain ⟨e1, hb, o⟩ := step x xs env h q
    simp only [forL, ok_bind, gP, hb, ok_pure]
    refine o.mono fun f h1 q1 => ?_
    cases f with
    | nx e => exact forL_ind I step done xs e h1 q1
    | ct e => exact forL_ind I step done xs e h1 q1
    | bk e => exact q1
    | rt d => exact q1
theorem ok_fnM {n : Nat} {ms : En → Mm Fl} {ds : List Dt} : Ok (fnM n ms ds) h Q ↔ Ok (ms (ds.map some ++ List.replicate (n - ds.length) none)) h fun f h1 => match f with | .rt d => Q d h1 | .nx _ => Q .non h1 | _ => False := by
  simp only [fnM, ok_bind]
  refine ⟨fun o => o.mono fun f h1 q => ?_, fun o => o.mono fun f h1 q => ?_⟩ <;> cases f <;> exact q
@[simp] theorem bd_nm : (Pat.nm i).bd d env = some (env.set i (some d)) := by simp [Pat.bd]
-- values
@[simp] theorem ok_addI {a b : Int} : Ok (opAdd (.int a) (.int b)) h Q ↔ Q (.int (a + b)) h := Iff.rfl
@[simp] theorem ok_subI {a b : Int} : Ok (opSub (.int a) (.int b)) h Q ↔ Q (.int (a - b)) h := Iff.rfl
@[simp] theorem ok_iaddI {a b : Int} : Ok (opIAdd (.int a) (.int b)) h Q ↔ Q (.int (a + b)) h := Iff.rfl
theorem ok_I2 {C : Int → Int → Bool} {k : Int → Int → Dt} {a b : Int} : Ok (opI2 C k (.int a) (.int b)) h Q ↔ C a b = true ∧ Q (k a b) h := by
  unfold opI2 Ok
  by_cases c : C a b = true <;> simp [c]
@[simp] theorem ok_modI {a b : Int} : Ok (opMod (.int a) (.int b)) h Q ↔ 0 < b ∧ Q (.int (a % b)) h := by simp [opMod, ok_I2]
@[simp] theorem ok_fdivI {a b : Int} : Ok (opFdiv (.int a) (.int b)) h Q ↔ (0 < b ∧ b < 1073741824) ∧ Q (.int (a / b)) h := by simp [opFdiv, ok_I2]
@[simp] theorem ok_powI {a b : Int} : Ok (opPow (.int a) (.int b)) h Q ↔ (0 ≤ b ∧ b ≤ 1000000 ∧ a.natAbs < 2 ^ 64) ∧ Q (.int (a ^ b.toNat)) h := by simp only [opPow, ok_I2, decide_eq_true_eq]
@[simp] theorem ok_ltI {a b : Int} : Ok (opLt (.int a) (.int b)) h Q ↔ Q (.bl (decide (a < b))) h := by simp [opLt, ok_I2]
@[simp] theorem ok_leI {a b : Int} : Ok (opLe (.int a) (.int b)) h Q ↔ Q (.bl (decide (a ≤ b))) h := by simp [opLe, ok_I2]
@[simp] theorem ok_gtI {a b : Int} : Ok (opGt (.int a) (.int b)) h Q ↔ Q (.bl (decide (b < a))) h := by simp [opGt, ok_I2]
@[simp] theorem ok_geI {a b : Int} : Ok (opGe (.int a) (.int b)) h Q ↔ Q (.bl (decide (b ≤ a))) h := by simp [opGe, ok_I2]
@[simp] theorem ok_mulI {a b : Int} : Ok (opMul (.int a) (.int b)) h Q ↔ a.natAbs.log2 + b.natAbs.log2 < 1000000 ∧ Q (.int (a * b)) h := by
  unfold opMul Ok
  by_cases c : a.natAbs.log2 + b.natAbs.log2 < 1000000 <;> simp [c]
@[simp] theorem ok_negI {a : Int} : Ok (unNeg (.int a)) h Q ↔ Q (.int (-a)) h := Iff.rfl
@[simp] theorem ok_eqI {a b : Int} : Ok (opEq (.int a) (.int b)) h Q ↔ Q (.bl (decide (a = b))) h := Iff.rfl
@[simp] theorem ok_neI {a b : Int} : Ok (opNe (.int a) (.int b)) h Q ↔ Q (.bl (!decide (a = b))) h := Iff.rfl
@[simp] theorem ok_eqS {a b : Str} : Ok (opEq (.str a) (.str b)) h Q ↔ Q (.bl (decide (a = b))) h := Iff.rfl
@[simp] theorem ok_neS {a b : Str} : Ok (opNe (.str a) (.str b)) h Q ↔ Q (.bl (!decide (a = b))) h := Iff.rfl
@[simp] theorem ok_eqB {a b : Bool} : Ok (opEq (.bl a) (.bl b)) h Q ↔ Q (.bl (decide (a = b))) h := Iff.rfl
@[simp] theorem ok_neB {a b : Bool} : Ok (opNe (.bl a) (.bl b)) h Q ↔ Q (.bl (!decide (a = b))) h := Iff.rfl
@[simp] theorem ok_intI {a : Int} : Ok (bInt [.int a]) h Q ↔ Q (.int a) h := Iff.rfl
@[simp] theorem ok_intB {k : Bool} : Ok (bInt [.bl k]) h Q ↔ Q (.int (if k then 1 else 0)) h := Iff.rfl
@[simp] theorem ok_absI {a : Int} : Ok (bAbs [.int a]) h Q ↔ Q (.int (if a < 0 then -a else a)) h := Iff.rfl
@[simp] theorem ok_maxI {a b : Int} : Ok (bMax2 [.int a, .int b]) h Q ↔ Q (.int (if b > a then b else a)) h := Iff.rfl
@[simp] theorem ok_minI {a b : Int} : Ok (bMin2 [.int a, .int b]) h Q ↔ Q (.int (if b < a then b else a)) h := Iff.rfl
@[simp] theorem ok_divmodI {a b : Int} : Ok (bDivmod [.int a, .int b]) h Q ↔ (0 < b ∧ b < 1073741824) ∧ Q (.tup [.int (a / b), .int (a % b)]) h := by
  unfold bDivmod Ok
  by_cases c : 0 < b ∧ b < 1073741824 <;> simp [c]
end
end Mo
set_option Elab.async false
set_option linter.all false
set_option maxRecDepth 100000
set_option maxHeartbeats 4000000
/-! Pz2 (of Pu2): the reel. -/
namespace Mo
open PySem L2
def lstAt (h : Ah) (r : Nat) : Option (List Dt) := match h[r]? with
  | some (.lst xs) => some xs
  | _ => none
theorem lstAt_lt {h : Ah} {r : Nat} {xs : List Dt} (e : lstAt h r = some xs) : r < h.length := by
  unfold lstAt at e
  cases q : h[r]? with
  | none => rw [q] at e; cases e
  | some o => exact (List.getElem?_eq_some_iff.mp q).1
theorem lstAt_app {h : Ah} {r : Nat} {xs : List Dt} (e : lstAt h r = some xs) (j : Ah) : lstAt (h ++ j) r = some xs := by
  have l := lstAt_lt e
  unfold lstAt at *
  rw [List.getElem?_append_left l]
  exact e
theorem lstAt_set {h : Ah} {r : Nat} {xs : List Dt} (l : r < h.length) : lstAt (h.set r (.lst xs)) r = some xs := by
  unfold lstAt
  rw [List.getElem?_set_self l]
theorem lstAt_new {h : Ah} {xs : List Dt} {j : Ah} : lstAt (h ++ .lst xs :: j) h.length = some xs := by
  unfold lstAt
  simp
section
variable {h : Ah} {r : Nat} {Q : Dt → Ah → Prop} {U : Unit → Ah → Prop}
@[simp] theorem ok_ixO {i : Int} : Ok (ixM (.obj r) (.int i)) h Q ↔ ∃ d, (lstAt h r).bind (fun xs => atI xs i) = some d ∧ Q d h := by
  unfold Ok ixM lstAt
  cases q : h[r]? with
  | none => simp [seqR, tupR, lstR, lstT, q]
  | some o =>
    cases o with
    | lst xs =>
      cases a : atI xs i <;> simp [seqR, tupR, lstR, lstT, q, a]
    | _ => simp [seqR, tupR, lstR, lstT, q]
@[simp] theorem ok_setO {i : Int} {y : Dt} : Ok (setL (.obj r) (.int i) y) h U ↔ ∃ xs j, lstAt h r = some xs ∧ ixN xs.length i = some j ∧ U () (h.set r (.lst (xs.set j y))) := by
  unfold Ok setL lstAt
  cases q : h[r]? with
  | none => simp [q]
  | some o =>
    cases o with
    | lst xs =>
      cases a : ixN xs.length i <;> simp [q, a]
    | _ => simp [q]
end
/-- at r a reel, n rolls at most behind it -/
structure Reel (h : Ah) (r : Nat) (n : Nat) : Prop where
  ex : ∃ g s c : Int, lstAt h r = some [.int g, .int s, .int c] ∧ 0 ≤ g ∧ 0 ≤ s ∧ s < 2147483249 ∧ 0 ≤ c ∧ c ≤ n
theorem Reel.mono {h : Ah} {r n m : Nat} (R : Reel h r n) (k : n ≤ m) : Reel h r m := by
  obtain ⟨g, s, c, h1, h2, h3, h4, h5, h6⟩ := R.ex
  exact ⟨g, s, c, h1, h2, h3, h4, h5, by omega⟩
theorem Reel.app {h : Ah} {r n : Nat} (R : Reel h r n) (j : Ah) : Reel (h ++ j) r n := by
  obtain ⟨g, s, c, h1, h2⟩ := R.ex
  exact ⟨g, s, c, lstAt_app h1 j, h2⟩
theorem log2_lt {n k : Nat} (h : n < 2 ^ k) (hk : 0 < k) : n.log2 < k := by
  by_cases z : n = 0
  · subst z; simpa using hk
  · exact (Nat.log2_lt z).mpr h
section
variable {h : Ah} {Q : Dt → Ah → Prop} {L : List Dt → Ah → Prop} {env : En} {ma : En → Mm Dt} {xs : List Dt}
@[simp] theorem ok_itL : Ok (itL ma env) h L ↔ Ok (ma env) h fun d h1 => Ok (itemsL d) h1 L := by simp [itL]
@[simp] theorem ok_itemsLv : Ok (itemsL (.lv xs)) h L ↔ L xs h := Iff.rfl
@[simp] theorem ok_itemsWl : Ok (itemsL (.wl xs)) h L ↔ L xs h := Iff.rfl
@[simp] theorem ok_opN {P : Option Int → Ah → Prop} : Ok (opN env) h P ↔ P none h := Iff.rfl
@[simp] theorem ok_opS {P : Option Int → Ah → Prop} : Ok (opS ma env) h P ↔ Ok (ma env) h fun d h1 => Ok (isI d) h1 P := by simp [opS]
@[simp] theorem ok_isI {i : Int} {P : Option Int → Ah → Prop} : Ok (isI (.int i)) h P ↔ P (some i) h := Iff.rfl
@[simp] theorem ok_slc {g : Dt → Option Int → Option Int → Mm Dt} {ml mh : En → Mm (Option Int)} : Ok (slc g ma ml mh env) h Q ↔ Ok (ma env) h fun x h1 => Ok (ml env) h1 fun lo h2 => Ok (mh env) h2 fun hi h3 => Ok (g x lo hi) h3 Q := by simp [slc]
@[simp] theorem ok_slWl {lo hi : Option Int} : Ok (slD (.wl xs) lo hi) h Q ↔ Q (.lv (cutD xs lo hi)) h := Iff.rfl
@[simp] theorem ok_slLv {lo hi : Option Int} : Ok (slD (.lv xs) lo hi) h Q ↔ Q (.lv (cutD xs lo hi)) h := Iff.rfl
@[simp] theorem ok_slTup {lo hi : Option Int} : Ok (slD (.tup xs) lo hi) h Q ↔ Q (.tup (cutD xs lo hi)) h := Iff.rfl
@[simp] theorem ok_lenWl : Ok (bLen [.wl xs]) h Q ↔ Q (.int xs.length) h := Iff.rfl
@[simp] theorem ok_lenLv : Ok (bLen [.lv xs]) h Q ↔ Q (.int xs.length) h := Iff.rfl
@[simp] theorem ok_lenTup : Ok (bLen [.tup xs]) h Q ↔ Q (.int xs.length) h := Iff.rfl
@[simp] theorem ok_ixWl {i : Int} : Ok (ixM (.wl xs) (.int i)) h Q ↔ ∃ d, atI xs i = some d ∧ Q d h := by
  unfold Ok ixM
  cases a : atI xs i <;> simp [seqR, tupR, lstR, lstT, a]
@[simp] theorem ok_ixLv {i : Int} : Ok (ixM (.lv xs) (.int i)) h Q ↔ ∃ d, atI xs i = some d ∧ Q d h := by
  unfold Ok ixM
  cases a : atI xs i <;> simp [seqR, tupR, lstR, lstT, a]
@[simp] theorem ok_ixTup {i : Int} : Ok (ixM (.tup xs) (.int i)) h Q ↔ ∃ d, atI xs i = some d ∧ Q d h := by
  unfold Ok ixM
  cases a : atI xs i <;> simp [seqR, tupR, a]
@[simp] theorem ok_ixWt {i : Int} : Ok (ixM (.wt xs) (.int i)) h Q ↔ ∃ d, atI xs i = some d ∧ Q d h := by
  unfold Ok ixM
  cases a : atI xs i <;> simp [seqR, tupR, a]
end
theorem atI_nat {α : Type} {xs : List α} {i : Nat} (h : i < xs.length) : atI xs (i : Int) = some xs[i] := by
  unfold atI ixN
  rw [if_pos (by omega), if_pos (by omega)]
  simp [h]
theorem atI_last {α : Type} {xs : List α} (h : xs ≠ []) : atI xs (-1) = some (xs.getLast h) := by
  have l : 0 < xs.length := List.length_pos_iff.mpr h
  unfold atI ixN
  rw [if_neg (by omega), if_pos (by omega)]
  simp only [Option.bind_some]
  rw [show (-1 + (xs.length : Int)).toNat = xs.length - 1 by omega, List.getLast_eq_getElem]
  simp [l]
theorem cutD_mem {xs : List Dt} {lo hi : Option Int} {d : Dt} (m : d ∈ cutD xs lo hi) : d ∈ xs := List.mem_of_mem_drop (List.mem_of_mem_take m)
end Mo
set_option Elab.async false
set_option linter.all false
set_option maxRecDepth 100000
set_option maxHeartbeats 4000000
/-! Pu3: texts as lists of signs. -/
namespace Mo
open PySem L2
def Tx (l : List Nat) : Str := ⟨l.toArray⟩
theorem tx_cps (l : List Nat) : (Tx l).cps.toList = l := rfl
@[simp] theorem tx_len (l : List Nat) : (Tx l).length = l.length := by simp [Tx, Str.length]
@[simp] theorem tx_inj {a b : List Nat} : Tx a = Tx b ↔ a = b := by
  refine ⟨fun e => ?_, fun e => by rw [e]⟩
  have := congrArg (fun z : Str => z.cps.toList) e
  simpa [Tx] using this
theorem tx_of (x : Str) : x = Tx x.cps.toList := by
  obtain ⟨a⟩ := x
  simp [Tx]
theorem tx_app (a b : List Nat) : Tx a ++ Tx b = Tx (a ++ b) := by
  show (⟨(Tx a).cps ++ (Tx b).cps⟩ : Str) = _
  simp [Tx]
def cutL {α : Type} (xs : List α) (lo hi : Option Int) : List α := (xs.drop (HT.sIx xs.length 0 lo)).take (HT.sIx xs.length xs.length hi - HT.sIx xs.length 0 lo)
section
variable {h : Ah} {Q : Dt → Ah → Prop} {L : List Dt → Ah → Prop} {env : En} {ma mb : En → Mm Dt} {l a b : List Nat} {c : Nat} {i : Int}
theorem tx_signs : signs (Tx l) = l.map fun c => .str (Tx [c]) := by
  unfold signs
  rw [tx_cps]
  rfl
@[simp] theorem ok_itS : Ok (itS ma env) h L ↔ Ok (ma env) h fun d h1 => Ok (itemsS d) h1 L := by simp [itS]
@[simp] theorem ok_itemsTx : Ok (itemsS (.str (Tx l))) h L ↔ L (l.map fun c => .str (Tx [c])) h := by
  rw [← tx_signs]
  exact Iff.rfl
@[simp] theorem ok_ixS : Ok (ixM (.str (Tx l)) (.int i)) h Q ↔ ∃ c, atI l i = some c ∧ l.length ≤ sizeLine ∧ Q (.str (Tx [c])) h := by
  unfold Ok ixM
  simp only [tx_cps, tx_len]
  cases q : atI l i with
  | none => simp
  | some c =>
    by_cases z : l.length ≤ sizeLine
    · simp only [z, if_true]; exact ⟨fun o => ⟨c, rfl, trivial, o⟩, fun ⟨_, e, _, o⟩ => by cases e; exact o⟩
    · simp [z]
@[simp] theorem ok_addS : Ok (opAdd (.str (Tx a)) (.str (Tx b))) h Q ↔ a.length + b.length ≤ sizeLine ∧ Q (.str (Tx (a ++ b))) h := by
  unfold Ok opAdd
  by_cases z : a.length + b.length ≤ sizeLine <;> simp [z, tx_app]
@[simp] theorem ok_slS {lo hi : Option Int} : Ok (slD (.str (Tx l)) lo hi) h Q ↔ l.length ≤ sizeLine ∧ Q (.str (Tx (cutL l lo hi))) h := by
  unfold Ok slD
  have e : cutS (Tx l) lo hi = Tx (cutL l lo hi) := by
    unfold cutS cutL
    simp only [tx_cps, tx_len]
    rfl
  by_cases z : l.length ≤ sizeLine <;> simp [z, e]
@[simp] theorem ok_lenS : Ok (bLen [.str (Tx l)]) h Q ↔ l.length ≤ sizeLine ∧ Q (.int l.length) h := by
  unfold Ok bLen
  by_cases z : l.length ≤ sizeLine <;> simp [z]
theorem sign_tx : sign? (Tx [c]) = some c := rfl
@[simp] theorem ok_inS : Ok (opIn (.str (Tx [c])) (.str (Tx l))) h Q ↔ Q (.bl (decide (c ∈ l))) h := by
  have e : inR h (.str (Tx [c])) (.str (Tx l)) = some (decide (c ∈ l)) := by
    unfold inR
    simp only [sign_tx, tx_cps]
    exact congrArg some (decide_eq_decide.mpr Iff.rfl)
  unfold Ok opIn
  simp only [e]
@[simp] theorem ok_notinS : Ok (opNotIn (.str (Tx [c])) (.str (Tx l))) h Q ↔ Q (.bl (!decide (c ∈ l))) h := by
  have e : inR h (.str (Tx [c])) (.str (Tx l)) = some (decide (c ∈ l)) := by
    unfold inR
    simp only [sign_tx, tx_cps]
    exact congrArg some (decide_eq_decide.mpr Iff.rfl)
  unfold Ok opNotIn
  simp only [e]
theorem ok_mulS {n : Int} : Ok (opMul (.str (Tx a)) (.int n)) h Q ↔ (-(2 ^ 63) ≤ n ∧ n < 2 ^ 63 ∧ a.length * n.toNat ≤ sizeLine) ∧ Q (.str (Tx (List.replicate n.toNat a).flatten)) h := by
  unfold Ok opMul
  simp only [tx_len]
  by_cases z : -(2 ^ 63) ≤ n ∧ n < 2 ^ 63 ∧ a.length * n.toNat ≤ sizeLine
  · rw [if_pos z]
    exact ⟨fun o => ⟨z, o⟩, fun o => o.2⟩
  · rw [if_neg z]
    exact ⟨fun o => o.elim, fun o => z o.1⟩
@[simp] theorem ok_revS : Ok (revS (.str (Tx l))) h Q ↔ l.length ≤ sizeLine ∧ Q (.str (Tx l.reverse)) h := by
  have e : (Tx l).cps.size = l.length := by simp [Tx]
  show Ok (if (Tx l).cps.size ≤ sizeLine then Mm.pure (Dt.str ⟨(Tx l).cps.toList.reverse.toArray⟩) else Mm.no) h Q ↔ _
  rw [ok_ifno, e]
  exact Iff.rfl
@[simp] theorem ok_bm {tk : Ah → Dt → Bool} {g : Dt → List Dt → Mm Dt} {mr : En → Mm (List Dt)} : Ok (bm tk g ma mr env) h Q ↔ Ok (ma env) h fun o h1 => tk h1 o = true ∧ Ok (mr env) h1 fun ds h2 => Ok (g o ds) h2 Q := by
  have key : ∀ (d : Dt) (h1 : Ah), Ok (Mm.bind (fun h => if tk h d then .ok () h else .no) fun _ => mr env >>= fun ds => g d ds) h1 Q ↔ tk h1 d = true ∧ Ok (mr env) h1 fun ds h2 => Ok (g d ds) h2 Q := by
    intro d h1
    by_cases c : tk h1 d = true
    · have e : Mm.bind (fun h => if tk h d then .ok () h else .no) (fun _ => mr env >>= fun ds => g d ds) h1 = (mr env >>= fun ds => g d ds) h1 := by simp only [Mm.bind, c, if_true]
      rw [← ok_bind]
      unfold Ok
      rw [e]
      simp [c]
    · have e : Mm.bind (fun h => if tk h d then .ok () h else .no) (fun _ => mr env >>= fun ds => g d ds) h1 = .no := by simp [Mm.bind, c]
      unfold Ok
      rw [e]
      simp [c]
  show Ok (Mm.bind (ma env) fun o => Mm.bind (fun h => if tk h o then .ok () h else .no) fun _ => mr env >>= fun ds => g o ds) h Q ↔ _
  refine Iff.trans (ok_bind (m := ma env)) ?_
  exact ⟨fun o => o.mono fun d h1 q => (key d h1).mp q, fun o => o.mono fun d h1 q => (key d h1).mpr q⟩
@[simp] theorem isSt_str {x : Str} : isSt h (.str x) = true := rfl
end
/-! ### the four letters -/
theorem lit_enws : (Str.ofString "enws") = Tx [101, 110, 119, 115] := by decide +kernel
theorem lit_nwse : (Str.ofString "nwse") = Tx [110, 119, 115, 101] := by decide +kernel
theorem lit_wsen : (Str.ofString "wsen") = Tx [119, 115, 101, 110] := by decide +kernel
theorem lit_ewns : (Str.ofString "ewns") = Tx [101, 119, 110, 115] := by decide +kernel
theorem lit_ewsn : (Str.ofString "ewsn") = Tx [101, 119, 115, 110] := by decide +kernel
theorem lit_ew : (Str.ofString "ew") = Tx [101, 119] := by decide +kernel
theorem lit_e : (Str.ofString "e") = Tx [101] := by decide +kernel
theorem lit_n : (Str.ofString "n") = Tx [110] := by decide +kernel
theorem lit_w : (Str.ofString "w") = Tx [119] := by decide +kernel
theorem lit_s : (Str.ofString "s") = Tx [115] := by decide +kernel
theorem lit_ : (Str.ofString "") = Tx [] := by decide +kernel
theorem lit_sp : (Str.ofString " ") = Tx [32] := by decide +kernel
theorem lit_1 : (Str.ofString "1") = Tx [49] := by decide +kernel
theorem lit_0 : (Str.ofString "0") = Tx [48] := by decide +kernel
theorem lit_dg : (Str.ofString "0123456789") = Tx [48, 49, 50, 51, 52, 53, 54, 55, 56, 57] := by decide +kernel
def Ltr (c : Nat) : Prop := c = 101 ∨ c = 110 ∨ c = 119 ∨ c = 115
def idx (c : Nat) : Nat := if c = 101 then 0 else if c = 110 then 1 else if c = 119 then 2 else 3
section
variable {h : Ah} {Q : Dt → Ah → Prop} {c : Nat}
theorem ok_index (hc : Ltr c) : Ok (mSIndex (.str (Tx [101, 110, 119, 115])) [.str (Tx [c])]) h Q ↔ Q (.int (idx c)) h := by
  rcases hc with rfl | rfl | rfl | rfl
  · have e : Builtin.Str.occurrences (Tx [101, 110, 119, 115]) (Tx [101]) 0 (Tx [101, 110, 119, 115]).length 1 = [0] := by decide +kernel
    unfold Ok mSIndex; simp only [e]; rfl
  · have e : Builtin.Str.occurrences (Tx [101, 110, 119, 115]) (Tx [110]) 0 (Tx [101, 110, 119, 115]).length 1 = [1] := by decide +kernel
    unfold Ok mSIndex; simp only [e]; rfl
  · have e : Builtin.Str.occurrences (Tx [101, 110, 119, 115]) (Tx [119]) 0 (Tx [101, 110, 119, 115]).length 1 = [2] := by decide +kernel
    unfold Ok mSIndex; simp only [e]; rfl
  · have e : Builtin.Str.occurrences (Tx [101, 110, 119, 115]) (Tx [115]) 0 (Tx [101, 110, 119, 115]).length 1 = [3] := by decide +kernel
    unfold Ok mSIndex; simp only [e]; rfl
def idm (c : Nat) : Nat := if c = 101 then 0 else if c = 119 then 1 else if c = 110 then 2 else 3
theorem ok_indexM (hc : Ltr c) : Ok (mSIndex (.str (Tx [101, 119, 110, 115])) [.str (Tx [c])]) h Q ↔ Q (.int (idm c)) h := by
  rcases hc with rfl | rfl | rfl | rfl
  · have e : Builtin.Str.occurrences (Tx [101, 119, 110, 115]) (Tx [101]) 0 (Tx [101, 119, 110, 115]).length 1 = [0] := by decide +kernel
    unfold Ok mSIndex; simp only [e]; rfl
  · have e : Builtin.Str.occurrences (Tx [101, 119, 110, 115]) (Tx [110]) 0 (Tx [101, 119, 110, 115]).length 1 = [2] := by decide +kernel
    unfold Ok mSIndex; simp only [e]; rfl
  · have e : Builtin.Str.occurrences (Tx [101, 119, 110, 115]) (Tx [119]) 0 (Tx [101, 119, 110, 115]).length 1 = [1] := by decide +kernel
    unfold Ok mSIndex; simp only [e]; rfl
  · have e : Builtin.Str.occurrences (Tx [101, 119, 110, 115]) (Tx [115]) 0 (Tx [101, 119, 110, 115]).length 1 = [3] := by decide +kernel
    unfold Ok mSIndex; simp only [e]; rfl
end
/-! ### comprehensions whose parts ask nothing of the heap -/
/-- whatever the heap, a; the heap grows at its end -/
def Gv {α : Type} (m : Mm α) (a : α) : Prop := ∀ h, ∃ j, m h = .ok a (h ++ j)
theorem Gv.ok {α : Type} {m : Mm α} {a : α} (g : Gv m a) {h : Ah} {Q : α → Ah → Prop} (q : ∀ j, Q a (h ++ j)) : Ok m h Q := by
  obtain ⟨j, e⟩ := g h
  exact ok_of e (q j)
theorem gv_of {α : Type} {m : Mm α} {a : α} (g : ∀ h, Ok m h fun b h' => b = a ∧ ∃ j, h' = h ++ j) : Gv m a := fun h => by
  obtain ⟨b, h', e, rfl, j, rfl⟩ := ok_iff.mp (g h)
  exact ⟨j, e⟩
theorem lcL_ok {γ : Type} {p : Pat} {mt : En → Mm Bool} {me : En → Mm Dt} {env : En} {t : γ → Bool} {g : γ → Dt} {e : γ → Dt} {h : Ah} : ∀ (ds : List γ) (acc : List Dt) (k : Ah), acc.length + ds.length ≤ sizeLine →
    (∀ d ∈ ds, ∃ e1, p.bd (e d) env = some e1 ∧ Gv (mt e1) (t d) ∧ (t d = true → Gv (me e1) (g d))) →
    ∃ k', lcL p mt me h.length (ds.map e) env (h ++ .lst acc :: k) = .ok () (h ++ .lst (acc ++ (ds.filter t).map g) :: k')
  | [], acc, k, _, _ => ⟨k, by simp [lcL, Mm.pure]⟩
  | d :: ds, acc, k, hl, hd => by
    obtain ⟨e1, hb, ht, he⟩ := hd d (by simp)
    obtain ⟨j1, q1⟩ := ht (h ++ .lst acc :: k)
    have hd' : ∀ d ∈ ds, ∃ e1, p.bd (e d) env = some e1 ∧ Gv (mt e1) (t d) ∧ (t d = true → Gv (me e1) (g d)) := fun d m => hd d (by simp [m])
    have hl' : acc.length + 1 + ds.length ≤ sizeLine := by simp at hl; omega
    cases c : t d with
    | true =>
      rw [c] at q1
      obtain ⟨j2, q2⟩ := he c (h ++ .lst acc :: k ++ j1)
      obtain ⟨k', q3⟩ := lcL_ok (p := p) (mt := mt) (me := me) (env := env) (t := t) (g := g) (e := e) (h := h) ds (acc ++ [g d]) (k ++ j1 ++ j2) (by simp; omega) hd'
      refine ⟨k', ?_⟩
      show Mm.bind (gP p (e d) env) _ _ = _
      simp only [gP, hb, Mm.bind, Mm.pure]
      show Mm.bind (mt e1) _ _ = _
      simp only [Mm.bind, q1]
      show Mm.bind (me e1) _ _ = _
      simp only [Mm.bind, q2]
      have pq : push h.length (g d) (h ++ .lst acc :: k ++ j1 ++ j2) = .ok () (h ++ .lst (acc ++ [g d]) :: (k ++ j1 ++ j2)) := by
        unfold push
        have z : acc.length < sizeLine := by omega
        simp [z]
      show Mm.bind (push h.length (g d)) _ _ = _
      simp only [Mm.bind, pq]
      rw [q3]
      simp [c]
    | false =>
      rw [c] at q1
      obtain ⟨k', q3⟩ := lcL_ok (p := p) (mt := mt) (me := me) (env := env) (t := t) (g := g) (e := e) (h := h) ds acc (k ++ j1) (by simp at hl; omega) hd'
      refine ⟨k', ?_⟩
      show Mm.bind (gP p (e d) env) _ _ = _
      simp only [gP, hb, Mm.bind, Mm.pure]
      show Mm.bind (mt e1) _ _ = _
      simp only [Mm.bind, q1]
      rw [show h ++ .lst acc :: k ++ j1 = h ++ .lst acc :: (k ++ j1) by simp]
      rw [q3]
      simp [c]
theorem ok_lcM {γ : Type} {mi : En → Mm (List Dt)} {p : Pat} {mt : En → Mm Bool} {me : En → Mm Dt} {vs : List Nat} {env : En} {h : Ah} {Q : Dt → Ah → Prop} (l : List γ) (e : γ → Dt) (t : γ → Bool) (g : γ → Dt)
    (hi : Ok (mi env) h fun ds h1 => ds = l.map e ∧ l.length ≤ sizeLine ∧ (∀ d ∈ l, ∃ e1, p.bd (e d) (wipeE env vs) = some e1 ∧ Gv (mt e1) (t d) ∧ (t d = true → Gv (me e1) (g d))) ∧ ∀ j, Q (.lv ((l.filter t).map g)) (h1 ++ j)) :
    Ok (lcM mi p mt me vs env) h Q := by
  simp only [lcM, ok_bind]
  refine hi.mono fun ds h1 ⟨e1, hl, hd, q⟩ => ?_
  subst e1
  refine ok_of (a := h1.length) (h' := h1 ++ [.lst []]) rfl ?_
  obtain ⟨k', e⟩ := lcL_ok (h := h1) l [] [] (by simpa using hl) hd
  refine ok_of e ?_
  refine ok_of (a := .lv ((l.filter t).map g)) (h' := h1 ++ .dead :: k') ?_ (q _)
  unfold takeL
  simp
/-- the plain case: no test -/
theorem ok_lcA {γ : Type} {mi : En → Mm (List Dt)} {i : Nat} {me : En → Mm Dt} {vs : List Nat} {env : En} {h : Ah} {Q : Dt → Ah → Prop} (l : List γ) (e : γ → Dt) (g : γ → Dt)
    (hi : Ok (mi env) h fun ds h1 => ds = l.map e ∧ l.length ≤ sizeLine ∧ (∀ d ∈ l, Gv (me ((wipeE env vs).set i (some (e d)))) (g d)) ∧ ∀ j, Q (.lv (l.map g)) (h1 ++ j)) :
    Ok (lcM mi (.nm i) yes me vs env) h Q :=
  ok_lcM l e (fun _ => true) g (hi.mono fun ds h1 ⟨h2, h3, h4, h5⟩ => ⟨h2, h3, fun d m => ⟨_, bd_nm, fun h => ⟨[], by simp [yes, Mm.pure]⟩, fun _ => h4 d m⟩, fun j => by
    rw [List.filter_eq_self.mpr (by simp)]
    exact h5 j⟩)
theorem gv_pure {α : Type} {a : α} : Gv (Mm.pure a) a := fun h => ⟨[], by simp [Mm.pure]⟩
theorem gv_yes {env : En} : Gv (yes env) true := gv_pure
end Mo
set_option Elab.async false
set_option linter.all false
set_option maxRecDepth 100000
set_option maxHeartbeats 4000000
/-! PyA01: k01, plain part (printed by plain01.py). -/
namespace Mo
open PySem L2
def l1 (x : Dt) : List Dt := [.tup [.exc (Str.ofString "InvalidText") [Str.ofString "given"] [x], .exc (Str.ofString "InvalidText") [Str.ofString "given"] [x]], .tup [.exc (Str.ofString "InvalidNumber") [Str.ofString "given"] [x], .exc (Str.ofString "InvalidNumber") [Str.ofString "given"] [x]], .tup [.exc (Str.ofString "InvalidName") [Str.ofString "given"] [x], .exc (Str.ofString "InvalidName") [Str.ofString "given"] [x]], .tup [.exc (Str.ofString "InvalidIndex") [Str.ofString "given"] [x], .exc (Str.ofString "InvalidIndex") [Str.ofString "given"] [x]], .tup [.exc (Str.ofString "InvalidClaim") [Str.ofString "given"] [x], .exc (Str.ofString "InvalidClaim") [Str.ofString "given"] [x]], .tup [.exc (Str.ofString "InvalidCell") [Str.ofString "given"] [x], .exc (Str.ofString "InvalidCell") [Str.ofString "given"] [x]], .tup [.exc (Str.ofString "InvalidBar") [Str.ofString "given"] [x], .exc (Str.ofString "InvalidBar") [Str.ofString "given"] [x]], .tup [.exc (Str.ofString "UnknownName") [Str.ofString "given"] [x], .exc (Str.ofString "UnknownName") [Str.ofString "given"] [x]], .tup [.exc (Str.ofString "NotALine") [Str.ofString "given"] [x], .exc (Str.ofString "NotALine") [Str.ofString "given"] [x]], .tup [.exc (Str.ofString "NotABoard") [Str.ofString "given"] [x], .exc (Str.ofString "NotABoard") [Str.ofString "given"] [x]], .tup [.exc (Str.ofString "InvalidBars") [Str.ofString "index"] [x], .exc (Str.ofString "InvalidBars") [Str.ofString "index"] [x]], .tup [.exc (Str.ofString "InvalidCells") [Str.ofString "index"] [x], .exc (Str.ofString "InvalidCells") [Str.ofString "index"] [x]]]
def l2 (x : Dt) : List Dt := [.tup [.exc (Str.ofString "NotClosed") [Str.ofString "place"] [x], .exc (Str.ofString "NotClosed") [Str.ofString "place"] [x]], .tup [.exc (Str.ofString "Touches") [Str.ofString "place"] [x], .exc (Str.ofString "Touches") [Str.ofString "place"] [x]], .tup [.exc (Str.ofString "NotTurned") [Str.ofString "given"] [x], .exc (Str.ofString "NotTurned") [Str.ofString "given"] [x]], .tup [.exc (Str.ofString "NotFacing") [] [], .exc (Str.ofString "NotFacing") [] []], .tup [.exc (Str.ofString "NotOneRim") [] [], .exc (Str.ofString "NotOneRim") [] []], .tup [.exc (Str.ofString "TooMany") [Str.ofString "number"] [x], .exc (Str.ofString "TooMany") [Str.ofString "number"] [x]], .tup [.exc (Str.ofString "Broken") [Str.ofString "told", Str.ofString "index"] [.int 1, x], .exc (Str.ofString "Broken") [Str.ofString "told", Str.ofString "index"] [.int 1, x]], .tup [.exc (Str.ofString "InUse") [Str.ofString "index"] [x], .exc (Str.ofString "InUse") [Str.ofString "index"] [x]], .tup [.exc (Str.ofString "NothingToUndo") [] [], .exc (Str.ofString "NothingToUndo") [] []]]
theorem firsts_eq (x : Dt) (h : Ah) : K51.f__law_firsts [x] h = .ok (.lv (l1 x)) h := by kernel_rfl
theorem seconds_eq (x : Dt) (h : Ah) : K51.f__law_seconds [x] h = .ok (.lv (l2 x)) h := by kernel_rfl
def bodyM : En → Mm Fl := (seq (par 8 9 (argC (callM 1 K51.f__law_flags (argC (var 6) argN)) (argC (op2 opLt (var 7) (con (.int 12))) argN)))
    (seq (ifS (orT (tst (op2 opNe (bm isL mLCountB (var 8) (argC (con (.bl true)) argN)) (con (.int 1)))) (notT (tst (op2 ixM (var 8) (var 7))))) (ret (con (.bl false))) nxt)
    (seq (ifS (tst (op2 opNe (lstE (argC (bi (bIsN K51.xbs K51.xtb) (argC (var 6) (argC (con (.cl (Str.ofString "WrongValue"))) argN))) (argC (bi (bIsN K51.xbs K51.xtb) (argC (var 6) (argC (con (.cl (Str.ofString "NoAnswer"))) argN))) argN))) (lstE (argC (var 9) (argC (notV (var 9)) argN))))) (ret (con (.bl false))) nxt)
    (ifS (tst (op2 opNe (lstE (argC (bi (bIsB K51.xbb K51.xtt) (argC (var 6) (argC (con (.ty "ValueError")) argN))) (argC (bi (bIsB K51.xbb K51.xtt) (argC (var 6) (argC (con (.ty "ArithmeticError")) argN))) argN))) (lstE (argC (var 9) (argC (notV (var 9)) argN))))) (ret (con (.bl false))) nxt))))
/-- the k-th pair: each of its exceptions goes through -/
def Goes (k : Nat) (e : Dt) : Prop := ∀ (a0 a1 a2 a3 a4 a5 a8 a9 : Option Dt) (h : Ah), ∃ b8 b9, bodyM [a0, a1, a2, a3, a4, a5, some e, some (.int (k : Nat)), a8, a9] h = .ok (.nx [a0, a1, a2, a3, a4, a5, some e, some (.int (k : Nat)), b8, b9]) h
theorem goes_0 (ns : List Str) (ds : List Dt) : Goes 0 (.exc (Str.ofString "InvalidText") ns ds) := fun a0 a1 a2 a3 a4 a5 a8 a9 h => ⟨some (.lv [.bl true, .bl false, .bl false, .bl false, .bl false, .bl false, .bl false, .bl false, .bl false, .bl false, .bl false, .bl false, .bl false, .bl false, .bl false, .bl false, .bl false, .bl false, .bl false, .bl false, .bl false]), some (.bl true), by kernel_rfl⟩
theorem goes_1 (ns : List Str) (ds : List Dt) : Goes 1 (.exc (Str.ofString "InvalidNumber") ns ds) := fun a0 a1 a2 a3 a4 a5 a8 a9 h => ⟨some (.lv [.bl false, .bl true, .bl false, .bl false, .bl false, .bl false, .bl false, .bl false, .bl false, .bl false, .bl false, .bl false, .bl false, .bl false, .bl false, .bl false, .bl false, .bl false, .bl false, .bl false, .bl false]), some (.bl true), by kernel_rfl⟩
theorem goes_2 (ns : List Str) (ds : List Dt) : Goes 2 (.exc (Str.ofString "InvalidName") ns ds) := fun a0 a1 a2 a3 a4 a5 a8 a9 h => ⟨some (.lv [.bl false, .bl false, .bl true, .bl false, .bl false, .bl false, .bl false, .bl false, .bl false, .bl false, .bl false, .bl false, .bl false, .bl false, .bl false, .bl false, .bl false, .bl false, .bl false, .bl false, .bl false]), some (.bl true), by kernel_rfl⟩
theorem goes_3 (ns : List Str) (ds : List Dt) : Goes 3 (.exc (Str.ofString "InvalidIndex") ns ds) := fun a0 a1 a2 a3 a4 a5 a8 a9 h => ⟨some (.lv [.bl false, .bl false, .bl false, .bl true, .bl false, .bl false, .bl false, .bl false, .bl false, .bl false, .bl false, .bl false, .bl false, .bl false, .bl false, .bl false, .bl false, .bl false, .bl false, .bl false, .bl false]), some (.bl true), by kernel_rfl⟩
theorem goes_4 (ns : List Str) (ds : List Dt) : Goes 4 (.exc (Str.ofString "InvalidClaim") ns ds) := fun a0 a1 a2 a3 a4 a5 a8 a9 h => ⟨some (.lv [.bl false, .bl false, .bl false, .bl false, .bl true, .bl false, .bl false, .bl false, .bl false, .bl false, .bl false, .bl false, .bl false, .bl false, .bl false, .bl false, .bl false, .bl false, .bl false, .bl false, .bl false]), some (.bl true), by kernel_rfl⟩
theorem goes_5 (ns : List Str) (ds : List Dt) : Goes 5 (.exc (Str.ofString "InvalidCell") ns ds) := fun a0 a1 a2 a3 a4 a5 a8 a9 h => ⟨some (.lv [.bl false, .bl false, .bl false, .bl false, .bl false, .bl true, .bl false, .bl false, .bl false, .bl false, .bl false, .bl false, .bl false, .bl false, .bl false, .bl false, .bl false, .bl false, .bl false, .bl false, .bl false]), some (.bl true), by kernel_rfl⟩
theorem goes_6 (ns : List Str) (ds : List Dt) : Goes 6 (.exc (Str.ofString "InvalidBar") ns ds) := fun a0 a1 a2 a3 a4 a5 a8 a9 h => ⟨some (.lv [.bl false, .bl false, .bl false, .bl false, .bl false, .bl false, .bl true, .bl false, .bl false, .bl false, .bl false, .bl false, .bl false, .bl false, .bl false, .bl false, .bl false, .bl false, .bl false, .bl false, .bl false]), some (.bl true), by kernel_rfl⟩
theorem goes_7 (ns : List Str) (ds : List Dt) : Goes 7 (.exc (Str.ofString "UnknownName") ns ds) := fun a0 a1 a2 a3 a4 a5 a8 a9 h => ⟨some (.lv [.bl false, .bl false, .bl false, .bl false, .bl false, .bl false, .bl false, .bl true, .bl false, .bl false, .bl false, .bl false, .bl false, .bl false, .bl false, .bl false, .bl false, .bl false, .bl false, .bl false, .bl false]), some (.bl true), by kernel_rfl⟩
theorem goes_8 (ns : List Str) (ds : List Dt) : Goes 8 (.exc (Str.ofString "NotALine") ns ds) := fun a0 a1 a2 a3 a4 a5 a8 a9 h => ⟨some (.lv [.bl false, .bl false, .bl false, .bl false, .bl false, .bl false, .bl false, .bl false, .bl true, .bl false, .bl false, .bl false, .bl false, .bl false, .bl false, .bl false, .bl false, .bl false, .bl false, .bl false, .bl false]), some (.bl true), by kernel_rfl⟩
theorem goes_9 (ns : List Str) (ds : List Dt) : Goes 9 (.exc (Str.ofString "NotABoard") ns ds) := fun a0 a1 a2 a3 a4 a5 a8 a9 h => ⟨some (.lv [.bl false, .bl false, .bl false, .bl false, .bl false, .bl false, .bl false, .bl false, .bl false, .bl true, .bl false, .bl false, .bl false, .bl false, .bl false, .bl false, .bl false, .bl false, .bl false, .bl false, .bl false]), some (.bl true), by kernel_rfl⟩
theorem goes_10 (ns : List Str) (ds : List Dt) : Goes 10 (.exc (Str.ofString "InvalidBars") ns ds) := fun a0 a1 a2 a3 a4 a5 a8 a9 h => ⟨some (.lv [.bl false, .bl false, .bl false, .bl false, .bl false, .bl false, .bl false, .bl false, .bl false, .bl false, .bl true, .bl false, .bl false, .bl false, .bl false, .bl false, .bl false, .bl false, .bl false, .bl false, .bl false]), some (.bl true), by kernel_rfl⟩
theorem goes_11 (ns : List Str) (ds : List Dt) : Goes 11 (.exc (Str.ofString "InvalidCells") ns ds) := fun a0 a1 a2 a3 a4 a5 a8 a9 h => ⟨some (.lv [.bl false, .bl false, .bl false, .bl false, .bl false, .bl false, .bl false, .bl false, .bl false, .bl false, .bl false, .bl true, .bl false, .bl false, .bl false, .bl false, .bl false, .bl false, .bl false, .bl false, .bl false]), some (.bl true), by kernel_rfl⟩
theorem goes_12 (ns : List Str) (ds : List Dt) : Goes 12 (.exc (Str.ofString "NotClosed") ns ds) := fun a0 a1 a2 a3 a4 a5 a8 a9 h => ⟨some (.lv [.bl false, .bl false, .bl false, .bl false, .bl false, .bl false, .bl false, .bl false, .bl false, .bl false, .bl false, .bl false, .bl true, .bl false, .bl false, .bl false, .bl false, .bl false, .bl false, .bl false, .bl false]), some (.bl false), by kernel_rfl⟩
theorem goes_13 (ns : List Str) (ds : List Dt) : Goes 13 (.exc (Str.ofString "Touches") ns ds) := fun a0 a1 a2 a3 a4 a5 a8 a9 h => ⟨some (.lv [.bl false, .bl false, .bl false, .bl false, .bl false, .bl false, .bl false, .bl false, .bl false, .bl false, .bl false, .bl false, .bl false, .bl true, .bl false, .bl false, .bl false, .bl false, .bl false, .bl false, .bl false]), some (.bl false), by kernel_rfl⟩
theorem goes_14 (ns : List Str) (ds : List Dt) : Goes 14 (.exc (Str.ofString "NotTurned") ns ds) := fun a0 a1 a2 a3 a4 a5 a8 a9 h => ⟨some (.lv [.bl false, .bl false, .bl false, .bl false, .bl false, .bl false, .bl false, .bl false, .bl false, .bl false, .bl false, .bl false, .bl false, .bl false, .bl true, .bl false, .bl false, .bl false, .bl false, .bl false, .bl false]), some (.bl false), by kernel_rfl⟩
theorem goes_15 (ns : List Str) (ds : List Dt) : Goes 15 (.exc (Str.ofString "NotFacing") ns ds) := fun a0 a1 a2 a3 a4 a5 a8 a9 h => ⟨some (.lv [.bl false, .bl false, .bl false, .bl false, .bl false, .bl false, .bl false, .bl false, .bl false, .bl false, .bl false, .bl false, .bl false, .bl false, .bl false, .bl true, .bl false, .bl false, .bl false, .bl false, .bl false]), some (.bl false), by kernel_rfl⟩
theorem goes_16 (ns : List Str) (ds : List Dt) : Goes 16 (.exc (Str.ofString "NotOneRim") ns ds) := fun a0 a1 a2 a3 a4 a5 a8 a9 h => ⟨some (.lv [.bl false, .bl false, .bl false, .bl false, .bl false, .bl false, .bl false, .bl false, .bl false, .bl false, .bl false, .bl false, .bl false, .bl false, .bl false, .bl false, .bl true, .bl false, .bl false, .bl false, .bl false]), some (.bl false), by kernel_rfl⟩
theorem goes_17 (ns : List Str) (ds : List Dt) : Goes 17 (.exc (Str.ofString "TooMany") ns ds) := fun a0 a1 a2 a3 a4 a5 a8 a9 h => ⟨some (.lv [.bl false, .bl false, .bl false, .bl false, .bl false, .bl false, .bl false, .bl false, .bl false, .bl false, .bl false, .bl false, .bl false, .bl false, .bl false, .bl false, .bl false, .bl true, .bl false, .bl false, .bl false]), some (.bl false), by kernel_rfl⟩
theorem goes_18 (ns : List Str) (ds : List Dt) : Goes 18 (.exc (Str.ofString "Broken") ns ds) := fun a0 a1 a2 a3 a4 a5 a8 a9 h => ⟨some (.lv [.bl false, .bl false, .bl false, .bl false, .bl false, .bl false, .bl false, .bl false, .bl false, .bl false, .bl false, .bl false, .bl false, .bl false, .bl false, .bl false, .bl false, .bl false, .bl true, .bl false, .bl false]), some (.bl false), by kernel_rfl⟩
theorem goes_19 (ns : List Str) (ds : List Dt) : Goes 19 (.exc (Str.ofString "InUse") ns ds) := fun a0 a1 a2 a3 a4 a5 a8 a9 h => ⟨some (.lv [.bl false, .bl false, .bl false, .bl false, .bl false, .bl false, .bl false, .bl false, .bl false, .bl false, .bl false, .bl false, .bl false, .bl false, .bl false, .bl false, .bl false, .bl false, .bl false, .bl true, .bl false]), some (.bl false), by kernel_rfl⟩
theorem goes_20 (ns : List Str) (ds : List Dt) : Goes 20 (.exc (Str.ofString "NothingToUndo") ns ds) := fun a0 a1 a2 a3 a4 a5 a8 a9 h => ⟨some (.lv [.bl false, .bl false, .bl false, .bl false, .bl false, .bl false, .bl false, .bl false, .bl false, .bl false, .bl false, .bl false, .bl false, .bl false, .bl false, .bl false, .bl false, .bl false, .bl false, .bl false, .bl true]), some (.bl false), by kernel_rfl⟩
def all2 (x : Dt) : List Dt := l1 x ++ l2 x
theorem goes_all (x : Dt) : ∀ k d, (all2 x)[k]? = some d → ∃ e, d = .tup [e, e] ∧ Goes k e
  | 0, _, h => by cases h; exact ⟨_, rfl, goes_0 _ _⟩
  | 1, _, h => by cases h; exact ⟨_, rfl, goes_1 _ _⟩
  | 2, _, h => by cases h; exact ⟨_, rfl, goes_2 _ _⟩
  | 3, _, h => by cases h; exact ⟨_, rfl, goes_3 _ _⟩
  | 4, _, h => by cases h; exact ⟨_, rfl, goes_4 _ _⟩
  | 5, _, h => by cases h; exact ⟨_, rfl, goes_5 _ _⟩
  | 6, _, h => by cases h; exact ⟨_, rfl, goes_6 _ _⟩
  | 7, _, h => by cases h; exact ⟨_, rfl, goes_7 _ _⟩
  | 8, _, h => by cases h; exact ⟨_, rfl, goes_8 _ _⟩
  | 9, _, h => by cases h; exact ⟨_, rfl, goes_9 _ _⟩
  | 10, _, h => by cases h; exact ⟨_, rfl, goes_10 _ _⟩
  | 11, _, h => by cases h; exact ⟨_, rfl, goes_11 _ _⟩
  | 12, _, h => by cases h; exact ⟨_, rfl, goes_12 _ _⟩
  | 13, _, h => by cases h; exact ⟨_, rfl, goes_13 _ _⟩
  | 14, _, h => by cases h; exact ⟨_, rfl, goes_14 _ _⟩
  | 15, _, h => by cases h; exact ⟨_, rfl, goes_15 _ _⟩
  | 16, _, h => by cases h; exact ⟨_, rfl, goes_16 _ _⟩
  | 17, _, h => by cases h; exact ⟨_, rfl, goes_17 _ _⟩
  | 18, _, h => by cases h; exact ⟨_, rfl, goes_18 _ _⟩
  | 19, _, h => by cases h; exact ⟨_, rfl, goes_19 _ _⟩
  | 20, _, h => by cases h; exact ⟨_, rfl, goes_20 _ _⟩
  | k + 21, d, h => by
    have : (all2 x).length = 21 := rfl
    rw [List.getElem?_eq_none (by omega)] at h
    cases h
end Mo
set_option Elab.async false
set_option linter.all false
set_option maxRecDepth 100000
set_option maxHeartbeats 4000000
/-! PyB01: k01, plain part: fields kept, all errors looked at (printed by plain01.py). -/
namespace Mo
open PySem L2
theorem szl {n : Nat} (h : n ≤ 1000) : n ≤ sizeLine := by rw [sizeLine_eq]; omega
theorem ok_pick {h : Ah} {Q : Dt → Ah → Prop} {env : En} {i : Nat} {d : Dt} (e : env[i]? = some (some d)) : Ok (var i env) h Q ↔ Q d h := by simp [e]
theorem ok_addLv {h : Ah} {Q : Dt → Ah → Prop} {a b : List Dt} : Ok (opAdd (.lv a) (.lv b)) h Q ↔ a.length + b.length ≤ sizeLine ∧ Q (.lv (a ++ b)) h := by
  unfold Ok opAdd
  by_cases c : a.length + b.length ≤ sizeLine <;> simp [lstT, c]
theorem it7 (e : Dt) (a0 a1 a2 a3 a4 a6 a7 a8 a9 : Option Dt) (h : Ah) : itT (var 5) [a0, a1, a2, a3, a4, some (.tup [e, e]), a6, a7, a8, a9] h = .ok [e, e] h := by kernel_rfl
def k1 (x : Dt) : List Dt := [.tup [.exc (Str.ofString "InvalidText") [Str.ofString "given"] [x], .exc (Str.ofString "InvalidText") [Str.ofString "given"] [x]], .tup [.exc (Str.ofString "InvalidNumber") [Str.ofString "given"] [x], .exc (Str.ofString "InvalidNumber") [Str.ofString "given"] [x]], .tup [.exc (Str.ofString "InvalidName") [Str.ofString "given"] [x], .exc (Str.ofString "InvalidName") [Str.ofString "given"] [x]], .tup [.exc (Str.ofString "InvalidIndex") [Str.ofString "given"] [x], .exc (Str.ofString "InvalidIndex") [Str.ofString "given"] [x]], .tup [.exc (Str.ofString "InvalidClaim") [Str.ofString "given"] [x], .exc (Str.ofString "InvalidClaim") [Str.ofString "given"] [x]], .tup [.exc (Str.ofString "InvalidCell") [Str.ofString "given"] [x], .exc (Str.ofString "InvalidCell") [Str.ofString "given"] [x]], .tup [.exc (Str.ofString "InvalidBar") [Str.ofString "given"] [x], .exc (Str.ofString "InvalidBar") [Str.ofString "given"] [x]], .tup [.exc (Str.ofString "UnknownName") [Str.ofString "given"] [x], .exc (Str.ofString "UnknownName") [Str.ofString "given"] [x]], .tup [.exc (Str.ofString "NotALine") [Str.ofString "given"] [x], .exc (Str.ofString "NotALine") [Str.ofString "given"] [x]], .tup [.exc (Str.ofString "NotABoard") [Str.ofString "given"] [x], .exc (Str.ofString "NotABoard") [Str.ofString "given"] [x]], .tup [.exc (Str.ofString "NotTurned") [Str.ofString "given"] [x], .exc (Str.ofString "NotTurned") [Str.ofString "given"] [x]]]
def k2 (x : Dt) : List Dt := [.tup [.exc (Str.ofString "InvalidBars") [Str.ofString "index"] [x], .exc (Str.ofString "InvalidBars") [Str.ofString "index"] [x]], .tup [.exc (Str.ofString "InvalidCells") [Str.ofString "index"] [x], .exc (Str.ofString "InvalidCells") [Str.ofString "index"] [x]], .tup [.exc (Str.ofString "Broken") [Str.ofString "told", Str.ofString "index"] [.int 1, x], .exc (Str.ofString "Broken") [Str.ofString "told", Str.ofString "index"] [.int 1, x]], .tup [.exc (Str.ofString "InUse") [Str.ofString "index"] [x], .exc (Str.ofString "InUse") [Str.ofString "index"] [x]]]
def k3 (x : Dt) : List Dt := [.tup [.exc (Str.ofString "NotClosed") [Str.ofString "place"] [x], .exc (Str.ofString "NotClosed") [Str.ofString "place"] [x]], .tup [.exc (Str.ofString "Touches") [Str.ofString "place"] [x], .exc (Str.ofString "Touches") [Str.ofString "place"] [x]]]
def k4 (x : Dt) : List Dt := [.exc (Str.ofString "TooMany") [Str.ofString "number"] [x], .exc (Str.ofString "TooMany") [Str.ofString "number"] [x]]
def k5 (x : Dt) : List Dt := [.exc (Str.ofString "Broken") [Str.ofString "told", Str.ofString "index"] [.int 1, x], .exc (Str.ofString "Broken") [Str.ofString "told", Str.ofString "index"] [.int 1, x]]
theorem it1 (x : Dt) (a0 a1 a4 a5 a6 a7 a8 a9 : Option Dt) (h : Ah) : (itL (op2 opAdd (slc slD (var 2) opN (opS (con (.int 10)))) (slc slD (var 3) (opS (con (.int 2))) (opS (con (.int 3)))))) [a0, a1, some (.lv (l1 x)), some (.lv (l2 x)), a4, a5, a6, a7, a8, a9] h = .ok (k1 x) h := by kernel_rfl
theorem it2 (x : Dt) (a0 a1 a4 a5 a6 a7 a8 a9 : Option Dt) (h : Ah) : (itL (op2 opAdd (slc slD (var 2) (opS (con (.int 10))) opN) (slc slD (var 3) (opS (con (.int 6))) (opS (con (.int 8)))))) [a0, a1, some (.lv (l1 x)), some (.lv (l2 x)), a4, a5, a6, a7, a8, a9] h = .ok (k2 x) h := by kernel_rfl
theorem it3 (x : Dt) (a0 a1 a4 a5 a6 a7 a8 a9 : Option Dt) (h : Ah) : (itL (slc slD (var 3) opN (opS (con (.int 2))))) [a0, a1, some (.lv (l1 x)), some (.lv (l2 x)), a4, a5, a6, a7, a8, a9] h = .ok (k3 x) h := by kernel_rfl
theorem it4 (x : Dt) (a0 a1 a4 a5 a6 a7 a8 a9 : Option Dt) (h : Ah) : (itT (op2 ixM (var 3) (con (.int 5)))) [a0, a1, some (.lv (l1 x)), some (.lv (l2 x)), a4, a5, a6, a7, a8, a9] h = .ok (k4 x) h := by kernel_rfl
theorem it5 (x : Dt) (a0 a1 a4 a5 a6 a7 a8 a9 : Option Dt) (h : Ah) : (itT (op2 ixM (var 3) (con (.int 6)))) [a0, a1, some (.lv (l1 x)), some (.lv (l2 x)), a4, a5, a6, a7, a8, a9] h = .ok (k5 x) h := by kernel_rfl
theorem it6 (x : Dt) (a0 a1 a4 a5 a6 a7 a8 a9 : Option Dt) (h : Ah) : (itEL (argC (op2 opAdd (var 2) (var 3)) argN)) [a0, a1, some (.lv (l1 x)), some (.lv (l2 x)), a4, a5, a6, a7, a8, a9] h = .ok (enumD 0 (all2 x)) h := by kernel_rfl
theorem gv1 (x : Dt) (a0 a1 a2 a3 a4 a6 a7 a8 a9 : Option Dt) : ∀ d ∈ k1 x, Gv ((lstE (argC (xfld K51.cs_given (Str.ofString "given") (op2 ixM (var 5) (con (.int 0)))) (argC (xfld K51.cs_given (Str.ofString "given") (op2 ixM (var 5) (con (.int 1)))) argN))) [a0, a1, a2, a3, a4, some d, a6, a7, a8, a9]) (.lv [x, x]) := fun d hd => by
  simp only [k1, List.mem_cons, List.not_mem_nil, or_false] at hd
  rcases hd with e | e | e | e | e | e | e | e | e | e | e
  · subst e; exact fun h => ⟨[], by rw [List.append_nil]; kernel_rfl⟩
  · subst e; exact fun h => ⟨[], by rw [List.append_nil]; kernel_rfl⟩
  · subst e; exact fun h => ⟨[], by rw [List.append_nil]; kernel_rfl⟩
  · subst e; exact fun h => ⟨[], by rw [List.append_nil]; kernel_rfl⟩
  · subst e; exact fun h => ⟨[], by rw [List.append_nil]; kernel_rfl⟩
  · subst e; exact fun h => ⟨[], by rw [List.append_nil]; kernel_rfl⟩
  · subst e; exact fun h => ⟨[], by rw [List.append_nil]; kernel_rfl⟩
  · subst e; exact fun h => ⟨[], by rw [List.append_nil]; kernel_rfl⟩
  · subst e; exact fun h => ⟨[], by rw [List.append_nil]; kernel_rfl⟩
  · subst e; exact fun h => ⟨[], by rw [List.append_nil]; kernel_rfl⟩
  · subst e; exact fun h => ⟨[], by rw [List.append_nil]; kernel_rfl⟩
theorem gv2 (x : Dt) (a0 a1 a2 a3 a4 a6 a7 a8 a9 : Option Dt) : ∀ d ∈ k2 x, Gv ((lstE (argC (xfld K51.cs_index (Str.ofString "index") (op2 ixM (var 5) (con (.int 0)))) (argC (xfld K51.cs_index (Str.ofString "index") (op2 ixM (var 5) (con (.int 1)))) argN))) [a0, a1, a2, a3, a4, some d, a6, a7, a8, a9]) (.lv [x, x]) := fun d hd => by
  simp only [k2, List.mem_cons, List.not_mem_nil, or_false] at hd
  rcases hd with e | e | e | e
  · subst e; exact fun h => ⟨[], by rw [List.append_nil]; kernel_rfl⟩
  · subst e; exact fun h => ⟨[], by rw [List.append_nil]; kernel_rfl⟩
  · subst e; exact fun h => ⟨[], by rw [List.append_nil]; kernel_rfl⟩
  · subst e; exact fun h => ⟨[], by rw [List.append_nil]; kernel_rfl⟩
theorem gv3 (x : Dt) (a0 a1 a2 a3 a4 a6 a7 a8 a9 : Option Dt) : ∀ d ∈ k3 x, Gv ((lstE (argC (xfld K51.cs_place (Str.ofString "place") (op2 ixM (var 5) (con (.int 0)))) (argC (xfld K51.cs_place (Str.ofString "place") (op2 ixM (var 5) (con (.int 1)))) argN))) [a0, a1, a2, a3, a4, some d, a6, a7, a8, a9]) (.lv [x, x]) := fun d hd => by
  simp only [k3, List.mem_cons, List.not_mem_nil, or_false] at hd
  rcases hd with e | e
  · subst e; exact fun h => ⟨[], by rw [List.append_nil]; kernel_rfl⟩
  · subst e; exact fun h => ⟨[], by rw [List.append_nil]; kernel_rfl⟩
theorem gv4 (x : Dt) (a0 a1 a2 a3 a4 a5 a7 a8 a9 : Option Dt) : ∀ d ∈ k4 x, Gv ((xfld K51.cs_number (Str.ofString "number") (var 6)) [a0, a1, a2, a3, a4, a5, some d, a7, a8, a9]) (x) := fun d hd => by
  simp only [k4, List.mem_cons, List.not_mem_nil, or_false] at hd
  rcases hd with e | e
  · subst e; exact fun h => ⟨[], by rw [List.append_nil]; kernel_rfl⟩
  · subst e; exact fun h => ⟨[], by rw [List.append_nil]; kernel_rfl⟩
theorem gv5 (x : Dt) (a0 a1 a2 a3 a4 a5 a7 a8 a9 : Option Dt) : ∀ d ∈ k5 x, Gv ((xfld K51.cs_told (Str.ofString "told") (var 6)) [a0, a1, a2, a3, a4, a5, some d, a7, a8, a9]) (.int 1) := fun d hd => by
  simp only [k5, List.mem_cons, List.not_mem_nil, or_false] at hd
  rcases hd with e | e
  · subst e; exact fun h => ⟨[], by rw [List.append_nil]; kernel_rfl⟩
  · subst e; exact fun h => ⟨[], by rw [List.append_nil]; kernel_rfl⟩
theorem enum_all (x : Dt) : ∀ d ∈ enumD 0 (all2 x), ∃ (k : Nat) (e : Dt), d = .tup [.int (k : Nat), .tup [e, e]] ∧ Goes k e := fun d hd => by
  have e0 : enumD 0 (all2 x) = [.tup [.int ((0 : Nat) : Int), .tup [.exc (Str.ofString "InvalidText") [Str.ofString "given"] [x], .exc (Str.ofString "InvalidText") [Str.ofString "given"] [x]]], .tup [.int ((1 : Nat) : Int), .tup [.exc (Str.ofString "InvalidNumber") [Str.ofString "given"] [x], .exc (Str.ofString "InvalidNumber") [Str.ofString "given"] [x]]], .tup [.int ((2 : Nat) : Int), .tup [.exc (Str.ofString "InvalidName") [Str.ofString "given"] [x], .exc (Str.ofString "InvalidName") [Str.ofString "given"] [x]]], .tup [.int ((3 : Nat) : Int), .tup [.exc (Str.ofString "InvalidIndex") [Str.ofString "given"] [x], .exc (Str.ofString "InvalidIndex") [Str.ofString "given"] [x]]], .tup [.int ((4 : Nat) : Int), .tup [.exc (Str.ofString "InvalidClaim") [Str.ofString "given"] [x], .exc (Str.ofString "InvalidClaim") [Str.ofString "given"] [x]]], .tup [.int ((5 : Nat) : Int), .tup [.exc (Str.ofString "InvalidCell") [Str.ofString "given"] [x], .exc (Str.ofString "InvalidCell") [Str.ofString "given"] [x]]], .tup [.int ((6 : Nat) : Int), .tup [.exc (Str.ofString "InvalidBar") [Str.ofString "given"] [x], .exc (Str.ofString "InvalidBar") [Str.ofString "given"] [x]]], .tup [.int ((7 : Nat) : Int), .tup [.exc (Str.ofString "UnknownName") [Str.ofString "given"] [x], .exc (Str.ofString "UnknownName") [Str.ofString "given"] [x]]], .tup [.int ((8 : Nat) : Int), .tup [.exc (Str.ofString "NotALine") [Str.ofString "given"] [x], .exc (Str.ofString "NotALine") [Str.ofString "given"] [x]]], .tup [.int ((9 : Nat) : Int), .tup [.exc (Str.ofString "NotABoard") [Str.ofString "given"] [x], .exc (Str.ofString "NotABoard") [Str.ofString "given"] [x]]], .tup [.int ((10 : Nat) : Int), .tup [.exc (Str.ofString "InvalidBars") [Str.ofString "index"] [x], .exc (Str.ofString "InvalidBars") [Str.ofString "index"] [x]]], .tup [.int ((11 : Nat) : Int), .tup [.exc (Str.ofString "InvalidCells") [Str.ofString "index"] [x], .exc (Str.ofString "InvalidCells") [Str.ofString "index"] [x]]], .tup [.int ((12 : Nat) : Int), .tup [.exc (Str.ofString "NotClosed") [Str.ofString "place"] [x], .exc (Str.ofString "NotClosed") [Str.ofString "place"] [x]]], .tup [.int ((13 : Nat) : Int), .tup [.exc (Str.ofString "Touches") [Str.ofString "place"] [x], .exc (Str.ofString "Touches") [Str.ofString "place"] [x]]], .tup [.int ((14 : Nat) : Int), .tup [.exc (Str.ofString "NotTurned") [Str.ofString "given"] [x], .exc (Str.ofString "NotTurned") [Str.ofString "given"] [x]]], .tup [.int ((15 : Nat) : Int), .tup [.exc (Str.ofString "NotFacing") [] [], .exc (Str.ofString "NotFacing") [] []]], .tup [.int ((16 : Nat) : Int), .tup [.exc (Str.ofString "NotOneRim") [] [], .exc (Str.ofString "NotOneRim") [] []]], .tup [.int ((17 : Nat) : Int), .tup [.exc (Str.ofString "TooMany") [Str.ofString "number"] [x], .exc (Str.ofString "TooMany") [Str.ofString "number"] [x]]], .tup [.int ((18 : Nat) : Int), .tup [.exc (Str.ofString "Broken") [Str.ofString "told", Str.ofString "index"] [.int 1, x], .exc (Str.ofString "Broken") [Str.ofString "told", Str.ofString "index"] [.int 1, x]]], .tup [.int ((19 : Nat) : Int), .tup [.exc (Str.ofString "InUse") [Str.ofString "index"] [x], .exc (Str.ofString "InUse") [Str.ofString "index"] [x]]], .tup [.int ((20 : Nat) : Int), .tup [.exc (Str.ofString "NothingToUndo") [] [], .exc (Str.ofString "NothingToUndo") [] []]]] := rfl
  rw [e0] at hd
  simp only [List.mem_cons, List.not_mem_nil, or_false] at hd
  rcases hd with e | e | e | e | e | e | e | e | e | e | e | e | e | e | e | e | e | e | e | e | e
  · exact ⟨0, _, e, goes_0 _ _⟩
  · exact ⟨1, _, e, goes_1 _ _⟩
  · exact ⟨2, _, e, goes_2 _ _⟩
  · exact ⟨3, _, e, goes_3 _ _⟩
  · exact ⟨4, _, e, goes_4 _ _⟩
  · exact ⟨5, _, e, goes_5 _ _⟩
  · exact ⟨6, _, e, goes_6 _ _⟩
  · exact ⟨7, _, e, goes_7 _ _⟩
  · exact ⟨8, _, e, goes_8 _ _⟩
  · exact ⟨9, _, e, goes_9 _ _⟩
  · exact ⟨10, _, e, goes_10 _ _⟩
  · exact ⟨11, _, e, goes_11 _ _⟩
  · exact ⟨12, _, e, goes_12 _ _⟩
  · exact ⟨13, _, e, goes_13 _ _⟩
  · exact ⟨14, _, e, goes_14 _ _⟩
  · exact ⟨15, _, e, goes_15 _ _⟩
  · exact ⟨16, _, e, goes_16 _ _⟩
  · exact ⟨17, _, e, goes_17 _ _⟩
  · exact ⟨18, _, e, goes_18 _ _⟩
  · exact ⟨19, _, e, goes_19 _ _⟩
  · exact ⟨20, _, e, goes_20 _ _⟩
end Mo
set_option Elab.async false
set_option linter.all false
set_option maxRecDepth 100000
set_option maxHeartbeats 4000000
/-! PyT01: k01, the values drawn. -/
namespace Mo
open PySem L2
def things : List Dt := [.non, .bl true, .int 0, .int (-(10 ^ (30 : Int).toNat)), .str (Str.ofString ""), .str (Str.ofString "a"), .str (Str.ofString "e1 n1"), .tup [], .tup [.str (Str.ofString "a"), .tup [.str (Str.ofString "b"), .int 1]], .lv [], .lv [.lv [.str (Str.ofString "a")]], .dk [] [], .dk [.inr (Str.ofString "a")] [.tup []]]
def q18 (p : PyData) : PyData := .list (List.replicate 18 (.list [p, p]))
theorem rep_all {q : PyData} (h1 : q.showable = true) (h3 : q.leavesShort 1921 = true) : ∀ n, PyData.showableAll (List.replicate n q) = true ∧ PyData.leavesShortAll 1921 (List.replicate n q) = true ∧ PyData.depthAll (List.replicate n q) ≤ q.depth ∧ PyData.bulkAll (List.replicate n q) = n * (q.bulk + 1)
  | 0 => ⟨rfl, rfl, Nat.zero_le _, by simp [PyData.bulkAll]⟩
  | n + 1 => by
    obtain ⟨a, b, c, d⟩ := rep_all h1 h3 n
    rw [List.replicate_succ]
    refine ⟨by simp only [PyData.showableAll, h1, a, Bool.and_self], by simp only [PyData.leavesShortAll, h3, b, Bool.and_self], by simp only [PyData.depthAll]; omega, ?_⟩
    simp only [PyData.bulkAll, d, Nat.succ_mul]
    omega
theorem show18 {p : PyData} (h1 : p.showable = true) (h2 : p.depth ≤ 10) (h3 : p.leavesShort 1921 = true) (h4 : p.bulk ≤ 100) : showQ (q18 p) = true := by
  have a1 : PyData.showable (.list [p, p]) = true := by simp only [PyData.showable, PyData.showableAll, h1, Bool.and_self]
  have a2 : PyData.leavesShort 1921 (.list [p, p]) = true := by
    rw [PyData.leavesShort]
    simp only [PyData.leavesShortAll, h3, Bool.and_self]
  have a3 : PyData.depth (.list [p, p]) ≤ 11 := by
    have : PyData.depth (.list [p, p]) = max p.depth (max p.depth 0) + 1 := by simp only [PyData.depth, PyData.depthAll]
    omega
  have a4 : PyData.bulk (.list [p, p]) ≤ 202 := by
    have : PyData.bulk (.list [p, p]) = p.bulk + 1 + (p.bulk + 1 + 0) := by simp only [PyData.bulk, PyData.bulkAll]
    omega
  obtain ⟨b1, b2, b3, b4⟩ := rep_all a1 a2 18
  have c1 : PyData.showable (q18 p) = true := by unfold q18; rw [PyData.showable]; exact b1
  have c2 : PyData.leavesShort 1921 (q18 p) = true := by unfold q18; rw [PyData.leavesShort]; exact b2
  have c3 : PyData.depth (q18 p) ≤ 60 := by
    have : PyData.depth (q18 p) = PyData.depthAll (List.replicate 18 (.list [p, p])) + 1 := by unfold q18; rw [PyData.depth]
    omega
  have c4 : PyData.bulk (q18 p) ≤ 4000 := by
    have : PyData.bulk (q18 p) = PyData.bulkAll (List.replicate 18 (.list [p, p])) := by unfold q18; rw [PyData.bulk]
    omega
  have c5 := PyData.shown_le_bulk 1921 (by decide) (q18 p) c2
  have c6 : (1921 + 2) * PyData.bulk (q18 p) ≤ (1921 + 2) * 4000 := Nat.mul_le_mul_left _ c4
  unfold showQ
  rw [c1, decide_eq_true c3, decide_eq_true (by rw [sizeLine_eq]; omega)]
  rfl
theorem things_ok : ∀ x ∈ things, ∃ p, toQ x = some p ∧ showQ (q18 p) = true := fun x hx => by
  simp only [things, List.mem_cons, List.not_mem_nil, or_false] at hx
  rcases hx with e | e | e | e | e | e | e | e | e | e | e | e | e <;> subst e <;> exact ⟨_, rfl, show18 (by decide +kernel) (by decide +kernel) (by decide +kernel) (by decide +kernel)⟩
end Mo
set_option Elab.async false
set_option linter.all false
set_option maxRecDepth 100000
set_option maxHeartbeats 4000000
/-! PyC01: k01, the law. -/
namespace Mo
open PySem L2
/-- at r a purse -/
structure Pur (h : Ah) (r : Nat) : Prop where
  ex : ∃ g s : Int, lstAt h r = some [.int g, .int s] ∧ 0 ≤ g ∧ 0 ≤ s ∧ s < 2147483647
theorem draw_ok {h : Ah} {r : Nat} {many : Int} (R : Pur h r) (h1 : 0 < many) (h2 : many < 1073741824) :
    Ok (K51.f__law_draw [.obj r, .int many]) h fun d h' => ∃ k : Int, d = .int k ∧ 0 ≤ k ∧ k < many ∧ ∃ o, h' = h.set r o := by
  obtain ⟨g, s, e, g0, s0, s1⟩ := R.ex
  have l := lstAt_lt e
  have q2 : s.natAbs.log2 < 32 := log2_lt (by omega) (by omega)
  have q3 : Nat.log2 48271 = 15 := by decide
  rw [K51.f__law_draw, ok_fnM]
  simp only [K51.m__law_draw]
  by_cases hg : 0 < g
  · simp [hg, e, atI, ixN, lstAt_set, l, h1, h2]
    exact ⟨Int.emod_nonneg _ (by omega), Int.emod_lt_of_pos _ h1, _, rfl⟩
  · simp [hg, e, atI, ixN, lstAt_set, l, h1, h2, q3]
    exact ⟨by omega, Int.emod_nonneg _ (by omega), Int.emod_lt_of_pos _ h1, _, rfl⟩
def thL : En → Mm Dt := lstE (argC (con .non) (argC (con (.bl true)) (argC (con (.int 0)) (argC (op1 unNeg (op2 opPow (con (.int 10)) (con (.int 30)))) (argC (con (.str (Str.ofString ""))) (argC (con (.str (Str.ofString "a"))) (argC (con (.str (Str.ofString "e1 n1"))) (argC (tupE argN) (argC (tupE (argC (con (.str (Str.ofString "a"))) (argC (tupE (argC (con (.str (Str.ofString "b"))) (argC (con (.int 1)) argN))) argN))) (argC (lstE argN) (argC (lstE (argC (lstE (argC (con (.str (Str.ofString "a"))) argN)) argN)) (argC dnewV (argC (dispM [((con (.str (Str.ofString "a"))), (tupE argN))]) argN)))))))))))))
theorem disp_gv {env : En} {a : Str} : Gv (dispM [((con (.str a)), (tupE argN))] env) (.dk [.inr a] [.tup []]) := gv_of fun h => by
  show Ok (newO (.dk [] []) >>= fun n => pairsM [((con (.str a)), (tupE argN))] env >>= fun ps => finD n ps) h _
  rw [ok_bind]
  refine ok_of (a := h.length) (h' := h ++ [.dk [] []]) rfl ?_
  rw [ok_bind]
  refine ok_of (a := [(.str a, .tup [])]) (h' := h ++ [.dk [] []]) (by kernel_rfl) ?_
  exact ok_of (a := .dk [.inr a] [.tup []]) (h' := h ++ [.dead]) (by simp [finD, keysD, keyD]) ⟨rfl, _, rfl⟩
theorem Pur.app {h : Ah} {r : Nat} (R : Pur h r) (j : Ah) : Pur (h ++ j) r := by
  obtain ⟨g, s, h1, h2⟩ := R.ex
  exact ⟨g, s, lstAt_app h1 j, h2⟩
theorem ok_dnewV {h : Ah} {Q : Dt → Ah → Prop} {env : En} : Ok (dnewV env) h Q ↔ Q (.dk [] []) h := Iff.rfl
theorem thL_ok {a0 a1 : Option Dt} {h : Ah} {Q : Dt → Ah → Prop} (q : ∀ j, Q (.lv things) (h ++ j)) : Ok (thL [a0, a1]) h Q := by
  have s0 : (0 : Nat) ≤ sizeLine := szl (by simp)
  have s1 : (1 : Nat) ≤ sizeLine := szl (by simp)
  have s2 : (2 : Nat) ≤ sizeLine := szl (by simp)
  unfold thL
  simp only [ok_argC, ok_tupE, ok_argN, ok_con, ok_lstE, ok_dnewV, ok_op1, ok_op2, ok_powI, ok_negI, List.length_nil, List.length_cons, s0, s1, s2, true_and, Nat.zero_add, Nat.reduceAdd]
  refine ⟨by decide +kernel, disp_gv.ok fun j => ⟨szl (by simp), q j⟩⟩
theorem thing_ok {h : Ah} {r : Nat} (R : Pur h r) : Ok (K51.f__law_thing [.obj r]) h fun d h' => d ∈ things ∧ ∃ o j, h' = h.set r o ++ j := by
  rw [K51.f__law_thing, ok_fnM]
  simp only [K51.m__law_thing, List.map_cons, List.map_nil, List.length_cons, List.length_nil, List.replicate, List.cons_append, List.nil_append]
  rw [ok_seq, ok_sto]
  refine thL_ok fun j => ?_
  have hl : things.length = 13 := rfl
  generalize hT : things = T at *
  show Ok (ret _ [some (.obj r), some (.lv T)]) _ _
  rw [ok_ret, ok_op2, ok_pick (i := 1) (d := .lv T) rfl, ok_callM, ok_argC, ok_pick (i := 0) (d := .obj r) rfl, ok_argC, ok_con, ok_argN]
  refine ⟨rfl, (draw_ok (R.app j) (by decide) (by decide)).mono fun d h' ⟨k, e, k0, k1, o, e2⟩ => ?_⟩
  subst e e2
  rw [ok_ixLv]
  have := atI_nat (xs := T) (i := k.toNat) (by omega)
  rw [show ((k.toNat : Nat) : Int) = k by omega] at this
  obtain ⟨g, s, e, _⟩ := R.ex
  exact ⟨_, this, List.getElem_mem _, o, j, List.set_append_left _ _ (lstAt_lt e)⟩
theorem toQs_rep {y : Dt} {q : PyData} (e : toQ y = some q) : ∀ n, toQs (List.replicate n y) = some (List.replicate n q)
  | 0 => rfl
  | n + 1 => by
    rw [List.replicate_succ, List.replicate_succ]
    simp only [toQs, e, toQs_rep e n]
theorem repr18 {x : Dt} {p : PyData} (e : toQ x = some p) (hs : showQ (q18 p) = true) (h : Ah) : bReprQ [.lv (List.replicate 18 (.lv [x, x]))] h = .ok (.str (q18 p).shown) h := by
  have e1 : toQ (.lv [x, x]) = some (.list [p, p]) := by simp only [toQ, toQs, e]
  have e2 : toQ (.lv (List.replicate 18 (.lv [x, x]))) = some (q18 p) := by
    show (match toQs (List.replicate 18 (.lv [x, x])) with | some ps => some (PyData.list ps) | none => none) = _
    rw [toQs_rep e1]
    rfl
  unfold bReprQ
  simp only [e2, hs, if_true]
theorem mul18 (y : Dt) (h : Ah) : opMul (.lv [y]) (.int 18) h = .ok (.lv (List.replicate 18 y)) h := by kernel_rfl
theorem ne11 (h : Ah) : opNe (.lv [.int 1, .int 1]) (.lv [.int 1, .int 1]) h = .ok (.bl false) h := by kernel_rfl
theorem right_ok {h : Ah} {r : Nat} (R : Pur h r) : Ok (K51.f__law_right [.obj r]) h fun d h' => d = .bl true ∧ ∃ o j, h' = h.set r o ++ j := by
  rw [K51.f__law_right, ok_fnM]
  simp only [K51.m__law_right, List.map_cons, List.map_nil, List.length_cons, List.length_nil, List.replicate, List.cons_append, List.nil_append]
  rw [ok_seq, ok_sto, ok_callM, ok_argC, ok_pick (i := 0) (d := .obj r) rfl, ok_argN]
  refine ⟨rfl, (thing_ok R).mono fun x h1 ⟨hx, o, j, e1⟩ => ?_⟩
  have fin : ∀ j2, ∃ o j, h1 ++ j2 = h.set r o ++ j := fun j2 => ⟨o, j ++ j2, by rw [e1, List.append_assoc]⟩
  clear e1
  obtain ⟨p, tp, sp⟩ := things_ok x hx
  clear hx
  show Ok (seq _ _ [some (.obj r), some x, none, none, none, none, none, none, none, none]) _ _
  rw [ok_seq, ok_par, ok_argC, ok_callM, ok_argC, ok_pick (i := 1) (d := x) rfl, ok_argN]
  refine ⟨rfl, ok_of (firsts_eq x h1) ?_⟩
  rw [ok_argC, ok_callM, ok_argC, ok_pick (i := 1) (d := x) rfl, ok_argN]
  refine ⟨rfl, ok_of (seconds_eq x h1) ?_⟩
  rw [ok_argN]
  refine ⟨_, _, rfl, ?_⟩
  have i1 := it1 x
  have i2 := it2 x
  have i3 := it3 x
  have i4 := it4 x
  have i5 := it5 x
  have i6 := it6 x
  generalize hV2 : Dt.lv (l1 x) = V2 at *
  generalize hV3 : Dt.lv (l2 x) = V3 at *
  show Ok (seq _ _ [some (.obj r), some x, some V2, some V3, none, none, none, none, none, none]) _ _
  rw [ok_seq, ok_sto]
  refine ok_lcA (k1 x) id (fun _ => .lv [x, x]) (ok_of (i1 _ _ _ _ _ _ _ _ h1) ⟨(List.map_id _).symm, szl (by simp [k1]), fun d hd => gv1 x _ _ _ _ _ _ _ _ _ d hd, fun j1 => ?_⟩)
  have e1 : (k1 x).map (fun _ => Dt.lv [x, x]) = List.replicate 11 (.lv [x, x]) := rfl
  rw [e1]
  generalize hK1 : Dt.lv (List.replicate 11 (.lv [x, x])) = K1
  show Ok (seq _ _ [some (.obj r), some x, some V2, some V3, some K1, none, none, none, none, none]) _ _
  rw [ok_seq, ok_sto, ok_op2, ok_pick (i := 4) (d := K1) rfl]
  refine ok_lcA (k2 x) id (fun _ => .lv [x, x]) (ok_of (i2 _ _ _ _ _ _ _ _ _) ⟨(List.map_id _).symm, szl (by simp [k2]), fun d hd => gv2 x _ _ _ _ _ _ _ _ _ d hd, fun j2 => ?_⟩)
  have e2 : (k2 x).map (fun _ => Dt.lv [x, x]) = List.replicate 4 (.lv [x, x]) := rfl
  rw [e2, ← hK1, ok_addLv]
  refine ⟨szl (by simp), ?_⟩
  have e3 : List.replicate 11 (Dt.lv [x, x]) ++ List.replicate 4 (.lv [x, x]) = List.replicate 15 (.lv [x, x]) := rfl
  rw [e3]
  clear hK1
  generalize hK1 : Dt.lv (List.replicate 15 (.lv [x, x])) = K1
  show Ok (seq _ _ [some (.obj r), some x, some V2, some V3, some K1, none, none, none, none, none]) _ _
  rw [ok_seq, ok_sto, ok_op2, ok_op2, ok_pick (i := 4) (d := K1) rfl]
  refine ok_lcA (k3 x) id (fun _ => .lv [x, x]) (ok_of (i3 _ _ _ _ _ _ _ _ _) ⟨(List.map_id _).symm, szl (by simp [k3]), fun d hd => gv3 x _ _ _ _ _ _ _ _ _ d hd, fun j3 => ?_⟩)
  have e4 : (k3 x).map (fun _ => Dt.lv [x, x]) = List.replicate 2 (.lv [x, x]) := rfl
  rw [e4, ← hK1, ok_addLv]
  refine ⟨szl (by simp), ?_⟩
  rw [ok_lstE, ok_argC]
  refine ok_lcA (k4 x) id (fun _ => x) (ok_of (i4 _ _ _ _ _ _ _ _ _) ⟨(List.map_id _).symm, szl (by simp [k4]), fun d hd => gv4 x _ _ _ _ _ _ _ _ _ d hd, fun j4 => ?_⟩)
  have e5 : (k4 x).map (fun _ => x) = [x, x] := rfl
  rw [e5, ok_argN]
  refine ⟨szl (by simp), ?_⟩
  rw [ok_addLv]
  refine ⟨szl (by simp), ?_⟩
  have e6 : List.replicate 15 (Dt.lv [x, x]) ++ List.replicate 2 (.lv [x, x]) ++ [.lv [x, x]] = List.replicate 18 (.lv [x, x]) := rfl
  rw [e6]
  clear hK1
  have re := repr18 tp sp
  have mu := mul18 (.lv [x, x])
  generalize hK2 : Dt.lv (List.replicate 18 (.lv [x, x])) = K2 at *
  show Ok (seq _ _ [some (.obj r), some x, some V2, some V3, some K2, none, none, none, none, none]) _ _
  rw [ok_seq, ok_ifS, ok_orT, ok_tst, ok_op2, ok_bi, ok_argC, ok_pick (i := 4) (d := K2) rfl, ok_argN]
  refine ok_of (re _) ?_
  rw [ok_bi, ok_argC, ok_op2, ok_lstE, ok_argC, ok_lstE, ok_argC, ok_pick (i := 1) (d := x) rfl, ok_argC, ok_pick (i := 1) (d := x) rfl, ok_argN]
  refine ⟨szl (by simp), ?_⟩
  rw [ok_argN]
  refine ⟨szl (by simp), ?_⟩
  rw [ok_con]
  refine ok_of (mu _) ?_
  rw [ok_argN]
  refine ok_of (re _) ?_
  rw [ok_neS, ok_isB, if_neg (by simp), ok_tst, ok_op2]
  refine ok_lcA (k5 x) id (fun _ => .int 1) (ok_of (i5 _ _ _ _ _ _ _ _ _) ⟨(List.map_id _).symm, szl (by simp [k5]), fun d hd => gv5 x _ _ _ _ _ _ _ _ _ d hd, fun j5 => ?_⟩)
  have e7 : (k5 x).map (fun _ => Dt.int 1) = [.int 1, .int 1] := rfl
  rw [e7, ok_lstE, ok_argC, ok_con, ok_argC, ok_con, ok_argN]
  refine ⟨szl (by simp), ?_⟩
  refine ok_of (ne11 _) ?_
  rw [ok_isB, if_neg (by simp), ok_nxt]
  dsimp only
  rw [ok_seq, ok_forM]
  refine ok_of (i6 _ _ _ _ _ _ _ _ _) ?_
  have ea := enum_all x
  generalize enumD 0 (all2 x) = DS at *
  refine forL_ind (fun ds env h' => (∀ d ∈ ds, ∃ (k : Nat) (e : Dt), d = .tup [.int (k : Nat), .tup [e, e]] ∧ Goes k e) ∧ (∃ j2, h' = h1 ++ j2) ∧ ∃ b5 b6 b7 b8 b9, env = [some (.obj r), some x, some V2, some V3, some K2, b5, b6, b7, b8, b9]) ?_ ?_ _ _ _ ⟨ea, ⟨j1 ++ (j2 ++ (j3 ++ (j4 ++ j5))), by simp only [List.append_assoc]⟩, _, _, _, _, _, rfl⟩
  · rintro y ys env h' ⟨hi, ⟨j6, rfl⟩, b5, b6, b7, b8, b9, rfl⟩
    obtain ⟨k, e, rfl, G⟩ := hi y (by simp)
    refine ⟨[some (.obj r), some x, some V2, some V3, some K2, some (.tup [e, e]), b6, some (.int (k : Nat)), b8, b9], by simp [Pat.bd, Pat.bds], ?_⟩
    rw [ok_forM]
    refine ok_of (it7 e _ _ _ _ _ _ _ _ _ _) ?_
    refine forL_ind (fun ds env h' => (∀ d ∈ ds, d = e) ∧ h' = h1 ++ j6 ∧ ∃ b6 b8 b9, env = [some (.obj r), some x, some V2, some V3, some K2, some (.tup [e, e]), b6, some (.int (k : Nat)), b8, b9]) ?_ ?_ _ _ _ ⟨fun d hd => by simpa using hd, rfl, _, _, _, rfl⟩
    · rintro z zs env h' ⟨hz, rfl, b6, b8, b9, rfl⟩
      have := hz z (by simp)
      subst this
      refine ⟨[some (.obj r), some x, some V2, some V3, some K2, some (.tup [z, z]), some z, some (.int (k : Nat)), b8, b9], by simp [Pat.bd], ?_⟩
      obtain ⟨c8, c9, eb⟩ := G (some (.obj r)) (some x) (some V2) (some V3) (some K2) (some (.tup [z, z])) b8 b9 (h1 ++ j6)
      exact ok_of eb ⟨fun d hd => hz d (by simp [hd]), rfl, _, _, _, rfl⟩
    · rintro env h' ⟨-, rfl, b6, b8, b9, rfl⟩
      exact ⟨fun d hd => hi d (by simp [hd]), ⟨_, rfl⟩, _, _, _, _, _, rfl⟩
  · rintro env h' ⟨-, ⟨j6, rfl⟩, b5, b6, b7, b8, b9, rfl⟩
    dsimp only
    rw [ok_ret, ok_con]
    exact ⟨rfl, fin j6⟩
end Mo
set_option Elab.async false
set_option linter.all false
set_option maxRecDepth 100000
set_option maxHeartbeats 4000000
/-! PyD01: k01, the law. -/
namespace Mo
open PySem L2
theorem cutD_len {xs : List Dt} {lo hi : Option Int} : (cutD xs lo hi).length ≤ xs.length := by
  unfold cutD
  simp only [List.length_take, List.length_drop]
  omega
def purM : En → Mm Fl := (seq (sto 3 (op2 opAdd (con (.int 619)) (var 1)))
    (seq (forM (itL (op2 opAdd (slc slD (var 0) opN (opS (con (.int 5)))) (lstE (argC (var 2) argN)))) (.nm 4) (sto 3 (op2 opMod (bi bInt (argC (op2 opAdd (op2 opAdd (op2 opMul (var 3) (con (.int 69621))) (op2 opMod (bi bInt (argC (var 4) argN)) (con (.int 2147483647)))) (con (.int 101))) argN)) (con (.int 2147483647)))))
    (ret (lstO (argC (ifE (tst (op2 opGe (bi bAbs (argC (var 2) argN)) (op2 opPow (con (.int 10)) (con (.int 18))))) (bi bAbs (argC (var 2) argN)) (con (.int 0))) (argC (var 3) argN))))))
theorem purM_ok {h : Ah} {ns : List Int} {t c : Int} (hn : ns.length ≤ 63) (h0 : 0 ≤ t) (h1 : t < 1000) : Ok (purM [some (.wl (ns.map Dt.int)), some (.int t), some (.int c), none, none]) h fun f h' => f = .rt (.obj h.length) ∧ ∃ o, h' = h ++ [o] ∧ Pur h' h.length := by
  unfold purM
  have hW : ∀ d ∈ cutD (ns.map Dt.int) none (some 5), ∃ i : Int, d = .int i := fun d hd => by
    obtain ⟨i, _, rfl⟩ := List.mem_map.mp (cutD_mem hd)
    exact ⟨i, rfl⟩
  have hc := cutD_len (xs := ns.map Dt.int) (lo := none) (hi := some 5)
  rw [List.length_map] at hc
  generalize hWW : ns.map Dt.int = W at *
  rw [ok_seq, ok_sto, ok_op2, ok_con, ok_pick (i := 1) (d := .int t) rfl, ok_addI]
  show Ok (seq _ _ [some (.wl W), some (.int t), some (.int c), some (.int (619 + t)), none]) _ _
  rw [ok_seq, ok_forM, ok_itL, ok_op2, ok_slc, ok_pick (i := 0) (d := .wl W) rfl, ok_opN, ok_opS, ok_con, ok_isI, ok_slWl, ok_lstE, ok_argC, ok_pick (i := 2) (d := .int c) rfl, ok_argN]
  refine ⟨szl (by simp), ?_⟩
  rw [ok_addLv]
  refine ⟨szl (by simp; omega), ?_⟩
  rw [ok_itemsLv]
  refine forL_ind (fun ds env h' => h' = h ∧ (∀ d ∈ ds, ∃ i : Int, d = .int i) ∧ ∃ (s : Int) (x : Option Dt), 0 ≤ s ∧ s < 2147483647 ∧ env = [some (.wl W), some (.int t), some (.int c), some (.int s), x]) ?_ ?_ _ _ _ ⟨rfl, fun d m => ?_, 619 + t, none, by omega, by omega, rfl⟩
  · rintro x xs env h' ⟨rfl, hm, s, y, s0, s1, rfl⟩
    obtain ⟨i, rfl⟩ := hm x (by simp)
    have q2 : s.natAbs.log2 < 32 := log2_lt (by omega) (by omega)
    have l2 : Nat.log2 69621 = 16 := by decide
    have m0 := Int.emod_nonneg (s * 69621 + i % 2147483647 + 101) (show (2147483647 : Int) ≠ 0 by decide)
    have m1 := Int.emod_lt_of_pos (s * 69621 + i % 2147483647 + 101) (show (0 : Int) < 2147483647 by decide)
    refine ⟨_, bd_nm, ?_⟩
    simp [l2]
    exact ⟨by omega, fun d m => hm d (by simp [m]), m0, m1⟩
  · rintro env h' ⟨rfl, -, s, y, s0, s1, rfl⟩
    dsimp only
    have len2 : ∀ g : Int, 0 ≤ g → Fl.rt (.obj h'.length) = .rt (.obj h'.length) ∧ ∃ o, h' ++ [Ao.lst [.int g, .int s]] = h' ++ [o] ∧ Pur (h' ++ [.lst [.int g, .int s]]) h'.length := fun g g0 => ⟨rfl, _, rfl, g, s, lstAt_new, g0, s0, s1⟩
    rw [ok_ret, ok_lstO, ok_argC, ok_ifE, ok_tst, ok_op2, ok_bi, ok_argC, ok_pick (i := 2) (d := .int c) rfl, ok_argN, ok_absI, ok_op2, ok_con, ok_con, ok_powI]
    refine ⟨by decide +kernel, ?_⟩
    generalize hg : (if c < 0 then -c else c) = g
    have g0 : 0 ≤ g := by rw [← hg]; split <;> omega
    rw [ok_geI, ok_isB]
    generalize decide (10 ^ Int.toNat 18 ≤ g) = b
    cases b
    · rw [if_neg (by simp), ok_con, ok_argC, ok_pick (i := 3) (d := .int s) rfl, ok_argN]
      exact ⟨szl (by simp), len2 0 (by omega)⟩
    · rw [if_pos rfl, ok_bi, ok_argC, ok_pick (i := 2) (d := .int c) rfl, ok_argN, ok_absI, hg, ok_argC, ok_pick (i := 3) (d := .int s) rfl, ok_argN]
      exact ⟨szl (by simp), len2 g g0⟩
  · rcases List.mem_append.mp m with m | m
    · exact hW d m
    · exact ⟨c, List.mem_singleton.mp m⟩
theorem purse_ok {h : Ah} {ns : List Int} {t : Int} (hn : ns.length ≤ 63) (h0 : 0 ≤ t) (h1 : t < 1000) : Ok (K51.f__law_purse [.wl (ns.map Dt.int), .int t]) h fun d h' => d = .obj h.length ∧ ∃ o, h' = h ++ [o] ∧ Pur h' h.length := by
  rw [K51.f__law_purse, ok_fnM]
  simp only [K51.m__law_purse, List.map_cons, List.map_nil, List.length_cons, List.length_nil, List.replicate, List.cons_append, List.nil_append]
  have main : ∀ c : Int, Ok (purM [some (.wl (ns.map Dt.int)), some (.int t), some (.int c), none, none]) h fun f h1 => match f with | .rt d => d = .obj h.length ∧ ∃ o, h1 = h ++ [o] ∧ Pur h1 h.length | .nx _ => Dt.non = .obj h.length ∧ ∃ o, h1 = h ++ [o] ∧ Pur h1 h.length | _ => False := fun c => (purM_ok hn h0 h1).mono fun f h2 ⟨e, q⟩ => by
    subst e
    exact ⟨rfl, q⟩
  unfold purM at main
  have at_ : t < ns.length → atI (ns.map Dt.int) t = some (.int (ns.getD t.toNat 0)) := fun c => by
    have := atI_nat (xs := ns.map Dt.int) (i := t.toNat) (by simp; omega)
    rw [show ((t.toNat : Nat) : Int) = t by omega] at this
    rw [this]
    simp [show t.toNat < ns.length by omega]
  have hl : (ns.map Dt.int).length = ns.length := by simp
  generalize ns.map Dt.int = W at *
  have q1 : (t + 5).natAbs.log2 < 32 := log2_lt (by omega) (by omega)
  have q2 : Nat.log2 6211 = 12 := by decide
  rw [ok_seq, ok_sto, ok_ifE, ok_tst, ok_op2, ok_pick (i := 1) (d := .int t) rfl, ok_bi, ok_argC, ok_pick (i := 0) (d := .wl W) rfl, ok_argN, ok_lenWl, ok_ltI, ok_isB, hl]
  by_cases c : t < ns.length
  · rw [if_pos (by simpa using c), ok_op2, ok_pick (i := 0) (d := .wl W) rfl, ok_pick (i := 1) (d := .int t) rfl, ok_ixWl]
    exact ⟨_, at_ c, main _⟩
  · rw [if_neg (by simpa using c), ok_op2, ok_con, ok_op2, ok_pick (i := 1) (d := .int t) rfl, ok_con, ok_addI, ok_mulI]
    exact ⟨by simp [q2]; omega, main _⟩
theorem all_true {h : Ah} {Q : Dt → Ah → Prop} {n : Nat} (q : Q (.bl true) h) : Ok (bAll [.lv ((List.range n).map fun _ => .bl true)]) h Q := by
  have e : ∀ l : List Nat, blsD (l.map fun _ => .bl true) = some (l.map fun _ => true) := by
    intro l
    induction l with
    | nil => rfl
    | cons a l ih => simp [blsD, ih]
  refine ok_of (a := .bl true) (h' := h) ?_ q
  simp [bAll, bFold, seqR, tupR, lstR, lstT, e]
theorem ok_itR1 {h : Ah} {env : En} {mr : En → Mm (List Dt)} {L : List Dt → Ah → Prop} : Ok (itR1 mr env) h L ↔ Ok (mr env) h fun ds h1 => ∃ j : Int, ds = [.int j] ∧ (-(2 ^ 62) ≤ j ∧ j < 2 ^ 62) ∧ L (rng 0 j.toNat 1) h1 := by
  simp only [itR1, ok_bind]
  refine ⟨fun o => o.mono fun ds h1 q => ?_, fun o => o.mono fun ds h1 q => ?_⟩
  · split at q
    · rw [ok_ifno] at q; exact ⟨_, rfl, q⟩
    · exact q.elim
  · obtain ⟨j, rfl, q⟩ := q
    exact ok_ifno.mpr q
theorem rng_eq (n : Nat) : rng 0 n 1 = (List.range n).map fun i => .int ((i : Nat) : Int) := by
  unfold rng
  apply List.map_congr_left
  intro i _
  simp
theorem ne12 (h : Ah) : opNe (.lv [.int 120, .int 200]) (.lv [.int 120, .int 200]) h = .ok (.bl false) h := by kernel_rfl
theorem law_ok (ns : List Int) (hn : ns.length ≤ 63) : ∃ h', K51.f_law [.wl (ns.map Mo.Dt.int)] [] = .ok (.bl true) h' := by
  have key : Ok (K51.f_law [.wl (ns.map Mo.Dt.int)]) [] fun d _ => d = .bl true := by
    rw [K51.f_law, ok_fnM]
    simp only [K51.m_law, List.map_cons, List.map_nil, List.length_cons, List.length_nil, List.replicate, List.cons_append, List.nil_append]
    rw [ok_seq, ok_ifS, ok_tst, ok_op2, ok_lstE, ok_argC, ok_con, ok_argC, ok_con, ok_argN]
    refine ⟨szl (by simp), ?_⟩
    rw [ok_lstE, ok_argC, ok_con, ok_argC, ok_con, ok_argN]
    refine ⟨szl (by simp), ?_⟩
    refine ok_of (ne12 _) ?_
    rw [ok_isB, if_neg (by simp), ok_nxt]
    dsimp only
    rw [ok_ret, ok_bi, ok_argC]
    have pk : ∀ {t : Int} {h : Ah}, 0 ≤ t → t < 1000 → Ok (K51.f__law_purse [.wl (ns.map Dt.int), .int t]) h fun d h' => d = .obj h.length ∧ ∃ o, h' = h ++ [o] ∧ Pur h' h.length := fun a b => purse_ok hn a b
    have hl : (ns.map Dt.int).length = ns.length := by simp
    generalize ns.map Dt.int = W at *
    generalize hk : (if (if (4 : Int) < (ns.length : Nat) then (4 : Int) else (ns.length : Nat)) > 2 then (if (4 : Int) < (ns.length : Nat) then (4 : Int) else (ns.length : Nat)) else 2) = k
    have k0 : 0 ≤ k := by rw [← hk]; split <;> split <;> omega
    have k1 : k ≤ 4 := by rw [← hk]; split <;> split <;> omega
    refine ok_lcA (List.range k.toNat) (fun i => .int ((i : Nat) : Int)) (fun _ => .bl true) ?_
    rw [ok_itR1, ok_argC, ok_bi, ok_argC, ok_con, ok_argC, ok_bi, ok_argC, ok_bi, ok_argC, ok_pick (i := 0) (d := .wl W) rfl, ok_argN, ok_lenWl, ok_argC, ok_con, ok_argN, ok_minI, ok_argN, ok_maxI, ok_argN, hl, hk]
    refine ⟨k, rfl, ⟨by omega, by omega⟩, ?_⟩
    rw [rng_eq]
    refine ⟨rfl, by simpa using szl (show k.toNat ≤ 1000 by omega), fun i mi => gv_of fun h => ?_, fun j => ?_⟩
    · have hi := List.mem_range.mp mi
      show Ok (callM 1 K51.f__law_right (argC (callM 2 K51.f__law_purse (argC (var 0) (argC (var 1) argN))) argN) [some (.wl W), some (.int (i : Nat))]) _ _
      rw [ok_callM, ok_argC, ok_callM, ok_argC, ok_pick (i := 0) (d := .wl W) rfl, ok_argC, ok_pick (i := 1) (d := .int (i : Nat)) rfl, ok_argN]
      refine ⟨rfl, (pk (by omega) (by omega)).mono fun d h2 ⟨e, o, e2, R⟩ => ?_⟩
      subst e e2
      rw [ok_argN]
      refine ⟨rfl, (right_ok R).mono fun d h3 ⟨e3, o3, j3, e4⟩ => ?_⟩
      subst e3 e4
      exact ⟨rfl, o3 :: j3, by simp⟩
    · rw [ok_argN]
      exact all_true rfl
  obtain ⟨a, h', e, rfl⟩ := ok_iff.mp key
  exact ⟨h', e⟩
end Mo
set_option Elab.async false
set_option linter.all false
set_option maxRecDepth 100000
set_option maxHeartbeats 4000000
namespace K51
open PySem PySem.Spec PyProof.Rows L2 Mo
def top (i : Nat) : Stmt := PySem.Challenge.pw_rimsheets_k01_constants_and_errors.main.body.getD i (.Pass ⟨0, 0, 0, 0⟩)
structure Fc (w : World) (K : PySem.W.Frag) (mg : Str → Option Value) : Prop where
  d__law_purse : ∃ fd, FnPa K "_law_purse" "_law_purse" (top 27) fd
  d__law_draw : ∃ fd, FnPa K "_law_draw" "_law_draw" (top 28) fd
  d__law_thing : ∃ fd, FnPa K "_law_thing" "_law_thing" (top 29) fd
  d_InvalidNumber___init__ : ∃ fd, FnM K "InvalidNumber" "__init__" "InvalidNumber.__init__" ((clsBody (top 4)).getD 0 (.Pass ⟨0, 0, 0, 0⟩)) fd
  d_InvalidText___init__ : ∃ fd, FnM K "InvalidText" "__init__" "InvalidText.__init__" ((clsBody (top 3)).getD 0 (.Pass ⟨0, 0, 0, 0⟩)) fd
  d_InvalidIndex___init__ : ∃ fd, FnM K "InvalidIndex" "__init__" "InvalidIndex.__init__" ((clsBody (top 6)).getD 0 (.Pass ⟨0, 0, 0, 0⟩)) fd
  d_InvalidName___init__ : ∃ fd, FnM K "InvalidName" "__init__" "InvalidName.__init__" ((clsBody (top 5)).getD 0 (.Pass ⟨0, 0, 0, 0⟩)) fd
  d_InvalidCell___init__ : ∃ fd, FnM K "InvalidCell" "__init__" "InvalidCell.__init__" ((clsBody (top 8)).getD 0 (.Pass ⟨0, 0, 0, 0⟩)) fd
  d_InvalidClaim___init__ : ∃ fd, FnM K "InvalidClaim" "__init__" "InvalidClaim.__init__" ((clsBody (top 7)).getD 0 (.Pass ⟨0, 0, 0, 0⟩)) fd
  d_InvalidBar___init__ : ∃ fd, FnM K "InvalidBar" "__init__" "InvalidBar.__init__" ((clsBody (top 9)).getD 0 (.Pass ⟨0, 0, 0, 0⟩)) fd
  d_UnknownName___init__ : ∃ fd, FnM K "UnknownName" "__init__" "UnknownName.__init__" ((clsBody (top 10)).getD 0 (.Pass ⟨0, 0, 0, 0⟩)) fd
  d_NotABoard___init__ : ∃ fd, FnM K "NotABoard" "__init__" "NotABoard.__init__" ((clsBody (top 12)).getD 0 (.Pass ⟨0, 0, 0, 0⟩)) fd
  d_NotALine___init__ : ∃ fd, FnM K "NotALine" "__init__" "NotALine.__init__" ((clsBody (top 11)).getD 0 (.Pass ⟨0, 0, 0, 0⟩)) fd
  d_InvalidBars___init__ : ∃ fd, FnM K "InvalidBars" "__init__" "InvalidBars.__init__" ((clsBody (top 13)).getD 0 (.Pass ⟨0, 0, 0, 0⟩)) fd
  d_InvalidCells___init__ : ∃ fd, FnM K "InvalidCells" "__init__" "InvalidCells.__init__" ((clsBody (top 14)).getD 0 (.Pass ⟨0, 0, 0, 0⟩)) fd
  d__law_firsts : ∃ fd, FnPa K "_law_firsts" "_law_firsts" (top 30) fd
  d_NotClosed___init__ : ∃ fd, FnM K "NotClosed" "__init__" "NotClosed.__init__" ((clsBody (top 15)).getD 0 (.Pass ⟨0, 0, 0, 0⟩)) fd
  d_NotTurned___init__ : ∃ fd, FnM K "NotTurned" "__init__" "NotTurned.__init__" ((clsBody (top 17)).getD 0 (.Pass ⟨0, 0, 0, 0⟩)) fd
  d_Touches___init__ : ∃ fd, FnM K "Touches" "__init__" "Touches.__init__" ((clsBody (top 16)).getD 0 (.Pass ⟨0, 0, 0, 0⟩)) fd
  d_TooMany___init__ : ∃ fd, FnM K "TooMany" "__init__" "TooMany.__init__" ((clsBody (top 20)).getD 0 (.Pass ⟨0, 0, 0, 0⟩)) fd
  d_Broken___init__ : ∃ fd, FnM K "Broken" "__init__" "Broken.__init__" ((clsBody (top 21)).getD 0 (.Pass ⟨0, 0, 0, 0⟩)) fd
  d_InUse___init__ : ∃ fd, FnM K "InUse" "__init__" "InUse.__init__" ((clsBody (top 22)).getD 0 (.Pass ⟨0, 0, 0, 0⟩)) fd
  d__law_seconds : ∃ fd, FnPa K "_law_seconds" "_law_seconds" (top 31) fd
  d__law_flags : ∃ fd, FnPa K "_law_flags" "_law_flags" (top 32) fd
  d__law_right : ∃ fd, FnPa K "_law_right" "_law_right" (top 33) fd
  d_law : ∃ fd, FnPa K "law" "law" (top 34) fd
  g__law_purse : mg "_law_purse" = some (.ref (He.ga K "_law_purse"))
  g__law_draw : mg "_law_draw" = some (.ref (He.ga K "_law_draw"))
  g__law_thing : mg "_law_thing" = some (.ref (He.ga K "_law_thing"))
  g__law_firsts : mg "_law_firsts" = some (.ref (He.ga K "_law_firsts"))
  g__law_seconds : mg "_law_seconds" = some (.ref (He.ga K "_law_seconds"))
  g__law_flags : mg "_law_flags" = some (.ref (He.ga K "_law_flags"))
  g__law_right : mg "_law_right" = some (.ref (He.ga K "_law_right"))
  g_law : mg "law" = some (.ref (He.ga K "law"))
  na_Broken_index : NoAttr K (He.ga K "Broken") "index"
  na_Broken_told : NoAttr K (He.ga K "Broken") "told"
  na_InUse_index : NoAttr K (He.ga K "InUse") "index"
  na_InvalidBar_given : NoAttr K (He.ga K "InvalidBar") "given"
  na_InvalidBars_index : NoAttr K (He.ga K "InvalidBars") "index"
  na_InvalidCell_given : NoAttr K (He.ga K "InvalidCell") "given"
  na_InvalidCells_index : NoAttr K (He.ga K "InvalidCells") "index"
  na_InvalidClaim_given : NoAttr K (He.ga K "InvalidClaim") "given"
  na_InvalidIndex_given : NoAttr K (He.ga K "InvalidIndex") "given"
  na_InvalidName_given : NoAttr K (He.ga K "InvalidName") "given"
  na_InvalidNumber_given : NoAttr K (He.ga K "InvalidNumber") "given"
  na_InvalidText_given : NoAttr K (He.ga K "InvalidText") "given"
  na_NotABoard_given : NoAttr K (He.ga K "NotABoard") "given"
  na_NotALine_given : NoAttr K (He.ga K "NotALine") "given"
  na_NotClosed_place : NoAttr K (He.ga K "NotClosed") "place"
  na_NotTurned_given : NoAttr K (He.ga K "NotTurned") "given"
  na_TooMany_number : NoAttr K (He.ga K "TooMany") "number"
  na_Touches_place : NoAttr K (He.ga K "Touches") "place"
  na_UnknownName_given : NoAttr K (He.ga K "UnknownName") "given"
  g_Broken : mg "Broken" = some (.ref (He.ga K "Broken"))
  g_InUse : mg "InUse" = some (.ref (He.ga K "InUse"))
  g_InvalidBar : mg "InvalidBar" = some (.ref (He.ga K "InvalidBar"))
  g_InvalidBars : mg "InvalidBars" = some (.ref (He.ga K "InvalidBars"))
  g_InvalidCell : mg "InvalidCell" = some (.ref (He.ga K "InvalidCell"))
  g_InvalidCells : mg "InvalidCells" = some (.ref (He.ga K "InvalidCells"))
  g_InvalidClaim : mg "InvalidClaim" = some (.ref (He.ga K "InvalidClaim"))
  g_InvalidIndex : mg "InvalidIndex" = some (.ref (He.ga K "InvalidIndex"))
  g_InvalidName : mg "InvalidName" = some (.ref (He.ga K "InvalidName"))
  g_InvalidNumber : mg "InvalidNumber" = some (.ref (He.ga K "InvalidNumber"))
  g_InvalidText : mg "InvalidText" = some (.ref (He.ga K "InvalidText"))
  g_NoAnswer : mg "NoAnswer" = some (.ref (He.ga K "NoAnswer"))
  g_NotABoard : mg "NotABoard" = some (.ref (He.ga K "NotABoard"))
  g_NotALine : mg "NotALine" = some (.ref (He.ga K "NotALine"))
  g_NotClosed : mg "NotClosed" = some (.ref (He.ga K "NotClosed"))
  g_NotFacing : mg "NotFacing" = some (.ref (He.ga K "NotFacing"))
  g_NotOneRim : mg "NotOneRim" = some (.ref (He.ga K "NotOneRim"))
  g_NotTurned : mg "NotTurned" = some (.ref (He.ga K "NotTurned"))
  g_NothingToUndo : mg "NothingToUndo" = some (.ref (He.ga K "NothingToUndo"))
  g_TooMany : mg "TooMany" = some (.ref (He.ga K "TooMany"))
  g_Touches : mg "Touches" = some (.ref (He.ga K "Touches"))
  g_UnknownName : mg "UnknownName" = some (.ref (He.ga K "UnknownName"))
  g_WrongValue : mg "WrongValue" = some (.ref (He.ga K "WrongValue"))
  xc_Broken : XcC K (He.ga K "Broken") "ArithmeticError.__new__" tlA
  xi_Broken : PySem.W.findIn K (.ref (He.ga K "Broken")) "__init__" = some (some (.ref (He.ma K (He.ga K "Broken") "__init__"))) ∧ PySem.W.typeIn K (.ref (He.ma K (He.ga K "Broken") "__init__")) = some (.type "function")
  xc_InUse : XcC K (He.ga K "InUse") "ArithmeticError.__new__" tlA
  xi_InUse : PySem.W.findIn K (.ref (He.ga K "InUse")) "__init__" = some (some (.ref (He.ma K (He.ga K "InUse") "__init__"))) ∧ PySem.W.typeIn K (.ref (He.ma K (He.ga K "InUse") "__init__")) = some (.type "function")
  xc_InvalidBar : XcC K (He.ga K "InvalidBar") "ValueError.__new__" tlV
  xi_InvalidBar : PySem.W.findIn K (.ref (He.ga K "InvalidBar")) "__init__" = some (some (.ref (He.ma K (He.ga K "InvalidBar") "__init__"))) ∧ PySem.W.typeIn K (.ref (He.ma K (He.ga K "InvalidBar") "__init__")) = some (.type "function")
  xc_InvalidBars : XcC K (He.ga K "InvalidBars") "ValueError.__new__" tlV
  xi_InvalidBars : PySem.W.findIn K (.ref (He.ga K "InvalidBars")) "__init__" = some (some (.ref (He.ma K (He.ga K "InvalidBars") "__init__"))) ∧ PySem.W.typeIn K (.ref (He.ma K (He.ga K "InvalidBars") "__init__")) = some (.type "function")
  xc_InvalidCell : XcC K (He.ga K "InvalidCell") "ValueError.__new__" tlV
  xi_InvalidCell : PySem.W.findIn K (.ref (He.ga K "InvalidCell")) "__init__" = some (some (.ref (He.ma K (He.ga K "InvalidCell") "__init__"))) ∧ PySem.W.typeIn K (.ref (He.ma K (He.ga K "InvalidCell") "__init__")) = some (.type "function")
  xc_InvalidCells : XcC K (He.ga K "InvalidCells") "ValueError.__new__" tlV
  xi_InvalidCells : PySem.W.findIn K (.ref (He.ga K "InvalidCells")) "__init__" = some (some (.ref (He.ma K (He.ga K "InvalidCells") "__init__"))) ∧ PySem.W.typeIn K (.ref (He.ma K (He.ga K "InvalidCells") "__init__")) = some (.type "function")
  xc_InvalidClaim : XcC K (He.ga K "InvalidClaim") "ValueError.__new__" tlV
  xi_InvalidClaim : PySem.W.findIn K (.ref (He.ga K "InvalidClaim")) "__init__" = some (some (.ref (He.ma K (He.ga K "InvalidClaim") "__init__"))) ∧ PySem.W.typeIn K (.ref (He.ma K (He.ga K "InvalidClaim") "__init__")) = some (.type "function")
  xc_InvalidIndex : XcC K (He.ga K "InvalidIndex") "ValueError.__new__" tlV
  xi_InvalidIndex : PySem.W.findIn K (.ref (He.ga K "InvalidIndex")) "__init__" = some (some (.ref (He.ma K (He.ga K "InvalidIndex") "__init__"))) ∧ PySem.W.typeIn K (.ref (He.ma K (He.ga K "InvalidIndex") "__init__")) = some (.type "function")
  xc_InvalidName : XcC K (He.ga K "InvalidName") "ValueError.__new__" tlV
  xi_InvalidName : PySem.W.findIn K (.ref (He.ga K "InvalidName")) "__init__" = some (some (.ref (He.ma K (He.ga K "InvalidName") "__init__"))) ∧ PySem.W.typeIn K (.ref (He.ma K (He.ga K "InvalidName") "__init__")) = some (.type "function")
  xc_InvalidNumber : XcC K (He.ga K "InvalidNumber") "ValueError.__new__" tlV
  xi_InvalidNumber : PySem.W.findIn K (.ref (He.ga K "InvalidNumber")) "__init__" = some (some (.ref (He.ma K (He.ga K "InvalidNumber") "__init__"))) ∧ PySem.W.typeIn K (.ref (He.ma K (He.ga K "InvalidNumber") "__init__")) = some (.type "function")
  xc_InvalidText : XcC K (He.ga K "InvalidText") "ValueError.__new__" tlV
  xi_InvalidText : PySem.W.findIn K (.ref (He.ga K "InvalidText")) "__init__" = some (some (.ref (He.ma K (He.ga K "InvalidText") "__init__"))) ∧ PySem.W.typeIn K (.ref (He.ma K (He.ga K "InvalidText") "__init__")) = some (.type "function")
  xc_NotABoard : XcC K (He.ga K "NotABoard") "ValueError.__new__" tlV
  xi_NotABoard : PySem.W.findIn K (.ref (He.ga K "NotABoard")) "__init__" = some (some (.ref (He.ma K (He.ga K "NotABoard") "__init__"))) ∧ PySem.W.typeIn K (.ref (He.ma K (He.ga K "NotABoard") "__init__")) = some (.type "function")
  xc_NotALine : XcC K (He.ga K "NotALine") "ValueError.__new__" tlV
  xi_NotALine : PySem.W.findIn K (.ref (He.ga K "NotALine")) "__init__" = some (some (.ref (He.ma K (He.ga K "NotALine") "__init__"))) ∧ PySem.W.typeIn K (.ref (He.ma K (He.ga K "NotALine") "__init__")) = some (.type "function")
  xc_NotClosed : XcC K (He.ga K "NotClosed") "ArithmeticError.__new__" tlA
  xi_NotClosed : PySem.W.findIn K (.ref (He.ga K "NotClosed")) "__init__" = some (some (.ref (He.ma K (He.ga K "NotClosed") "__init__"))) ∧ PySem.W.typeIn K (.ref (He.ma K (He.ga K "NotClosed") "__init__")) = some (.type "function")
  xc_NotTurned : XcC K (He.ga K "NotTurned") "ArithmeticError.__new__" tlA
  xi_NotTurned : PySem.W.findIn K (.ref (He.ga K "NotTurned")) "__init__" = some (some (.ref (He.ma K (He.ga K "NotTurned") "__init__"))) ∧ PySem.W.typeIn K (.ref (He.ma K (He.ga K "NotTurned") "__init__")) = some (.type "function")
  xc_TooMany : XcC K (He.ga K "TooMany") "ArithmeticError.__new__" tlA
  xi_TooMany : PySem.W.findIn K (.ref (He.ga K "TooMany")) "__init__" = some (some (.ref (He.ma K (He.ga K "TooMany") "__init__"))) ∧ PySem.W.typeIn K (.ref (He.ma K (He.ga K "TooMany") "__init__")) = some (.type "function")
  xc_Touches : XcC K (He.ga K "Touches") "ArithmeticError.__new__" tlA
  xi_Touches : PySem.W.findIn K (.ref (He.ga K "Touches")) "__init__" = some (some (.ref (He.ma K (He.ga K "Touches") "__init__"))) ∧ PySem.W.typeIn K (.ref (He.ma K (He.ga K "Touches") "__init__")) = some (.type "function")
  xc_UnknownName : XcC K (He.ga K "UnknownName") "ValueError.__new__" tlV
  xi_UnknownName : PySem.W.findIn K (.ref (He.ga K "UnknownName")) "__init__" = some (some (.ref (He.ma K (He.ga K "UnknownName") "__init__"))) ∧ PySem.W.typeIn K (.ref (He.ma K (He.ga K "UnknownName") "__init__")) = some (.type "function")
  x0_NotFacing : PySem.W.excIn K (He.ga K "NotFacing") tlA "ArithmeticError.__new__" = true ∧ PySem.W.keepIn K (.ref (He.ga K "NotFacing")) = true
  x0_NotOneRim : PySem.W.excIn K (He.ga K "NotOneRim") tlA "ArithmeticError.__new__" = true ∧ PySem.W.keepIn K (.ref (He.ga K "NotOneRim")) = true
  x0_NothingToUndo : PySem.W.excIn K (He.ga K "NothingToUndo") tlA "ArithmeticError.__new__" = true ∧ PySem.W.keepIn K (.ref (He.ga K "NothingToUndo")) = true
  xs : IsXs K xbs xtb
  xb : IsXb K xbb xtt
  xf_given : ∀ c ∈ cs_given, XfC K (He.ga K c) ∧ PySem.W.findIn K (.ref (He.ga K c)) "given" = some none
  xf_index : ∀ c ∈ cs_index, XfC K (He.ga K c) ∧ PySem.W.findIn K (.ref (He.ga K c)) "index" = some none
  xf_number : ∀ c ∈ cs_number, XfC K (He.ga K c) ∧ PySem.W.findIn K (.ref (He.ga K c)) "number" = some none
  xf_place : ∀ c ∈ cs_place, XfC K (He.ga K c) ∧ PySem.W.findIn K (.ref (He.ga K c)) "place" = some none
  xf_told : ∀ c ∈ cs_told, XfC K (He.ga K c) ∧ PySem.W.findIn K (.ref (He.ga K c)) "told" = some none
  sm : (K.lookup sysModules).isSome = true
  n_ArithmeticError : mg "ArithmeticError" = none
  n_ValueError : mg "ValueError" = none
  n_abs : mg "abs" = none
  n_all : mg "all" = none
  n_divmod : mg "divmod" = none
  n_enumerate : mg "enumerate" = none
  n_int : mg "int" = none
  n_isinstance : mg "isinstance" = none
  n_len : mg "len" = none
  n_max : mg "max" = none
  n_min : mg "min" = none
  n_range : mg "range" = none
  n_repr : mg "repr" = none
  c_MOST_LISTED : ∃ t, mg "MOST_LISTED" = some (.int 200 t)
  c_MOST_STEPS : ∃ t, mg "MOST_STEPS" = some (.int 120 t)
section
variable {P : Program} {w : World} {K : PySem.W.Frag} {mg : Str → Option Value} {base : Heap}
abbrev N_InvalidNumber___init__ : List Str := ["self", "given"]
abbrev st_InvalidNumber___init__ : Stmt := (clsBody (top 4)).getD 0 (.Pass ⟨0, 0, 0, 0⟩)
theorem sc_InvalidNumber___init__ : FnScope N_InvalidNumber___init__ ["self", "given"] (defScope st_InvalidNumber___init__) := ⟨rfl, rfl, rfl, by decide +kernel, rfl, by decide +kernel, by decide +kernel⟩
theorem ok_InvalidNumber___init__ (C : Fc w K mg) (B : Lams base K mg) : XcI P w K mg base "InvalidNumber" ["given"] ["given"] [0] := by
  obtain ⟨fd, F⟩ := C.d_InvalidNumber___init__
  exact ⟨⟨_, _, _, _, xbV, C.xc_InvalidNumber⟩, C.g_InvalidNumber, C.xi_InvalidNumber.1, C.xi_InvalidNumber.2, fd, initA xbV C.xc_InvalidNumber C.na_InvalidNumber_given F sc_InvalidNumber___init__ rfl (by first | exact Or.inl rfl | exact Or.inr (Or.inl rfl) | exact Or.inr (Or.inr rfl)) (by first | exact Or.inl rfl | exact Or.inr (Or.inl rfl) | exact Or.inr (Or.inr rfl)) (by decide) (by decide) (fun _ => rfl), F.bindsN (fun _ _ _ _ _ _ us hl => match us, hl with | [_, _], _ => rfl), kwBinds1 F (fun _ _ _ _ _ _ self us hl => match us, hl with | [_], _ => rfl)⟩
abbrev N_InvalidText___init__ : List Str := ["self", "given"]
abbrev st_InvalidText___init__ : Stmt := (clsBody (top 3)).getD 0 (.Pass ⟨0, 0, 0, 0⟩)
theorem sc_InvalidText___init__ : FnScope N_InvalidText___init__ ["self", "given"] (defScope st_InvalidText___init__) := ⟨rfl, rfl, rfl, by decide +kernel, rfl, by decide +kernel, by decide +kernel⟩
theorem ok_InvalidText___init__ (C : Fc w K mg) (B : Lams base K mg) : XcI P w K mg base "InvalidText" ["given"] ["given"] [0] := by
  obtain ⟨fd, F⟩ := C.d_InvalidText___init__
  exact ⟨⟨_, _, _, _, xbV, C.xc_InvalidText⟩, C.g_InvalidText, C.xi_InvalidText.1, C.xi_InvalidText.2, fd, initA xbV C.xc_InvalidText C.na_InvalidText_given F sc_InvalidText___init__ rfl (by first | exact Or.inl rfl | exact Or.inr (Or.inl rfl) | exact Or.inr (Or.inr rfl)) (by first | exact Or.inl rfl | exact Or.inr (Or.inl rfl) | exact Or.inr (Or.inr rfl)) (by decide) (by decide) (fun _ => rfl), F.bindsN (fun _ _ _ _ _ _ us hl => match us, hl with | [_, _], _ => rfl), kwBinds1 F (fun _ _ _ _ _ _ self us hl => match us, hl with | [_], _ => rfl)⟩
abbrev N_InvalidIndex___init__ : List Str := ["self", "given"]
abbrev st_InvalidIndex___init__ : Stmt := (clsBody (top 6)).getD 0 (.Pass ⟨0, 0, 0, 0⟩)
theorem sc_InvalidIndex___init__ : FnScope N_InvalidIndex___init__ ["self", "given"] (defScope st_InvalidIndex___init__) := ⟨rfl, rfl, rfl, by decide +kernel, rfl, by decide +kernel, by decide +kernel⟩
theorem ok_InvalidIndex___init__ (C : Fc w K mg) (B : Lams base K mg) : XcI P w K mg base "InvalidIndex" ["given"] ["given"] [0] := by
  obtain ⟨fd, F⟩ := C.d_InvalidIndex___init__
  exact ⟨⟨_, _, _, _, xbV, C.xc_InvalidIndex⟩, C.g_InvalidIndex, C.xi_InvalidIndex.1, C.xi_InvalidIndex.2, fd, initA xbV C.xc_InvalidIndex C.na_InvalidIndex_given F sc_InvalidIndex___init__ rfl (by first | exact Or.inl rfl | exact Or.inr (Or.inl rfl) | exact Or.inr (Or.inr rfl)) (by first | exact Or.inl rfl | exact Or.inr (Or.inl rfl) | exact Or.inr (Or.inr rfl)) (by decide) (by decide) (fun _ => rfl), F.bindsN (fun _ _ _ _ _ _ us hl => match us, hl with | [_, _], _ => rfl), kwBinds1 F (fun _ _ _ _ _ _ self us hl => match us, hl with | [_], _ => rfl)⟩
abbrev N_InvalidName___init__ : List Str := ["self", "given"]
abbrev st_InvalidName___init__ : Stmt := (clsBody (top 5)).getD 0 (.Pass ⟨0, 0, 0, 0⟩)
theorem sc_InvalidName___init__ : FnScope N_InvalidName___init__ ["self", "given"] (defScope st_InvalidName___init__) := ⟨rfl, rfl, rfl, by decide +kernel, rfl, by decide +kernel, by decide +kernel⟩
theorem ok_InvalidName___init__ (C : Fc w K mg) (B : Lams base K mg) : XcI P w K mg base "InvalidName" ["given"] ["given"] [0] := by
  obtain ⟨fd, F⟩ := C.d_InvalidName___init__
  exact ⟨⟨_, _, _, _, xbV, C.xc_InvalidName⟩, C.g_InvalidName, C.xi_InvalidName.1, C.xi_InvalidName.2, fd, initA xbV C.xc_InvalidName C.na_InvalidName_given F sc_InvalidName___init__ rfl (by first | exact Or.inl rfl | exact Or.inr (Or.inl rfl) | exact Or.inr (Or.inr rfl)) (by first | exact Or.inl rfl | exact Or.inr (Or.inl rfl) | exact Or.inr (Or.inr rfl)) (by decide) (by decide) (fun _ => rfl), F.bindsN (fun _ _ _ _ _ _ us hl => match us, hl with | [_, _], _ => rfl), kwBinds1 F (fun _ _ _ _ _ _ self us hl => match us, hl with | [_], _ => rfl)⟩
abbrev N_InvalidCell___init__ : List Str := ["self", "given"]
abbrev st_InvalidCell___init__ : Stmt := (clsBody (top 8)).getD 0 (.Pass ⟨0, 0, 0, 0⟩)
theorem sc_InvalidCell___init__ : FnScope N_InvalidCell___init__ ["self", "given"] (defScope st_InvalidCell___init__) := ⟨rfl, rfl, rfl, by decide +kernel, rfl, by decide +kernel, by decide +kernel⟩
theorem ok_InvalidCell___init__ (C : Fc w K mg) (B : Lams base K mg) : XcI P w K mg base "InvalidCell" ["given"] ["given"] [0] := by
  obtain ⟨fd, F⟩ := C.d_InvalidCell___init__
  exact ⟨⟨_, _, _, _, xbV, C.xc_InvalidCell⟩, C.g_InvalidCell, C.xi_InvalidCell.1, C.xi_InvalidCell.2, fd, initA xbV C.xc_InvalidCell C.na_InvalidCell_given F sc_InvalidCell___init__ rfl (by first | exact Or.inl rfl | exact Or.inr (Or.inl rfl) | exact Or.inr (Or.inr rfl)) (by first | exact Or.inl rfl | exact Or.inr (Or.inl rfl) | exact Or.inr (Or.inr rfl)) (by decide) (by decide) (fun _ => rfl), F.bindsN (fun _ _ _ _ _ _ us hl => match us, hl with | [_, _], _ => rfl), kwBinds1 F (fun _ _ _ _ _ _ self us hl => match us, hl with | [_], _ => rfl)⟩
abbrev N_InvalidClaim___init__ : List Str := ["self", "given"]
abbrev st_InvalidClaim___init__ : Stmt := (clsBody (top 7)).getD 0 (.Pass ⟨0, 0, 0, 0⟩)
theorem sc_InvalidClaim___init__ : FnScope N_InvalidClaim___init__ ["self", "given"] (defScope st_InvalidClaim___init__) := ⟨rfl, rfl, rfl, by decide +kernel, rfl, by decide +kernel, by decide +kernel⟩
theorem ok_InvalidClaim___init__ (C : Fc w K mg) (B : Lams base K mg) : XcI P w K mg base "InvalidClaim" ["given"] ["given"] [0] := by
  obtain ⟨fd, F⟩ := C.d_InvalidClaim___init__
  exact ⟨⟨_, _, _, _, xbV, C.xc_InvalidClaim⟩, C.g_InvalidClaim, C.xi_InvalidClaim.1, C.xi_InvalidClaim.2, fd, initA xbV C.xc_InvalidClaim C.na_InvalidClaim_given F sc_InvalidClaim___init__ rfl (by first | exact Or.inl rfl | exact Or.inr (Or.inl rfl) | exact Or.inr (Or.inr rfl)) (by first | exact Or.inl rfl | exact Or.inr (Or.inl rfl) | exact Or.inr (Or.inr rfl)) (by decide) (by decide) (fun _ => rfl), F.bindsN (fun _ _ _ _ _ _ us hl => match us, hl with | [_, _], _ => rfl), kwBinds1 F (fun _ _ _ _ _ _ self us hl => match us, hl with | [_], _ => rfl)⟩
abbrev N_InvalidBar___init__ : List Str := ["self", "given"]
abbrev st_InvalidBar___init__ : Stmt := (clsBody (top 9)).getD 0 (.Pass ⟨0, 0, 0, 0⟩)
theorem sc_InvalidBar___init__ : FnScope N_InvalidBar___init__ ["self", "given"] (defScope st_InvalidBar___init__) := ⟨rfl, rfl, rfl, by decide +kernel, rfl, by decide +kernel, by decide +kernel⟩
theorem ok_InvalidBar___init__ (C : Fc w K mg) (B : Lams base K mg) : XcI P w K mg base "InvalidBar" ["given"] ["given"] [0] := by
  obtain ⟨fd, F⟩ := C.d_InvalidBar___init__
  exact ⟨⟨_, _, _, _, xbV, C.xc_InvalidBar⟩, C.g_InvalidBar, C.xi_InvalidBar.1, C.xi_InvalidBar.2, fd, initA xbV C.xc_InvalidBar C.na_InvalidBar_given F sc_InvalidBar___init__ rfl (by first | exact Or.inl rfl | exact Or.inr (Or.inl rfl) | exact Or.inr (Or.inr rfl)) (by first | exact Or.inl rfl | exact Or.inr (Or.inl rfl) | exact Or.inr (Or.inr rfl)) (by decide) (by decide) (fun _ => rfl), F.bindsN (fun _ _ _ _ _ _ us hl => match us, hl with | [_, _], _ => rfl), kwBinds1 F (fun _ _ _ _ _ _ self us hl => match us, hl with | [_], _ => rfl)⟩
abbrev N_UnknownName___init__ : List Str := ["self", "given"]
abbrev st_UnknownName___init__ : Stmt := (clsBody (top 10)).getD 0 (.Pass ⟨0, 0, 0, 0⟩)
theorem sc_UnknownName___init__ : FnScope N_UnknownName___init__ ["self", "given"] (defScope st_UnknownName___init__) := ⟨rfl, rfl, rfl, by decide +kernel, rfl, by decide +kernel, by decide +kernel⟩
theorem ok_UnknownName___init__ (C : Fc w K mg) (B : Lams base K mg) : XcI P w K mg base "UnknownName" ["given"] ["given"] [0] := by
  obtain ⟨fd, F⟩ := C.d_UnknownName___init__
  exact ⟨⟨_, _, _, _, xbV, C.xc_UnknownName⟩, C.g_UnknownName, C.xi_UnknownName.1, C.xi_UnknownName.2, fd, initA xbV C.xc_UnknownName C.na_UnknownName_given F sc_UnknownName___init__ rfl (by first | exact Or.inl rfl | exact Or.inr (Or.inl rfl) | exact Or.inr (Or.inr rfl)) (by first | exact Or.inl rfl | exact Or.inr (Or.inl rfl) | exact Or.inr (Or.inr rfl)) (by decide) (by decide) (fun _ => rfl), F.bindsN (fun _ _ _ _ _ _ us hl => match us, hl with | [_, _], _ => rfl), kwBinds1 F (fun _ _ _ _ _ _ self us hl => match us, hl with | [_], _ => rfl)⟩
abbrev N_NotABoard___init__ : List Str := ["self", "given"]
abbrev st_NotABoard___init__ : Stmt := (clsBody (top 12)).getD 0 (.Pass ⟨0, 0, 0, 0⟩)
theorem sc_NotABoard___init__ : FnScope N_NotABoard___init__ ["self", "given"] (defScope st_NotABoard___init__) := ⟨rfl, rfl, rfl, by decide +kernel, rfl, by decide +kernel, by decide +kernel⟩
theorem ok_NotABoard___init__ (C : Fc w K mg) (B : Lams base K mg) : XcI P w K mg base "NotABoard" ["given"] ["given"] [0] := by
  obtain ⟨fd, F⟩ := C.d_NotABoard___init__
  exact ⟨⟨_, _, _, _, xbV, C.xc_NotABoard⟩, C.g_NotABoard, C.xi_NotABoard.1, C.xi_NotABoard.2, fd, initA xbV C.xc_NotABoard C.na_NotABoard_given F sc_NotABoard___init__ rfl (by first | exact Or.inl rfl | exact Or.inr (Or.inl rfl) | exact Or.inr (Or.inr rfl)) (by first | exact Or.inl rfl | exact Or.inr (Or.inl rfl) | exact Or.inr (Or.inr rfl)) (by decide) (by decide) (fun _ => rfl), F.bindsN (fun _ _ _ _ _ _ us hl => match us, hl with | [_, _], _ => rfl), kwBinds1 F (fun _ _ _ _ _ _ self us hl => match us, hl with | [_], _ => rfl)⟩
abbrev N_NotALine___init__ : List Str := ["self", "given"]
abbrev st_NotALine___init__ : Stmt := (clsBody (top 11)).getD 0 (.Pass ⟨0, 0, 0, 0⟩)
theorem sc_NotALine___init__ : FnScope N_NotALine___init__ ["self", "given"] (defScope st_NotALine___init__) := ⟨rfl, rfl, rfl, by decide +kernel, rfl, by decide +kernel, by decide +kernel⟩
theorem ok_NotALine___init__ (C : Fc w K mg) (B : Lams base K mg) : XcI P w K mg base "NotALine" ["given"] ["given"] [0] := by
  obtain ⟨fd, F⟩ := C.d_NotALine___init__
  exact ⟨⟨_, _, _, _, xbV, C.xc_NotALine⟩, C.g_NotALine, C.xi_NotALine.1, C.xi_NotALine.2, fd, initA xbV C.xc_NotALine C.na_NotALine_given F sc_NotALine___init__ rfl (by first | exact Or.inl rfl | exact Or.inr (Or.inl rfl) | exact Or.inr (Or.inr rfl)) (by first | exact Or.inl rfl | exact Or.inr (Or.inl rfl) | exact Or.inr (Or.inr rfl)) (by decide) (by decide) (fun _ => rfl), F.bindsN (fun _ _ _ _ _ _ us hl => match us, hl with | [_, _], _ => rfl), kwBinds1 F (fun _ _ _ _ _ _ self us hl => match us, hl with | [_], _ => rfl)⟩
abbrev N_InvalidBars___init__ : List Str := ["self", "index"]
abbrev st_InvalidBars___init__ : Stmt := (clsBody (top 13)).getD 0 (.Pass ⟨0, 0, 0, 0⟩)
theorem sc_InvalidBars___init__ : FnScope N_InvalidBars___init__ ["self", "index"] (defScope st_InvalidBars___init__) := ⟨rfl, rfl, rfl, by decide +kernel, rfl, by decide +kernel, by decide +kernel⟩
theorem ok_InvalidBars___init__ (C : Fc w K mg) (B : Lams base K mg) : XcI P w K mg base "InvalidBars" ["index"] ["index"] [0] := by
  obtain ⟨fd, F⟩ := C.d_InvalidBars___init__
  exact ⟨⟨_, _, _, _, xbV, C.xc_InvalidBars⟩, C.g_InvalidBars, C.xi_InvalidBars.1, C.xi_InvalidBars.2, fd, initA xbV C.xc_InvalidBars C.na_InvalidBars_index F sc_InvalidBars___init__ rfl (by first | exact Or.inl rfl | exact Or.inr (Or.inl rfl) | exact Or.inr (Or.inr rfl)) (by first | exact Or.inl rfl | exact Or.inr (Or.inl rfl) | exact Or.inr (Or.inr rfl)) (by decide) (by decide) (fun _ => rfl), F.bindsN (fun _ _ _ _ _ _ us hl => match us, hl with | [_, _], _ => rfl), kwBinds1 F (fun _ _ _ _ _ _ self us hl => match us, hl with | [_], _ => rfl)⟩
abbrev N_InvalidCells___init__ : List Str := ["self", "index"]
abbrev st_InvalidCells___init__ : Stmt := (clsBody (top 14)).getD 0 (.Pass ⟨0, 0, 0, 0⟩)
theorem sc_InvalidCells___init__ : FnScope N_InvalidCells___init__ ["self", "index"] (defScope st_InvalidCells___init__) := ⟨rfl, rfl, rfl, by decide +kernel, rfl, by decide +kernel, by decide +kernel⟩
theorem ok_InvalidCells___init__ (C : Fc w K mg) (B : Lams base K mg) : XcI P w K mg base "InvalidCells" ["index"] ["index"] [0] := by
  obtain ⟨fd, F⟩ := C.d_InvalidCells___init__
  exact ⟨⟨_, _, _, _, xbV, C.xc_InvalidCells⟩, C.g_InvalidCells, C.xi_InvalidCells.1, C.xi_InvalidCells.2, fd, initA xbV C.xc_InvalidCells C.na_InvalidCells_index F sc_InvalidCells___init__ rfl (by first | exact Or.inl rfl | exact Or.inr (Or.inl rfl) | exact Or.inr (Or.inr rfl)) (by first | exact Or.inl rfl | exact Or.inr (Or.inl rfl) | exact Or.inr (Or.inr rfl)) (by decide) (by decide) (fun _ => rfl), F.bindsN (fun _ _ _ _ _ _ us hl => match us, hl with | [_, _], _ => rfl), kwBinds1 F (fun _ _ _ _ _ _ self us hl => match us, hl with | [_], _ => rfl)⟩
abbrev N_NotClosed___init__ : List Str := ["self", "place"]
abbrev st_NotClosed___init__ : Stmt := (clsBody (top 15)).getD 0 (.Pass ⟨0, 0, 0, 0⟩)
theorem sc_NotClosed___init__ : FnScope N_NotClosed___init__ ["self", "place"] (defScope st_NotClosed___init__) := ⟨rfl, rfl, rfl, by decide +kernel, rfl, by decide +kernel, by decide +kernel⟩
theorem ok_NotClosed___init__ (C : Fc w K mg) (B : Lams base K mg) : XcI P w K mg base "NotClosed" ["place"] ["place"] [0] := by
  obtain ⟨fd, F⟩ := C.d_NotClosed___init__
  exact ⟨⟨_, _, _, _, xbA, C.xc_NotClosed⟩, C.g_NotClosed, C.xi_NotClosed.1, C.xi_NotClosed.2, fd, initA xbA C.xc_NotClosed C.na_NotClosed_place F sc_NotClosed___init__ rfl (by first | exact Or.inl rfl | exact Or.inr (Or.inl rfl) | exact Or.inr (Or.inr rfl)) (by first | exact Or.inl rfl | exact Or.inr (Or.inl rfl) | exact Or.inr (Or.inr rfl)) (by decide) (by decide) (fun _ => rfl), F.bindsN (fun _ _ _ _ _ _ us hl => match us, hl with | [_, _], _ => rfl), kwBinds1 F (fun _ _ _ _ _ _ self us hl => match us, hl with | [_], _ => rfl)⟩
abbrev N_NotTurned___init__ : List Str := ["self", "given"]
abbrev st_NotTurned___init__ : Stmt := (clsBody (top 17)).getD 0 (.Pass ⟨0, 0, 0, 0⟩)
theorem sc_NotTurned___init__ : FnScope N_NotTurned___init__ ["self", "given"] (defScope st_NotTurned___init__) := ⟨rfl, rfl, rfl, by decide +kernel, rfl, by decide +kernel, by decide +kernel⟩
theorem ok_NotTurned___init__ (C : Fc w K mg) (B : Lams base K mg) : XcI P w K mg base "NotTurned" ["given"] ["given"] [0] := by
  obtain ⟨fd, F⟩ := C.d_NotTurned___init__
  exact ⟨⟨_, _, _, _, xbA, C.xc_NotTurned⟩, C.g_NotTurned, C.xi_NotTurned.1, C.xi_NotTurned.2, fd, initA xbA C.xc_NotTurned C.na_NotTurned_given F sc_NotTurned___init__ rfl (by first | exact Or.inl rfl | exact Or.inr (Or.inl rfl) | exact Or.inr (Or.inr rfl)) (by first | exact Or.inl rfl | exact Or.inr (Or.inl rfl) | exact Or.inr (Or.inr rfl)) (by decide) (by decide) (fun _ => rfl), F.bindsN (fun _ _ _ _ _ _ us hl => match us, hl with | [_, _], _ => rfl), kwBinds1 F (fun _ _ _ _ _ _ self us hl => match us, hl with | [_], _ => rfl)⟩
abbrev N_Touches___init__ : List Str := ["self", "place"]
abbrev st_Touches___init__ : Stmt := (clsBody (top 16)).getD 0 (.Pass ⟨0, 0, 0, 0⟩)
theorem sc_Touches___init__ : FnScope N_Touches___init__ ["self", "place"] (defScope st_Touches___init__) := ⟨rfl, rfl, rfl, by decide +kernel, rfl, by decide +kernel, by decide +kernel⟩
theorem ok_Touches___init__ (C : Fc w K mg) (B : Lams base K mg) : XcI P w K mg base "Touches" ["place"] ["place"] [0] := by
  obtain ⟨fd, F⟩ := C.d_Touches___init__
  exact ⟨⟨_, _, _, _, xbA, C.xc_Touches⟩, C.g_Touches, C.xi_Touches.1, C.xi_Touches.2, fd, initA xbA C.xc_Touches C.na_Touches_place F sc_Touches___init__ rfl (by first | exact Or.inl rfl | exact Or.inr (Or.inl rfl) | exact Or.inr (Or.inr rfl)) (by first | exact Or.inl rfl | exact Or.inr (Or.inl rfl) | exact Or.inr (Or.inr rfl)) (by decide) (by decide) (fun _ => rfl), F.bindsN (fun _ _ _ _ _ _ us hl => match us, hl with | [_, _], _ => rfl), kwBinds1 F (fun _ _ _ _ _ _ self us hl => match us, hl with | [_], _ => rfl)⟩
abbrev N_TooMany___init__ : List Str := ["self", "number"]
abbrev st_TooMany___init__ : Stmt := (clsBody (top 20)).getD 0 (.Pass ⟨0, 0, 0, 0⟩)
theorem sc_TooMany___init__ : FnScope N_TooMany___init__ ["self", "number"] (defScope st_TooMany___init__) := ⟨rfl, rfl, rfl, by decide +kernel, rfl, by decide +kernel, by decide +kernel⟩
theorem ok_TooMany___init__ (C : Fc w K mg) (B : Lams base K mg) : XcI P w K mg base "TooMany" ["number"] ["number"] [0] := by
  obtain ⟨fd, F⟩ := C.d_TooMany___init__
  exact ⟨⟨_, _, _, _, xbA, C.xc_TooMany⟩, C.g_TooMany, C.xi_TooMany.1, C.xi_TooMany.2, fd, initA xbA C.xc_TooMany C.na_TooMany_number F sc_TooMany___init__ rfl (by first | exact Or.inl rfl | exact Or.inr (Or.inl rfl) | exact Or.inr (Or.inr rfl)) (by first | exact Or.inl rfl | exact Or.inr (Or.inl rfl) | exact Or.inr (Or.inr rfl)) (by decide) (by decide) (fun _ => rfl), F.bindsN (fun _ _ _ _ _ _ us hl => match us, hl with | [_, _], _ => rfl), kwBinds1 F (fun _ _ _ _ _ _ self us hl => match us, hl with | [_], _ => rfl)⟩
abbrev N_Broken___init__ : List Str := ["self", "index", "told"]
abbrev st_Broken___init__ : Stmt := (clsBody (top 21)).getD 0 (.Pass ⟨0, 0, 0, 0⟩)
theorem sc_Broken___init__ : FnScope N_Broken___init__ ["self", "index", "told"] (defScope st_Broken___init__) := ⟨rfl, rfl, rfl, by decide +kernel, rfl, by decide +kernel, by decide +kernel⟩
theorem ok_Broken___init__ (C : Fc w K mg) (B : Lams base K mg) : XcI P w K mg base "Broken" ["index", "told"] ["told", "index"] [1, 0] := by
  obtain ⟨fd, F⟩ := C.d_Broken___init__
  exact ⟨⟨_, _, _, _, xbA, C.xc_Broken⟩, C.g_Broken, C.xi_Broken.1, C.xi_Broken.2, fd, initB xbA C.xc_Broken C.na_Broken_index C.na_Broken_told F sc_Broken___init__ rfl (by first | exact Or.inl rfl | exact Or.inr (Or.inl rfl) | exact Or.inr (Or.inr rfl)) (by first | exact Or.inl rfl | exact Or.inr (Or.inl rfl) | exact Or.inr (Or.inr rfl)) (by first | exact Or.inl rfl | exact Or.inr (Or.inl rfl) | exact Or.inr (Or.inr rfl)) (by decide) (by decide) (by decide) (by decide) (fun _ => rfl) (fun _ => rfl), F.bindsN (fun _ _ _ _ _ _ us hl => match us, hl with | [_, _, _], _ => rfl), kwBinds1 F (fun _ _ _ _ _ _ self us hl => match us, hl with | [_, _], _ => rfl)⟩
abbrev N_InUse___init__ : List Str := ["self", "index"]
abbrev st_InUse___init__ : Stmt := (clsBody (top 22)).getD 0 (.Pass ⟨0, 0, 0, 0⟩)
theorem sc_InUse___init__ : FnScope N_InUse___init__ ["self", "index"] (defScope st_InUse___init__) := ⟨rfl, rfl, rfl, by decide +kernel, rfl, by decide +kernel, by decide +kernel⟩
theorem ok_InUse___init__ (C : Fc w K mg) (B : Lams base K mg) : XcI P w K mg base "InUse" ["index"] ["index"] [0] := by
  obtain ⟨fd, F⟩ := C.d_InUse___init__
  exact ⟨⟨_, _, _, _, xbA, C.xc_InUse⟩, C.g_InUse, C.xi_InUse.1, C.xi_InUse.2, fd, initA xbA C.xc_InUse C.na_InUse_index F sc_InUse___init__ rfl (by first | exact Or.inl rfl | exact Or.inr (Or.inl rfl) | exact Or.inr (Or.inr rfl)) (by first | exact Or.inl rfl | exact Or.inr (Or.inl rfl) | exact Or.inr (Or.inr rfl)) (by decide) (by decide) (fun _ => rfl), F.bindsN (fun _ _ _ _ _ _ us hl => match us, hl with | [_, _], _ => rfl), kwBinds1 F (fun _ _ _ _ _ _ self us hl => match us, hl with | [_], _ => rfl)⟩
abbrev N__law_purse : List Str := ["_law_script", "_law_spot", "_law_cell", "_law_seed", "_law_one"]
abbrev st__law_purse : Stmt := top 27
theorem sc__law_purse : FnScope N__law_purse ["_law_script", "_law_spot"] (defScope st__law_purse) := ⟨rfl, rfl, rfl, by decide +kernel, rfl, by decide +kernel, by decide +kernel⟩
theorem go__law_purse (C : Fc w K mg) (B : Lams base K mg) {fd : FuncData} (F : FnPa K "_law_purse" "_law_purse" st__law_purse fd) : FnG P w K mg base 1 (He.ga K "_law_purse") fd ["_law_script", "_law_spot"] f__law_purse := by
  refine fnG F sc__law_purse (fun cdv A outer s H E hgd hr => ?_)
  exact (mss_cons (ms_set (i := 2) sc__law_purse.nd rfl (Or.inl rfl) (me_if (mt_cmp o_lt (me_var 1) (me_B b_len rfl C.n_len boot_len (ma_cons (me_var 0) ma_nil)) (nomark _)) (me_ix i_seq (me_var 0) (me_var 1) (fun _ _ => rfl)) (me_op o_mul me_int (me_op o_add (me_var 1) me_int))))
    (mss_cons (ms_set (i := 3) sc__law_purse.nd rfl (Or.inl rfl) (me_op o_add me_int (me_var 1)))
    (mss_cons (ms_for (p := (.nm 4)) PassesOwn.never rfl (mi_list (me_op o_add (me_slice s_all (me_var 0) mo_none (mo_some me_int)) (me_lst (ma_cons (me_var 2) ma_nil)))) (pg_name (i := 4) sc__law_purse.nd rfl (Or.inl rfl)) (mss_one (ms_set (i := 3) sc__law_purse.nd rfl (Or.inl rfl) (me_op o_mod (me_Ty b_int rfl C.n_int boot_int (ma_cons (me_op o_add (me_op o_add (me_op o_mul (me_var 3) me_int) (me_op o_mod (me_Ty b_int rfl C.n_int boot_int (ma_cons (me_var 4) ma_nil)) me_int)) me_int) ma_nil)) me_int))))
    (mss_one (ms_ret (me_lstO (ma_cons (me_if (mt_cmp o_ge (me_B b_abs rfl C.n_abs boot_abs (ma_cons (me_var 2) ma_nil)) (me_op o_pow me_int me_int) (nomark _)) (me_B b_abs rfl C.n_abs boot_abs (ma_cons (me_var 2) ma_nil)) me_int) (ma_cons (me_var 3) ma_nil))))))))
theorem ok__law_purse (C : Fc w K mg) (B : Lams base K mg) : FnH P w K mg base 1 "_law_purse" ["_law_script", "_law_spot"] f__law_purse := by
  obtain ⟨fd, F⟩ := C.d__law_purse
  exact ⟨⟨fd, go__law_purse C B F, F.bindsN fun _ _ _ _ _ _ us hl => match us, hl with | [_, _], _ => rfl⟩, F.kp, C.g__law_purse⟩
abbrev N__law_draw : List Str := ["_law_purse_here", "_law_many", "_law_digit"]
abbrev st__law_draw : Stmt := top 28
theorem sc__law_draw : FnScope N__law_draw ["_law_purse_here", "_law_many"] (defScope st__law_draw) := ⟨rfl, rfl, rfl, by decide +kernel, rfl, by decide +kernel, by decide +kernel⟩
theorem go__law_draw (C : Fc w K mg) (B : Lams base K mg) {fd : FuncData} (F : FnPa K "_law_draw" "_law_draw" st__law_draw fd) : FnG P w K mg base 1 (He.ga K "_law_draw") fd ["_law_purse_here", "_law_many"] f__law_draw := by
  refine fnG F sc__law_draw (fun cdv A outer s H E hgd hr => ?_)
  exact (mss_cons (ms_if (mt_cmp o_gt (me_ix i_seq (me_var 0) me_int (fun _ _ => rfl)) me_int (nomark _)) (mss_cons (ms_asg (me_B b_divmod rfl C.n_divmod boot_divmod (ma_cons (me_ix i_seq (me_var 0) me_int (fun _ _ => rfl)) (ma_cons (me_var 1) ma_nil))) (mg_tup rfl (mgs_cons (mg_sub (me_var 0) me_int st_list) (mgs_cons (mg_name (i := 2) sc__law_draw.nd rfl (Or.inl rfl)) mgs_nil))))
    (mss_one (ms_ret (me_var 2)))) mss_nil)
    (mss_cons (ms_asg (me_op o_mod (me_Ty b_int rfl C.n_int boot_int (ma_cons (me_op o_add (me_op o_mul (me_ix i_seq (me_var 0) me_int (fun _ _ => rfl)) me_int) me_int) ma_nil)) me_int) (mg_sub (me_var 0) me_int st_list))
    (mss_one (ms_ret (me_op o_mod (me_Ty b_int rfl C.n_int boot_int (ma_cons (me_op o_fdiv (me_ix i_seq (me_var 0) me_int (fun _ _ => rfl)) me_int) ma_nil)) (me_var 1))))))
theorem ok__law_draw (C : Fc w K mg) (B : Lams base K mg) : FnH P w K mg base 1 "_law_draw" ["_law_purse_here", "_law_many"] f__law_draw := by
  obtain ⟨fd, F⟩ := C.d__law_draw
  exact ⟨⟨fd, go__law_draw C B F, F.bindsN fun _ _ _ _ _ _ us hl => match us, hl with | [_, _], _ => rfl⟩, F.kp, C.g__law_draw⟩
abbrev N__law_thing : List Str := ["_law_purse_here", "_law_some"]
abbrev st__law_thing : Stmt := top 29
theorem sc__law_thing : FnScope N__law_thing ["_law_purse_here"] (defScope st__law_thing) := ⟨rfl, rfl, rfl, by decide +kernel, rfl, by decide +kernel, by decide +kernel⟩
theorem go__law_thing (C : Fc w K mg) (B : Lams base K mg) {fd : FuncData} (F : FnPa K "_law_thing" "_law_thing" st__law_thing fd) : FnG P w K mg base 2 (He.ga K "_law_thing") fd ["_law_purse_here"] f__law_thing := by
  have h__law_draw := ok__law_draw (P := P) (base := base) C B
  refine fnG F sc__law_thing (fun cdv A outer s H E hgd hr => ?_)
  exact (mss_cons (ms_set (i := 1) sc__law_thing.nd rfl (Or.inl rfl) (me_lst (ma_cons me_non (ma_cons me_bl (ma_cons me_int (ma_cons (me_un u_neg (me_op o_pow me_int me_int)) (ma_cons me_str (ma_cons me_str (ma_cons me_str (ma_cons (me_tup ma_nil) (ma_cons (me_tup (ma_cons me_str (ma_cons (me_tup (ma_cons me_str (ma_cons me_int ma_nil))) ma_nil))) (ma_cons (me_lst ma_nil) (ma_cons (me_lst (ma_cons (me_lst (ma_cons me_str ma_nil)) ma_nil)) (ma_cons me_dnewV (ma_cons (me_disp (l := [((con (.str "a")), (tupE argN))]) (mps_cons me_str (me_tup ma_nil) mps_nil) rfl rfl (by simp) (by decide)) ma_nil)))))))))))))))
    (mss_one (ms_ret (me_ix i_seq (me_var 1) (me_callH h__law_draw hgd hr (ma_cons (me_var 0) (ma_cons me_int ma_nil))) (fun _ _ => rfl)))))
theorem ok__law_thing (C : Fc w K mg) (B : Lams base K mg) : FnH P w K mg base 2 "_law_thing" ["_law_purse_here"] f__law_thing := by
  obtain ⟨fd, F⟩ := C.d__law_thing
  exact ⟨⟨fd, go__law_thing C B F, F.bindsN fun _ _ _ _ _ _ us hl => match us, hl with | [_], _ => rfl⟩, F.kp, C.g__law_thing⟩
abbrev N__law_firsts : List Str := ["_law_x", "_law_found"]
abbrev st__law_firsts : Stmt := top 30
theorem sc__law_firsts : FnScope N__law_firsts ["_law_x"] (defScope st__law_firsts) := ⟨rfl, rfl, rfl, by decide +kernel, rfl, by decide +kernel, by decide +kernel⟩
theorem go__law_firsts (C : Fc w K mg) (B : Lams base K mg) {fd : FuncData} (F : FnPa K "_law_firsts" "_law_firsts" st__law_firsts fd) : FnG P w K mg base 3 (He.ga K "_law_firsts") fd ["_law_x"] f__law_firsts := by
  have h_InvalidNumber___init__ := ok_InvalidNumber___init__ (P := P) (base := base) C B
  have h_InvalidText___init__ := ok_InvalidText___init__ (P := P) (base := base) C B
  have h_InvalidIndex___init__ := ok_InvalidIndex___init__ (P := P) (base := base) C B
  have h_InvalidName___init__ := ok_InvalidName___init__ (P := P) (base := base) C B
  have h_InvalidCell___init__ := ok_InvalidCell___init__ (P := P) (base := base) C B
  have h_InvalidClaim___init__ := ok_InvalidClaim___init__ (P := P) (base := base) C B
  have h_UnknownName___init__ := ok_UnknownName___init__ (P := P) (base := base) C B
  have h_InvalidBar___init__ := ok_InvalidBar___init__ (P := P) (base := base) C B
  have h_NotABoard___init__ := ok_NotABoard___init__ (P := P) (base := base) C B
  have h_NotALine___init__ := ok_NotALine___init__ (P := P) (base := base) C B
  have h_InvalidCells___init__ := ok_InvalidCells___init__ (P := P) (base := base) C B
  have h_InvalidBars___init__ := ok_InvalidBars___init__ (P := P) (base := base) C B
  refine fnG F sc__law_firsts (fun cdv A outer s H E hgd hr => ?_)
  exact (mss_cons (ms_set (i := 1) sc__law_firsts.nd rfl (Or.inl rfl) (me_lst (ma_cons (me_tup (ma_cons (me_mkx h_InvalidText___init__ hgd hr (ma_cons (me_var 0) ma_nil)) (ma_cons (me_mkxK h_InvalidText___init__ hgd hr (mk_cons (me_var 0) mk_nil)) ma_nil))) (ma_cons (me_tup (ma_cons (me_mkx h_InvalidNumber___init__ hgd hr (ma_cons (me_var 0) ma_nil)) (ma_cons (me_mkxK h_InvalidNumber___init__ hgd hr (mk_cons (me_var 0) mk_nil)) ma_nil))) ma_nil))))
    (mss_cons (ms_set (i := 1) sc__law_firsts.nd rfl (Or.inl rfl) (me_op o_add (me_var 1) (me_lst (ma_cons (me_tup (ma_cons (me_mkx h_InvalidName___init__ hgd hr (ma_cons (me_var 0) ma_nil)) (ma_cons (me_mkxK h_InvalidName___init__ hgd hr (mk_cons (me_var 0) mk_nil)) ma_nil))) (ma_cons (me_tup (ma_cons (me_mkx h_InvalidIndex___init__ hgd hr (ma_cons (me_var 0) ma_nil)) (ma_cons (me_mkxK h_InvalidIndex___init__ hgd hr (mk_cons (me_var 0) mk_nil)) ma_nil))) ma_nil)))))
    (mss_cons (ms_set (i := 1) sc__law_firsts.nd rfl (Or.inl rfl) (me_op o_add (me_var 1) (me_lst (ma_cons (me_tup (ma_cons (me_mkx h_InvalidClaim___init__ hgd hr (ma_cons (me_var 0) ma_nil)) (ma_cons (me_mkxK h_InvalidClaim___init__ hgd hr (mk_cons (me_var 0) mk_nil)) ma_nil))) (ma_cons (me_tup (ma_cons (me_mkx h_InvalidCell___init__ hgd hr (ma_cons (me_var 0) ma_nil)) (ma_cons (me_mkxK h_InvalidCell___init__ hgd hr (mk_cons (me_var 0) mk_nil)) ma_nil))) ma_nil)))))
    (mss_cons (ms_set (i := 1) sc__law_firsts.nd rfl (Or.inl rfl) (me_op o_add (me_var 1) (me_lst (ma_cons (me_tup (ma_cons (me_mkx h_InvalidBar___init__ hgd hr (ma_cons (me_var 0) ma_nil)) (ma_cons (me_mkxK h_InvalidBar___init__ hgd hr (mk_cons (me_var 0) mk_nil)) ma_nil))) (ma_cons (me_tup (ma_cons (me_mkx h_UnknownName___init__ hgd hr (ma_cons (me_var 0) ma_nil)) (ma_cons (me_mkxK h_UnknownName___init__ hgd hr (mk_cons (me_var 0) mk_nil)) ma_nil))) ma_nil)))))
    (mss_cons (ms_set (i := 1) sc__law_firsts.nd rfl (Or.inl rfl) (me_op o_add (me_var 1) (me_lst (ma_cons (me_tup (ma_cons (me_mkx h_NotALine___init__ hgd hr (ma_cons (me_var 0) ma_nil)) (ma_cons (me_mkxK h_NotALine___init__ hgd hr (mk_cons (me_var 0) mk_nil)) ma_nil))) (ma_cons (me_tup (ma_cons (me_mkx h_NotABoard___init__ hgd hr (ma_cons (me_var 0) ma_nil)) (ma_cons (me_mkxK h_NotABoard___init__ hgd hr (mk_cons (me_var 0) mk_nil)) ma_nil))) ma_nil)))))
    (mss_one (ms_ret (me_op o_add (me_var 1) (me_lst (ma_cons (me_tup (ma_cons (me_mkx h_InvalidBars___init__ hgd hr (ma_cons (me_var 0) ma_nil)) (ma_cons (me_mkxK h_InvalidBars___init__ hgd hr (mk_cons (me_var 0) mk_nil)) ma_nil))) (ma_cons (me_tup (ma_cons (me_mkx h_InvalidCells___init__ hgd hr (ma_cons (me_var 0) ma_nil)) (ma_cons (me_mkxK h_InvalidCells___init__ hgd hr (mk_cons (me_var 0) mk_nil)) ma_nil))) ma_nil)))))))))))
theorem ok__law_firsts (C : Fc w K mg) (B : Lams base K mg) : FnH P w K mg base 3 "_law_firsts" ["_law_x"] f__law_firsts := by
  obtain ⟨fd, F⟩ := C.d__law_firsts
  exact ⟨⟨fd, go__law_firsts C B F, F.bindsN fun _ _ _ _ _ _ us hl => match us, hl with | [_], _ => rfl⟩, F.kp, C.g__law_firsts⟩
abbrev N__law_seconds : List Str := ["_law_x", "_law_found"]
abbrev st__law_seconds : Stmt := top 31
theorem sc__law_seconds : FnScope N__law_seconds ["_law_x"] (defScope st__law_seconds) := ⟨rfl, rfl, rfl, by decide +kernel, rfl, by decide +kernel, by decide +kernel⟩
theorem go__law_seconds (C : Fc w K mg) (B : Lams base K mg) {fd : FuncData} (F : FnPa K "_law_seconds" "_law_seconds" st__law_seconds fd) : FnG P w K mg base 3 (He.ga K "_law_seconds") fd ["_law_x"] f__law_seconds := by
  have h_NotTurned___init__ := ok_NotTurned___init__ (P := P) (base := base) C B
  have h_Touches___init__ := ok_Touches___init__ (P := P) (base := base) C B
  have h_NotClosed___init__ := ok_NotClosed___init__ (P := P) (base := base) C B
  have h_TooMany___init__ := ok_TooMany___init__ (P := P) (base := base) C B
  have h_InUse___init__ := ok_InUse___init__ (P := P) (base := base) C B
  have h_Broken___init__ := ok_Broken___init__ (P := P) (base := base) C B
  refine fnG F sc__law_seconds (fun cdv A outer s H E hgd hr => ?_)
  exact (mss_cons (ms_set (i := 1) sc__law_seconds.nd rfl (Or.inl rfl) (me_lst (ma_cons (me_tup (ma_cons (me_mkx h_NotClosed___init__ hgd hr (ma_cons (me_var 0) ma_nil)) (ma_cons (me_mkxK h_NotClosed___init__ hgd hr (mk_cons (me_var 0) mk_nil)) ma_nil))) (ma_cons (me_tup (ma_cons (me_mkx h_Touches___init__ hgd hr (ma_cons (me_var 0) ma_nil)) (ma_cons (me_mkxK h_Touches___init__ hgd hr (mk_cons (me_var 0) mk_nil)) ma_nil))) (ma_cons (me_tup (ma_cons (me_mkx h_NotTurned___init__ hgd hr (ma_cons (me_var 0) ma_nil)) (ma_cons (me_mkxK h_NotTurned___init__ hgd hr (mk_cons (me_var 0) mk_nil)) ma_nil))) ma_nil)))))
    (mss_cons (ms_set (i := 1) sc__law_seconds.nd rfl (Or.inl rfl) (me_op o_add (me_var 1) (me_lst (ma_cons (me_tup (ma_cons (me_mkx0 xbA.f C.g_NotFacing C.x0_NotFacing.2 C.x0_NotFacing.1) (ma_cons (me_mkx0 xbA.f C.g_NotFacing C.x0_NotFacing.2 C.x0_NotFacing.1) ma_nil))) (ma_cons (me_tup (ma_cons (me_mkx0 xbA.f C.g_NotOneRim C.x0_NotOneRim.2 C.x0_NotOneRim.1) (ma_cons (me_mkx0 xbA.f C.g_NotOneRim C.x0_NotOneRim.2 C.x0_NotOneRim.1) ma_nil))) (ma_cons (me_tup (ma_cons (me_mkx h_TooMany___init__ hgd hr (ma_cons (me_var 0) ma_nil)) (ma_cons (me_mkxK h_TooMany___init__ hgd hr (mk_cons (me_var 0) mk_nil)) ma_nil))) ma_nil))))))
    (mss_cons (ms_set (i := 1) sc__law_seconds.nd rfl (Or.inl rfl) (me_op o_add (me_var 1) (me_lst (ma_cons (me_tup (ma_cons (me_mkx h_Broken___init__ hgd hr (ma_cons (me_var 0) (ma_cons me_int ma_nil))) (ma_cons (me_mkxK h_Broken___init__ hgd hr (mk_cons me_int (mk_cons (me_var 0) mk_nil))) ma_nil))) (ma_cons (me_tup (ma_cons (me_mkx h_InUse___init__ hgd hr (ma_cons (me_var 0) ma_nil)) (ma_cons (me_mkxK h_InUse___init__ hgd hr (mk_cons (me_var 0) mk_nil)) ma_nil))) ma_nil)))))
    (mss_one (ms_ret (me_op o_add (me_var 1) (me_lst (ma_cons (me_tup (ma_cons (me_mkx0 xbA.f C.g_NothingToUndo C.x0_NothingToUndo.2 C.x0_NothingToUndo.1) (ma_cons (me_mkx0 xbA.f C.g_NothingToUndo C.x0_NothingToUndo.2 C.x0_NothingToUndo.1) ma_nil))) ma_nil))))))))
theorem ok__law_seconds (C : Fc w K mg) (B : Lams base K mg) : FnH P w K mg base 3 "_law_seconds" ["_law_x"] f__law_seconds := by
  obtain ⟨fd, F⟩ := C.d__law_seconds
  exact ⟨⟨fd, go__law_seconds C B F, F.bindsN fun _ _ _ _ _ _ us hl => match us, hl with | [_], _ => rfl⟩, F.kp, C.g__law_seconds⟩
abbrev N__law_flags : List Str := ["_law_e", "_law_found"]
abbrev st__law_flags : Stmt := top 32
theorem sc__law_flags : FnScope N__law_flags ["_law_e"] (defScope st__law_flags) := ⟨rfl, rfl, rfl, by decide +kernel, rfl, by decide +kernel, by decide +kernel⟩
theorem go__law_flags (C : Fc w K mg) (B : Lams base K mg) {fd : FuncData} (F : FnPa K "_law_flags" "_law_flags" st__law_flags fd) : FnG P w K mg base 1 (He.ga K "_law_flags") fd ["_law_e"] f__law_flags := by
  refine fnG F sc__law_flags (fun cdv A outer s H E hgd hr => ?_)
  exact (mss_cons (ms_set (i := 1) sc__law_flags.nd rfl (Or.inl rfl) (me_lst (ma_cons (me_B (b_isN C.xs) rfl C.n_isinstance boot_isinstance (ma_cons (me_var 0) (ma_cons (me_cls rfl C.g_InvalidText) ma_nil))) (ma_cons (me_B (b_isN C.xs) rfl C.n_isinstance boot_isinstance (ma_cons (me_var 0) (ma_cons (me_cls rfl C.g_InvalidNumber) ma_nil))) (ma_cons (me_B (b_isN C.xs) rfl C.n_isinstance boot_isinstance (ma_cons (me_var 0) (ma_cons (me_cls rfl C.g_InvalidName) ma_nil))) ma_nil)))))
    (mss_cons (ms_set (i := 1) sc__law_flags.nd rfl (Or.inl rfl) (me_op o_add (me_var 1) (me_lst (ma_cons (me_B (b_isN C.xs) rfl C.n_isinstance boot_isinstance (ma_cons (me_var 0) (ma_cons (me_cls rfl C.g_InvalidIndex) ma_nil))) (ma_cons (me_B (b_isN C.xs) rfl C.n_isinstance boot_isinstance (ma_cons (me_var 0) (ma_cons (me_cls rfl C.g_InvalidClaim) ma_nil))) (ma_cons (me_B (b_isN C.xs) rfl C.n_isinstance boot_isinstance (ma_cons (me_var 0) (ma_cons (me_cls rfl C.g_InvalidCell) ma_nil))) ma_nil))))))
    (mss_cons (ms_set (i := 1) sc__law_flags.nd rfl (Or.inl rfl) (me_op o_add (me_var 1) (me_lst (ma_cons (me_B (b_isN C.xs) rfl C.n_isinstance boot_isinstance (ma_cons (me_var 0) (ma_cons (me_cls rfl C.g_InvalidBar) ma_nil))) (ma_cons (me_B (b_isN C.xs) rfl C.n_isinstance boot_isinstance (ma_cons (me_var 0) (ma_cons (me_cls rfl C.g_UnknownName) ma_nil))) (ma_cons (me_B (b_isN C.xs) rfl C.n_isinstance boot_isinstance (ma_cons (me_var 0) (ma_cons (me_cls rfl C.g_NotALine) ma_nil))) ma_nil))))))
    (mss_cons (ms_set (i := 1) sc__law_flags.nd rfl (Or.inl rfl) (me_op o_add (me_var 1) (me_lst (ma_cons (me_B (b_isN C.xs) rfl C.n_isinstance boot_isinstance (ma_cons (me_var 0) (ma_cons (me_cls rfl C.g_NotABoard) ma_nil))) (ma_cons (me_B (b_isN C.xs) rfl C.n_isinstance boot_isinstance (ma_cons (me_var 0) (ma_cons (me_cls rfl C.g_InvalidBars) ma_nil))) (ma_cons (me_B (b_isN C.xs) rfl C.n_isinstance boot_isinstance (ma_cons (me_var 0) (ma_cons (me_cls rfl C.g_InvalidCells) ma_nil))) ma_nil))))))
    (mss_cons (ms_set (i := 1) sc__law_flags.nd rfl (Or.inl rfl) (me_op o_add (me_var 1) (me_lst (ma_cons (me_B (b_isN C.xs) rfl C.n_isinstance boot_isinstance (ma_cons (me_var 0) (ma_cons (me_cls rfl C.g_NotClosed) ma_nil))) (ma_cons (me_B (b_isN C.xs) rfl C.n_isinstance boot_isinstance (ma_cons (me_var 0) (ma_cons (me_cls rfl C.g_Touches) ma_nil))) (ma_cons (me_B (b_isN C.xs) rfl C.n_isinstance boot_isinstance (ma_cons (me_var 0) (ma_cons (me_cls rfl C.g_NotTurned) ma_nil))) ma_nil))))))
    (mss_cons (ms_set (i := 1) sc__law_flags.nd rfl (Or.inl rfl) (me_op o_add (me_var 1) (me_lst (ma_cons (me_B (b_isN C.xs) rfl C.n_isinstance boot_isinstance (ma_cons (me_var 0) (ma_cons (me_cls rfl C.g_NotFacing) ma_nil))) (ma_cons (me_B (b_isN C.xs) rfl C.n_isinstance boot_isinstance (ma_cons (me_var 0) (ma_cons (me_cls rfl C.g_NotOneRim) ma_nil))) (ma_cons (me_B (b_isN C.xs) rfl C.n_isinstance boot_isinstance (ma_cons (me_var 0) (ma_cons (me_cls rfl C.g_TooMany) ma_nil))) ma_nil))))))
    (mss_one (ms_ret (me_op o_add (me_var 1) (me_lst (ma_cons (me_B (b_isN C.xs) rfl C.n_isinstance boot_isinstance (ma_cons (me_var 0) (ma_cons (me_cls rfl C.g_Broken) ma_nil))) (ma_cons (me_B (b_isN C.xs) rfl C.n_isinstance boot_isinstance (ma_cons (me_var 0) (ma_cons (me_cls rfl C.g_InUse) ma_nil))) (ma_cons (me_B (b_isN C.xs) rfl C.n_isinstance boot_isinstance (ma_cons (me_var 0) (ma_cons (me_cls rfl C.g_NothingToUndo) ma_nil))) ma_nil)))))))))))))
theorem ok__law_flags (C : Fc w K mg) (B : Lams base K mg) : FnH P w K mg base 1 "_law_flags" ["_law_e"] f__law_flags := by
  obtain ⟨fd, F⟩ := C.d__law_flags
  exact ⟨⟨fd, go__law_flags C B F, F.bindsN fun _ _ _ _ _ _ us hl => match us, hl with | [_], _ => rfl⟩, F.kp, C.g__law_flags⟩
abbrev N__law_right : List Str := ["_law_purse_here", "_law_x", "_law_pairs", "_law_others", "_law_kept", "_law_pair", "_law_e", "_law_k", "_law_flags_here", "_law_is_first"]
abbrev st__law_right : Stmt := top 33
theorem sc__law_right : FnScope N__law_right ["_law_purse_here"] (defScope st__law_right) := ⟨rfl, rfl, rfl, by decide +kernel, rfl, by decide +kernel, by decide +kernel⟩
theorem go__law_right (C : Fc w K mg) (B : Lams base K mg) {fd : FuncData} (F : FnPa K "_law_right" "_law_right" st__law_right fd) : FnG P w K mg base 4 (He.ga K "_law_right") fd ["_law_purse_here"] f__law_right := by
  have h__law_thing := ok__law_thing (P := P) (base := base) C B
  have h__law_seconds := ok__law_seconds (P := P) (base := base) C B
  have h__law_firsts := ok__law_firsts (P := P) (base := base) C B
  have h__law_flags := ok__law_flags (P := P) (base := base) C B
  refine fnG F sc__law_right (fun cdv A outer s H E hgd hr => ?_)
  exact (mss_cons (ms_set (i := 1) sc__law_right.nd rfl (Or.inl rfl) (me_callH h__law_thing hgd hr (ma_cons (me_var 0) ma_nil)))
    (mss_cons (ms_par (i := 2) (j := 3) rfl sc__law_right.nd rfl rfl (by decide) rfl rfl (ma_cons (me_callH h__law_firsts hgd hr (ma_cons (me_var 1) ma_nil)) (ma_cons (me_callH h__law_seconds hgd hr (ma_cons (me_var 1) ma_nil)) ma_nil)) rfl)
    (mss_cons (ms_setLc (i := 4) (p := (.nm 5)) (own := [("_law_pair", 5)]) rfl sc__law_right.nd (by decide) rfl rfl (sw_true rfl rfl rfl (by decide +kernel)) (mi_list (me_op o_add (me_slice s_all (me_var 2) mo_none (mo_some me_int)) (me_slice s_all (me_var 3) (mo_some me_int) (mo_some me_int)))) (blkOk_by (N := N__law_right) (sc := defScope st__law_right) (own := [("_law_pair", 5)]) (by decide +kernel)) (fun _ _ _ _ _ => (pg_name (i := 5) sc__law_right.nd rfl (Or.inl rfl))) (fun _ _ _ _ _ => mts_nil) (fun _ _ _ _ _ => (me_lst (ma_cons (me_xfld C.xf_given (me_ix i_seq (me_var 5) me_int (fun _ _ => rfl))) (ma_cons (me_xfld C.xf_given (me_ix i_seq (me_var 5) me_int (fun _ _ => rfl))) ma_nil)))))
    (mss_cons (ms_set (i := 4) sc__law_right.nd rfl (Or.inl rfl) (me_op o_add (me_var 4) (me_lc (p := (.nm 5)) (own := [("_law_pair", 5)]) rfl sc__law_right.nd (by decide) (mi_list (me_op o_add (me_slice s_all (me_var 2) (mo_some me_int) mo_none) (me_slice s_all (me_var 3) (mo_some me_int) (mo_some me_int)))) (blkOk_by (N := N__law_right) (sc := defScope st__law_right) (own := [("_law_pair", 5)]) (by decide +kernel)) (fun _ _ _ _ _ => (pg_name (i := 5) sc__law_right.nd rfl (Or.inl rfl))) (fun _ _ _ _ _ => mts_nil) (fun _ _ _ _ _ => (me_lst (ma_cons (me_xfld C.xf_index (me_ix i_seq (me_var 5) me_int (fun _ _ => rfl))) (ma_cons (me_xfld C.xf_index (me_ix i_seq (me_var 5) me_int (fun _ _ => rfl))) ma_nil)))))))
    (mss_cons (ms_set (i := 4) sc__law_right.nd rfl (Or.inl rfl) (me_op o_add (me_op o_add (me_var 4) (me_lc (p := (.nm 5)) (own := [("_law_pair", 5)]) rfl sc__law_right.nd (by decide) (mi_list (me_slice s_all (me_var 3) mo_none (mo_some me_int))) (blkOk_by (N := N__law_right) (sc := defScope st__law_right) (own := [("_law_pair", 5)]) (by decide +kernel)) (fun _ _ _ _ _ => (pg_name (i := 5) sc__law_right.nd rfl (Or.inl rfl))) (fun _ _ _ _ _ => mts_nil) (fun _ _ _ _ _ => (me_lst (ma_cons (me_xfld C.xf_place (me_ix i_seq (me_var 5) me_int (fun _ _ => rfl))) (ma_cons (me_xfld C.xf_place (me_ix i_seq (me_var 5) me_int (fun _ _ => rfl))) ma_nil)))))) (me_lst (ma_cons (me_lc (p := (.nm 6)) (own := [("_law_e", 6)]) rfl sc__law_right.nd (by decide) (mi_tup (me_ix i_seq (me_var 3) me_int (fun _ _ => rfl))) (blkOk_by (N := N__law_right) (sc := defScope st__law_right) (own := [("_law_e", 6)]) (by decide +kernel)) (fun _ _ _ _ _ => (pg_name (i := 6) sc__law_right.nd rfl (Or.inl rfl))) (fun _ _ _ _ _ => mts_nil) (fun _ _ _ _ _ => (me_xfld C.xf_number (me_var 6)))) ma_nil))))
    (mss_cons (ms_if (PW.pt (mw_or (mt_cmp (o_ne (un64 hr)) (me_B (b_reprQ C.sm hgd (un64 hr)) rfl C.n_repr boot_repr (ma_cons (me_var 4) ma_nil)) (me_B (b_reprQ C.sm hgd (un64 hr)) rfl C.n_repr boot_repr (ma_cons (me_op o_mul (me_lst (ma_cons (me_lst (ma_cons (me_var 1) (ma_cons (me_var 1) ma_nil))) ma_nil)) me_int) ma_nil)) (nomark _)) (mw_or1 (mt_cmp (o_ne (un64 hr)) (me_lc (p := (.nm 6)) (own := [("_law_e", 6)]) rfl sc__law_right.nd (by decide) (mi_tup (me_ix i_seq (me_var 3) me_int (fun _ _ => rfl))) (blkOk_by (N := N__law_right) (sc := defScope st__law_right) (own := [("_law_e", 6)]) (by decide +kernel)) (fun _ _ _ _ _ => (pg_name (i := 6) sc__law_right.nd rfl (Or.inl rfl))) (fun _ _ _ _ _ => mts_nil) (fun _ _ _ _ _ => (me_xfld C.xf_told (me_var 6)))) (me_lst (ma_cons me_int (ma_cons me_int ma_nil))) (nomark _))))) (mss_one (ms_ret me_bl)) mss_nil)
    (mss_cons (ms_for (p := (.tp [(.nm 7), (.nm 5)])) PassesOwn.never rfl (mi_enum rfl C.n_enumerate (ma_cons (me_op o_add (me_var 2) (me_var 3)) ma_nil)) (pg_tup rfl (pgs_cons (pg_name (i := 7) sc__law_right.nd rfl (Or.inl rfl)) (pgs_cons (pg_name (i := 5) sc__law_right.nd rfl (Or.inl rfl)) pgs_nil))) (mss_one (ms_for (p := (.nm 6)) PassesOwn.never rfl (mi_tup (me_var 5)) (pg_name (i := 6) sc__law_right.nd rfl (Or.inl rfl)) (mss_cons (ms_par (i := 8) (j := 9) rfl sc__law_right.nd rfl rfl (by decide) rfl rfl (ma_cons (me_callH h__law_flags hgd hr (ma_cons (me_var 6) ma_nil)) (ma_cons (me_cmp o_lt (me_var 7) me_int (nomark _)) ma_nil)) rfl)
    (mss_cons (ms_if (PW.pt (mw_or (mt_cmp (o_ne (un64 hr)) (me_bm (fun _ _ _ r v h => isL_ok r v h) PySem.F.plainAttrs_list PySem.F.slot_list_count PySem.F.type_list_count (m_lcountB (un64 hr)) (me_var 8) (ma_cons me_bl ma_nil)) me_int (nomark _)) (mw_or1 (mt_not (mt_val (me_ix i_seq (me_var 8) (me_var 7) (fun _ _ => rfl))))))) (mss_one (ms_ret me_bl)) mss_nil)
    (mss_cons (ms_if (mt_cmp (o_ne (un64 hr)) (me_lst (ma_cons (me_B (b_isN C.xs) rfl C.n_isinstance boot_isinstance (ma_cons (me_var 6) (ma_cons (me_cls rfl C.g_WrongValue) ma_nil))) (ma_cons (me_B (b_isN C.xs) rfl C.n_isinstance boot_isinstance (ma_cons (me_var 6) (ma_cons (me_cls rfl C.g_NoAnswer) ma_nil))) ma_nil))) (me_lst (ma_cons (me_var 9) (ma_cons (me_not (me_var 9)) ma_nil))) (nomark _)) (mss_one (ms_ret me_bl)) mss_nil)
    (mss_one (ms_if (mt_cmp (o_ne (un64 hr)) (me_lst (ma_cons (me_B (b_isB C.xb) rfl C.n_isinstance boot_isinstance (ma_cons (me_var 6) (ma_cons (me_con (t := tC (.ty "ValueError")) (pe_bltn (v := .ty "ValueError") rfl C.n_ValueError Boot.«ValueError» rfl) fun _ => rfl) ma_nil))) (ma_cons (me_B (b_isB C.xb) rfl C.n_isinstance boot_isinstance (ma_cons (me_var 6) (ma_cons (me_con (t := tC (.ty "ArithmeticError")) (pe_bltn (v := .ty "ArithmeticError") rfl C.n_ArithmeticError Boot.«ArithmeticError» rfl) fun _ => rfl) ma_nil))) ma_nil))) (me_lst (ma_cons (me_var 9) (ma_cons (me_not (me_var 9)) ma_nil))) (nomark _)) (mss_one (ms_ret me_bl)) mss_nil))))))))
    (mss_one (ms_ret me_bl)))))))))
theorem ok__law_right (C : Fc w K mg) (B : Lams base K mg) : FnH P w K mg base 4 "_law_right" ["_law_purse_here"] f__law_right := by
  obtain ⟨fd, F⟩ := C.d__law_right
  exact ⟨⟨fd, go__law_right C B F, F.bindsN fun _ _ _ _ _ _ us hl => match us, hl with | [_], _ => rfl⟩, F.kp, C.g__law_right⟩
abbrev N_law : List Str := ["_law_script", "_law_spot"]
abbrev st_law : Stmt := top 34
theorem sc_law : FnScope N_law ["_law_script"] (defScope st_law) := ⟨rfl, rfl, rfl, by decide +kernel, rfl, by decide +kernel, by decide +kernel⟩
theorem go_law (C : Fc w K mg) (B : Lams base K mg) {fd : FuncData} (F : FnPa K "law" "law" st_law fd) : FnG P w K mg base 5 (He.ga K "law") fd ["_law_script"] f_law := by
  have h__law_right := ok__law_right (P := P) (base := base) C B
  have h__law_purse := ok__law_purse (P := P) (base := base) C B
  refine fnG F sc_law (fun cdv A outer s H E hgd hr => ?_)
  exact (mss_cons (ms_if (mt_cmp (o_ne (un64 hr)) (me_lst (ma_cons (me_gint rfl C.c_MOST_STEPS) (ma_cons (me_gint rfl C.c_MOST_LISTED) ma_nil))) (me_lst (ma_cons me_int (ma_cons me_int ma_nil))) (nomark _)) (mss_one (ms_ret me_bl)) mss_nil)
    (mss_one (ms_ret (me_B (b_all rfl) rfl C.n_all boot_all (ma_cons (me_lc (p := (.nm 1)) (own := [("_law_spot", 1)]) rfl sc_law.nd (by decide) (mi_range1 rfl C.n_range (ma_cons (me_B (b_max2 rfl) rfl C.n_max boot_max (ma_cons me_int (ma_cons (me_B (b_min2 rfl) rfl C.n_min boot_min (ma_cons (me_B b_len rfl C.n_len boot_len (ma_cons (me_var 0) ma_nil)) (ma_cons me_int ma_nil))) ma_nil))) ma_nil)) (blkOk_by (N := N_law) (sc := defScope st_law) (own := [("_law_spot", 1)]) (by decide +kernel)) (fun _ _ _ _ _ => (pg_name (i := 1) sc_law.nd rfl (Or.inl rfl))) (fun _ _ _ _ _ => mts_nil) (fun _ _ _ _ _ => (me_callH h__law_right hgd hr (ma_cons (me_callH h__law_purse hgd hr (ma_cons (me_var 0) (ma_cons (me_var 1) ma_nil))) ma_nil)))) ma_nil)))))
theorem ok_law (C : Fc w K mg) (B : Lams base K mg) : FnH P w K mg base 5 "law" ["_law_script"] f_law := by
  obtain ⟨fd, F⟩ := C.d_law
  exact ⟨⟨fd, go_law C B F, F.bindsN fun _ _ _ _ _ _ us hl => match us, hl with | [_], _ => rfl⟩, F.kp, C.g_law⟩
end
end K51
set_option Elab.async false
set_option linter.all false
set_option maxRecDepth 100000
set_option maxHeartbeats 0
namespace K51
open PySem PySem.Spec PyProof.Rows L2 Mo
def dd__law_purse : He.DefD := ⟨("_law_purse", none), "_law_purse", "_law_purse", defArgs st__law_purse, defBody st__law_purse, defScope st__law_purse, [], []⟩
def dd__law_draw : He.DefD := ⟨("_law_draw", none), "_law_draw", "_law_draw", defArgs st__law_draw, defBody st__law_draw, defScope st__law_draw, [], []⟩
def dd__law_thing : He.DefD := ⟨("_law_thing", none), "_law_thing", "_law_thing", defArgs st__law_thing, defBody st__law_thing, defScope st__law_thing, [], []⟩
def dd__law_firsts : He.DefD := ⟨("_law_firsts", none), "_law_firsts", "_law_firsts", defArgs st__law_firsts, defBody st__law_firsts, defScope st__law_firsts, [], []⟩
def dd__law_seconds : He.DefD := ⟨("_law_seconds", none), "_law_seconds", "_law_seconds", defArgs st__law_seconds, defBody st__law_seconds, defScope st__law_seconds, [], []⟩
def dd__law_flags : He.DefD := ⟨("_law_flags", none), "_law_flags", "_law_flags", defArgs st__law_flags, defBody st__law_flags, defScope st__law_flags, [], []⟩
def dd__law_right : He.DefD := ⟨("_law_right", none), "_law_right", "_law_right", defArgs st__law_right, defBody st__law_right, defScope st__law_right, [], []⟩
def dd_law : He.DefD := ⟨("law", none), "law", "law", defArgs st_law, defBody st_law, defScope st_law, [], []⟩
def dd_InvalidNumber___init__ : He.DefD := ⟨("InvalidNumber", some "__init__"), "__init__", "InvalidNumber.__init__", defArgs st_InvalidNumber___init__, defBody st_InvalidNumber___init__, defScope st_InvalidNumber___init__, [], []⟩
def dd_InvalidText___init__ : He.DefD := ⟨("InvalidText", some "__init__"), "__init__", "InvalidText.__init__", defArgs st_InvalidText___init__, defBody st_InvalidText___init__, defScope st_InvalidText___init__, [], []⟩
def dd_InvalidIndex___init__ : He.DefD := ⟨("InvalidIndex", some "__init__"), "__init__", "InvalidIndex.__init__", defArgs st_InvalidIndex___init__, defBody st_InvalidIndex___init__, defScope st_InvalidIndex___init__, [], []⟩
def dd_InvalidName___init__ : He.DefD := ⟨("InvalidName", some "__init__"), "__init__", "InvalidName.__init__", defArgs st_InvalidName___init__, defBody st_InvalidName___init__, defScope st_InvalidName___init__, [], []⟩
def dd_InvalidCell___init__ : He.DefD := ⟨("InvalidCell", some "__init__"), "__init__", "InvalidCell.__init__", defArgs st_InvalidCell___init__, defBody st_InvalidCell___init__, defScope st_InvalidCell___init__, [], []⟩
def dd_InvalidClaim___init__ : He.DefD := ⟨("InvalidClaim", some "__init__"), "__init__", "InvalidClaim.__init__", defArgs st_InvalidClaim___init__, defBody st_InvalidClaim___init__, defScope st_InvalidClaim___init__, [], []⟩
def dd_InvalidBar___init__ : He.DefD := ⟨("InvalidBar", some "__init__"), "__init__", "InvalidBar.__init__", defArgs st_InvalidBar___init__, defBody st_InvalidBar___init__, defScope st_InvalidBar___init__, [], []⟩
def dd_UnknownName___init__ : He.DefD := ⟨("UnknownName", some "__init__"), "__init__", "UnknownName.__init__", defArgs st_UnknownName___init__, defBody st_UnknownName___init__, defScope st_UnknownName___init__, [], []⟩
def dd_NotABoard___init__ : He.DefD := ⟨("NotABoard", some "__init__"), "__init__", "NotABoard.__init__", defArgs st_NotABoard___init__, defBody st_NotABoard___init__, defScope st_NotABoard___init__, [], []⟩
def dd_NotALine___init__ : He.DefD := ⟨("NotALine", some "__init__"), "__init__", "NotALine.__init__", defArgs st_NotALine___init__, defBody st_NotALine___init__, defScope st_NotALine___init__, [], []⟩
def dd_InvalidBars___init__ : He.DefD := ⟨("InvalidBars", some "__init__"), "__init__", "InvalidBars.__init__", defArgs st_InvalidBars___init__, defBody st_InvalidBars___init__, defScope st_InvalidBars___init__, [], []⟩
def dd_InvalidCells___init__ : He.DefD := ⟨("InvalidCells", some "__init__"), "__init__", "InvalidCells.__init__", defArgs st_InvalidCells___init__, defBody st_InvalidCells___init__, defScope st_InvalidCells___init__, [], []⟩
def dd_NotClosed___init__ : He.DefD := ⟨("NotClosed", some "__init__"), "__init__", "NotClosed.__init__", defArgs st_NotClosed___init__, defBody st_NotClosed___init__, defScope st_NotClosed___init__, [], []⟩
def dd_NotTurned___init__ : He.DefD := ⟨("NotTurned", some "__init__"), "__init__", "NotTurned.__init__", defArgs st_NotTurned___init__, defBody st_NotTurned___init__, defScope st_NotTurned___init__, [], []⟩
def dd_Touches___init__ : He.DefD := ⟨("Touches", some "__init__"), "__init__", "Touches.__init__", defArgs st_Touches___init__, defBody st_Touches___init__, defScope st_Touches___init__, [], []⟩
def dd_TooMany___init__ : He.DefD := ⟨("TooMany", some "__init__"), "__init__", "TooMany.__init__", defArgs st_TooMany___init__, defBody st_TooMany___init__, defScope st_TooMany___init__, [], []⟩
def dd_Broken___init__ : He.DefD := ⟨("Broken", some "__init__"), "__init__", "Broken.__init__", defArgs st_Broken___init__, defBody st_Broken___init__, defScope st_Broken___init__, [], []⟩
def dd_InUse___init__ : He.DefD := ⟨("InUse", some "__init__"), "__init__", "InUse.__init__", defArgs st_InUse___init__, defBody st_InUse___init__, defScope st_InUse___init__, [], []⟩
def hfn0 : List He.DefD := [dd__law_purse, dd__law_draw, dd__law_thing, dd__law_firsts, dd__law_seconds, dd__law_flags, dd__law_right, dd_law, dd_InvalidNumber___init__, dd_InvalidText___init__, dd_InvalidIndex___init__, dd_InvalidName___init__, dd_InvalidCell___init__, dd_InvalidClaim___init__, dd_InvalidBar___init__, dd_UnknownName___init__, dd_NotABoard___init__, dd_NotALine___init__, dd_InvalidBars___init__, dd_InvalidCells___init__, dd_NotClosed___init__, dd_NotTurned___init__, dd_Touches___init__, dd_TooMany___init__, dd_Broken___init__]
def hfn1 : List He.DefD := [dd_InUse___init__]
def hfn : List He.DefD := hfn0 ++ hfn1
def hfa0 : List He.Fa := [.glo "_law_purse", .glo "_law_draw", .glo "_law_thing", .glo "_law_firsts", .glo "_law_seconds", .glo "_law_flags", .glo "_law_right", .glo "law", .glo "Broken", .glo "InUse", .glo "InvalidBar", .glo "InvalidBars", .glo "InvalidCell", .glo "InvalidCells", .glo "InvalidClaim", .glo "InvalidIndex", .glo "InvalidName", .glo "InvalidNumber", .glo "InvalidText", .glo "NoAnswer", .glo "NotABoard", .glo "NotALine", .glo "NotClosed", .glo "NotFacing", .glo "NotOneRim"]
def hfa1 : List He.Fa := [.glo "NotTurned", .glo "NothingToUndo", .glo "TooMany", .glo "Touches", .glo "UnknownName", .glo "WrongValue", .free "ArithmeticError", .free "ValueError", .free "abs", .free "all", .free "divmod", .free "enumerate", .free "int", .free "isinstance", .free "len", .free "max", .free "min", .free "range", .free "repr", .int "MOST_LISTED" 200, .int "MOST_STEPS" 120, .noat "Broken" "index", .noat "Broken" "told", .noat "InUse" "index", .noat "InvalidBar" "given"]
def hfa2 : List He.Fa := [.noat "InvalidBars" "index", .noat "InvalidCell" "given", .noat "InvalidCells" "index", .noat "InvalidClaim" "given", .noat "InvalidIndex" "given", .noat "InvalidName" "given", .noat "InvalidNumber" "given", .noat "InvalidText" "given", .noat "NotABoard" "given", .noat "NotALine" "given", .noat "NotClosed" "place", .noat "NotTurned" "given", .noat "TooMany" "number", .noat "Touches" "place", .noat "UnknownName" "given"]
def hfa : List He.Fa := hfa0 ++ hfa1 ++ hfa2
def hlo0 : List Str := ["__name__", "WrongValue", "NoAnswer", "InvalidText", "InvalidNumber", "InvalidName", "InvalidIndex", "InvalidClaim", "InvalidCell", "InvalidBar", "UnknownName", "NotALine", "NotABoard", "InvalidBars", "InvalidCells", "NotClosed", "Touches", "NotTurned", "NotFacing", "NotOneRim", "TooMany", "Broken", "InUse", "NothingToUndo", "MOST_STEPS"]
def hlo1 : List Str := ["MOST_LISTED", "_law_purse", "_law_draw", "_law_thing", "_law_firsts", "_law_seconds", "_law_flags", "_law_right"]
def hlo : List Str := hlo0 ++ hlo1
def hpr0 : List PrD := []
def hpr : List PrD := hpr0
def hnm0 : List Str := ["Broken", "InUse", "InvalidBar", "InvalidBars", "InvalidCell", "InvalidCells", "InvalidClaim", "InvalidIndex", "InvalidName", "InvalidNumber", "InvalidText", "NoAnswer", "NotABoard", "NotALine", "NotClosed", "NotFacing", "NotOneRim", "NotTurned", "NothingToUndo", "TooMany", "Touches", "UnknownName", "WrongValue", "_law_draw", "_law_firsts"]
def hnm1 : List Str := ["_law_flags", "_law_purse", "_law_right", "_law_seconds", "_law_thing", "law"]
def hnm : List Str := hnm0 ++ hnm1
def hts : List He.Tab := []
def hlam : List He.Defn := []
def hbs (K : PySem.W.Frag) : Bool := xcB K (He.ga K "Broken") "ArithmeticError.__new__" tlA && xiB K "Broken" && xcB K (He.ga K "InUse") "ArithmeticError.__new__" tlA && xiB K "InUse" && xcB K (He.ga K "InvalidBar") "ValueError.__new__" tlV && xiB K "InvalidBar" && xcB K (He.ga K "InvalidBars") "ValueError.__new__" tlV && xiB K "InvalidBars" && xcB K (He.ga K "InvalidCell") "ValueError.__new__" tlV && xiB K "InvalidCell" && xcB K (He.ga K "InvalidCells") "ValueError.__new__" tlV && xiB K "InvalidCells" && xcB K (He.ga K "InvalidClaim") "ValueError.__new__" tlV && xiB K "InvalidClaim" && xcB K (He.ga K "InvalidIndex") "ValueError.__new__" tlV && xiB K "InvalidIndex" && xcB K (He.ga K "InvalidName") "ValueError.__new__" tlV && xiB K "InvalidName" && xcB K (He.ga K "InvalidNumber") "ValueError.__new__" tlV && xiB K "InvalidNumber" && xcB K (He.ga K "InvalidText") "ValueError.__new__" tlV && xiB K "InvalidText" && xcB K (He.ga K "NotABoard") "ValueError.__new__" tlV && xiB K "NotABoard" && xcB K (He.ga K "NotALine") "ValueError.__new__" tlV && xiB K "NotALine" && xcB K (He.ga K "NotClosed") "ArithmeticError.__new__" tlA && xiB K "NotClosed" && xcB K (He.ga K "NotTurned") "ArithmeticError.__new__" tlA && xiB K "NotTurned" && xcB K (He.ga K "TooMany") "ArithmeticError.__new__" tlA && xiB K "TooMany" && xcB K (He.ga K "Touches") "ArithmeticError.__new__" tlA && xiB K "Touches" && xcB K (He.ga K "UnknownName") "ValueError.__new__" tlV && xiB K "UnknownName" && x0B K "NotFacing" "ArithmeticError.__new__" tlA && x0B K "NotOneRim" "ArithmeticError.__new__" tlA && x0B K "NothingToUndo" "ArithmeticError.__new__" tlA && isXsB K xbs xtb && isXbB K xbb xtt && xfsB K cs_given "given" && xfsB K cs_index "index" && xfsB K cs_number "number" && xfsB K cs_place "place" && xfsB K cs_told "told" && (K.lookup sysModules).isSome
abbrev RR : PySem.W.OpenRow := PySem.W.OpenLaw.row PySem.Challenge.rw_rimsheets_k01_constants_and_errors
abbrev hk : PySem.W.Hook := hookZ hnm 4 hfa hfn hts hlam hbs hpr
def hob (s : PySem.W.SharedT) : AlY := obsZ hnm 4 hfa hfn hts hlam hbs hpr (HandSHeadRun.getT s)
theorem hob_eq (s : PySem.W.SharedT) : hob s = hk.obs s.abs := obsZ_eq (HandSHeadRun.getT_eq s)
end K51
namespace K51
open PySem PySem.W PySem.Calls PyProof.Rows HandSHeadRun Mo
noncomputable abbrev RUN (w : World) (os : OsState) : Option SharedT := endF (stepQ (denQ tabQ) RR.prog w) 8000 RR.prog w os
theorem join3 {S α β γ : Type} {x : Option S} {f : S → α} {g : S → β} {k : S → γ} {a : α} {b : β} {c : γ} (p : x.map f = some a) (q : x.map g = some b) (r : x.map k = some c) : x.map (fun s => (f s, g s, k s)) = some (a, b, c) := by
  cases x with
  | none => cases p
  | some s => cases p; cases q; cases r; rfl
theorem hA0 (w : World) (os : OsState) : (RUN (w.withFollow "special-get-raises" false) os).map (fun s => looksF RR.prog (PySem.W.boot_heap (w.withFollow "special-get-raises" false).params) s.abs) = some true := by
  kernel_rfl
theorem hB0 (w : World) (os : OsState) : (RUN (w.withFollow "special-get-raises" false) os).map (fun s => seenQ (view RR.prog [34]) hlo (importedModules RR.prog.main.body) (fun s => xlAt (view RR.prog [34]) [] s && recOk RR.toRowW.records s) s.abs) = some (openGood (view RR.prog [34]) hlo) := by
  kernel_rfl
theorem hC0 (w : World) (os : OsState) : (RUN (w.withFollow "special-get-raises" false) os).map hob = some (valY hfn hts hpr (w.withFollow "special-get-raises" false)) := by
  kernel_rfl
theorem hA1 (w : World) (os : OsState) : (RUN (w.withFollow "special-get-raises" true) os).map (fun s => looksF RR.prog (PySem.W.boot_heap (w.withFollow "special-get-raises" true).params) s.abs) = some true := by
  kernel_rfl
theorem hB1 (w : World) (os : OsState) : (RUN (w.withFollow "special-get-raises" true) os).map (fun s => seenQ (view RR.prog [34]) hlo (importedModules RR.prog.main.body) (fun s => xlAt (view RR.prog [34]) [] s && recOk RR.toRowW.records s) s.abs) = some (openGood (view RR.prog [34]) hlo) := by
  kernel_rfl
theorem hC1 (w : World) (os : OsState) : (RUN (w.withFollow "special-get-raises" true) os).map hob = some (valY hfn hts hpr (w.withFollow "special-get-raises" true)) := by
  kernel_rfl
theorem hrunf (w : World) : RunEq RR (view RR.prog [34]) hk hob 8000 hlo (w.withFollow "special-get-raises" false) := fun os => join3 (hA0 w os) (hB0 w os) (hC0 w os)
theorem hrunt (w : World) : RunEq RR (view RR.prog [34]) hk hob 8000 hlo (w.withFollow "special-get-raises" true) := fun os => join3 (hA1 w os) (hB1 w os) (hC1 w os)
theorem hrun (w : World) : RunEq RR (view RR.prog [34]) hk hob 8000 hlo w := PySem.W.byRow2 "special-get-raises" hrunf hrunt w
end K51
namespace K51
open PySem PySem.Spec PyProof.Rows L2 Mo
theorem facts {w : World} {K : PySem.W.Frag} {h : Heap} {mg : Str → Option Value} (X : K.In h) (G : h.Ns mainGlobals mg) (c : SaysY hfa hfn hts hlam hbs hpr w h K) : Fc w K mg := by
  have d := c.x.t.d
  have b := c.x.more
  simp only [hbs, Bool.and_eq_true] at b
  exact {
    d__law_purse := d.def_ 0 (d := dd__law_purse) rfl
    d__law_draw := d.def_ 1 (d := dd__law_draw) rfl
    d__law_thing := d.def_ 2 (d := dd__law_thing) rfl
    d__law_firsts := d.def_ 3 (d := dd__law_firsts) rfl
    d__law_seconds := d.def_ 4 (d := dd__law_seconds) rfl
    d__law_flags := d.def_ 5 (d := dd__law_flags) rfl
    d__law_right := d.def_ 6 (d := dd__law_right) rfl
    d_law := d.def_ 7 (d := dd_law) rfl
    d_InvalidNumber___init__ := d.def_ 8 (d := dd_InvalidNumber___init__) rfl
    d_InvalidText___init__ := d.def_ 9 (d := dd_InvalidText___init__) rfl
    d_InvalidIndex___init__ := d.def_ 10 (d := dd_InvalidIndex___init__) rfl
    d_InvalidName___init__ := d.def_ 11 (d := dd_InvalidName___init__) rfl
    d_InvalidCell___init__ := d.def_ 12 (d := dd_InvalidCell___init__) rfl
    d_InvalidClaim___init__ := d.def_ 13 (d := dd_InvalidClaim___init__) rfl
    d_InvalidBar___init__ := d.def_ 14 (d := dd_InvalidBar___init__) rfl
    d_UnknownName___init__ := d.def_ 15 (d := dd_UnknownName___init__) rfl
    d_NotABoard___init__ := d.def_ 16 (d := dd_NotABoard___init__) rfl
    d_NotALine___init__ := d.def_ 17 (d := dd_NotALine___init__) rfl
    d_InvalidBars___init__ := d.def_ 18 (d := dd_InvalidBars___init__) rfl
    d_InvalidCells___init__ := d.def_ 19 (d := dd_InvalidCells___init__) rfl
    d_NotClosed___init__ := d.def_ 20 (d := dd_NotClosed___init__) rfl
    d_NotTurned___init__ := d.def_ 21 (d := dd_NotTurned___init__) rfl
    d_Touches___init__ := d.def_ 22 (d := dd_Touches___init__) rfl
    d_TooMany___init__ := d.def_ 23 (d := dd_TooMany___init__) rfl
    d_Broken___init__ := d.def_ 24 (d := dd_Broken___init__) rfl
    d_InUse___init__ := d.def_ 25 (d := dd_InUse___init__) rfl
    g__law_purse := He.glo_ok X G (d.fact 0 (f := .glo "_law_purse") rfl)
    g__law_draw := He.glo_ok X G (d.fact 1 (f := .glo "_law_draw") rfl)
    g__law_thing := He.glo_ok X G (d.fact 2 (f := .glo "_law_thing") rfl)
    g__law_firsts := He.glo_ok X G (d.fact 3 (f := .glo "_law_firsts") rfl)
    g__law_seconds := He.glo_ok X G (d.fact 4 (f := .glo "_law_seconds") rfl)
    g__law_flags := He.glo_ok X G (d.fact 5 (f := .glo "_law_flags") rfl)
    g__law_right := He.glo_ok X G (d.fact 6 (f := .glo "_law_right") rfl)
    g_law := He.glo_ok X G (d.fact 7 (f := .glo "law") rfl)
    g_Broken := He.glo_ok X G (d.fact 8 (f := .glo "Broken") rfl)
    g_InUse := He.glo_ok X G (d.fact 9 (f := .glo "InUse") rfl)
    g_InvalidBar := He.glo_ok X G (d.fact 10 (f := .glo "InvalidBar") rfl)
    g_InvalidBars := He.glo_ok X G (d.fact 11 (f := .glo "InvalidBars") rfl)
    g_InvalidCell := He.glo_ok X G (d.fact 12 (f := .glo "InvalidCell") rfl)
    g_InvalidCells := He.glo_ok X G (d.fact 13 (f := .glo "InvalidCells") rfl)
    g_InvalidClaim := He.glo_ok X G (d.fact 14 (f := .glo "InvalidClaim") rfl)
    g_InvalidIndex := He.glo_ok X G (d.fact 15 (f := .glo "InvalidIndex") rfl)
    g_InvalidName := He.glo_ok X G (d.fact 16 (f := .glo "InvalidName") rfl)
    g_InvalidNumber := He.glo_ok X G (d.fact 17 (f := .glo "InvalidNumber") rfl)
    g_InvalidText := He.glo_ok X G (d.fact 18 (f := .glo "InvalidText") rfl)
    g_NoAnswer := He.glo_ok X G (d.fact 19 (f := .glo "NoAnswer") rfl)
    g_NotABoard := He.glo_ok X G (d.fact 20 (f := .glo "NotABoard") rfl)
    g_NotALine := He.glo_ok X G (d.fact 21 (f := .glo "NotALine") rfl)
    g_NotClosed := He.glo_ok X G (d.fact 22 (f := .glo "NotClosed") rfl)
    g_NotFacing := He.glo_ok X G (d.fact 23 (f := .glo "NotFacing") rfl)
    g_NotOneRim := He.glo_ok X G (d.fact 24 (f := .glo "NotOneRim") rfl)
    g_NotTurned := He.glo_ok X G (d.fact 25 (f := .glo "NotTurned") rfl)
    g_NothingToUndo := He.glo_ok X G (d.fact 26 (f := .glo "NothingToUndo") rfl)
    g_TooMany := He.glo_ok X G (d.fact 27 (f := .glo "TooMany") rfl)
    g_Touches := He.glo_ok X G (d.fact 28 (f := .glo "Touches") rfl)
    g_UnknownName := He.glo_ok X G (d.fact 29 (f := .glo "UnknownName") rfl)
    g_WrongValue := He.glo_ok X G (d.fact 30 (f := .glo "WrongValue") rfl)
    n_ArithmeticError := He.free_ok X G (d.fact 31 (f := .free "ArithmeticError") rfl)
    n_ValueError := He.free_ok X G (d.fact 32 (f := .free "ValueError") rfl)
    n_abs := He.free_ok X G (d.fact 33 (f := .free "abs") rfl)
    n_all := He.free_ok X G (d.fact 34 (f := .free "all") rfl)
    n_divmod := He.free_ok X G (d.fact 35 (f := .free "divmod") rfl)
    n_enumerate := He.free_ok X G (d.fact 36 (f := .free "enumerate") rfl)
    n_int := He.free_ok X G (d.fact 37 (f := .free "int") rfl)
    n_isinstance := He.free_ok X G (d.fact 38 (f := .free "isinstance") rfl)
    n_len := He.free_ok X G (d.fact 39 (f := .free "len") rfl)
    n_max := He.free_ok X G (d.fact 40 (f := .free "max") rfl)
    n_min := He.free_ok X G (d.fact 41 (f := .free "min") rfl)
    n_range := He.free_ok X G (d.fact 42 (f := .free "range") rfl)
    n_repr := He.free_ok X G (d.fact 43 (f := .free "repr") rfl)
    c_MOST_LISTED := He.int_ok X G (d.fact 44 (f := .int "MOST_LISTED" 200) rfl)
    c_MOST_STEPS := He.int_ok X G (d.fact 45 (f := .int "MOST_STEPS" 120) rfl)
    na_Broken_index := He.noat_ok (d.fact 46 (f := .noat "Broken" "index") rfl)
    na_Broken_told := He.noat_ok (d.fact 47 (f := .noat "Broken" "told") rfl)
    na_InUse_index := He.noat_ok (d.fact 48 (f := .noat "InUse" "index") rfl)
    na_InvalidBar_given := He.noat_ok (d.fact 49 (f := .noat "InvalidBar" "given") rfl)
    na_InvalidBars_index := He.noat_ok (d.fact 50 (f := .noat "InvalidBars" "index") rfl)
    na_InvalidCell_given := He.noat_ok (d.fact 51 (f := .noat "InvalidCell" "given") rfl)
    na_InvalidCells_index := He.noat_ok (d.fact 52 (f := .noat "InvalidCells" "index") rfl)
    na_InvalidClaim_given := He.noat_ok (d.fact 53 (f := .noat "InvalidClaim" "given") rfl)
    na_InvalidIndex_given := He.noat_ok (d.fact 54 (f := .noat "InvalidIndex" "given") rfl)
    na_InvalidName_given := He.noat_ok (d.fact 55 (f := .noat "InvalidName" "given") rfl)
    na_InvalidNumber_given := He.noat_ok (d.fact 56 (f := .noat "InvalidNumber" "given") rfl)
    na_InvalidText_given := He.noat_ok (d.fact 57 (f := .noat "InvalidText" "given") rfl)
    na_NotABoard_given := He.noat_ok (d.fact 58 (f := .noat "NotABoard" "given") rfl)
    na_NotALine_given := He.noat_ok (d.fact 59 (f := .noat "NotALine" "given") rfl)
    na_NotClosed_place := He.noat_ok (d.fact 60 (f := .noat "NotClosed" "place") rfl)
    na_NotTurned_given := He.noat_ok (d.fact 61 (f := .noat "NotTurned" "given") rfl)
    na_TooMany_number := He.noat_ok (d.fact 62 (f := .noat "TooMany" "number") rfl)
    na_Touches_place := He.noat_ok (d.fact 63 (f := .noat "Touches" "place") rfl)
    na_UnknownName_given := He.noat_ok (d.fact 64 (f := .noat "UnknownName" "given") rfl)
    xc_Broken := xcB_ok b.1.1.1.1.1.1.1.1.1.1.1.1.1.1.1.1.1.1.1.1.1.1.1.1.1.1.1.1.1.1.1.1.1.1.1.1.1.1.1.1.1.1.1.1.1.1
    xi_Broken := xiB_ok b.1.1.1.1.1.1.1.1.1.1.1.1.1.1.1.1.1.1.1.1.1.1.1.1.1.1.1.1.1.1.1.1.1.1.1.1.1.1.1.1.1.1.1.1.1.2
    xc_InUse := xcB_ok b.1.1.1.1.1.1.1.1.1.1.1.1.1.1.1.1.1.1.1.1.1.1.1.1.1.1.1.1.1.1.1.1.1.1.1.1.1.1.1.1.1.1.1.1.2
    xi_InUse := xiB_ok b.1.1.1.1.1.1.1.1.1.1.1.1.1.1.1.1.1.1.1.1.1.1.1.1.1.1.1.1.1.1.1.1.1.1.1.1.1.1.1.1.1.1.1.2
    xc_InvalidBar := xcB_ok b.1.1.1.1.1.1.1.1.1.1.1.1.1.1.1.1.1.1.1.1.1.1.1.1.1.1.1.1.1.1.1.1.1.1.1.1.1.1.1.1.1.1.2
    xi_InvalidBar := xiB_ok b.1.1.1.1.1.1.1.1.1.1.1.1.1.1.1.1.1.1.1.1.1.1.1.1.1.1.1.1.1.1.1.1.1.1.1.1.1.1.1.1.1.2
    xc_InvalidBars := xcB_ok b.1.1.1.1.1.1.1.1.1.1.1.1.1.1.1.1.1.1.1.1.1.1.1.1.1.1.1.1.1.1.1.1.1.1.1.1.1.1.1.1.2
    xi_InvalidBars := xiB_ok b.1.1.1.1.1.1.1.1.1.1.1.1.1.1.1.1.1.1.1.1.1.1.1.1.1.1.1.1.1.1.1.1.1.1.1.1.1.1.1.2
    xc_InvalidCell := xcB_ok b.1.1.1.1.1.1.1.1.1.1.1.1.1.1.1.1.1.1.1.1.1.1.1.1.1.1.1.1.1.1.1.1.1.1.1.1.1.1.2
    xi_InvalidCell := xiB_ok b.1.1.1.1.1.1.1.1.1.1.1.1.1.1.1.1.1.1.1.1.1.1.1.1.1.1.1.1.1.1.1.1.1.1.1.1.1.2
    xc_InvalidCells := xcB_ok b.1.1.1.1.1.1.1.1.1.1.1.1.1.1.1.1.1.1.1.1.1.1.1.1.1.1.1.1.1.1.1.1.1.1.1.1.2
    xi_InvalidCells := xiB_ok b.1.1.1.1.1.1.1.1.1.1.1.1.1.1.1.1.1.1.1.1.1.1.1.1.1.1.1.1.1.1.1.1.1.1.1.2
    xc_InvalidClaim := xcB_ok b.1.1.1.1.1.1.1.1.1.1.1.1.1.1.1.1.1.1.1.1.1.1.1.1.1.1.1.1.1.1.1.1.1.1.2
    xi_InvalidClaim := xiB_ok b.1.1.1.1.1.1.1.1.1.1.1.1.1.1.1.1.1.1.1.1.1.1.1.1.1.1.1.1.1.1.1.1.1.2
    xc_InvalidIndex := xcB_ok b.1.1.1.1.1.1.1.1.1.1.1.1.1.1.1.1.1.1.1.1.1.1.1.1.1.1.1.1.1.1.1.1.2
    xi_InvalidIndex := xiB_ok b.1.1.1.1.1.1.1.1.1.1.1.1.1.1.1.1.1.1.1.1.1.1.1.1.1.1.1.1.1.1.1.2
    xc_InvalidName := xcB_ok b.1.1.1.1.1.1.1.1.1.1.1.1.1.1.1.1.1.1.1.1.1.1.1.1.1.1.1.1.1.1.2
    xi_InvalidName := xiB_ok b.1.1.1.1.1.1.1.1.1.1.1.1.1.1.1.1.1.1.1.1.1.1.1.1.1.1.1.1.1.2
    xc_InvalidNumber := xcB_ok b.1.1.1.1.1.1.1.1.1.1.1.1.1.1.1.1.1.1.1.1.1.1.1.1.1.1.1.1.2
    xi_InvalidNumber := xiB_ok b.1.1.1.1.1.1.1.1.1.1.1.1.1.1.1.1.1.1.1.1.1.1.1.1.1.1.1.2
    xc_InvalidText := xcB_ok b.1.1.1.1.1.1.1.1.1.1.1.1.1.1.1.1.1.1.1.1.1.1.1.1.1.1.2
    xi_InvalidText := xiB_ok b.1.1.1.1.1.1.1.1.1.1.1.1.1.1.1.1.1.1.1.1.1.1.1.1.1.2
    xc_NotABoard := xcB_ok b.1.1.1.1.1.1.1.1.1.1.1.1.1.1.1.1.1.1.1.1.1.1.1.1.2
    xi_NotABoard := xiB_ok b.1.1.1.1.1.1.1.1.1.1.1.1.1.1.1.1.1.1.1.1.1.1.1.2
    xc_NotALine := xcB_ok b.1.1.1.1.1.1.1.1.1.1.1.1.1.1.1.1.1.1.1.1.1.1.2
    xi_NotALine := xiB_ok b.1.1.1.1.1.1.1.1.1.1.1.1.1.1.1.1.1.1.1.1.1.2
    xc_NotClosed := xcB_ok b.1.1.1.1.1.1.1.1.1.1.1.1.1.1.1.1.1.1.1.1.2
    xi_NotClosed := xiB_ok b.1.1.1.1.1.1.1.1.1.1.1.1.1.1.1.1.1.1.1.2
    xc_NotTurned := xcB_ok b.1.1.1.1.1.1.1.1.1.1.1.1.1.1.1.1.1.1.2
    xi_NotTurned := xiB_ok b.1.1.1.1.1.1.1.1.1.1.1.1.1.1.1.1.1.2
    xc_TooMany := xcB_ok b.1.1.1.1.1.1.1.1.1.1.1.1.1.1.1.1.2
    xi_TooMany := xiB_ok b.1.1.1.1.1.1.1.1.1.1.1.1.1.1.1.2
    xc_Touches := xcB_ok b.1.1.1.1.1.1.1.1.1.1.1.1.1.1.2
    xi_Touches := xiB_ok b.1.1.1.1.1.1.1.1.1.1.1.1.1.2
    xc_UnknownName := xcB_ok b.1.1.1.1.1.1.1.1.1.1.1.1.2
    xi_UnknownName := xiB_ok b.1.1.1.1.1.1.1.1.1.1.1.2
    x0_NotFacing := x0B_ok b.1.1.1.1.1.1.1.1.1.1.2
    x0_NotOneRim := x0B_ok b.1.1.1.1.1.1.1.1.1.2
    x0_NothingToUndo := x0B_ok b.1.1.1.1.1.1.1.1.2
    xs := isXsB_ok b.1.1.1.1.1.1.1.2
    xb := isXbB_ok b.1.1.1.1.1.1.2
    xf_given := xfsB_ok b.1.1.1.1.1.2
    xf_index := xfsB_ok b.1.1.1.1.2
    xf_number := xfsB_ok b.1.1.1.2
    xf_place := xfsB_ok b.1.1.2
    xf_told := xfsB_ok b.1.2
    sm := b.2 }
end K51
open PySem PySem.W PySem.Calls PyProof.Rows
theorem K51_of (hlaw : ∀ ns : List Int, ns.length ≤ 63 → ∃ h', K51.f_law [.wl (ns.map Mo.Dt.int)] [] = .ok (.bl true) h') : PySem.Challenge.rw_rimsheets_k01_constants_and_errors.Holds := by
  w_on; o_law
  refine HandSHeadRun.head_any (r := OpenLaw.row PySem.Challenge.rw_rimsheets_k01_constants_and_errors) (q := view (OpenLaw.row PySem.Challenge.rw_rimsheets_k01_constants_and_errors).prog [34]) (H := K51.hk) (ob := K51.hob) (M := 8000) (loose := K51.hlo) (d := HandSHeadRun.topDef (OpenLaw.row PySem.Challenge.rw_rimsheets_k01_constants_and_errors).prog 34) (kwd := []) K51.hob_eq
    (by kernel_rfl) (fun s => by kernel_rfl) K51.hrun (by kernel_rfl) (by kernel_rfl) (by kernel_rfl) (by rfl) (by first | assumption | decide +kernel) (by decide +kernel) ⟨rfl, rfl, rfl, rfl, rfl, by decide +kernel⟩ ?hw ?hc
  case hw => w_witness2
  case hc =>
    refine Mo.walk_G (l := PySem.Challenge.rw_rimsheets_k01_constants_and_errors) (n := 63) (k := 5) (x := "_law_script") rfl (by decide) (by kernel_rfl) ⟨rfl, by decide, by decide⟩ ?F
    intro w mg fa h Y G hmg0
    obtain ⟨K, KX, c⟩ := Y
    have hmg : mg ("law" : PySem.Str) = some (.ref fa) := by
      have e : (HandSHeadRun.topDef (OpenLaw.row PySem.Challenge.rw_rimsheets_k01_constants_and_errors).prog 34).name = ("law" : PySem.Str) := by kernel_rfl
      rw [← e]
      exact hmg0
    have C := K51.facts KX G c
    obtain ⟨fd, F⟩ := C.d_law
    have e := hmg.symm.trans C.g_law
    cases e
    have b := L2.FunD.bindsA (ps := ["_law_script"]) F fun _ _ _ _ _ _ us hl => match us, hl with | [_], _ => rfl
    exact ⟨K, fd, K51.f_law, KX, c.lam rfl, fun s v => b s [v] rfl, hlaw, fun base _ _ B => K51.go_law C B F⟩
theorem PySem.Challenge.cw_rimsheets_k01_constants_and_errors_holds : PySem.Challenge.rw_rimsheets_k01_constants_and_errors.Holds :=
  K51_of Mo.law_ok
