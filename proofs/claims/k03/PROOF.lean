import PyProof.Rows.All
import Wide.All
import OpenK.AllK
import Wide.FinOn
import HandS.Lambda
import HandS.HeadHook4
import HandS.ForMost
import HandS.Walk
import HandS.HeadHook1
import HandS.ExcInit
import HandS.Defaults
import HandS.TupAny
import HandS.Wide
import HandS.Deep
import HandS.IsInst
import HandS.SortRule
import HandS.SortInts
import HandS.Replace
import HandS.SetFor
import HandS.TupLen
import HandS.Conv
import HandS.More
import HandS.Small
import HandS.HeadEnd
import HandS.EndTab
import HandS.NestedK
import HandS.NoneIn
import HandS.SetKeys
import HandS.HeadHook3
import PyProof.DictMoreH
import HandS.Style
import PyProof.Draws
import PyProof.EnumMake
import PyProof.ZipIter
import HandS.DictComp
import KE.KDictPairs
import HandS.Text
import PyProof.EqAt
import PyProof.NeKinds
import HandS.Property
import KE.KAssignIn
import HandS.WordsExc
import HandS.TupLe
import HandS.ExcIs
import HandS.ExcField
import KE.KExcInit
import PyProof.ExcBaseAll.ArithmeticError
import HandS.ExcValue
import KE.DataFind
import HandS.Iter
import PyProof.InstNe
import HandS.FStr
import HandS.RaiseMore
import PyProof.TupleOfStr
import HandS.HotCalls
import HandS.ExcInitHot
import HandS.Star
import KE.DataMinMax
import PyProof.ReprNest
import PyProof.StrHeap
import HandS.WordsDict
import PyProof.TupleIter
import PyProof.WalksMore
import HandS.ReplaceLit
import HandS.Head0
import HandS.Head1
import HandS.Head2
import PyProof.ReprBulk
import PyProof.P3Eq
import PySem.Challenge.RW_rimsheets_k03_line_texts_bent
set_option Elab.async false
set_option linter.all false
namespace Mo
open PySem L2
def lamDefs : List Str := ["_law_right"]
def LT (K : PySem.W.Frag) : List (Addr × Str) := lamDefs.map fun n => ((He.cT K (n, none)).2, n ++ ".<locals>." ++ "<lambda>")
end Mo
set_option Elab.async false
set_option linter.all false
set_option maxRecDepth 100000
set_option maxHeartbeats 4000000
namespace Mo
open PySem L2
inductive Dt where
  | non | bl (b : Bool) | int (i : Int) | str (x : Str) | ty (n : String) | adr (a : Addr) | cl (c : Str)
  | tup (xs : List Dt) | lv (xs : List Dt) | wl (xs : List Dt) | wt (xs : List Dt)
  | dk (ks : List Key) (vs : List Dt) | dt (ks : List (List Key)) (vs : List Dt)
  | exc (c : Str) (ns : List Str) (ds : List Dt)
  | hot (a : Addr) (d : Option Addr) (c : Str) (ns : List Str) (ds : List Dt)
  | obj (i : Nat)
inductive Ao where
  | dead | lst (xs : List Dt) | dk (ks : List Key) (vs : List Dt) | dt (ks : List (List Key)) (vs : List Dt)
  | ins (c : Str) (fs : List (Str × Dt))
abbrev Ah := List Ao
structure Xv where
  cls : Str
  ns : List Str
  ds : List Dt
inductive Rs (α : Type) where
  | ok (a : α) (h : Ah) | exn (x : Xv) (h : Ah) | no
def Mm (α : Type) : Type := Ah → Rs α
def Mm.pure {α : Type} (a : α) : Mm α := fun h => .ok a h
def Mm.bind {α β : Type} (m : Mm α) (f : α → Mm β) : Mm β := fun h => match m h with
  | .ok a h' => f a h'
  | .exn x h' => .exn x h'
  | .no => .no
instance : Monad Mm where
  pure := Mm.pure
  bind := Mm.bind
def Mm.no {α : Type} : Mm α := fun _ => .no
structure Sx where
  ρ : List Addr
  h : Ah
  H : Hp
def Sx.mut (s : Sx) (a : Addr) : Prop := ∃ (i : Nat) (o : Ao), s.ρ[i]? = some a ∧ s.h[i]? = some o ∧ o ≠ .dead
/-- a cell that does not change any more -/
def Fx (s : Sx) (a : Addr) (u : HO) : Prop := Rd s.H a u ∧ ¬ s.mut a
abbrev H0 : Hp := fun _ => none
mutual
def Rep (K : PySem.W.Frag) (s : Sx) : Dt → V → Prop
  | .non, v => v = .non
  | .bl b, v => v = .bl b
  | .int i, v => v = .int i
  | .str x, v => v = .str x
  | .ty n, v => v = .ty n
  | .adr a, v => v = .ref a
  | .cl c, v => v = .ref (He.ga K c)
  | .tup ds, v => ∃ a vs, v = .ref a ∧ (s.H a = some (.tup vs) ∧ ¬ s.mut a) ∧ Reps K s ds vs
  | .wt ds, v => ∃ a vs, v = .ref a ∧ SqT K H0 a vs ∧ Reps K s ds vs
  | .lv ds, v => ∃ a vs, v = .ref a ∧ (s.H a = some (.lst vs) ∧ ¬ s.mut a) ∧ Reps K s ds vs
  | .wl ds, v => ∃ a vs, v = .ref a ∧ (Fx s a (.lst vs) ∨ SqL K H0 a vs) ∧ Reps K s ds vs
  | .dk ks ds, v => ∃ a vs, v = .ref a ∧ Fx s a (.dK (ks.zip vs)) ∧ ks.length = vs.length ∧ Reps K s ds vs
  | .dt ks ds, v => ∃ a vs, v = .ref a ∧ Fx s a (.dT (ks.zip vs)) ∧ ks.length = vs.length ∧ Reps K s ds vs
  | .exc c ns ds, v => ∃ a, v = .ref a ∧ ((ns = [] ∧ ds = [] ∧ s.H a = some (exo a (He.ga K c) none) ∧ ¬ s.mut a) ∨
      ∃ dx vs, (s.H a = some (exo a (He.ga K c) (some dx)) ∧ ¬ s.mut a) ∧ (s.H dx = some (exd dx (ns.zip vs)) ∧ ¬ s.mut dx) ∧ ns.length = vs.length ∧ Reps K s ds vs)
  | .hot a d c ns ds, v => v = .ref a ∧ ((d = none ∧ ns = [] ∧ ds = []) ∨ ∃ dd vs, d = some dd ∧ (s.H dd = some (.xd (ns.zip vs)) ∧ ¬ s.mut dd) ∧ ns.length = vs.length ∧ Reps K s ds vs)
  | .obj i, v => ∃ a, s.ρ[i]? = some a ∧ v = .ref a
def Reps (K : PySem.W.Frag) (s : Sx) : List Dt → List V → Prop
  | [], vs => vs = []
  | d :: ds, vs => ∃ v r, vs = v :: r ∧ Rep K s d v ∧ Reps K s ds r
end
/-- no table of code objects -/
def NoT (o : HO) : Prop := ∀ ps, o ≠ .tbl ps
def RepF (K : PySem.W.Frag) (s : Sx) : List (Str × Dt) → List (Str × V) → Prop
  | [], vs => vs = []
  | (n, d) :: ds, vs => ∃ v r, vs = (n, v) :: r ∧ Rep K s d v ∧ RepF K s ds r
def ORep (K : PySem.W.Frag) (s : Sx) (a : Addr) : Ao → Prop
  | .dead => ∃ u, s.H a = some u ∧ NoT u
  | .lst ds => ∃ vs, s.H a = some (.lst vs) ∧ Reps K s ds vs
  | .dk ks ds => ∃ vs, s.H a = some (.dK (ks.zip vs)) ∧ ks.length = vs.length ∧ Reps K s ds vs
  | .dt ks ds => ∃ vs, s.H a = some (.dT (ks.zip vs)) ∧ ks.length = vs.length ∧ Reps K s ds vs
  | .ins c fs => ∃ dx vs, s.H a = some (.ins (He.ga K c) dx vs) ∧ (s.H dx = some (.own a) ∧ ¬ s.mut dx) ∧ RepF K s fs vs
structure HRel (K : PySem.W.Frag) (s : Sx) : Prop where
  len : s.ρ.length = s.h.length
  nd : s.ρ.Nodup
  ob : ∀ (i : Nat) a o, s.ρ[i]? = some a → s.h[i]? = some o → ORep K s a o
  tb : LamX.Tabs (LT K) s.H
/-- a cell stays, or a dict is locked for good -/
def Fz (o o' : HO) : Prop := o' = o ∨ ∃ ob, o' = .frz ob o ∧ ((∃ kvs, o = .dK kvs) ∨ ∃ kvs, o = .dT kvs)
theorem Fz.trans {o p q : HO} (h : Fz o p) (k : Fz p q) : Fz o q := by
  rcases h with rfl | ⟨ob, rfl, h⟩
  · exact k
  · rcases k with rfl | ⟨ob', _, ⟨_, z⟩ | ⟨_, z⟩⟩
    · exact .inr ⟨ob, rfl, h⟩
    · cases z
    · cases z
theorem Fz.not {o p : HO} (h : Fz o p) (n : NoT o) : NoT p := by
  rcases h with rfl | ⟨ob, rfl, h⟩
  · exact n
  · exact fun ps z => nomatch z
structure Ext (s s' : Sx) : Prop where
  pre : ∀ (i : Nat) a, s.ρ[i]? = some a → s'.ρ[i]? = some a
  fix : ∀ a o, s.H a = some o → ¬ s.mut a → NoT o → (∃ o', s'.H a = some o' ∧ Fz o o') ∧ ¬ s'.mut a
theorem Ext.mk' {s s' : Sx} (pre : ∀ (i : Nat) a, s.ρ[i]? = some a → s'.ρ[i]? = some a) (fix : ∀ a o, s.H a = some o → ¬ s.mut a → s'.H a = some o ∧ ¬ s'.mut a) : Ext s s' :=
  ⟨pre, fun a o h k _ => ⟨⟨o, (fix a o h k).1, .inl rfl⟩, (fix a o h k).2⟩⟩
theorem Ext.refl (s : Sx) : Ext s s := .mk' (fun _ _ h => h) (fun _ _ h k => ⟨h, k⟩)
theorem Ext.trans {s s1 s2 : Sx} (x : Ext s s1) (y : Ext s1 s2) : Ext s s2 := by
  refine ⟨fun i a h => y.pre i a (x.pre i a h), fun a o h k n => ?_⟩
  obtain ⟨⟨o1, h1, f1⟩, k1⟩ := x.fix a o h k n
  obtain ⟨⟨o2, h2, f2⟩, k2⟩ := y.fix a o1 h1 k1 (f1.not n)
  exact ⟨⟨o2, h2, f1.trans f2⟩, k2⟩
def isDc : HO → Bool
  | .dK _ => true
  | .dT _ => true
  | .tbl _ => true
  | _ => false
theorem Ext.keep {s s' : Sx} (x : Ext s s') {a : Addr} {o : HO} (h : s.H a = some o ∧ ¬ s.mut a) (hd : isDc o = false) : s'.H a = some o ∧ ¬ s'.mut a := by
  obtain ⟨⟨o1, h1, f1⟩, k1⟩ := x.fix a o h.1 h.2 (fun ps z => by rw [z] at hd; cases hd)
  rcases f1 with rfl | ⟨ob, _, ⟨_, rfl⟩ | ⟨_, rfl⟩⟩
  · exact ⟨h1, k1⟩
  · cases hd
  · cases hd
theorem Fx.ext {s s' : Sx} {a : Addr} {u : HO} (x : Ext s s') (h : Fx s a u) (hu : NoT u := by intro _ z; cases z) : Fx s' a u := by
  obtain ⟨h | ⟨o, h⟩, k⟩ := h
  · obtain ⟨⟨o1, h1, f1⟩, k1⟩ := x.fix a _ h k hu
    rcases f1 with rfl | ⟨ob, rfl, _⟩
    · exact ⟨.inl h1, k1⟩
    · exact ⟨.inr ⟨ob, h1⟩, k1⟩
  · obtain ⟨h1, k1⟩ := x.keep ⟨h, k⟩ rfl
    exact ⟨.inr ⟨o, h1⟩, k1⟩
mutual
theorem Rep.ext {K : PySem.W.Frag} {s s' : Sx} (x : Ext s s') : ∀ {d : Dt} {v : V}, Rep K s d v → Rep K s' d v
  | .non, v, h => h
  | .bl b, v, h => h
  | .int i, v, h => h
  | .str y, v, h => h
  | .ty n, v, h => h
  | .adr a, v, h => h
  | .cl c, v, h => h
  | .tup ds, v, h => by
    obtain ⟨a, vs, e, k, r⟩ := h
    exact ⟨a, vs, e, x.keep k rfl, Reps.ext x r⟩
  | .wt ds, v, h => by
    obtain ⟨a, vs, e, k, r⟩ := h
    exact ⟨a, vs, e, k, Reps.ext x r⟩
  | .lv ds, v, h => by
    obtain ⟨a, vs, e, k, r⟩ := h
    exact ⟨a, vs, e, x.keep k rfl, Reps.ext x r⟩
  | .wl ds, v, h => by
    obtain ⟨a, vs, e, k, r⟩ := h
    exact ⟨a, vs, e, k.imp (fun q => q.ext x) id, Reps.ext x r⟩
  | .dk ks ds, v, h => by
    obtain ⟨a, vs, e, k, l, r⟩ := h
    exact ⟨a, vs, e, k.ext x, l, Reps.ext x r⟩
  | .dt ks ds, v, h => by
    obtain ⟨a, vs, e, k, l, r⟩ := h
    exact ⟨a, vs, e, k.ext x, l, Reps.ext x r⟩
  | .exc c ns ds, v, h => by
    obtain ⟨a, e, h⟩ := h
    refine ⟨a, e, ?_⟩
    rcases h with ⟨h1, h2, k⟩ | ⟨dx, vs, k1, k2, l, r⟩
    · exact .inl ⟨h1, h2, x.keep k rfl⟩
    · exact .inr ⟨dx, vs, x.keep k1 rfl, x.keep k2 rfl, l, Reps.ext x r⟩
  | .hot a d c ns ds, v, h => by
    obtain ⟨e, h⟩ := h
    refine ⟨e, ?_⟩
    rcases h with h | ⟨dd, vs, e2, k, l, r⟩
    · exact .inl h
    · exact .inr ⟨dd, vs, e2, x.keep k rfl, l, Reps.ext x r⟩
  | .obj i, v, h => by
    obtain ⟨a, e, r⟩ := h
    exact ⟨a, x.pre i a e, r⟩
theorem Reps.ext {K : PySem.W.Frag} {s s' : Sx} (x : Ext s s') : ∀ {ds : List Dt} {vs : List V}, Reps K s ds vs → Reps K s' ds vs
  | [], vs, h => h
  | d :: ds, vs, h => by
    obtain ⟨v, r, e, h1, h2⟩ := h
    exact ⟨v, r, e, Rep.ext x h1, Reps.ext x h2⟩
end
section
variable {K : PySem.W.Frag} {s s' : Sx}
theorem Reps.length : ∀ {ds : List Dt} {vs : List V}, Reps K s ds vs → vs.length = ds.length
  | [], vs, h => by cases h; rfl
  | d :: ds, vs, h => by
    obtain ⟨v, r, rfl, h1, h2⟩ := h
    simp [Reps.length h2]
theorem Reps.cons {d : Dt} {ds : List Dt} {v : V} {vs : List V} (h : Rep K s d v) (k : Reps K s ds vs) : Reps K s (d :: ds) (v :: vs) := ⟨v, vs, rfl, h, k⟩
theorem Reps.nil : Reps K s [] [] := rfl
theorem Reps.append : ∀ {ds es : List Dt} {vs ws : List V}, Reps K s ds vs → Reps K s es ws → Reps K s (ds ++ es) (vs ++ ws)
  | [], _, _, _, h, k => by cases h; exact k
  | d :: ds, es, vs, ws, h, k => by
    obtain ⟨v, r, rfl, h1, h2⟩ := h
    exact ⟨v, _, rfl, h1, Reps.append h2 k⟩
theorem Reps.get : ∀ {ds : List Dt} {vs : List V} {i : Nat} {d : Dt}, Reps K s ds vs → ds[i]? = some d → ∃ v, vs[i]? = some v ∧ Rep K s d v
  | [], _, _, _, h, e => by simp at e
  | d :: ds, vs, 0, _, h, e => by
    obtain ⟨v, r, rfl, h1, h2⟩ := h
    simp at e; subst e
    exact ⟨v, rfl, h1⟩
  | d :: ds, vs, i + 1, _, h, e => by
    obtain ⟨v, r, rfl, h1, h2⟩ := h
    obtain ⟨w, e1, e2⟩ := Reps.get (i := i) h2 (by simpa using e)
    exact ⟨w, by simpa using e1, e2⟩
theorem Reps.set {d : Dt} {v : V} (r : Rep K s d v) : ∀ {ds : List Dt} {vs : List V} (i : Nat), Reps K s ds vs → Reps K s (ds.set i d) (vs.set i v)
  | [], _, _, h => by cases h; exact rfl
  | _ :: _, _, 0, h => by
    obtain ⟨_, _, rfl, h1, h2⟩ := h
    exact ⟨v, _, rfl, r, h2⟩
  | _ :: _, _, i + 1, h => by
    obtain ⟨w, _, rfl, h1, h2⟩ := h
    exact ⟨w, _, rfl, h1, Reps.set r i h2⟩
theorem Reps.take : ∀ {ds : List Dt} {vs : List V} (n : Nat), Reps K s ds vs → Reps K s (ds.take n) (vs.take n)
  | [], _, _, h => by cases h; simp; exact rfl
  | _ :: _, _, 0, h => by simp; exact rfl
  | _ :: _, _, n + 1, h => by
    obtain ⟨w, _, rfl, h1, h2⟩ := h
    exact ⟨w, _, rfl, h1, Reps.take n h2⟩
theorem Reps.drop : ∀ {ds : List Dt} {vs : List V} (n : Nat), Reps K s ds vs → Reps K s (ds.drop n) (vs.drop n)
  | [], _, _, h => by cases h; simp; exact rfl
  | _ :: _, _, 0, h => h
  | _ :: _, _, n + 1, h => by
    obtain ⟨w, _, rfl, h1, h2⟩ := h
    exact Reps.drop n h2
theorem Reps.reverse : ∀ {ds : List Dt} {vs : List V}, Reps K s ds vs → Reps K s ds.reverse vs.reverse
  | [], _, h => by cases h; exact rfl
  | _ :: _, _, h => by
    obtain ⟨w, _, rfl, h1, h2⟩ := h
    simp only [List.reverse_cons]
    exact Reps.append (Reps.reverse h2) (Reps.cons h1 Reps.nil)
theorem HRel.live (r : HRel K s) {i : Nat} {a : Addr} {o : Ao} (e : s.ρ[i]? = some a) (k : s.h[i]? = some o) : ∃ u, s.H a = some u ∧ NoT u := by
  have q := r.ob i a o e k
  cases o with
  | dead => exact q
  | lst ds => obtain ⟨vs, e, _⟩ := q; exact ⟨_, e, fun _ z => nomatch z⟩
  | dk ks ds => obtain ⟨vs, e, _⟩ := q; exact ⟨_, e, fun _ z => nomatch z⟩
  | dt ks ds => obtain ⟨vs, e, _⟩ := q; exact ⟨_, e, fun _ z => nomatch z⟩
  | ins c fs => obtain ⟨dx, vs, e, _⟩ := q; exact ⟨_, e, fun _ z => nomatch z⟩
theorem HRel.at (r : HRel K s) {i : Nat} {a : Addr} (e : s.ρ[i]? = some a) : ∃ o, s.h[i]? = some o := by
  have h1 := (List.getElem?_eq_some_iff.mp e).1
  rw [r.len] at h1
  exact ⟨_, List.getElem?_eq_getElem h1⟩
theorem HRel.fresh (r : HRel K s) {p : Addr} (hp : s.H p = none) {i : Nat} : s.ρ[i]? ≠ some p := fun e => by
  obtain ⟨o, k⟩ := r.at e
  obtain ⟨u, q, _⟩ := r.live e k
  rw [hp] at q; cases q
/-- what is mutable holds what the heap says -/
theorem HRel.inj (r : HRel K s) {i j : Nat} {a : Addr} (e : s.ρ[i]? = some a) (k : s.ρ[j]? = some a) : i = j := by
  obtain ⟨hi, e1⟩ := List.getElem?_eq_some_iff.mp e
  obtain ⟨hj, e2⟩ := List.getElem?_eq_some_iff.mp k
  exact (List.getElem_inj r.nd).mp (e1.trans e2.symm)
theorem RepF.ext (x : Ext s s') : ∀ {fs : List (Str × Dt)} {vs : List (Str × V)}, RepF K s fs vs → RepF K s' fs vs
  | [], _, h => h
  | (n, d) :: fs, _, h => by
    obtain ⟨v, r, e, h1, h2⟩ := h
    exact ⟨v, r, e, Rep.ext x h1, RepF.ext x h2⟩
theorem RepF.lookup (f : Str) : ∀ {fs : List (Str × Dt)} {vs : List (Str × V)}, RepF K s fs vs → (fs.lookup f = none ∧ vs.lookup f = none) ∨ ∃ d v, fs.lookup f = some d ∧ vs.lookup f = some v ∧ Rep K s d v
  | [], _, h => by cases h; exact .inl ⟨rfl, rfl⟩
  | (n, d) :: fs, _, h => by
    obtain ⟨v, r, rfl, h1, h2⟩ := h
    by_cases e : f == n
    · refine .inr ⟨d, v, ?_, ?_, h1⟩ <;> simp [List.lookup_cons, e]
    · have := RepF.lookup f h2
      simpa [List.lookup_cons, e] using this
/-- ORep goes on -/
theorem ORep.ext {a : Addr} {o : Ao} (x : Ext s s') (h : ORep K s a o) (e : s'.H a = s.H a) : ORep K s' a o := by
  cases o with
  | dead => obtain ⟨u, q, n⟩ := h; exact ⟨u, by rw [e]; exact q, n⟩
  | lst ds => obtain ⟨vs, q, r⟩ := h; exact ⟨vs, by rw [e]; exact q, Reps.ext x r⟩
  | dk ks ds => obtain ⟨vs, q, l, r⟩ := h; exact ⟨vs, by rw [e]; exact q, l, Reps.ext x r⟩
  | dt ks ds => obtain ⟨vs, q, l, r⟩ := h; exact ⟨vs, by rw [e]; exact q, l, Reps.ext x r⟩
  | ins c fs => obtain ⟨dx, vs, q, l, r⟩ := h; exact ⟨dx, vs, by rw [e]; exact q, x.keep l rfl, RepF.ext x r⟩
/-- the tables stay where something else is written -/
theorem tabs_upd {T : List (Addr × Str)} {H : Hp} (t : LamX.Tabs T H) {a : Addr} {u : HO} (h1 : ∀ ps, H a ≠ some (.tbl ps)) (h2 : ∀ φ, H a ≠ some (.ext φ)) : LamX.Tabs T (upd H a u) := fun p hp => by
  obtain ⟨ps, e1, e2, e3⟩ := t p hp
  refine ⟨ps, ?_, e2, fun pos cv hc => ?_⟩
  · rw [upd_ne (fun z => h1 ps (by rw [← z]; exact e1))]; exact e1
  · obtain ⟨c, e4, e5⟩ := e3 pos cv hc
    exact ⟨c, e4, by rw [upd_ne (fun z => h2 _ (by rw [← z]; exact e5))]; exact e5⟩
theorem tabs_new {T : List (Addr × Str)} {H : Hp} (t : LamX.Tabs T H) {a : Addr} {u : HO} (h : H a = none) : LamX.Tabs T (upd H a u) := tabs_upd t (fun _ z => by rw [h] at z; cases z) (fun _ z => by rw [h] at z; cases z)
theorem HRel.noTab (r : HRel K s) {i : Nat} {a : Addr} {o : Ao} (e : s.ρ[i]? = some a) (k : s.h[i]? = some o) (ho : o ≠ .dead) : (∀ ps, s.H a ≠ some (.tbl ps)) ∧ ∀ φ, s.H a ≠ some (.ext φ) := by
  have q := r.ob i a o e k
  cases o with
  | dead => exact (ho rfl).elim
  | lst ds => obtain ⟨vs, e, _⟩ := q; rw [e]; exact ⟨fun _ z => (nomatch z), fun _ z => (nomatch z)⟩
  | dk ks ds => obtain ⟨vs, e, _⟩ := q; rw [e]; exact ⟨fun _ z => (nomatch z), fun _ z => (nomatch z)⟩
  | dt ks ds => obtain ⟨vs, e, _⟩ := q; rw [e]; exact ⟨fun _ z => (nomatch z), fun _ z => (nomatch z)⟩
  | ins c fs => obtain ⟨dx, vs, e, _⟩ := q; rw [e]; exact ⟨fun _ z => (nomatch z), fun _ z => (nomatch z)⟩
def Sx.new (s : Sx) (p : Addr) (u : HO) : Sx := ⟨s.ρ, s.h, upd s.H p u⟩
theorem new_ext (r : HRel K s) {p : Addr} {u : HO} (hp : s.H p = none) : Ext s (s.new p u) :=
  .mk' (fun _ _ h => h) fun a o h k => ⟨by show upd s.H p u a = some o; rw [upd_ne (ne_of_none h hp)]; exact h, k⟩
theorem new_rel (r : HRel K s) {p : Addr} {u : HO} (hp : s.H p = none) : HRel K (s.new p u) := by
  refine ⟨r.len, r.nd, fun i a o e k => ?_, tabs_new r.tb hp⟩
  refine (r.ob i a o e k).ext (new_ext r hp) ?_
  show upd s.H p u a = s.H a
  exact upd_ne fun z => r.fresh hp (z ▸ e)
theorem new_fx (r : HRel K s) {p : Addr} {u : HO} (hp : s.H p = none) : Fx (s.new p u) p u := ⟨.inl upd_same, fun ⟨i, o, e, _⟩ => r.fresh hp e⟩
def Sx.add (s : Sx) (p : Addr) (u : HO) (o : Ao) : Sx := ⟨s.ρ ++ [p], s.h ++ [o], upd s.H p u⟩
theorem add_ext (r : HRel K s) {p : Addr} {u : HO} {o : Ao} (hp : s.H p = none) : Ext s (s.add p u o) := by
  refine .mk' (fun i a h => ?_) fun a v h k => ⟨by show upd s.H p u a = some v; rw [upd_ne (ne_of_none h hp)]; exact h, ?_⟩
  · show (s.ρ ++ [p])[i]? = some a
    rw [List.getElem?_append_left (List.getElem?_eq_some_iff.mp h).1]; exact h
  · rintro ⟨i, o', e, e2, q⟩
    have e : (s.ρ ++ [p])[i]? = some a := e
    have e2 : (s.h ++ [o])[i]? = some o' := e2
    by_cases hi : i < s.ρ.length
    · rw [List.getElem?_append_left hi] at e
      rw [List.getElem?_append_left (by rw [← r.len]; exact hi)] at e2
      exact k ⟨i, o', e, e2, q⟩
    · rw [List.getElem?_append_right (by omega)] at e
      have : i - s.ρ.length = 0 := by
        have := (List.getElem?_eq_some_iff.mp e).1
        simp at this; omega
      rw [this] at e
      simp at e
      subst e
      rw [hp] at h; cases h
theorem add_rel (r : HRel K s) {p : Addr} {u : HO} {o : Ao} (hp : s.H p = none) (ho : ORep K (s.add p u o) p o) : HRel K (s.add p u o) := by
  refine ⟨by show (s.ρ ++ [p]).length = (s.h ++ [o]).length; simp [r.len], ?_, fun i a o' e e2 => ?_, tabs_new r.tb hp⟩
  · show (s.ρ ++ [p]).Nodup
    refine List.nodup_append.mpr ⟨r.nd, by simp, fun a ha b hb => ?_⟩
    simp at hb; subst hb
    rintro rfl
    obtain ⟨i, hi, e⟩ := List.getElem_of_mem ha
    exact r.fresh hp (i := i) (by rw [List.getElem?_eq_getElem hi, e])
  · have e : (s.ρ ++ [p])[i]? = some a := e
    have e2 : (s.h ++ [o])[i]? = some o' := e2
    by_cases hi : i < s.ρ.length
    · rw [List.getElem?_append_left hi] at e
      rw [List.getElem?_append_left (by rw [← r.len]; exact hi)] at e2
      refine (r.ob i a o' e e2).ext (add_ext r hp) ?_
      show upd s.H p u a = s.H a
      exact upd_ne fun z => r.fresh hp (z ▸ e)
    · rw [List.getElem?_append_right (by omega)] at e
      have h0 : i - s.ρ.length = 0 := by
        have := (List.getElem?_eq_some_iff.mp e).1
        simp at this; omega
      rw [h0] at e
      simp at e
      subst e
      rw [List.getElem?_append_right (by rw [← r.len]; omega), ← r.len, h0] at e2
      simp at e2
      subst e2
      exact ho
theorem add_at (r : HRel K s) {p : Addr} {u : HO} {o : Ao} : (s.add p u o).ρ[s.h.length]? = some p := by
  show (s.ρ ++ [p])[s.h.length]? = some p
  rw [← r.len]; simp
def Sx.put (s : Sx) (i : Nat) (a : Addr) (u : HO) (o : Ao) : Sx := ⟨s.ρ, s.h.set i o, upd s.H a u⟩
theorem put_ext (r : HRel K s) {i : Nat} {a : Addr} {u : HO} {o o' : Ao} (e : s.ρ[i]? = some a) (k : s.h[i]? = some o) (ho : o ≠ .dead) : Ext s (s.put i a u o') := by
  refine .mk' (fun _ _ h => h) fun b v h q => ?_
  have hb : b ≠ a := fun z => q (z ▸ ⟨i, o, e, k, ho⟩)
  refine ⟨by show upd s.H a u b = some v; rw [upd_ne hb]; exact h, ?_⟩
  rintro ⟨j, o2, e1, e2, q2⟩
  have e2 : (s.h.set i o')[j]? = some o2 := e2
  have e1 : s.ρ[j]? = some b := e1
  have hj : i ≠ j := fun z => by
    subst z
    rw [e] at e1
    exact hb (Option.some.inj e1).symm
  rw [List.getElem?_set_ne hj] at e2
  exact q ⟨j, o2, e1, e2, q2⟩
theorem put_rel (r : HRel K s) {i : Nat} {a : Addr} {u : HO} {o o' : Ao} (e : s.ρ[i]? = some a) (k : s.h[i]? = some o) (ho : o ≠ .dead) (hn : ORep K (s.put i a u o') a o') : HRel K (s.put i a u o') := by
  refine ⟨by show s.ρ.length = (s.h.set i o').length; simp [r.len], r.nd, fun j b o2 e1 e2 => ?_, tabs_upd r.tb (r.noTab e k ho).1 (r.noTab e k ho).2⟩
  have e2 : (s.h.set i o')[j]? = some o2 := e2
  have e1 : s.ρ[j]? = some b := e1
  by_cases hj : i = j
  · subst hj
    rw [e] at e1; cases e1
    rw [List.getElem?_set_self (List.getElem?_eq_some_iff.mp k).1] at e2
    cases e2
    exact hn
  · rw [List.getElem?_set_ne hj] at e2
    refine (r.ob j b o2 e1 e2).ext (put_ext r e k ho) ?_
    show upd s.H a u b = s.H b
    exact upd_ne fun z => hj (r.inj e (z ▸ e1))
def Sx.die (s : Sx) (i : Nat) : Sx := ⟨s.ρ, s.h.set i .dead, s.H⟩
theorem die_ext (r : HRel K s) (i : Nat) : Ext s (s.die i) := by
  refine .mk' (fun _ _ h => h) fun b v h q => ⟨h, ?_⟩
  rintro ⟨j, o2, e1, e2, q2⟩
  have e2 : (s.h.set i .dead)[j]? = some o2 := e2
  have e1 : s.ρ[j]? = some b := e1
  by_cases hj : i = j
  · subst hj
    by_cases hl : i < s.h.length
    · rw [List.getElem?_set_self hl] at e2; cases e2; exact q2 rfl
    · rw [List.getElem?_eq_none (by simpa using hl)] at e2; cases e2
  · rw [List.getElem?_set_ne hj] at e2
    exact q ⟨j, o2, e1, e2, q2⟩
theorem die_rel (r : HRel K s) (i : Nat) : HRel K (s.die i) := by
  refine ⟨by show s.ρ.length = (s.h.set i .dead).length; simp [r.len], r.nd, fun j b o2 e1 e2 => ?_, r.tb⟩
  have e2 : (s.h.set i .dead)[j]? = some o2 := e2
  have e1 : s.ρ[j]? = some b := e1
  by_cases hj : i = j
  · subst hj
    obtain ⟨o, k⟩ := r.at e1
    rw [List.getElem?_set_self (List.getElem?_eq_some_iff.mp k).1] at e2
    cases e2
    exact r.live e1 k
  · rw [List.getElem?_set_ne hj] at e2
    exact (r.ob j b o2 e1 e2).ext (die_ext r i) rfl
theorem die_fx (r : HRel K s) {i : Nat} {a : Addr} {u : HO} (e : s.ρ[i]? = some a) (q : s.H a = some u) : Fx (s.die i) a u := by
  refine ⟨.inl q, ?_⟩
  rintro ⟨j, o2, e1, e2, q2⟩
  have e2 : (s.h.set i .dead)[j]? = some o2 := e2
  have e1 : s.ρ[j]? = some a := e1
  have := r.inj e e1
  subst this
  rw [List.getElem?_set_self (by have := (List.getElem?_eq_some_iff.mp e).1; rw [r.len] at this; exact this)] at e2
  cases e2; exact q2 rfl
end
def XRep (K : PySem.W.Frag) (s : Sx) (x : Xv) (c : Value) (d : Option Addr) : Prop := c = .ref (He.ga K x.cls) ∧ ((d = none ∧ x.ns = [] ∧ x.ds = []) ∨ ∃ dd vs, d = some dd ∧ (s.H dd = some (.xd (x.ns.zip vs)) ∧ ¬ s.mut dd) ∧ x.ns.length = vs.length ∧ Reps K s x.ds vs)
def After {α : Type} (K : PySem.W.Frag) (E : XK) (s : Sx) (r : Rs α) (k : α → Sx → Prop) : Prop := match r with
  | .ok a h' => ∀ s', s'.h = h' → Ext s s' → HRel K s' → k a s'
  | .exn x h' => ∀ s' c dd, s'.h = h' → Ext s s' → HRel K s' → XRep K s' x c dd → E c dd s'.H
  | .no => False
section
variable {K : PySem.W.Frag} {E : XK} {s s' : Sx} {α β : Type}
theorem After.ext {r : Rs α} {k : α → Sx → Prop} (x : Ext s s') (h : After K E s r k) : After K E s' r k := by
  cases r with
  | ok a h' => exact fun s2 e y q => h s2 e (x.trans y) q
  | exn xv h' => exact fun s2 c dd e y q z => h s2 c dd e (x.trans y) q z
  | no => exact h
theorem After.bind {m : Mm α} {f : α → Mm β} {k : β → Sx → Prop} (h : After K E s ((m >>= f) s.h) k) : After K E s (m s.h) (fun a s1 => After K E s1 (f a s1.h) k) := by
  have e : (m >>= f) s.h = (match m s.h with | .ok a h' => f a h' | .exn x h' => .exn x h' | .no => .no) := rfl
  rw [e] at h
  cases q : m s.h with
  | ok a h' =>
    rw [q] at h
    intro s1 e1 x r
    subst e1
    exact After.ext x h
  | exn xv h' => rw [q] at h; exact h
  | no => rw [q] at h; exact h
theorem After.mono {r : Rs α} {k k' : α → Sx → Prop} (h : After K E s r k) (q : ∀ a s', Ext s s' → HRel K s' → k a s' → k' a s') : After K E s r k' := by
  cases r with
  | ok a h' => exact fun s2 e x r => q a s2 x r (h s2 e x r)
  | exn xv h' => exact h
  | no => exact h
end
end Mo
set_option Elab.async false
set_option linter.all false
set_option maxRecDepth 100000
set_option maxHeartbeats 4000000
namespace Mo
open PySem L2 PySem.Spec PyProof.Rows
abbrev En := List (Option Dt)
inductive Fl where
  | nx (e : En) | bk (e : En) | ct (e : En) | rt (d : Dt)
structure Envs (K : PySem.W.Frag) (s : Sx) (env : En) (σ : L2.St) : Prop where
  len : env.length = σ.length
  get : ∀ (i : Nat) d, env[i]? = some (some d) → ∃ v, σ[i]? = some (some v) ∧ Rep K s d v
def tE (K : PySem.W.Frag) (E : XK) (m : En → Mm Dt) : TE := fun σ H Q => ∃ s env, s.H = H ∧ HRel K s ∧ Envs K s env σ ∧ After K E s (m env s.h) (fun d s' => ∀ v, Rep K s' d v → Q v s'.H)
def tT (K : PySem.W.Frag) (E : XK) (m : En → Mm Bool) : TT := fun σ H Q => ∃ s env, s.H = H ∧ HRel K s ∧ Envs K s env σ ∧ After K E s (m env s.h) (fun b s' => Q b s'.H)
def tA (K : PySem.W.Frag) (E : XK) (m : En → Mm (List Dt)) : TA := fun σ H Q => ∃ s env, s.H = H ∧ HRel K s ∧ Envs K s env σ ∧ After K E s (m env s.h) (fun ds s' => ∀ vs, Reps K s' ds vs → Q vs s'.H)
def tO (K : PySem.W.Frag) (E : XK) (m : En → Mm (Option Int)) : TO := fun σ H Q => ∃ s env, s.H = H ∧ HRel K s ∧ Envs K s env σ ∧ After K E s (m env s.h) (fun b s' => Q b s'.H)
def tG (K : PySem.W.Frag) (E : XK) (m : Dt → En → Mm En) : TG := fun v σ H Q => ∃ s env d, s.H = H ∧ HRel K s ∧ Envs K s env σ ∧ Rep K s d v ∧ After K E s (m d env s.h) (fun env' s' => ∀ σ', Envs K s' env' σ' → Q σ' s'.H)
def tGs (K : PySem.W.Frag) (E : XK) (m : List Dt → En → Mm En) : TGs := fun vs σ H Q => ∃ s env ds, s.H = H ∧ HRel K s ∧ Envs K s env σ ∧ Reps K s ds vs ∧ After K E s (m ds env s.h) (fun env' s' => ∀ σ', Envs K s' env' σ' → Q σ' s'.H)
def flK (K : PySem.W.Frag) (D : Ends) : Fl → Sx → Prop
  | .nx e, s' => ∀ σ', Envs K s' e σ' → D.nx σ' s'.H
  | .bk e, s' => ∀ σ', Envs K s' e σ' → D.bk σ' s'.H
  | .ct e, s' => ∀ σ', Envs K s' e σ' → D.ct σ' s'.H
  | .rt d, s' => ∀ v, Rep K s' d v → D.rt v s'.H
def tS (K : PySem.W.Frag) (E : XK) (m : En → Mm Fl) : TS := fun D σ H => ∃ s env, s.H = H ∧ HRel K s ∧ Envs K s env σ ∧ After K E s (m env s.h) (flK K D)
/-- a def that lets no exception out -/
def spM (K : PySem.W.Frag) (n : Nat) (fm : List Dt → Mm Dt) : Sp := fun vs H Q _ => ∃ s ds, s.H = H ∧ ds.length = n ∧ HRel K s ∧ Reps K s ds vs ∧ After K E0 s (fm ds s.h) (fun d s' => ∀ v, Rep K s' d v → Q v s'.H)
/-- operations on values -/
def rM (K : PySem.W.Frag) (E : XK) (g : Dt → Dt → Mm Dt) : R2 := fun x y H Q => ∃ s d e, s.H = H ∧ HRel K s ∧ Rep K s d x ∧ Rep K s e y ∧ After K E s (g d e s.h) (fun z s' => ∀ v, Rep K s' z v → Q v s'.H)
def uM (K : PySem.W.Frag) (E : XK) (g : Dt → Mm Dt) : V → Hp → VK → Prop := fun x H Q => ∃ s d, s.H = H ∧ HRel K s ∧ Rep K s d x ∧ After K E s (g d s.h) (fun z s' => ∀ v, Rep K s' z v → Q v s'.H)
def cM (K : PySem.W.Frag) (E : XK) (g : List Dt → Mm Dt) : List V → Hp → VK → Prop := fun xs H Q => ∃ s ds, s.H = H ∧ HRel K s ∧ Reps K s ds xs ∧ After K E s (g ds s.h) (fun z s' => ∀ v, Rep K s' z v → Q v s'.H)
def mM (K : PySem.W.Frag) (E : XK) (g : Dt → List Dt → Mm Dt) : V → List V → Hp → VK → Prop := fun x xs H Q => ∃ s d ds, s.H = H ∧ HRel K s ∧ Rep K s d x ∧ Reps K s ds xs ∧ After K E s (g d ds s.h) (fun z s' => ∀ v, Rep K s' z v → Q v s'.H)
def slM (K : PySem.W.Frag) (E : XK) (g : Dt → Option Int → Option Int → Mm Dt) : V → Option Int → Option Int → Hp → VK → Prop := fun x lo hi H Q => ∃ s d, s.H = H ∧ HRel K s ∧ Rep K s d x ∧ After K E s (g d lo hi s.h) (fun z s' => ∀ v, Rep K s' z v → Q v s'.H)
def stM (K : PySem.W.Frag) (E : XK) (g : Dt → Dt → Dt → Mm Unit) : TSet := fun o i v H Q => ∃ s d e f, s.H = H ∧ HRel K s ∧ Rep K s d o ∧ Rep K s e i ∧ Rep K s f v ∧ After K E s (g d e f s.h) (fun _ s' => Q s'.H)
section
variable {X : Cx} {E : XK} {K : PySem.W.Frag} {s s1 : Sx} {env : En} {σ : L2.St} {β : Type}
theorem Envs.ext (x : Ext s s1) (h : Envs K s env σ) : Envs K s1 env σ := ⟨h.len, fun i d e => (h.get i d e).imp fun v q => ⟨q.1, q.2.ext x⟩⟩
theorem tE_bind {m : En → Mm Dt} {f : Dt → Mm β} {k : β → Sx → Prop} {Q : VK} (hr : HRel K s) (he : Envs K s env σ) (ha : After K E s ((m env >>= f) s.h) k)
    (hq : ∀ d s1 v, Ext s s1 → HRel K s1 → Envs K s1 env σ → Rep K s1 d v → After K E s1 (f d s1.h) k → Q v s1.H) : tE K E m σ s.H Q :=
  ⟨s, env, rfl, hr, he, ha.bind.mono fun d s1 x r q v rv => hq d s1 v x r (he.ext x) rv q⟩
theorem tT_bind {m : En → Mm Bool} {f : Bool → Mm β} {k : β → Sx → Prop} {Q : Bool → Hp → Prop} (hr : HRel K s) (he : Envs K s env σ) (ha : After K E s ((m env >>= f) s.h) k)
    (hq : ∀ b s1, Ext s s1 → HRel K s1 → Envs K s1 env σ → After K E s1 (f b s1.h) k → Q b s1.H) : tT K E m σ s.H Q :=
  ⟨s, env, rfl, hr, he, ha.bind.mono fun d s1 x r q => hq d s1 x r (he.ext x) q⟩
theorem tA_bind {m : En → Mm (List Dt)} {f : List Dt → Mm β} {k : β → Sx → Prop} {Q : List V → Hp → Prop} (hr : HRel K s) (he : Envs K s env σ) (ha : After K E s ((m env >>= f) s.h) k)
    (hq : ∀ ds s1 vs, Ext s s1 → HRel K s1 → Envs K s1 env σ → Reps K s1 ds vs → After K E s1 (f ds s1.h) k → Q vs s1.H) : tA K E m σ s.H Q :=
  ⟨s, env, rfl, hr, he, ha.bind.mono fun d s1 x r q v rv => hq d s1 v x r (he.ext x) rv q⟩
theorem tO_bind {m : En → Mm (Option Int)} {f : Option Int → Mm β} {k : β → Sx → Prop} {Q : Option Int → Hp → Prop} (hr : HRel K s) (he : Envs K s env σ) (ha : After K E s ((m env >>= f) s.h) k)
    (hq : ∀ b s1, Ext s s1 → HRel K s1 → Envs K s1 env σ → After K E s1 (f b s1.h) k → Q b s1.H) : tO K E m σ s.H Q :=
  ⟨s, env, rfl, hr, he, ha.bind.mono fun d s1 x r q => hq d s1 x r (he.ext x) q⟩
/-- the last part of a chain -/
theorem After.ret {α : Type} {a : α} {k : α → Sx → Prop} (r : HRel K s) (h : After K E s ((Mm.pure a) s.h) k) : k a s := h s rfl (Ext.refl s) r
theorem After.now {α : Type} {a : α} {h' : Ah} {k : α → Sx → Prop} (h : After K E s (.ok a h') k) (s' : Sx) (e : s'.h = h') (x : Ext s s') (r : HRel K s') : k a s' := h s' e x r
end
section
variable {X : Cx} {E : XK} {e a b c : Expr} {pos : Pos}
theorem pe_mono {t t' : TE} (h : PE X e t) (k : ∀ σ H Q, t' σ H Q → t σ H Q) : PE X e t' := ⟨fun pins s σ H Q I w => h.run pins s σ H Q I (k σ H Q w)⟩
theorem pt_mono {t t' : TT} (h : PT X e t) (k : ∀ σ H Q, t' σ H Q → t σ H Q) : PT X e t' := ⟨fun pins s σ H Q I w => h.run pins s σ H Q I (k σ H Q w)⟩
theorem pw_mono {t t' : TT} (h : PW X e t) (k : ∀ σ H Q, t' σ H Q → t σ H Q) : PW X e t' := ⟨fun wh pins s σ H Q I w => h.run wh pins s σ H Q I (k σ H Q w)⟩
theorem pa_mono {es : List Expr} {t t' : TA} (h : PA X es t) (k : ∀ σ H Q, t' σ H Q → t σ H Q) : PA X es t' := ⟨fun pos pins s σ H Q I w => h.run pos pins s σ H Q I (k σ H Q w)⟩
theorem po_mono {e : Option Expr} {t t' : TO} (h : PO X e t) (k : ∀ σ H Q, t' σ H Q → t σ H Q) : PO X e t' := ⟨fun pins s σ H Q I w => h.run pins s σ H Q I (k σ H Q w)⟩
theorem ps_mono {st : Stmt} {t t' : TS} (h : PS X st t) (k : ∀ D σ H, t' D σ H → t D σ H) : PS X st t' := ⟨fun pins s σ H D I w => h.run pins s σ H D I (k D σ H w)⟩
theorem pss_mono {st : List Stmt} {t t' : TS} (h : PSs X st t) (k : ∀ D σ H, t' D σ H → t D σ H) : PSs X st t' := ⟨fun pins s σ H D I w => h.run pins s σ H D I (k D σ H w)⟩
theorem pg_mono {tg : Expr} {t t' : TG} (h : PG X tg t) (k : ∀ v σ H Q, t' v σ H Q → t v σ H Q) : PG X tg t' := ⟨fun pins s σ H v u Q I r w => h.run pins s σ H v u Q I r (k v σ H Q w)⟩
theorem pgs_mono {tg : List Expr} {t t' : TGs} (h : PGs X tg t) (k : ∀ v σ H Q, t' v σ H Q → t v σ H Q) : PGs X tg t' := ⟨fun pins s σ H v u Q I r w => h.run pins s σ H v u Q I r (k v σ H Q w)⟩
theorem opR_mono {f : Value → Value → Sem Value} {r r' : R2} (h : OpR X f r) (k : ∀ x y H Q, r' x y H Q → r x y H Q) : OpR X f r' := fun pins s σ H x y v u Q I rx ry w => h pins s σ H x y v u Q I rx ry (k x y H Q w)
theorem unR_mono {f : Value → Sem Value} {r r' : V → Hp → VK → Prop} (h : UnR X f r) (k : ∀ x H Q, r' x H Q → r x H Q) : UnR X f r' := fun pins s σ H x v Q I rx w => h pins s σ H x v Q I rx (k x H Q w)
theorem callR_mono {f : Value} {r r' : List V → Hp → VK → Prop} (h : CallR X f r) (k : ∀ x H Q, r' x H Q → r x H Q) : CallR X f r' := fun pins s σ H x v Q I rx w => h pins s σ H x v Q I rx (k x H Q w)
def var (i : Nat) : En → Mm Dt := fun env => match env[i]? with
  | some (some d) => Mm.pure d
  | _ => Mm.no
theorem me_var (i : Nat) {x : Str} {pos : Pos} (hN : X.N[i]? = some x := by rfl) (hv : Vis X.env.scope x := by first | exact Or.inl rfl | exact Or.inr (Or.inl rfl) | exact Or.inr (Or.inr rfl)) (hd : (x == ("__debug__" : Str)) = false := by decide)
    (hcd : (x == ("__classdict__" : Str)) = false := by decide) : PE X (.Name x pos) (tE X.K E (var i)) := pe_mono (pv i hN hv hd hcd) fun σ H Q ⟨s, env, e, hr, he, ha⟩ => by
  subst e
  unfold var at ha
  cases q : env[i]? with
  | none => rw [q] at ha; exact ha.elim
  | some o =>
    cases o with
    | none => rw [q] at ha; exact ha.elim
    | some d =>
      rw [q] at ha
      obtain ⟨v, e1, r⟩ := he.get i d q
      exact ⟨v, e1, ha.ret hr v r⟩
def con (d : Dt) : En → Mm Dt := fun _ => Mm.pure d
theorem me_con {t : TE} {d : Dt} {v : V} (h : PE X e (tC v)) (hr : ∀ s, Rep X.K s d v) : PE X e (tE X.K E (con d)) := pe_mono h fun σ H Q ⟨s, env, e, r, he, ha⟩ => by
  subst e
  exact ha.ret r v (hr s)
theorem me_int {i j pos} : PE X (.Constant (.int i) j pos) (tE X.K E (con (.int i))) := me_con (t := tC (.int i)) pe_int fun _ => rfl
theorem me_bl {b j pos} : PE X (.Constant (.bool b) j pos) (tE X.K E (con (.bl b))) := me_con (t := tC (.bl b)) pe_bl fun _ => rfl
theorem me_non {j pos} : PE X (.Constant .none j pos) (tE X.K E (con .non)) := me_con (t := tC .non) pe_non fun _ => rfl
theorem me_str {x j pos} : PE X (.Constant (.str x) j pos) (tE X.K E (con (.str x))) := me_con (t := tC (.str x)) pe_str fun _ => rfl
def op2 (g : Dt → Dt → Mm Dt) (ma mb : En → Mm Dt) : En → Mm Dt := fun env => ma env >>= fun x => mb env >>= fun y => g x y
def op1 (g : Dt → Mm Dt) (ma : En → Mm Dt) : En → Mm Dt := fun env => ma env >>= fun x => g x
variable {ma mb mc : En → Mm Dt} {g : Dt → Dt → Mm Dt}
theorem op2_ok {r : R2} (hr : ∀ x y H Q, rM X.K E g x y H Q → r x y H Q) : ∀ σ H Q, tE X.K E (op2 g ma mb) σ H Q → tOp r (tE X.K E ma) (tE X.K E mb) σ H Q := fun σ H Q ⟨s, env, e, r, he, ha⟩ => by
  subst e
  exact tE_bind r he ha fun d s1 x x1 r1 e1 rx q => tE_bind r1 e1 q fun d2 s2 y x2 r2 e2 ry q2 => hr _ _ _ _ ⟨s2, d, d2, rfl, r2, rx.ext x2, ry, q2⟩
theorem me_op {op : Operator} (ho : OpR X (binaryOp op) (rM X.K E g)) (ha : PE X a (tE X.K E ma)) (hb : PE X b (tE X.K E mb)) : PE X (.BinOp a op b pos) (tE X.K E (op2 g ma mb)) := pe_mono (pe_op ho ha hb) (op2_ok fun _ _ _ _ h => h)
theorem me_un {op : UnaryOp} {g : Dt → Mm Dt} (ho : UnR X (unaryOp op) (uM X.K E g)) (ha : PE X a (tE X.K E ma)) : PE X (.UnaryOp op a pos) (tE X.K E (op1 g ma)) := pe_mono (pe_un ho ha) fun σ H Q ⟨s, env, e, r, he, ha⟩ => by
  subst e
  exact tE_bind r he ha fun d s1 x x1 r1 e1 rx q => ⟨s1, d, rfl, r1, rx, q⟩
theorem me_cmp {op : CmpOp} (ho : OpR X (compareOp op) (rM X.K E g)) (ha : PE X a (tE X.K E ma)) (hb : PE X b (tE X.K E mb)) (hm : behindInMarks op b = false) : PE X (.Compare a [op] [b] pos) (tE X.K E (op2 g ma mb)) := pe_mono (pe_cmpR ho ha hb hm) (op2_ok fun _ _ _ _ h => h)
def isB : Dt → Mm Bool
  | .bl b => Mm.pure b
  | _ => Mm.no
/-- a value as a test -/
def tst (m : En → Mm Dt) : En → Mm Bool := fun env => m env >>= isB
theorem mt_cmp {op : CmpOp} (ho : OpR X (compareOp op) (rM X.K E g)) (ha : PE X a (tE X.K E ma)) (hb : PE X b (tE X.K E mb)) (hm : behindInMarks op b = false) : PT X (.Compare a [op] [b] pos) (tT X.K E (tst (op2 g ma mb))) := by
  refine pt_mono (pt_cmpR ho ha hb hm) fun σ H Q h => ?_
  obtain ⟨s, env, e, r, he, ha⟩ := h
  subst e
  have h2 : tE X.K E (op2 g ma mb) σ s.H (fun x H' => ∃ k, x = V.bl k ∧ Q k H') := by
    refine tE_bind r he ha fun d s1 x x1 r1 e1 rx q => ?_
    cases d with
    | bl k =>
      cases rx
      exact ⟨k, rfl, q.ret r1⟩
    | _ => exact q.elim
  exact op2_ok (fun _ _ _ _ h => h) _ _ _ h2
theorem mt_val {e : Expr} (h : PE X e (tE X.K E ma)) (he : ∀ whole, isTrue e X.env whole = (do let v ← whole; standAt e.pos; holding [v] (truthy v)) := by intro _; rfl) : PT X e (tT X.K E (tst ma)) :=
  pt_mono (pt_val h he) fun σ H Q ⟨s, env, e, r, he, ha⟩ => by
    subst e
    refine tE_bind r he ha fun d s1 x x1 r1 e1 rx q => ?_
    cases d with
    | bl k =>
      cases rx
      exact ⟨k, rfl, q.ret r1⟩
    | _ => exact q.elim
variable {g' : Dt → Dt → Mm Dt}
variable {mt mu : En → Mm Bool} {rest : List Expr}
def andT (mt mu : En → Mm Bool) : En → Mm Bool := fun env => mt env >>= fun c => match c with | true => mu env | false => Mm.pure false
def orT (mt mu : En → Mm Bool) : En → Mm Bool := fun env => mt env >>= fun c => match c with | true => Mm.pure true | false => mu env
def notT (mt : En → Mm Bool) : En → Mm Bool := fun env => mt env >>= fun c => Mm.pure (!c)
theorem mw_and1 (ha : PT X a (tT X.K E mt)) : PW X (.BoolOp .And [a] pos) (tT X.K E mt) := pw_and1 ha
theorem mw_or1 (ha : PT X a (tT X.K E mt)) : PW X (.BoolOp .Or [a] pos) (tT X.K E mt) := pw_or1 ha
theorem mw_and (ha : PT X a (tT X.K E mt)) (hb : PW X (.BoolOp .And (b :: rest) pos) (tT X.K E mu)) : PW X (.BoolOp .And (a :: b :: rest) pos) (tT X.K E (andT mt mu)) := pw_mono (pw_and ha hb) fun σ H Q ⟨s, env, e, r, he, ha⟩ => by
  subst e
  refine tT_bind r he ha fun c s1 x1 r1 e1 q => ?_
  cases c with
  | true => rw [if_pos rfl]; exact ⟨s1, env, rfl, r1, e1, q⟩
  | false => rw [if_neg (by decide)]; exact q.ret r1
theorem mw_or (ha : PT X a (tT X.K E mt)) (hb : PW X (.BoolOp .Or (b :: rest) pos) (tT X.K E mu)) : PW X (.BoolOp .Or (a :: b :: rest) pos) (tT X.K E (orT mt mu)) := pw_mono (pw_or ha hb) fun σ H Q ⟨s, env, e, r, he, ha⟩ => by
  subst e
  refine tT_bind r he ha fun c s1 x1 r1 e1 q => ?_
  cases c with
  | true => rw [if_pos rfl]; exact q.ret r1
  | false => rw [if_neg (by decide)]; exact ⟨s1, env, rfl, r1, e1, q⟩
theorem mt_not (ha : PT X a (tT X.K E mt)) : PT X (.UnaryOp .Not a pos) (tT X.K E (notT mt)) := pt_mono (pt_not ha) fun σ H Q ⟨s, env, e, r, he, ha⟩ => by
  subst e
  exact tT_bind r he ha fun c s1 x1 r1 e1 q => q.ret r1
def ifE (mt : En → Mm Bool) (ma mb : En → Mm Dt) : En → Mm Dt := fun env => mt env >>= fun c => match c with | true => ma env | false => mb env
theorem me_if (hc : PT X c (tT X.K E mt)) (ha : PE X a (tE X.K E ma)) (hb : PE X b (tE X.K E mb)) : PE X (.IfExp c a b pos) (tE X.K E (ifE mt ma mb)) := pe_mono (pe_ifExp hc ha hb) fun σ H Q ⟨s, env, e, r, he, ha⟩ => by
  subst e
  refine tT_bind r he ha fun c s1 x1 r1 e1 q => ?_
  cases c with
  | true => rw [if_pos rfl]; exact ⟨s1, env, rfl, r1, e1, q⟩
  | false => rw [if_neg (by decide)]; exact ⟨s1, env, rfl, r1, e1, q⟩
def argN : En → Mm (List Dt) := fun _ => Mm.pure []
def argC (ma : En → Mm Dt) (mr : En → Mm (List Dt)) : En → Mm (List Dt) := fun env => ma env >>= fun x => mr env >>= fun r => Mm.pure (x :: r)
variable {mr : En → Mm (List Dt)} {es : List Expr}
theorem ma_nil : PA X [] (tA X.K E argN) := pa_mono pa_nil fun σ H Q ⟨s, env, e, r, he, ha⟩ => by
  subst e
  exact ha.ret r [] rfl
theorem ma_cons (ha : PE X e (tE X.K E ma)) (hr : PA X es (tA X.K E mr)) (hs : starEach (e :: es) X.env = (false, eval e X.env) :: starEach es X.env := by rfl) : PA X (e :: es) (tA X.K E (argC ma mr)) := pa_mono (pa_cons ha hr hs) fun σ H Q ⟨s, env, e, r, he, ha⟩ => by
  subst e
  exact tE_bind r he ha fun d s1 v x1 r1 e1 rv q => tA_bind r1 e1 q fun ds s2 vs x2 r2 e2 rvs q2 => q2.ret r2 _ (Reps.cons (rv.ext x2) rvs)
def tupE (mr : En → Mm (List Dt)) : En → Mm Dt := fun env => mr env >>= fun ds => if ds.length ≤ sizeLine then Mm.pure (.tup ds) else Mm.no
def lstE (mr : En → Mm (List Dt)) : En → Mm Dt := fun env => mr env >>= fun ds => if ds.length ≤ sizeLine then Mm.pure (.lv ds) else Mm.no
/-- a new tracked object -/
def mkO (o : Ao) : Mm Dt := fun h => .ok (.obj h.length) (h ++ [o])
def lstO (mr : En → Mm (List Dt)) : En → Mm Dt := fun env => mr env >>= fun ds => if ds.length ≤ sizeLine then mkO (.lst ds) else Mm.no
theorem me_tup {x1} (h : PA X es (tA X.K E mr)) : PE X (.Tuple es x1 pos) (tE X.K E (tupE mr)) := pe_mono (pe_tup h) fun σ H Q ⟨s, env, e, r, he, ha⟩ => by
  subst e
  refine tA_bind r he ha fun ds s1 vs x1 r1 e1 rv q => ?_
  split at q
  · rename_i hl
    rw [rv.length]
    refine ⟨hl, fun p hp => ?_⟩
    exact q.now (s1.new p (.tup vs)) rfl (new_ext r1 hp) (new_rel r1 hp) _ ⟨p, vs, rfl, ⟨upd_same, (new_fx r1 hp).2⟩, rv.ext (new_ext r1 hp)⟩
  · exact q.elim
theorem me_lst (h : PA X es (tA X.K E mr)) : PE X (.List es pos) (tE X.K E (lstE mr)) := pe_mono (pe_lst h) fun σ H Q ⟨s, env, e, r, he, ha⟩ => by
  subst e
  refine tA_bind r he ha fun ds s1 vs x1 r1 e1 rv q => ?_
  split at q
  · rename_i hl
    rw [rv.length]
    refine ⟨hl, fun p hp => ?_⟩
    exact q.now (s1.new p (.lst vs)) rfl (new_ext r1 hp) (new_rel r1 hp) _ ⟨p, vs, rfl, ⟨upd_same, (new_fx r1 hp).2⟩, rv.ext (new_ext r1 hp)⟩
  · exact q.elim
theorem mkO_ok {K : PySem.W.Frag} {s : Sx} {o : Ao} {u : HO} {p : Addr} {k : Dt → Sx → Prop} (r : HRel K s) (hp : s.H p = none) (ho : ORep K (s.add p u o) p o) (h : After K E s (mkO o s.h) k) : HRel K (s.add p u o) ∧ Ext s (s.add p u o) ∧ Rep K (s.add p u o) (.obj s.h.length) (.ref p) ∧ k (.obj s.h.length) (s.add p u o) :=
  ⟨add_rel r hp ho, add_ext r hp, ⟨p, add_at r, rfl⟩, h.now (s.add p u o) rfl (add_ext r hp) (add_rel r hp ho)⟩
theorem me_lstO (h : PA X es (tA X.K E mr)) : PE X (.List es pos) (tE X.K E (lstO mr)) := pe_mono (pe_lst h) fun σ H Q ⟨s, env, e, r, he, ha⟩ => by
  subst e
  refine tA_bind r he ha fun ds s1 vs x1 r1 e1 rv q => ?_
  split at q
  · rename_i hl
    rw [rv.length]
    refine ⟨hl, fun p hp => ?_⟩
    obtain ⟨_, x, rp, kq⟩ := mkO_ok (u := .lst vs) (o := .lst ds) r1 hp ⟨vs, upd_same, rv.ext (add_ext r1 hp)⟩ q
    exact kq _ rp
  · exact q.elim
def callM (n : Nat) (fm : List Dt → Mm Dt) (mr : En → Mm (List Dt)) : En → Mm Dt := fun env => mr env >>= fun ds => if ds.length = n then fm ds else Mm.no
def bi (g : List Dt → Mm Dt) (mr : En → Mm (List Dt)) : En → Mm Dt := fun env => mr env >>= fun ds => g ds
theorem bi_ok {g : List Dt → Mm Dt} : ∀ σ H Q, tE X.K E (bi g mr) σ H Q → tCB (cM X.K E g) (tA X.K E mr) σ H Q := fun σ H Q ⟨s, env, e, r, he, ha⟩ => by
  subst e
  exact tA_bind r he ha fun ds s1 vs x1 r1 e1 rv q => ⟨s1, ds, rfl, r1, rv, q⟩
end
end Mo
set_option Elab.async false
set_option linter.all false
set_option maxRecDepth 100000
set_option maxHeartbeats 4000000
namespace Mo
open PySem L2 PySem.Spec PyProof.Rows
section
variable {X : Cx} {E : XK} {e a b c : Expr} {pos : Pos} {st : Stmt} {rest body : List Stmt}
variable {ma mb mc : En → Mm Dt} {mt mu : En → Mm Bool} {mr : En → Mm (List Dt)} {es : List Expr} {ms m1 m2 : En → Mm Fl}
def nxt : En → Mm Fl := fun env => Mm.pure (.nx env)
def seq (m1 m2 : En → Mm Fl) : En → Mm Fl := fun env => m1 env >>= fun f => match f with
  | .nx e => m2 e
  | .bk e => Mm.pure (.bk e)
  | .ct e => Mm.pure (.ct e)
  | .rt d => Mm.pure (.rt d)
theorem tS_bind {K : PySem.W.Frag} {s : Sx} {env : En} {σ : L2.St} {m : En → Mm Fl} {β : Type} {f : Fl → Mm β} {k : β → Sx → Prop} {D : Ends} (hr : HRel K s) (he : Envs K s env σ) (ha : After K E s ((m env >>= f) s.h) k)
    (hq : ∀ fl s1, Ext s s1 → HRel K s1 → After K E s1 (f fl s1.h) k → flK K D fl s1) : tS K E m D σ s.H :=
  ⟨s, env, rfl, hr, he, ha.bind.mono fun d s1 x r q => hq d s1 x r q⟩
theorem mss_nil : PSs X [] (tS X.K E nxt) := pss_mono pss_nil fun D σ H ⟨s, env, e, r, he, ha⟩ => by
  subst e
  exact ha.ret r σ he
theorem mss_cons (h1 : PS X st (tS X.K E m1)) (h2 : PSs X rest (tS X.K E m2)) : PSs X (st :: rest) (tS X.K E (seq m1 m2)) := pss_mono (pss_cons h1 h2) fun D σ H ⟨s, env, e, r, he, ha⟩ => by
  subst e
  refine tS_bind r he ha fun fl s1 x1 r1 q => ?_
  cases fl with
  | nx e => exact fun σ' he' => ⟨s1, e, rfl, r1, he', q⟩
  | bk e => exact fun σ' he' => q.ret r1 σ' he'
  | ct e => exact fun σ' he' => q.ret r1 σ' he'
  | rt d => exact fun v rv => q.ret r1 v rv
theorem mss_one (h1 : PS X st (tS X.K E m1)) : PSs X [st] (tS X.K E m1) := pss_one h1
def brk : En → Mm Fl := fun env => Mm.pure (.bk env)
def drp (ma : En → Mm Dt) : En → Mm Fl := fun env => ma env >>= fun _ => Mm.pure (.nx env)
theorem ms_expr (he : PE X e (tE X.K E ma)) (hs : swapsWith e none pos.line X.env = pure false := by rfl) : PS X (.Expr e pos) (tS X.K E (drp ma)) := ps_mono (ps_expr he hs) fun D σ H ⟨s, env, e, r, he, ha⟩ => by
  subst e
  exact tE_bind r he ha fun d s1 v x1 r1 e1 rv q => q.ret r1 σ e1
def ret (ma : En → Mm Dt) : En → Mm Fl := fun env => ma env >>= fun d => Mm.pure (.rt d)
theorem ms_ret (he : PE X e (tE X.K E ma)) : PS X (.Return (some e) pos) (tS X.K E (ret ma)) := ps_mono (ps_ret he) fun D σ H ⟨s, env, e, r, he, ha⟩ => by
  subst e
  exact tE_bind r he ha fun d s1 v x1 r1 e1 rv q => q.ret r1 v rv
def ifS (mt : En → Mm Bool) (m1 m2 : En → Mm Fl) : En → Mm Fl := fun env => mt env >>= fun c => match c with | true => m1 env | false => m2 env
theorem ms_if {a b : List Stmt} (hc : PT X c (tT X.K E mt)) (ha : PSs X a (tS X.K E m1)) (hb : PSs X b (tS X.K E m2)) : PS X (.If c a b pos) (tS X.K E (ifS mt m1 m2)) := ps_mono (ps_if hc ha hb) fun D σ H ⟨s, env, e, r, he, ha⟩ => by
  subst e
  refine tT_bind r he ha fun c s1 x1 r1 e1 q => ?_
  cases c with
  | true => rw [if_pos rfl]; exact ⟨s1, env, rfl, r1, e1, q⟩
  | false => rw [if_neg (by decide)]; exact ⟨s1, env, rfl, r1, e1, q⟩
def gN (i : Nat) : Dt → En → Mm En := fun d env => Mm.pure (env.set i (some d))
theorem Envs.set {K : PySem.W.Frag} {s : Sx} {env : En} {σ : L2.St} {d : Dt} {v : V} (h : Envs K s env σ) (r : Rep K s d v) (i : Nat) : Envs K s (env.set i (some d)) (σ.set i (some v)) := by
  refine ⟨by simp [h.len], fun j d' e => ?_⟩
  by_cases hj : i = j
  · subst hj
    have hl : i < env.length := by
      have := (List.getElem?_eq_some_iff.mp e).1
      simpa using this
    rw [List.getElem?_set_self hl] at e
    cases e
    exact ⟨v, by rw [List.getElem?_set_self (by rw [← h.len]; exact hl)], r⟩
  · rw [List.getElem?_set_ne hj] at e
    obtain ⟨w, e1, r1⟩ := h.get j d' e
    exact ⟨w, by rw [List.getElem?_set_ne hj]; exact e1, r1⟩
theorem mg_name {i : Nat} {x : Str} (hN : X.N.Nodup) (hi : X.N[i]? = some x) (hx : Loc X.env.scope x) (hf : X.fn x = true ∨ X.env.scope.names.lookup x = some .local := by first | exact .inl rfl | exact .inr rfl | assumption) : PG X (.Name x pos) (tG X.K E (gN i)) :=
  pg_mono (pg_name hN hi hx hf) fun v σ H Q ⟨s, env, d, e, r, he, rv, ha⟩ => by
    subst e
    exact ha.ret r _ (he.set rv i)
def gsN : List Dt → En → Mm En := fun ds env => match ds with
  | [] => Mm.pure env
  | _ => Mm.no
def gsC (g : Dt → En → Mm En) (gs : List Dt → En → Mm En) : List Dt → En → Mm En := fun ds env => match ds with
  | d :: r => g d env >>= fun env' => gs r env'
  | [] => Mm.no
theorem mgs_nil : PGs X [] (tGs X.K E gsN) := pgs_mono pgs_nil fun vs σ H Q ⟨s, env, ds, e, r, he, rv, ha⟩ => by
  subst e
  cases ds with
  | nil => cases rv; exact ⟨rfl, ha.ret r _ he⟩
  | cons _ _ => exact ha.elim
theorem tG_bind {K : PySem.W.Frag} {s : Sx} {env : En} {σ : L2.St} {d : Dt} {v : V} {m : Dt → En → Mm En} {β : Type} {f : En → Mm β} {k : β → Sx → Prop} {Q : L2.St → Hp → Prop} (hr : HRel K s) (he : Envs K s env σ) (rv : Rep K s d v) (ha : After K E s ((m d env >>= f) s.h) k)
    (hq : ∀ env' s1 σ', Ext s s1 → HRel K s1 → Envs K s1 env' σ' → After K E s1 (f env' s1.h) k → Q σ' s1.H) : tG K E m v σ s.H Q :=
  ⟨s, env, d, rfl, hr, he, rv, ha.bind.mono fun e s1 x r q σ' es => hq e s1 σ' x r es q⟩
theorem mgs_cons {g : Dt → En → Mm En} {gs : List Dt → En → Mm En} (h1 : PG X e (tG X.K E g)) (h2 : PGs X es (tGs X.K E gs))
    (hs : (assignEach (e :: es) X.env).map (·.2) = assign e X.env :: (assignEach es X.env).map (·.2) := by rfl) : PGs X (e :: es) (tGs X.K E (gsC g gs)) := pgs_mono (pgs_cons h1 h2 hs) fun vs σ H Q ⟨s, env, ds, e, r, he, rv, ha⟩ => by
  subst e
  cases ds with
  | nil => exact ha.elim
  | cons d ds =>
    obtain ⟨v, vr, rfl, rd, rr⟩ := rv
    refine ⟨v, vr, rfl, tG_bind r he rd ha fun env' s1 σ' x1 r1 e1 q => ⟨s1, env', ds, rfl, r1, e1, rr.ext x1, q⟩⟩
def gT (n : Nat) (gs : List Dt → En → Mm En) : Dt → En → Mm En := fun d env => match d with
  | .tup ds => if ds.length = n then gs ds env else Mm.no
  | _ => Mm.no
theorem Rep.tupV {K : PySem.W.Frag} {s : Sx} {ds : List Dt} {v : V} (h : Rep K s (.tup ds) v) : ∃ a vs, v = .ref a ∧ SqT K s.H a vs ∧ Reps K s ds vs := by
  obtain ⟨a, vs, e, k, r⟩ := h
  exact ⟨a, vs, e, .of k.1, r⟩
theorem mg_tup {k : Nat} {gs : List Dt → En → Mm En} {n : Nat} (hc : X.calm = true) (h : PGs X es (tGs X.K E gs))
    (hn : (assignEach es X.env).length = n := by rfl) (hst : (assignEach es X.env).findIdx? (·.1) = none := by rfl) : PG X (.Tuple es k pos) (tG X.K E (gT n gs)) := pg_mono (pg_tup hc h hn hst) fun v σ H Q ⟨s, env, d, e, r, he, rv, ha⟩ => by
  subst e
  cases d with
  | tup ds =>
    obtain ⟨a, vs, rfl, sq, rs⟩ := rv.tupV
    by_cases hl : ds.length = n
    · have ha : After X.K E s ((if ds.length = n then gs ds env else Mm.no) s.h) _ := ha
      rw [if_pos hl] at ha
      exact ⟨a, vs, rfl, sq, by rw [rs.length]; exact hl, s, env, ds, rfl, r, he, rs, ha⟩
    · have ha : After X.K E s ((if ds.length = n then gs ds env else Mm.no) s.h) _ := ha
      rw [if_neg hl] at ha
      exact ha.elim
  | _ => exact ha.elim
/-- o[i] = .. -/
def gS (mo mi : En → Mm Dt) (g : Dt → Dt → Dt → Mm Unit) : Dt → En → Mm En := fun d env => mo env >>= fun o => mi env >>= fun i => g o i d >>= fun _ => Mm.pure env
theorem mg_sub {o i : Expr} {mo mi : En → Mm Dt} {g : Dt → Dt → Dt → Mm Unit} (ho : PE X o (tE X.K E mo)) (hi : PE X i (tE X.K E mi)) (hs : PSet X (stM X.K E g))
    (ha : ∀ v, assign (.Subscript o i pos) X.env v = (do
      let ov ← holding [v] (eval o X.env)
      let iv ← holding [v, ov] (eval i X.env)
      standAt pos
      holding [v, ov, iv] (setItem ov iv v)
      release [v, ov, iv] []) := by intro _; rfl) : PG X (.Subscript o i pos) (tG X.K E (gS mo mi g)) := pg_mono (pg_sub ho hi hs ha) fun v σ H Q ⟨s, env, d, e, r, he, rv, ha⟩ => by
  subst e
  refine tE_bind r he ha fun d1 s1 v1 x1 r1 e1 rv1 q1 => tE_bind r1 e1 q1 fun d2 s2 v2 x2 r2 e2 rv2 q2 => ?_
  refine ⟨s2, d1, d2, d, rfl, r2, rv1.ext x2, rv2, (rv.ext x1).ext x2, q2.bind.mono fun _ s3 x3 r3 q3 => ?_⟩
  exact q3.ret r3 σ (e2.ext x3)
def asg (ma : En → Mm Dt) (g : Dt → En → Mm En) : En → Mm Fl := fun env => ma env >>= fun d => g d env >>= fun env' => Mm.pure (.nx env')
theorem ms_asg {tg : Expr} {g : Dt → En → Mm En} (he : PE X e (tE X.K E ma)) (hg : PG X tg (tG X.K E g)) (hs : swapsWithSole [tg] e pos.line X.env = pure false := by rfl) (hw : swappedStores [tg] e X.env = pure none := by rfl)
    (h1 : (assignEach [tg] X.env).map (·.2) = [assign tg X.env] := by rfl) : PS X (.Assign [tg] e pos) (tS X.K E (asg ma g)) := ps_mono (ps_asg he hg hs hw h1) fun D σ H ⟨s, env, e, r, he, ha⟩ => by
  subst e
  exact tE_bind r he ha fun d s1 v x1 r1 e1 rv q => tG_bind r1 e1 rv q fun env' s2 σ' x2 r2 e2 q2 => q2.ret r2 σ' e2
def sto (i : Nat) (ma : En → Mm Dt) : En → Mm Fl := fun env => ma env >>= fun d => Mm.pure (.nx (env.set i (some d)))
theorem ms_set {i : Nat} {x : Str} {pos' : Pos} (hN : X.N.Nodup) (hi : X.N[i]? = some x) (hx : Loc X.env.scope x) (he : PE X e (tE X.K E ma)) (hs : swapsWith e (some (.Name x pos')) pos.line X.env = pure false := by rfl) (hf : X.fn x = true ∨ X.env.scope.names.lookup x = some .local := by first | exact .inl rfl | exact .inr rfl | assumption) :
    PS X (.Assign [.Name x pos'] e pos) (tS X.K E (sto i ma)) := ps_mono (ps_set hN hi hx he hs hf) fun D σ H ⟨s, env, e, r, he, ha⟩ => by
  subst e
  exact tE_bind r he ha fun d s1 v x1 r1 e1 rv q => q.ret r1 _ (e1.set rv i)
def par (i j : Nat) (mr : En → Mm (List Dt)) : En → Mm Fl := fun env => mr env >>= fun ds => match ds with
  | [d1, d2] => Mm.pure (.nx ((env.set i (some d1)).set j (some d2)))
  | _ => Mm.no
theorem ms_par {i j : Nat} {x y : Str} {px py pt : Pos} {kt k2 pt2} (hc : X.calm = true) (hN : X.N.Nodup) (hi : X.N[i]? = some x) (hj : X.N[j]? = some y) (hij : i ≠ j)
    (hx : X.env.scope.names.lookup x = some .local) (hy : X.env.scope.names.lookup y = some .local) (ha : PA X [a, b] (tA X.K E mr))
    (hw : swappedStores [.Tuple [.Name x px, .Name y py] kt pt] (.Tuple [a, b] k2 pt2) X.env = pure (some [x, y]))
    (hs : swapsWithSole [.Tuple [.Name x px, .Name y py] kt pt] (.Tuple [a, b] k2 pt2) pos.line X.env = pure false := by rfl) :
    PS X (.Assign [.Tuple [.Name x px, .Name y py] kt pt] (.Tuple [a, b] k2 pt2) pos) (tS X.K E (par i j mr)) := ps_mono (ps_par hc hN hi hj hij hx hy ha hw hs) fun D σ H ⟨s, env, e, r, he, ha⟩ => by
  subst e
  refine tA_bind r he ha fun ds s1 vs x1 r1 e1 rv q => ?_
  match ds, rv, q with
  | [d1, d2], ⟨v, _, e2, rv1, w, _, e3, rv2, e4⟩, q =>
    subst e2 e3 e4
    exact ⟨v, w, rfl, q.ret r1 _ ((e1.set rv1 i).set rv2 j)⟩
  | [], _, q => exact q.elim
  | [_], _, q => exact q.elim
  | _ :: _ :: _ :: _, _, q => exact q.elim
/-- x op= e -/
def aug (i : Nat) (ma : En → Mm Dt) (g : Dt → Dt → Mm Dt) : En → Mm Fl := fun env => match env[i]? with
  | some (some x) => ma env >>= fun y => g x y >>= fun z => Mm.pure (.nx (env.set i (some z)))
  | _ => Mm.no
end
end Mo
set_option Elab.async false
set_option linter.all false
set_option maxRecDepth 100000
set_option maxHeartbeats 4000000
namespace Mo
open PySem L2 PySem.Spec PyProof.Rows
inductive Pat where
  | nm (i : Nat) | tp (ps : List Pat)
mutual
def Pat.tg (K : PySem.W.Frag) : Pat → TG
  | .nm i => gName i
  | .tp ps => gTup K ps.length (Pat.tgs K ps)
def Pat.tgs (K : PySem.W.Frag) : List Pat → TGs
  | [] => gNil
  | p :: ps => gCons (Pat.tg K p) (Pat.tgs K ps)
end
mutual
def Pat.bd : Pat → Dt → En → Option En
  | .nm i, d, env => some (env.set i (some d))
  | .tp ps, .tup ds, env => if ds.length = ps.length then Pat.bds ps ds env else none
  | .tp _, _, _ => none
def Pat.bds : List Pat → List Dt → En → Option En
  | [], [], env => some env
  | p :: ps, d :: ds, env => match Pat.bd p d env with
    | some e => Pat.bds ps ds e
    | none => none
  | _, _, _ => none
end
mutual
def Pat.sl : Pat → List Nat
  | .nm i => [i]
  | .tp ps => Pat.sls ps
def Pat.sls : List Pat → List Nat
  | [] => []
  | p :: ps => Pat.sl p ++ Pat.sls ps
end
/-- equal but at some slots -/
structure But (σ τ : L2.St) (l : List Nat) : Prop where
  len : τ.length = σ.length
  get : ∀ j, j ∉ l → τ[j]? = σ[j]?
mutual
theorem Pat.ok {K : PySem.W.Frag} {s : Sx} : ∀ (p : Pat) {d : Dt} {v : V} {env env' : En} {σ : L2.St} {Q : L2.St → Hp → Prop}, Rep K s d v → p.bd d env = some env' → Envs K s env σ →
    (∀ τ, Envs K s env' τ → But σ τ p.sl → Q τ s.H) → p.tg K v σ s.H Q
  | .nm i, d, v, env, env', σ, Q, rv, e, he, h => by
    simp only [Pat.bd, Option.some.injEq] at e
    subst e
    refine h _ (he.set rv i) ⟨by simp, fun j hj => ?_⟩
    simp only [Pat.sl, List.mem_singleton] at hj
    exact List.getElem?_set_ne (fun z => hj z.symm)
  | .tp ps, d, v, env, env', σ, Q, rv, e, he, h => by
    cases d with
    | tup ds =>
      simp only [Pat.bd] at e
      split at e
      · rename_i hl
        obtain ⟨a, vs, rfl, sq, rs⟩ := rv.tupV
        refine ⟨a, vs, rfl, sq, by rw [rs.length]; exact hl, Pat.oks ps rs e he h⟩
      · cases e
    | _ => simp [Pat.bd] at e
theorem Pat.oks {K : PySem.W.Frag} {s : Sx} : ∀ (ps : List Pat) {ds : List Dt} {vs : List V} {env env' : En} {σ : L2.St} {Q : L2.St → Hp → Prop}, Reps K s ds vs → Pat.bds ps ds env = some env' → Envs K s env σ →
    (∀ τ, Envs K s env' τ → But σ τ (Pat.sls ps) → Q τ s.H) → Pat.tgs K ps vs σ s.H Q
  | [], ds, vs, env, env', σ, Q, rv, e, he, h => by
    cases ds with
    | nil =>
      cases rv
      simp only [Pat.bds, Option.some.injEq] at e
      subst e
      exact ⟨rfl, h _ he ⟨rfl, fun _ _ => rfl⟩⟩
    | cons _ _ => simp [Pat.bds] at e
  | p :: ps, ds, vs, env, env', σ, Q, rv, e, he, h => by
    cases ds with
    | nil => simp [Pat.bds] at e
    | cons d ds =>
      obtain ⟨v, vr, rfl, rd, rr⟩ := rv
      simp only [Pat.bds] at e
      cases q : p.bd d env with
      | none => rw [q] at e; cases e
      | some e1 =>
        rw [q] at e
        refine ⟨v, vr, rfl, Pat.ok p rd q he fun τ h1 b1 => ?_⟩
        refine Pat.oks ps rr e h1 fun υ h2 b2 => h υ h2 ⟨b2.len.trans b1.len, fun j hj => ?_⟩
        simp only [Pat.sls, List.mem_append, not_or] at hj
        exact (b2.get j hj.2).trans (b1.get j hj.1)
end
theorem But.wipe {σ τ : L2.St} {l : List Nat} (b : But σ τ l) : ∀ {vs : List Nat}, (∀ i ∈ l, i ∈ vs) → L2.wipe τ vs = L2.wipe σ vs := by
  intro vs hs
  apply List.ext_getElem?
  intro j
  by_cases hj : j ∈ vs
  · have key : ∀ (υ : L2.St), (L2.wipe υ vs)[j]? = if j < υ.length then some none else none := by
      intro υ
      clear hs
      induction vs with
      | nil => simp at hj
      | cons v vs ih =>
        show ((L2.wipe υ vs).set v none)[j]? = _
        by_cases hv : v = j
        · subst hv
          by_cases hl : v < υ.length
          · rw [List.getElem?_set_self (by rw [wipe_length]; exact hl), if_pos hl]
          · rw [if_neg hl, List.getElem?_eq_none (by simp [wipe_length]; omega)]
        · rw [List.getElem?_set_ne hv]
          have : j ∈ vs := by
            rcases List.mem_cons.mp hj with z | z
            · exact absurd z.symm hv
            · exact z
          exact ih this
    rw [key, key, b.len]
  · rw [wipe_out hj, wipe_out hj]
    exact b.get j fun z => hj (hs j z)
section
variable {X : Cx} {E : XK} {e a b c : Expr} {pos : Pos} {st : Stmt} {rest body : List Stmt}
variable {ma mb mc : En → Mm Dt} {mt mu : En → Mm Bool} {mr : En → Mm (List Dt)} {es : List Expr} {ms m1 m2 : En → Mm Fl}
def gP (p : Pat) : Dt → En → Mm En := fun d env => match p.bd d env with
  | some e => Mm.pure e
  | none => Mm.no
theorem tG_pat {K : PySem.W.Frag} {p : Pat} : ∀ v σ H Q, tG K E (gP p) v σ H Q → p.tg K v σ H Q := fun v σ H Q ⟨s, env, d, e, r, he, rv, ha⟩ => by
  subst e
  unfold gP at ha
  cases q : p.bd d env with
  | none => rw [q] at ha; exact ha.elim
  | some e1 =>
    rw [q] at ha
    exact p.ok rv q he fun τ h1 _ => ha.ret r τ h1
structure ItRep (K : PySem.W.Frag) (s0 : Sx) (J : It) (ds : List Dt) : Prop where
  go : ∀ s, Ext s0 s → HRel K s → ∀ (i : Nat) d, ds[i]? = some d → J.go i s.H ∧ ∀ x H', J.yld i s.H x H' → ∃ s', s'.H = H' ∧ s'.h = s.h ∧ Ext s s' ∧ HRel K s' ∧ Rep K s' d x
  stop : ∀ s, Ext s0 s → HRel K s → J.stop ds.length s.H
def tI (K : PySem.W.Frag) (E : XK) (m : En → Mm (List Dt)) : TI := fun σ H R => ∃ s env, s.H = H ∧ HRel K s ∧ Envs K s env σ ∧ After K E s (m env s.h) (fun ds s' => ∀ J, ItRep K s' J ds → R J s'.H)
theorem pi_mono {tg iter : Expr} {t t' : TI} (h : PI X tg iter t) (k : ∀ σ H R, t' σ H R → t σ H R) : PI X tg iter t' := ⟨fun pins s σ H R I w => h.run pins s σ H R I (k σ H R w)⟩
def forL (p : Pat) (mb : En → Mm Fl) : List Dt → En → Mm Fl
  | [], env => Mm.pure (.nx env)
  | d :: ds, env => gP p d env >>= fun e1 => mb e1 >>= fun f => match f with
    | .nx e => forL p mb ds e
    | .ct e => forL p mb ds e
    | .bk e => Mm.pure (.nx e)
    | .rt d => Mm.pure (.rt d)
def forM (mi : En → Mm (List Dt)) (p : Pat) (mb : En → Mm Fl) : En → Mm Fl := fun env => mi env >>= fun ds => forL p mb ds env
theorem tFor_ok {K : PySem.W.Frag} {mi : En → Mm (List Dt)} {p : Pat} : ∀ D σ H, tS K E (forM mi p ms) D σ H → tFor (tI K E mi) (p.tg K) (tS K E ms) D σ H := fun D σ H ⟨s, env, e, r, he, ha⟩ => by
  subst e
  refine ⟨s, env, rfl, r, he, ha.bind.mono fun ds s1 x1 r1 q J hJ => ?_⟩
  refine ⟨fun i m σ H => ∃ s2 env2, s2.H = H ∧ Ext s1 s2 ∧ HRel K s2 ∧ Envs K s2 env2 σ ∧ m = ds.length - i ∧ i ≤ ds.length ∧ After K E s2 (forL p ms (ds.drop i) env2 s2.h) (flK K D),
    ⟨ds.length, s1, env, rfl, Ext.refl _, r1, he.ext x1, by simp, Nat.zero_le _, by simpa using q⟩, ?_⟩
  rintro i m σ H ⟨s2, env2, rfl, x2, r2, e2, rfl, hi, q2⟩
  by_cases hlt : i < ds.length
  · have hd : ds.drop i = ds[i] :: ds.drop (i + 1) := by rw [List.drop_eq_getElem_cons hlt]
    rw [hd] at q2
    obtain ⟨go, yl⟩ := hJ.go s2 x2 r2 i ds[i] (by simp [hlt])
    refine .inr ⟨go, fun σ' H' => ∃ s3 env3, s3.H = H' ∧ Ext s1 s3 ∧ HRel K s3 ∧ Envs K s3 env3 σ' ∧ After K E s3 (forL p ms (ds.drop (i + 1)) env3 s3.h) (flK K D), ?_, fun x H' y => ?_⟩
    · rintro σ' H' ⟨s3, env3, rfl, x3, r3, e3, q3⟩
      exact ⟨ds.length - (i + 1), by omega, s3, env3, rfl, x3, r3, e3, rfl, by omega, q3⟩
    · obtain ⟨s3, rfl, eh, x3, r3, rx⟩ := yl x H' y
      have e3 := e2.ext x3
      have q3 := After.ext x3 q2
      rw [← eh] at q3
      refine tG_pat (E := E) _ _ _ _ (tG_bind r3 e3 rx q3 fun env4 s4 σ4 x4 r4 e4 q4 => ?_)
      refine tS_bind r4 e4 q4 fun fl s5 x5 r5 q5 => ?_
      have xx := ((x2.trans x3).trans x4).trans x5
      cases fl with
      | nx e => exact fun σ' he' => ⟨s5, e, rfl, xx, r5, he', q5⟩
      | ct e => exact fun σ' he' => ⟨s5, e, rfl, xx, r5, he', q5⟩
      | bk e => exact fun σ' he' => q5.ret r5 σ' he'
      | rt d => exact fun v rv => q5.ret r5 v rv
  · have hi' : i = ds.length := by omega
    subst hi'
    refine .inl ⟨hJ.stop s2 x2 r2, ?_⟩
    rw [List.drop_length] at q2
    exact q2.ret r2 σ e2
theorem ms_for {tg iter : Expr} {mi : En → Mm (List Dt)} {p : Pat} (hp : PassesOwn (model X.prog X.w) X.A X.env X.xe) (hc : X.calm = true) (hi : PI X tg iter (tI X.K E mi)) (hg : PG X tg (p.tg X.K)) (hb : PSs X body (tS X.K E ms))
    (hs : ∀ x, foldedSetIterable iter X.env x = pure x := by intro _; rfl) : PS X (.For tg iter body [] pos) (tS X.K E (forM mi p ms)) := ps_mono (ps_for hp hc hi hg hb hs) tFor_ok
def wipeE (env : En) : List Nat → En
  | [] => env
  | v :: vs => (wipeE env vs).set v none
theorem Envs.wipe {K : PySem.W.Frag} {s : Sx} {env : En} {σ : L2.St} (h : Envs K s env σ) : ∀ vs, Envs K s (wipeE env vs) (L2.wipe σ vs)
  | [] => h
  | v :: vs => by
    have q := Envs.wipe h vs
    refine ⟨by show ((wipeE env vs).set v none).length = ((L2.wipe σ vs).set v none).length; simp [q.len], fun j d e => ?_⟩
    have e : ((wipeE env vs).set v none)[j]? = some (some d) := e
    by_cases hj : v = j
    · subst hj
      by_cases hl : v < (wipeE env vs).length
      · rw [List.getElem?_set_self hl] at e; cases e
      · rw [List.getElem?_eq_none (by simpa using hl)] at e; cases e
    · rw [List.getElem?_set_ne hj] at e
      obtain ⟨w, e1, r1⟩ := q.get j d e
      exact ⟨w, by show ((L2.wipe σ vs).set v none)[j]? = _; rw [List.getElem?_set_ne hj]; exact e1, r1⟩
def push (n : Nat) (y : Dt) : Mm Unit := fun h => match h[n]? with
  | some (.lst xs) => if xs.length < sizeLine then .ok () (h.set n (.lst (xs ++ [y]))) else .no
  | _ => .no
def takeL (n : Nat) : Mm Dt := fun h => match h[n]? with
  | some (.lst xs) => .ok (.lv xs) (h.set n .dead)
  | _ => .no
def newO (o : Ao) : Mm Nat := fun h => .ok h.length (h ++ [o])
def lcL (p : Pat) (mt : En → Mm Bool) (me : En → Mm Dt) (n : Nat) : List Dt → En → Mm Unit
  | [], _ => Mm.pure ()
  | d :: ds, env => gP p d env >>= fun e1 => mt e1 >>= fun c => match c with
    | true => me e1 >>= fun y => push n y >>= fun _ => lcL p mt me n ds env
    | false => lcL p mt me n ds env
def lcM (mi : En → Mm (List Dt)) (p : Pat) (mt : En → Mm Bool) (me : En → Mm Dt) (vs : List Nat) : En → Mm Dt := fun env => mi env >>= fun ds => newO (.lst []) >>= fun n => lcL p mt me n ds (wipeE env vs) >>= fun _ => takeL n
theorem push_ok {K : PySem.W.Frag} {s : Sx} {n : Nat} {a : Addr} {y : Dt} {v : V} {k : Unit → Sx → Prop} (r : HRel K s) (ea : s.ρ[n]? = some a) (rv : Rep K s y v) (h : After K E s (push n y s.h) k) :
    ∃ xs, s.H a = some (.lst xs) ∧ xs.length < sizeLine ∧ ∃ s', s'.H = upd s.H a (.lst (xs ++ [v])) ∧ Ext s s' ∧ HRel K s' ∧ s'.ρ[n]? = some a ∧ k () s' := by
  unfold push at h
  cases q : s.h[n]? with
  | none => rw [q] at h; exact h.elim
  | some o =>
    rw [q] at h
    cases o with
    | lst ds =>
      obtain ⟨vs, e1, r1⟩ := r.ob n a _ ea q
      by_cases hl : ds.length < sizeLine
      · simp only [hl, if_true] at h
        have x := put_ext (u := .lst (vs ++ [v])) (o' := .lst (ds ++ [y])) r ea q (by intro z; cases z)
        have r' := put_rel (u := .lst (vs ++ [v])) (o' := .lst (ds ++ [y])) r ea q (by intro z; cases z) ⟨_, upd_same, (r1.ext x).append (Reps.cons (rv.ext x) Reps.nil)⟩
        exact ⟨vs, e1, by rw [r1.length]; exact hl, _, rfl, x, r', ea, h.now _ rfl x r'⟩
      · simp only [hl, if_false] at h
        exact h.elim
    | _ => exact h.elim
theorem takeL_ok {K : PySem.W.Frag} {s : Sx} {n : Nat} {a : Addr} {k : Dt → Sx → Prop} (r : HRel K s) (ea : s.ρ[n]? = some a) (h : After K E s (takeL n s.h) k) :
    ∃ xs s', s'.H = s.H ∧ Ext s s' ∧ HRel K s' ∧ Rep K s' (.lv xs) (.ref a) ∧ k (.lv xs) s' := by
  unfold takeL at h
  cases q : s.h[n]? with
  | none => rw [q] at h; exact h.elim
  | some o =>
    rw [q] at h
    cases o with
    | lst ds =>
      obtain ⟨vs, e1, r1⟩ := r.ob n a _ ea q
      have x := die_ext r n
      have f := die_fx r ea e1
      exact ⟨ds, s.die n, rfl, x, die_rel r n, ⟨a, vs, rfl, ⟨e1, f.2⟩, r1.ext x⟩, h.now (s.die n) rfl x (die_rel r n)⟩
    | _ => exact h.elim
theorem tLc_ok {K : PySem.W.Frag} {mi : En → Mm (List Dt)} {p : Pat} {me : En → Mm Dt} {vs : List Nat} (hp : ∀ i ∈ p.sl, i ∈ vs) : ∀ σ H Q, tE K E (lcM mi p mt me vs) σ H Q → tLc (tI K E mi) (p.tg K) (tT K E mt) (tE K E me) vs σ H Q := fun σ H Q ⟨s, env, e, r, he, ha⟩ => by
  subst e
  refine ⟨s, env, rfl, r, he, ha.bind.mono fun ds s1 x1 r1 q J hJ D hD => ?_⟩
  -- the list under way
  have q1 := q.bind
  have x2 := add_ext (u := .lst []) (o := .lst []) r1 hD
  have r2 := add_rel (u := .lst []) (o := .lst []) r1 hD ⟨[], upd_same, Reps.nil⟩
  have q2 := q1.now (s1.add D (.lst []) (.lst [])) rfl x2 r2
  have eD : (s1.add D (.lst []) (.lst [])).ρ[s1.h.length]? = some D := add_at r1
  have e2 := ((he.ext x1).ext x2).wipe vs
  refine ⟨fun i m H => ∃ s3, s3.H = H ∧ Ext s1 s3 ∧ HRel K s3 ∧ s3.ρ[s1.h.length]? = some D ∧ Envs K s3 (wipeE env vs) (L2.wipe σ vs) ∧ m = ds.length - i ∧ i ≤ ds.length ∧
      After K E s3 ((lcL p mt me s1.h.length (ds.drop i) (wipeE env vs) >>= fun _ => takeL s1.h.length) s3.h) (fun d s' => ∀ v, Rep K s' d v → Q v s'.H),
    ⟨ds.length, _, rfl, x2, r2, eD, e2, by simp, Nat.zero_le _, by simpa using q2⟩, ?_⟩
  rintro i m H ⟨s3, rfl, x3, r3, eD3, e3, rfl, hi, q3⟩
  by_cases hlt : i < ds.length
  · have hd : ds.drop i = ds[i] :: ds.drop (i + 1) := by rw [List.drop_eq_getElem_cons hlt]
    rw [hd] at q3
    obtain ⟨go, yl⟩ := hJ.go s3 x3 r3 i ds[i] (by simp [hlt])
    have as : ∀ h, (lcL p mt me s1.h.length (ds[i] :: ds.drop (i + 1)) (wipeE env vs) >>= fun _ => takeL s1.h.length) h = (gP p ds[i] (wipeE env vs) >>= fun e1 => mt e1 >>= fun c => match c with
        | true => me e1 >>= fun y => push s1.h.length y >>= fun _ => lcL p mt me s1.h.length (ds.drop (i + 1)) (wipeE env vs) >>= fun _ => takeL s1.h.length
        | false => lcL p mt me s1.h.length (ds.drop (i + 1)) (wipeE env vs) >>= fun _ => takeL s1.h.length) h := by
      intro h
      show Mm.bind (Mm.bind (gP p ds[i] (wipeE env vs)) _) _ h = Mm.bind (gP p ds[i] (wipeE env vs)) _ h
      simp only [Mm.bind]
      cases gP p ds[i] (wipeE env vs) h with
      | ok e1 h1 =>
        show Mm.bind (Mm.bind (mt e1) _) _ h1 = Mm.bind (mt e1) _ h1
        simp only [Mm.bind]
        cases mt e1 h1 with
        | ok c h2 =>
          cases c with
          | false => rfl
          | true =>
            show Mm.bind (Mm.bind (me e1) _) _ h2 = Mm.bind (me e1) _ h2
            simp only [Mm.bind]
            cases me e1 h2 with
            | ok y h3 =>
              show Mm.bind (Mm.bind (push s1.h.length y) _) _ h3 = Mm.bind (push s1.h.length y) _ h3
              simp only [Mm.bind]
              cases push s1.h.length y h3 <;> rfl
            | exn _ _ => rfl
            | no => rfl
        | exn _ _ => rfl
        | no => rfl
      | exn _ _ => rfl
      | no => rfl
    rw [as] at q3
    refine .inr ⟨go, fun H' => ∃ s4, s4.H = H' ∧ Ext s1 s4 ∧ HRel K s4 ∧ s4.ρ[s1.h.length]? = some D ∧ Envs K s4 (wipeE env vs) (L2.wipe σ vs) ∧
        After K E s4 ((lcL p mt me s1.h.length (ds.drop (i + 1)) (wipeE env vs) >>= fun _ => takeL s1.h.length) s4.h) (fun d s' => ∀ v, Rep K s' d v → Q v s'.H), ?_, fun x H' y => ?_⟩
    · rintro H' ⟨s4, rfl, x4, r4, eD4, e4, q4⟩
      exact ⟨ds.length - (i + 1), by omega, s4, rfl, x4, r4, eD4, e4, rfl, by omega, q4⟩
    · obtain ⟨s4, rfl, eh, x4, r4, rx⟩ := yl x H' y
      have e4 := e3.ext x4
      have q4 := After.ext x4 q3
      rw [← eh] at q4
      have eD4 := x4.pre _ _ eD3
      -- the target
      have q4' := q4.bind
      unfold gP at q4'
      cases qb : p.bd ds[i] (wipeE env vs) with
      | none => rw [qb] at q4'; exact q4'.elim
      | some e1 =>
        rw [qb] at q4'
        have q5 := q4'.ret r4
        refine p.ok rx qb e4 fun τ hτ bτ => ⟨by rw [bτ.wipe hp]; exact But.wipe (σ := σ) (τ := L2.wipe σ vs) (l := vs) ⟨wipe_length σ vs, fun j hj => wipe_out hj⟩ (fun i h => h), ?_⟩
        refine tT_bind r4 hτ q5 fun cb s6 x6 r6 e6 q6 => ?_
        cases cb with
        | false =>
          rw [if_neg (by decide)]
          exact ⟨s6, rfl, (x3.trans x4).trans x6, r6, x6.pre _ _ eD4, e4.ext x6, q6⟩
        | true =>
          rw [if_pos rfl]
          refine tE_bind r6 e6 q6 fun yd s7 yv x7 r7 e7 ry q7 => ?_
          obtain ⟨xs, hx, hl, s8, es8, x8, r8, eD8, q8⟩ := push_ok r7 (x7.pre _ _ (x6.pre _ _ eD4)) ry q7.bind
          exact ⟨xs, hx, hl, s8, es8, ((x3.trans x4).trans (x6.trans x7)).trans x8, r8, eD8, ((e4.ext x6).ext x7).ext x8, q8⟩
  · have hi' : i = ds.length := by omega
    subst hi'
    refine .inl ⟨hJ.stop s3 x3 r3, ?_⟩
    rw [List.drop_length] at q3
    obtain ⟨xs, s4, es4, x4, r4, rv, k4⟩ := takeL_ok r3 eD3 (q3.bind.ret r3)
    rw [← es4]
    exact k4 _ rv
end
end Mo
set_option Elab.async false
set_option linter.all false
set_option maxRecDepth 100000
set_option maxHeartbeats 4000000
namespace Mo
open PySem L2 PySem.Spec PyProof.Rows
section
variable {X : Cx} {E : XK} {e a b c : Expr} {pos : Pos} {st : Stmt} {rest body : List Stmt}
variable {ma mb mc me : En → Mm Dt} {mt mu : En → Mm Bool} {mr : En → Mm (List Dt)} {es : List Expr} {ms m1 m2 : En → Mm Fl}
def yes : En → Mm Bool := fun _ => Mm.pure true
theorem mts_nil : PTs X [] (tT X.K E yes) := ⟨fun pins s σ H Q I ⟨s1, env, e, r, he, ha⟩ => by
  subst e
  exact pts_nil.run pins s σ _ Q I (ha.ret r)⟩
theorem mts_one (h : PT X c (tT X.K E mt)) : PTs X [c] (tT X.K E mt) := pts_one h
theorem me_lc {elt tg iter : Expr} {ifs : List Expr} {scope : Scope} {own : List (Str × Nat)} {mi : En → Mm (List Dt)} {p : Pat} (hc : X.calm = true) (hN : X.N.Nodup) (hp : ∀ i ∈ p.sl, i ∈ own.map (·.2)) (hi : PI X tg iter (tI X.K E mi)) (ok : BlkOk X.N X.env.scope scope own)
    (hg : ∀ (s : Shared) (H : Hp) (C : Addr) (cl : List (Str × Addr)) (fp : List Addr), PG (X.blk s H scope (compEnvC scope cl C X.env) fp) tg (p.tg X.K)) (ht : ∀ (s : Shared) (H : Hp) (C : Addr) (cl : List (Str × Addr)) (fp : List Addr), PTs (X.blk s H scope (compEnvC scope cl C X.env) fp) ifs (tT X.K E mt))
    (he : ∀ (s : Shared) (H : Hp) (C : Addr) (cl : List (Str × Addr)) (fp : List Addr), PE (X.blk s H scope (compEnvC scope cl C X.env) fp) elt (tE X.K E me)) (hs : ∀ x, foldedSetIterable iter X.env x = pure x := by intro _; rfl) :
    PE X (.ListComp elt [⟨tg, iter, ifs, 0⟩] scope pos) (tE X.K E (lcM mi p mt me (own.map (·.2)))) := pe_mono (pe_lc hc hN hi ok hg ht he hs) (tLc_ok hp)
theorem ms_setLc {i : Nat} {y : Str} {py spos : Pos} {elt tg iter : Expr} {ifs : List Expr} {scope : Scope} {own : List (Str × Nat)} {mi : En → Mm (List Dt)} {p : Pat} (hc : X.calm = true) (hN : X.N.Nodup) (hp : ∀ i ∈ p.sl, i ∈ own.map (·.2)) (hy : X.N[i]? = some y) (hyl : X.env.scope.names.lookup y = some .local)
    (hsw : swapsWith (.ListComp elt [⟨tg, iter, ifs, 0⟩] scope pos) (some (.Name y py)) spos.line X.env = pure true) (hi : PI X tg iter (tI X.K E mi)) (ok : BlkOk X.N X.env.scope scope own)
    (hg : ∀ (s : Shared) (H : Hp) (C : Addr) (cl : List (Str × Addr)) (fp : List Addr), PG (X.blk s H scope (compEnvC scope cl C X.env) fp) tg (p.tg X.K)) (ht : ∀ (s : Shared) (H : Hp) (C : Addr) (cl : List (Str × Addr)) (fp : List Addr), PTs (X.blk s H scope (compEnvC scope cl C X.env) fp) ifs (tT X.K E mt))
    (he : ∀ (s : Shared) (H : Hp) (C : Addr) (cl : List (Str × Addr)) (fp : List Addr), PE (X.blk s H scope (compEnvC scope cl C X.env) fp) elt (tE X.K E me)) (hs : ∀ x, foldedSetIterable iter X.env x = pure x := by intro _; rfl) :
    PS X (.Assign [.Name y py] (.ListComp elt [⟨tg, iter, ifs, 0⟩] scope pos) spos) (tS X.K E (sto i (lcM mi p mt me (own.map (·.2))))) := ps_mono (ps_setLc hc hN hy hyl hsw hi ok hg ht he hs) fun D σ H ⟨s, env, e, r, he, ha⟩ => by
  subst e
  exact tLc_ok hp _ _ _ (tE_bind r he ha fun d s1 v x1 r1 e1 rv q => q.ret r1 _ (e1.set rv i))
def fnM (N : Nat) (ms : En → Mm Fl) : List Dt → Mm Dt := fun ds => ms (ds.map some ++ List.replicate (N - ds.length) none) >>= fun f => match f with
  | .rt d => Mm.pure d
  | .nx _ => Mm.pure .non
  | _ => Mm.no
theorem envs_start {K : PySem.W.Frag} {s : Sx} {N : List Str} : ∀ {ds : List Dt} {vs : List V}, Reps K s ds vs → Envs K s (ds.map some ++ List.replicate (N.length - ds.length) none) (L2.start N vs) := by
  intro ds vs h
  have hl := h.length
  refine ⟨by simp [L2.start, hl], fun i d e => ?_⟩
  by_cases hi : i < ds.length
  · rw [List.getElem?_append_left (by simpa using hi)] at e
    rw [List.getElem?_map] at e
    cases q : ds[i]? with
    | none => rw [q] at e; cases e
    | some d' =>
      rw [q] at e
      cases e
      obtain ⟨v, e1, r⟩ := h.get q
      refine ⟨v, ?_, r⟩
      show (vs.map some ++ _)[i]? = _
      rw [List.getElem?_append_left (by simp [hl]; exact hi), List.getElem?_map, e1]
      rfl
  · rw [List.getElem?_append_right (by simpa using hi)] at e
    have := List.mem_of_getElem? e
    simp at this
end
end Mo
set_option Elab.async false
set_option linter.all false
set_option maxRecDepth 100000
set_option maxHeartbeats 4000000
namespace Mo
open PySem L2 PySem.Spec PyProof.Rows
/-- the items of a list that is tracked; that can be read; of a tuple -/
def lstT (h : Ah) : Dt → Option (List Dt)
  | .lv xs => some xs
  | .obj i => match h[i]? with
    | some (.lst xs) => some xs
    | _ => none
  | _ => none
def lstR (h : Ah) : Dt → Option (List Dt)
  | .wl xs => some xs
  | d => lstT h d
def tupR : Dt → Option (List Dt)
  | .tup xs => some xs
  | .wt xs => some xs
  | _ => none
section
variable {X : Cx} {E : XK} {K : PySem.W.Frag} {s : Sx} {d : Dt} {v : V} {xs : List Dt}
theorem obj_ok {i : Nat} (r : HRel K s) (rv : Rep K s (.obj i) v) {o : Ao} (e : s.h[i]? = some o) : ∃ a, v = .ref a ∧ s.ρ[i]? = some a ∧ ORep K s a o := by
  obtain ⟨a, ea, rfl⟩ := rv
  exact ⟨a, rfl, ea, r.ob i a o ea e⟩
theorem lstT_ok (r : HRel K s) (rv : Rep K s d v) (e : lstT s.h d = some xs) : ∃ a vs, v = .ref a ∧ s.H a = some (.lst vs) ∧ Reps K s xs vs := by
  cases d with
  | lv ys =>
    cases e
    obtain ⟨a, vs, rfl, k, rs⟩ := rv
    exact ⟨a, vs, rfl, k.1, rs⟩
  | obj i =>
    simp only [lstT] at e
    cases q : s.h[i]? with
    | none => rw [q] at e; cases e
    | some o =>
      rw [q] at e
      cases o with
      | lst ys =>
        cases e
        obtain ⟨a, rfl, ea, vs, h1, h2⟩ := obj_ok r rv q
        exact ⟨a, vs, rfl, h1, h2⟩
      | _ => cases e
  | _ => cases e
theorem lstR_ok (r : HRel K s) (rv : Rep K s d v) (e : lstR s.h d = some xs) : ∃ a vs, v = .ref a ∧ SqL K s.H a vs ∧ Reps K s xs vs := by
  by_cases hw : ∃ ys, d = .wl ys
  · obtain ⟨ys, rfl⟩ := hw
    cases e
    obtain ⟨a, vs, rfl, k, rs⟩ := rv
    refine ⟨a, vs, rfl, ?_, rs⟩
    rcases k with k | k
    · exact .inl k.1
    · rcases k with (k | ⟨_, k⟩) | k
      · cases k
      · cases k
      · exact .inr k
  · have e' : lstT s.h d = some xs := by
      cases d with
      | wl ys => exact absurd ⟨ys, rfl⟩ hw
      | _ => exact e
    obtain ⟨a, vs, e1, e2, rs⟩ := lstT_ok r rv e'
    exact ⟨a, vs, e1, .of e2, rs⟩
theorem tupR_ok (rv : Rep K s d v) (e : tupR d = some xs) : ∃ a vs, v = .ref a ∧ SqT K s.H a vs ∧ Reps K s xs vs := by
  cases d with
  | tup ys =>
    cases e
    exact rv.tupV
  | wt ys =>
    cases e
    obtain ⟨a, vs, rfl, k, rs⟩ := rv
    refine ⟨a, vs, rfl, ?_, rs⟩
    rcases k with (k | ⟨_, k⟩) | k
    · cases k
    · cases k
    · exact .inr k
  | _ => cases e
/-- a new tuple, a new list as a value -/
theorem newT {k : Dt → Sx → Prop} {vs : List V} (r : HRel K s) (rs : Reps K s xs vs) (h : After K E s (.ok (.tup xs) s.h) k) {p : Addr} (hp : s.H p = none) : ∃ s', s'.H = upd s.H p (.tup vs) ∧ Rep K s' (.tup xs) (.ref p) ∧ HRel K s' ∧ Ext s s' ∧ k (.tup xs) s' :=
  ⟨s.new p (.tup vs), rfl, ⟨p, vs, rfl, ⟨upd_same, (new_fx r hp).2⟩, rs.ext (new_ext r hp)⟩, new_rel r hp, new_ext r hp, h.now (s.new p (.tup vs)) rfl (new_ext r hp) (new_rel r hp)⟩
theorem newL {k : Dt → Sx → Prop} {vs : List V} (r : HRel K s) (rs : Reps K s xs vs) (h : After K E s (.ok (.lv xs) s.h) k) {p : Addr} (hp : s.H p = none) : ∃ s', s'.H = upd s.H p (.lst vs) ∧ Rep K s' (.lv xs) (.ref p) ∧ HRel K s' ∧ Ext s s' ∧ k (.lv xs) s' :=
  ⟨s.new p (.lst vs), rfl, ⟨p, vs, rfl, ⟨upd_same, (new_fx r hp).2⟩, rs.ext (new_ext r hp)⟩, new_rel r hp, new_ext r hp, h.now (s.new p (.lst vs)) rfl (new_ext r hp) (new_rel r hp)⟩
theorem newLv {Q : VK} {vs : List V} (r : HRel K s) (rs : Reps K s xs vs) (h : After K E s (.ok (.lv xs) s.h) (fun z s' => ∀ v, Rep K s' z v → Q v s'.H)) : ∀ p, s.H p = none → Q (.ref p) (upd s.H p (.lst vs)) := fun p hp => by
  obtain ⟨s', e, rp, _, _, q⟩ := newL r rs h hp
  rw [← e]
  exact q _ rp
theorem newTv {Q : VK} {vs : List V} (r : HRel K s) (rs : Reps K s xs vs) (h : After K E s (.ok (.tup xs) s.h) (fun z s' => ∀ v, Rep K s' z v → Q v s'.H)) : ∀ p, s.H p = none → Q (.ref p) (upd s.H p (.tup vs)) := fun p hp => by
  obtain ⟨s', e, rp, _, _, q⟩ := newT r rs h hp
  rw [← e]
  exact q _ rp
/-- the end, the heap as it was -/
theorem fin {Q : VK} {z : Dt} (r : HRel K s) (h : After K E s (.ok z s.h) (fun z s' => ∀ v, Rep K s' z v → Q v s'.H)) {v : V} (rv : Rep K s z v) : Q v s.H := h s rfl (Ext.refl s) r v rv
def opAdd : Dt → Dt → Mm Dt := fun x y h => match x, y with
  | .int i, .int j => .ok (.int (i + j)) h
  | .str a, .str b => if a.length + b.length ≤ sizeLine then .ok (.str (a ++ b)) h else .no
  | .tup a, .tup b => if a.length + b.length ≤ sizeLine then .ok (.tup (a ++ b)) h else .no
  | x, y => match lstT h x, lstT h y with
    | some a, some b => if a.length + b.length ≤ sizeLine then .ok (.lv (a ++ b)) h else .no
    | _, _ => .no
theorem o_add : OpR X (binaryOp .Add) (rM X.K E opAdd) := opR_mono (op_add.or (op_add_str.or (op_catA.or op_cat))) fun x y H Q ⟨s, d, e, eH, r, rx, ry, ha⟩ => by
  subst eH
  unfold opAdd at ha
  split at ha
  · cases rx; cases ry
    exact .inl ⟨_, _, rfl, rfl, fin r ha rfl⟩
  · cases rx; cases ry
    split at ha
    · rename_i hl
      exact .inr (.inl ⟨_, _, rfl, rfl, hl, fin r ha rfl⟩)
    · exact ha.elim
  · rename_i a b
    obtain ⟨pa, va, rfl, ka, ra⟩ := id rx
    obtain ⟨pb, vb, rfl, kb, rb⟩ := id ry
    split at ha
    · rename_i hl
      refine .inr (.inr (.inl ⟨pa, pb, va, vb, rfl, rfl, .of ka.1, .of kb.1, by rw [ra.length, rb.length]; exact hl, fun z => ?_, fun z1 z2 => ?_, fun _ _ => newTv r (ra.append rb) ha⟩))
      · subst z
        have : a = [] := List.length_eq_zero_iff.mp (by rw [← ra.length]; rfl)
        subst this
        exact fin r ha ry
      · subst z2
        have : b = [] := List.length_eq_zero_iff.mp (by rw [← rb.length]; rfl)
        subst this
        rw [List.append_nil] at ha
        exact fin r ha rx
    · exact ha.elim
  · split at ha
    · rename_i a b qa qb
      obtain ⟨pa, va, rfl, ka, ra⟩ := lstT_ok r rx qa
      obtain ⟨pb, vb, rfl, kb, rb⟩ := lstT_ok r ry qb
      split at ha
      · rename_i hl
        exact .inr (.inr (.inr ⟨pa, pb, va, vb, rfl, rfl, ka, kb, by rw [ra.length, rb.length]; exact hl, newLv r (ra.append rb) ha⟩))
      · exact ha.elim
    · exact ha.elim
def opI2 (C : Int → Int → Bool) (g : Int → Int → Dt) : Dt → Dt → Mm Dt := fun x y h => match x, y with
  | .int i, .int j => if C i j then .ok (g i j) h else .no
  | _, _ => .no
theorem o_I2 {f : Value → Value → Sem Value} {C : Int → Int → Bool} {C' : Int → Int → Prop} {g : Int → Int → Dt} {g' : Int → Int → V} (ho : OpR X f (rI C' g')) (hC : ∀ i j, C i j = true → C' i j) (hg : ∀ s i j, C i j = true → Rep X.K s (g i j) (g' i j)) : OpR X f (rM X.K E (opI2 C g)) := opR_mono ho fun x y H Q ⟨s, d, e, eH, r, rx, ry, ha⟩ => by
  subst eH
  unfold opI2 at ha
  split at ha
  · cases rx; cases ry
    split at ha
    · rename_i hc
      exact ⟨_, _, rfl, rfl, hC _ _ hc, fin r ha (hg s _ _ hc)⟩
    · exact ha.elim
  · exact ha.elim
theorem o_I0 {f : Value → Value → Sem Value} {g : Int → Int → Dt} {g' : Int → Int → V} (ho : OpR X f (rI0 g')) (hg : ∀ s i j, Rep X.K s (g i j) (g' i j)) : OpR X f (rM X.K E (opI2 (fun _ _ => true) g)) := opR_mono ho fun x y H Q ⟨s, d, e, eH, r, rx, ry, ha⟩ => by
  subst eH
  unfold opI2 at ha
  split at ha
  · cases rx; cases ry
    exact ⟨_, _, rfl, rfl, fin r ha (hg s _ _)⟩
  · exact ha.elim
def opSub : Dt → Dt → Mm Dt := opI2 (fun _ _ => true) fun i j => .int (i - j)
theorem o_sub : OpR X (binaryOp .Sub) (rM X.K E opSub) := o_I0 op_sub fun _ _ _ => rfl
def opFdiv : Dt → Dt → Mm Dt := opI2 (fun _ j => decide (0 < j ∧ j < 1073741824)) fun i j => .int (i / j)
theorem o_fdiv : OpR X (binaryOp .FloorDiv) (rM X.K E opFdiv) := o_I2 op_fdiv (fun i j h => (of_decide_eq_true h : 0 < j ∧ j < 1073741824)) fun _ _ _ _ => rfl
def opMod : Dt → Dt → Mm Dt := opI2 (fun _ j => decide (0 < j)) fun i j => .int (i % j)
theorem o_mod : OpR X (binaryOp .Mod) (rM X.K E opMod) := o_I2 op_mod (fun i j h => of_decide_eq_true h) fun _ _ _ _ => rfl
def opPow : Dt → Dt → Mm Dt := opI2 (fun i j => decide (0 ≤ j ∧ j ≤ 1000000 ∧ i.natAbs < 2 ^ 64)) fun i j => .int (i ^ j.toNat)
theorem o_pow : OpR X (binaryOp .Pow) (rM X.K E opPow) := o_I2 op_pow (fun i j h => (of_decide_eq_true h : 0 ≤ j ∧ j ≤ 1000000 ∧ i.natAbs < 2 ^ 64)) fun _ _ _ _ => rfl
def opLt : Dt → Dt → Mm Dt := opI2 (fun _ _ => true) fun i j => .bl (decide (i < j))
def opLe : Dt → Dt → Mm Dt := opI2 (fun _ _ => true) fun i j => .bl (decide (i ≤ j))
def opGt : Dt → Dt → Mm Dt := opI2 (fun _ _ => true) fun i j => .bl (decide (j < i))
def opGe : Dt → Dt → Mm Dt := opI2 (fun _ _ => true) fun i j => .bl (decide (j ≤ i))
theorem o_lt : OpR X (compareOp .Lt) (rM X.K E opLt) := o_I0 op_lt fun _ _ _ => rfl
theorem o_le : OpR X (compareOp .LtE) (rM X.K E opLe) := o_I0 op_le fun _ _ _ => rfl
theorem o_gt : OpR X (compareOp .Gt) (rM X.K E opGt) := o_I0 op_gt fun _ _ _ => rfl
theorem o_ge : OpR X (compareOp .GtE) (rM X.K E opGe) := o_I0 op_ge fun _ _ _ => rfl
def opIAdd : Dt → Dt → Mm Dt := opI2 (fun _ _ => true) fun i j => .int (i + j)
def unNeg : Dt → Mm Dt := fun x h => match x with
  | .int i => .ok (.int (-i)) h
  | _ => .no
theorem u_neg : UnR X (unaryOp .USub) (uM X.K E unNeg) := unR_mono un_neg fun x H Q ⟨s, d, eH, r, rx, ha⟩ => by
  subst eH
  unfold unNeg at ha
  split at ha
  · cases rx
    exact ⟨_, rfl, fin r ha rfl⟩
  · exact ha.elim
def opIsN : Dt → Dt → Mm Dt := fun x y h => match x, y with
  | .non, .non => .ok (.bl true) h
  | _, .non => .ok (.bl false) h
  | _, _ => .no
def opNotN : Dt → Dt → Mm Dt := fun x y h => match x, y with
  | .non, .non => .ok (.bl false) h
  | _, .non => .ok (.bl true) h
  | _, _ => .no
theorem rep_non (rv : Rep K s d v) : decide (v = .non) = match d with | .non => true | _ => false := by
  cases d with
  | non => cases rv; rfl
  | bl _ => cases rv; rfl
  | int _ => cases rv; rfl
  | str _ => cases rv; rfl
  | ty _ => cases rv; rfl
  | adr _ => cases rv; rfl
  | cl _ => cases rv; rfl
  | tup _ => obtain ⟨_, _, rfl, _⟩ := rv; rfl
  | lv _ => obtain ⟨_, _, rfl, _⟩ := rv; rfl
  | wl _ => obtain ⟨_, _, rfl, _⟩ := rv; rfl
  | wt _ => obtain ⟨_, _, rfl, _⟩ := rv; rfl
  | dk _ _ => obtain ⟨_, _, rfl, _⟩ := rv; rfl
  | dt _ _ => obtain ⟨_, _, rfl, _⟩ := rv; rfl
  | exc _ _ _ => obtain ⟨_, rfl, _⟩ := rv; rfl
  | hot _ _ _ _ _ => obtain ⟨rfl, _⟩ := rv; rfl
  | obj _ => obtain ⟨_, _, rfl⟩ := rv; rfl
theorem o_isN : OpR X (compareOp .Is) (rM X.K E opIsN) := opR_mono op_isN fun x y H Q ⟨s, d, e, eH, r, rx, ry, ha⟩ => by
  subst eH
  have hd := rep_non rx
  cases e with
  | non =>
    cases ry
    refine ⟨rfl, ?_⟩
    rw [hd]
    cases d <;> exact fin r ha rfl
  | _ => cases d <;> exact ha.elim
theorem o_notN : OpR X (compareOp .IsNot) (rM X.K E opNotN) := opR_mono op_notN fun x y H Q ⟨s, d, e, eH, r, rx, ry, ha⟩ => by
  subst eH
  have hd := rep_non rx
  cases e with
  | non =>
    cases ry
    refine ⟨rfl, ?_⟩
    rw [hd]
    cases d <;> exact fin r ha rfl
  | _ => cases d <;> exact ha.elim
end
end Mo
set_option Elab.async false
set_option linter.all false
set_option maxRecDepth 100000
set_option maxHeartbeats 4000000
namespace Mo
open PySem L2 PySem.Spec PyProof.Rows
mutual
def toP : Dt → Option PyData
  | .non => some .none
  | .bl b => some (.bool b)
  | .int i => some (.int i)
  | .str x => some (.str x)
  | .tup ds => match toPs ds with
    | some ps => some (.tuple ps)
    | none => none
  | .wt ds => match toPs ds with
    | some ps => some (.tuple ps)
    | none => none
  | .lv ds => match toPs ds with
    | some ps => some (.list ps)
    | none => none
  | .wl ds => match toPs ds with
    | some ps => some (.list ps)
    | none => none
  | _ => none
def toPs : List Dt → Option (List PyData)
  | [] => some []
  | d :: ds => match toP d, toPs ds with
    | some p, some ps => some (p :: ps)
    | _, _ => none
end
/-- .. of a tracked list too -/
def toPH (h : Ah) : Dt → Option PyData
  | .obj i => match h[i]? with
    | some (.lst xs) => match toPs xs with
      | some ps => some (.list ps)
      | none => none
    | _ => none
  | d => toP d
section
variable {X : Cx} {E : XK} {K : PySem.W.Frag} {s : Sx} {d : Dt} {v : V} {xs : List Dt}
mutual
theorem toP_ok (r : HRel K s) : ∀ {d : Dt} {v : V} {p : PyData}, Rep K s d v → toP d = some p → Dp K s.H v p
  | .non, v, p, rv, e => by cases rv; cases e; exact .non
  | .bl b, v, p, rv, e => by cases rv; cases e; exact .bl b
  | .int i, v, p, rv, e => by cases rv; cases e; exact .int i
  | .str x, v, p, rv, e => by cases rv; cases e; exact .str x
  | .tup ds, v, p, rv, e => by
    simp only [toP] at e
    cases q : toPs ds with
    | none => rw [q] at e; cases e
    | some ps =>
      rw [q] at e; cases e
      obtain ⟨a, vs, rfl, sq, rs⟩ := tupR_ok rv (xs := ds) rfl
      exact .tup sq (toPs_ok r rs q)
  | .wt ds, v, p, rv, e => by
    simp only [toP] at e
    cases q : toPs ds with
    | none => rw [q] at e; cases e
    | some ps =>
      rw [q] at e; cases e
      obtain ⟨a, vs, rfl, sq, rs⟩ := tupR_ok rv (xs := ds) rfl
      exact .tup sq (toPs_ok r rs q)
  | .lv ds, v, p, rv, e => by
    simp only [toP] at e
    cases q : toPs ds with
    | none => rw [q] at e; cases e
    | some ps =>
      rw [q] at e; cases e
      obtain ⟨a, vs, rfl, sq, rs⟩ := lstR_ok r rv (xs := ds) rfl
      exact .lst sq (toPs_ok r rs q)
  | .wl ds, v, p, rv, e => by
    simp only [toP] at e
    cases q : toPs ds with
    | none => rw [q] at e; cases e
    | some ps =>
      rw [q] at e; cases e
      obtain ⟨a, vs, rfl, sq, rs⟩ := lstR_ok r rv (xs := ds) rfl
      exact .lst sq (toPs_ok r rs q)
  | .ty _, v, p, rv, e => by simp [toP] at e
  | .adr _, v, p, rv, e => by simp [toP] at e
  | .dk _ _, v, p, rv, e => by simp [toP] at e
  | .dt _ _, v, p, rv, e => by simp [toP] at e
  | .exc _ _ _, v, p, rv, e => by simp [toP] at e
  | .hot _ _ _ _ _, v, p, rv, e => by simp [toP] at e
  | .obj _, v, p, rv, e => by simp [toP] at e
theorem toPs_ok (r : HRel K s) : ∀ {ds : List Dt} {vs : List V} {ps : List PyData}, Reps K s ds vs → toPs ds = some ps → DpAll K s.H vs ps
  | [], vs, ps, rv, e => by cases rv; cases e; exact .nil
  | d :: ds, vs, ps, rv, e => by
    obtain ⟨v, w, rfl, h1, h2⟩ := rv
    simp only [toPs] at e
    cases q : toP d with
    | none => rw [q] at e; simp at e
    | some p =>
      cases q2 : toPs ds with
      | none => rw [q, q2] at e; simp at e
      | some ps' =>
        rw [q, q2] at e; cases e
        exact .cons (toP_ok r h1 q) (toPs_ok r h2 q2)
end
theorem toPH_ok (r : HRel K s) {p : PyData} (rv : Rep K s d v) (e : toPH s.h d = some p) : Dp K s.H v p := by
  by_cases ho : ∃ i, d = .obj i
  · obtain ⟨i, rfl⟩ := ho
    simp only [toPH] at e
    cases q : s.h[i]? with
    | none => rw [q] at e; cases e
    | some o =>
      rw [q] at e
      cases o with
      | lst ys =>
        simp only at e
        cases q2 : toPs ys with
        | none => rw [q2] at e; cases e
        | some ps =>
          rw [q2] at e; cases e
          obtain ⟨a, rfl, ea, vs, h1, h2⟩ := obj_ok r rv q
          exact .lst (.of h1) (toPs_ok r h2 q2)
      | _ => cases e
  · refine toP_ok r rv ?_
    cases d with
    | obj i => exact absurd ⟨i, rfl⟩ ho
    | _ => exact e
def eqR (h : Ah) (x y : Dt) : Option Bool := match x, y with
  | .int i, .int j => some (decide (i = j))
  | .str a, .str b => some (decide (a = b))
  | .bl a, .bl b => some (decide (a = b))
  | x, y => match toPH h x, toPH h y with
    | some p, some q => if SeqAt.shaped p && SeqAt.shaped q then some (PyData.eqv p q) else none
    | _, _ => none
def opEq : Dt → Dt → Mm Dt := fun x y h => match eqR h x y with
  | some b => .ok (.bl b) h
  | none => .no
def opNe : Dt → Dt → Mm Dt := fun x y h => match eqR h x y with
  | some b => .ok (.bl (!b)) h
  | none => .no
theorem eqR_ok (r : HRel K s) {x y : V} {d e : Dt} {b : Bool} (rx : Rep K s d x) (ry : Rep K s e y) (h : eqR s.h d e = some b) :
    (scal x y = true ∧ decide (x = y) = b) ∨ ∃ p q, Dp K s.H x p ∧ Dp K s.H y q ∧ SeqAt.shaped p = true ∧ SeqAt.shaped q = true ∧ PyData.eqv p q = b := by
  unfold eqR at h
  split at h
  · cases rx; cases ry; cases h; exact .inl ⟨rfl, by simp⟩
  · cases rx; cases ry; cases h; exact .inl ⟨rfl, by simp⟩
  · cases rx; cases ry; cases h; exact .inl ⟨rfl, by simp⟩
  · split at h
    · rename_i p q e1 e2
      split at h
      · rename_i hs
        rw [Bool.and_eq_true] at hs
        cases h
        exact .inr ⟨p, q, toPH_ok r rx e1, toPH_ok r ry e2, hs.1, hs.2, rfl⟩
      · cases h
    · cases h
theorem o_eq (hu : X.A.units + 64 < cLine) : OpR X (compareOp .Eq) (rM X.K E opEq) := opR_mono (op_eq.or (op_eqD hu)) fun x y H Q ⟨s, d, e, eH, r, rx, ry, ha⟩ => by
  subst eH
  unfold opEq at ha
  split at ha
  · rename_i b hb
    rcases eqR_ok r rx ry hb with ⟨h1, h2⟩ | ⟨p, q, h1, h2, h3, h4, h5⟩
    · exact .inl ⟨h1, by rw [h2]; exact fin r ha rfl⟩
    · exact .inr ⟨p, q, h1, h2, h3, h4, by rw [h5]; exact fin r ha rfl⟩
  · exact ha.elim
theorem o_ne (hu : X.A.units + 64 < cLine) : OpR X (compareOp .NotEq) (rM X.K E opNe) := opR_mono (op_ne.or (op_neD hu)) fun x y H Q ⟨s, d, e, eH, r, rx, ry, ha⟩ => by
  subst eH
  unfold opNe at ha
  split at ha
  · rename_i b hb
    rcases eqR_ok r rx ry hb with ⟨h1, h2⟩ | ⟨p, q, h1, h2, h3, h4, h5⟩
    · exact .inl ⟨h1, by rw [h2]; exact fin r ha rfl⟩
    · exact .inr ⟨p, q, h1, h2, h3, h4, by rw [h5]; exact fin r ha rfl⟩
  · exact ha.elim
def flatD : Dt → Option V
  | .non => some .non
  | .bl b => some (.bl b)
  | .int i => some (.int i)
  | .str x => some (.str x)
  | _ => none
def flatDs : List Dt → Option (List V)
  | [] => some []
  | d :: ds => match flatD d, flatDs ds with
    | some v, some vs => some (v :: vs)
    | _, _ => none
theorem flatD_ok {w : V} (rv : Rep K s d v) (e : flatD d = some w) : v = w ∧ flatV w = true := by
  cases d with
  | non => cases rv; cases e; exact ⟨rfl, rfl⟩
  | bl _ => cases rv; cases e; exact ⟨rfl, rfl⟩
  | int _ => cases rv; cases e; exact ⟨rfl, rfl⟩
  | str _ => cases rv; cases e; exact ⟨rfl, rfl⟩
  | _ => cases e
theorem flatDs_ok : ∀ {ds : List Dt} {vs ws : List V}, Reps K s ds vs → flatDs ds = some ws → vs = ws ∧ ws.all flatV = true
  | [], vs, ws, rv, e => by cases rv; cases e; exact ⟨rfl, rfl⟩
  | d :: ds, vs, ws, rv, e => by
    obtain ⟨v, w, rfl, h1, h2⟩ := rv
    simp only [flatDs] at e
    cases q : flatD d with
    | none => rw [q] at e; simp at e
    | some p =>
      cases q2 : flatDs ds with
      | none => rw [q, q2] at e; simp at e
      | some ps' =>
        rw [q, q2] at e; cases e
        obtain ⟨rfl, f1⟩ := flatD_ok h1 q
        obtain ⟨rfl, f2⟩ := flatDs_ok h2 q2
        exact ⟨rfl, by simp [f1, f2]⟩
/-- one sign -/
def sign? (x : Str) : Option Nat := match x.cps.toList with
  | [c] => some c
  | _ => none
theorem sign_ok {x : Str} {c : Nat} (h : sign? x = some c) : x = ⟨#[c]⟩ := by
  unfold sign? at h
  split at h
  · rename_i c' e
    cases h
    obtain ⟨a⟩ := x
    simp only at e
    congr
    apply Array.toList_inj.mp
    exact e
  · cases h
def seqR (h : Ah) (d : Dt) : Option (List Dt) := match tupR d with
  | some xs => some xs
  | none => lstR h d
theorem seqR_ok (r : HRel K s) (rv : Rep K s d v) (e : seqR s.h d = some xs) : ∃ a vs, v = .ref a ∧ (SqL K s.H a vs ∨ SqT K s.H a vs) ∧ Reps K s xs vs := by
  unfold seqR at e
  split at e
  · rename_i ys q
    cases e
    obtain ⟨a, vs, h1, h2, h3⟩ := tupR_ok rv q
    exact ⟨a, vs, h1, .inr h2, h3⟩
  · obtain ⟨a, vs, h1, h2, h3⟩ := lstR_ok r rv e
    exact ⟨a, vs, h1, .inl h2, h3⟩
def inR (h : Ah) (x y : Dt) : Option Bool := match y with
  | .str z => match x with
    | .str w => match sign? w with
      | some c => some (decide (c ∈ z.cps.toList))
      | none => some (!(Builtin.Str.occurrences z w 0 z.length 1).isEmpty)
    | _ => none
  | y => match flatD x, (seqR h y).bind flatDs with
    | some a, some bs => some (inV a bs)
    | _, _ => match toPH h x, toPH h y with
      | some p, some (.list qs) => if SeqAt.shaped p && SeqAt.shaped (.list qs) then some (qs.any fun z => PyData.eqv z p) else none
      | _, _ => none
def opIn : Dt → Dt → Mm Dt := fun x y h => match inR h x y with
  | some b => .ok (.bl b) h
  | none => .no
def opNotIn : Dt → Dt → Mm Dt := fun x y h => match inR h x y with
  | some b => .ok (.bl (!b)) h
  | none => .no
theorem inR_ok (r : HRel K s) {x y : V} {d e : Dt} {b : Bool} (rx : Rep K s d x) (ry : Rep K s e y) (h : inR s.h d e = some b) :
    (∃ (c : Nat) (z : Str), x = .str ⟨#[c]⟩ ∧ y = .str z ∧ decide (c ∈ z.cps.toList) = b) ∨ (∃ i j, x = .str i ∧ y = .str j ∧ (!(Builtin.Str.occurrences j i 0 j.length 1).isEmpty) = b) ∨
    (∃ p ws, y = .ref p ∧ (SqL K s.H p ws ∨ SqT K s.H p ws) ∧ flatV x = true ∧ ws.all flatV = true ∧ inV x ws = b) ∨
    ∃ p qs, Dp K s.H x p ∧ Dp K s.H y (.list qs) ∧ SeqAt.shaped p = true ∧ SeqAt.shaped (.list qs) = true ∧ (qs.any fun z => PyData.eqv z p) = b := by
  unfold inR at h
  split at h
  · rename_i z
    cases ry
    split at h
    · rename_i w
      cases rx
      split at h
      · rename_i c hc
        cases h
        exact .inl ⟨c, z, by rw [sign_ok hc], rfl, rfl⟩
      · cases h
        exact .inr (.inl ⟨w, z, rfl, rfl, rfl⟩)
    · cases h
  · split at h
    · rename_i a bs ea eb
      cases h
      cases q : seqR s.h e with
      | none => rw [q] at eb; cases eb
      | some ys =>
        rw [q] at eb
        obtain ⟨p, vs, h1, h2, h3⟩ := seqR_ok r ry q
        obtain ⟨rfl, f1⟩ := flatD_ok rx ea
        obtain ⟨rfl, f2⟩ := flatDs_ok h3 eb
        exact .inr (.inr (.inl ⟨p, _, h1, h2, f1, f2, rfl⟩))
    · split at h
      · rename_i p qs e1 e2
        split at h
        · rename_i hs
          rw [Bool.and_eq_true] at hs
          cases h
          exact .inr (.inr (.inr ⟨p, qs, toPH_ok r rx e1, toPH_ok r ry e2, hs.1, hs.2, rfl⟩))
        · cases h
      · cases h
theorem o_in (hu : X.A.units + 65 < cLine) : OpR X (compareOp .In) (rM X.K E opIn) := opR_mono (op_in_sign.or (op_in_str.or (op_in_seq.or (op_inD hu)))) fun x y H Q ⟨s, d, e, eH, r, rx, ry, ha⟩ => by
  subst eH
  unfold opIn at ha
  split at ha
  · rename_i b hb
    rcases inR_ok r rx ry hb with ⟨c, z, h1, h2, h3⟩ | ⟨i, j, h1, h2, h3⟩ | ⟨p, ws, h1, h2, h3, h4, h5⟩ | ⟨p, q, h1, h2, h3, h4, h5⟩
    · exact .inl ⟨c, z, h1, h2, by rw [h3]; exact fin r ha rfl⟩
    · exact .inr (.inl ⟨i, j, h1, h2, by rw [h3]; exact fin r ha rfl⟩)
    · exact .inr (.inr (.inl ⟨p, ws, h1, h2, h3, h4, by rw [if_neg (by decide), h5]; exact fin r ha rfl⟩))
    · exact .inr (.inr (.inr ⟨p, q, h1, h2, h3, h4, by rw [h5]; exact fin r ha rfl⟩))
  · exact ha.elim
theorem o_notin (hu : X.A.units + 65 < cLine) : OpR X (compareOp .NotIn) (rM X.K E opNotIn) := opR_mono (op_notIn_sign.or (op_notIn_str.or (op_notIn_seq.or (op_notInD hu)))) fun x y H Q ⟨s, d, e, eH, r, rx, ry, ha⟩ => by
  subst eH
  unfold opNotIn at ha
  split at ha
  · rename_i b hb
    rcases inR_ok r rx ry hb with ⟨c, z, h1, h2, h3⟩ | ⟨i, j, h1, h2, h3⟩ | ⟨p, ws, h1, h2, h3, h4, h5⟩ | ⟨p, q, h1, h2, h3, h4, h5⟩
    · exact .inl ⟨c, z, h1, h2, by rw [h3]; exact fin r ha rfl⟩
    · exact .inr (.inl ⟨i, j, h1, h2, by rw [h3]; exact fin r ha rfl⟩)
    · exact .inr (.inr (.inl ⟨p, ws, h1, h2, h3, h4, by rw [if_pos rfl, h5]; exact fin r ha rfl⟩))
    · exact .inr (.inr (.inr ⟨p, q, h1, h2, h3, h4, by rw [h5]; exact fin r ha rfl⟩))
  · exact ha.elim
def strRep (x : Str) (n : Int) : Str := ⟨((List.replicate n.toNat x.cps.toList).flatten).toArray⟩
theorem foldl_cat : ∀ (l : List (Array Nat)) (acc : Array Nat), (l.foldl (· ++ ·) acc).toList = acc.toList ++ (l.map Array.toList).flatten
  | [], acc => by simp
  | a :: l, acc => by
    show (l.foldl (· ++ ·) (acc ++ a)).toList = _
    rw [foldl_cat l (acc ++ a)]
    simp
theorem str_ext {x y : Str} (h : x.cps.toList = y.cps.toList) : x = y := by
  obtain ⟨a⟩ := x
  obtain ⟨b⟩ := y
  congr
  exact Array.toList_inj.mp h
theorem strRep_many (x : Str) (n : Int) : (⟨(List.replicate n.toNat x.cps).foldl (· ++ ·) #[]⟩ : Str) = strRep x n := by
  apply str_ext
  show ((List.replicate n.toNat x.cps).foldl (· ++ ·) #[]).toList = _
  rw [foldl_cat]
  simp [strRep]
theorem strRep_none (x : Str) {n : Int} (h : n < 1) : Str.empty = strRep x n := by
  apply str_ext
  have : n.toNat = 0 := by omega
  simp [strRep, this, Str.empty]
theorem strRep_one (x : Str) {n : Int} (h : (n == 1 || x.length == 0) = true) (h1 : ¬ n < 1) : x = strRep x n := by
  apply str_ext
  rw [Bool.or_eq_true] at h
  rcases h with h | h
  · have : n = 1 := by simpa using h
    subst this
    simp [strRep]
  · have hl : x.cps.toList = [] := by
      have : x.cps.size = 0 := by
        have : x.length = 0 := by simpa using h
        exact this
      exact List.length_eq_zero_iff.mp (by simpa using this)
    simp only [strRep, hl]
    induction n.toNat with
    | zero => rfl
    | succ k ih => simp [List.replicate_succ] at ih ⊢
theorem flatten_len {α : Type} (l : List α) : ∀ k : Nat, ((List.replicate k l).flatten).length = k * l.length
  | 0 => by simp
  | k + 1 => by simp [List.replicate_succ, flatten_len l k, Nat.succ_mul, Nat.add_comm]
def rMulS : R2 := fun x y H Q => ∃ a n, x = .str a ∧ y = .int n ∧ -(2 ^ 63) ≤ n ∧ n < 2 ^ 63 ∧ a.length * n.toNat ≤ sizeLine ∧ Q (.str (strRep a n)) H
theorem op_mulS : OpR X (binaryOp .Mult) rMulS := by
  intro pins s σ H x y v u Q I rx ry h
  obtain ⟨a, n, rfl, rfl, h1, h2, h3, q⟩ := h
  obtain ⟨t, rfl⟩ := rx
  obtain ⟨t', rfl⟩ := ry
  have h3' : a.length * n.toNat ≤ 16777216 := by rw [sizeLine_eq] at h3; exact h3
  refine P.mul_str ?_ (fun hn hx => ?_) (fun hn hx => ?_) ?_
  · rw [decide_eq_false (by omega), decide_eq_false (by omega)]; rfl
  · have hn1 : (1 : Int) ≤ n := by omega
    have : (a.length : Int) * n ≤ 16777216 := by
      have e : n = (n.toNat : Int) := by omega
      have h4 : ((a.length * n.toNat : Nat) : Int) ≤ ((16777216 : Nat) : Int) := Int.ofNat_le.mpr h3'
      rw [Int.natCast_mul, ← e] at h4
      exact h4
    intro hgt
    have h9 : (a.length : Int) ≤ (2 ^ 63 - 1) / n := by
      rw [Int.le_ediv_iff_mul_le (by omega)]
      omega
    omega
  · have : ¬ (a.length * n.toNat > sizeLine) := by rw [sizeLine_eq]; omega
    exact decide_eq_false this
  · by_cases c1 : n < 1
    · rw [if_pos c1]
      rw [← strRep_none a c1] at q
      exact ⟨by decide, .str Str.empty, H, I.tok _, ⟨_, rfl⟩, q⟩
    · rw [if_neg c1]
      by_cases c2 : (n == 1 || a.length == 0) = true
      · rw [if_pos c2]
        rw [← strRep_one a c2 c1] at q
        exact ⟨.str a, H, I, ⟨_, rfl⟩, q⟩
      · rw [if_neg c2]
        rw [strRep_many]
        refine ⟨?_, .str _, H, I.tok _, ⟨_, rfl⟩, q⟩
        have : (strRep a n).length = n.toNat * a.length := by
          show ((List.replicate n.toNat a.cps.toList).flatten).toArray.size = _
          rw [List.size_toArray, flatten_len]
          rfl
        rw [this, Nat.mul_comm]
        exact h3
def opMul : Dt → Dt → Mm Dt := fun x y h => match x, y with
  | .int i, .int j => if i.natAbs.log2 + j.natAbs.log2 < 1000000 then .ok (.int (i * j)) h else .no
  | .str a, .int n => if -(2 ^ 63) ≤ n ∧ n < 2 ^ 63 ∧ a.length * n.toNat ≤ sizeLine then .ok (.str (strRep a n)) h else .no
  | x, .int n => match lstT h x with
    | some xs => if -(2 ^ 63) ≤ n ∧ n < 2 ^ 63 ∧ xs.length * n.toNat ≤ sizeLine then .ok (.lv (List.replicate n.toNat xs).flatten) h else .no
    | none => .no
  | _, _ => .no
theorem Reps.rep : ∀ {ds : List Dt} {vs : List V} (k : Nat), Reps K s ds vs → Reps K s (List.replicate k ds).flatten (List.replicate k vs).flatten
  | _, _, 0, _ => by simp; exact rfl
  | _, _, k + 1, h => by
    rw [List.replicate_succ, List.replicate_succ, List.flatten_cons, List.flatten_cons]
    exact h.append (Reps.rep k h)
theorem o_mul : OpR X (binaryOp .Mult) (rM X.K E opMul) := opR_mono (op_mulW.or (op_mulS.or op_rep)) fun x y H Q ⟨s, d, e, eH, r, rx, ry, ha⟩ => by
  subst eH
  unfold opMul at ha
  split at ha
  · cases rx; cases ry
    split at ha
    · rename_i hl
      exact .inl ⟨_, _, rfl, rfl, hl, fin r ha rfl⟩
    · exact ha.elim
  · cases rx; cases ry
    split at ha
    · rename_i hl
      exact .inr (.inl ⟨_, _, rfl, rfl, hl.1, hl.2.1, hl.2.2, fin r ha rfl⟩)
    · exact ha.elim
  · cases ry
    split at ha
    · rename_i xs q
      obtain ⟨pa, va, rfl, ka, ra⟩ := lstT_ok r rx q
      split at ha
      · rename_i hl
        exact .inr (.inr ⟨pa, _, va, rfl, rfl, ka, hl.1, hl.2.1, by rw [ra.length]; exact hl.2.2, newLv r (ra.rep _) ha⟩)
      · exact ha.elim
    · exact ha.elim
  · exact ha.elim
end
end Mo
set_option Elab.async false
set_option linter.all false
set_option maxRecDepth 100000
set_option maxHeartbeats 4000000
namespace Mo
open PySem L2 PySem.Spec PyProof.Rows
section
variable {X : Cx} {E : XK} {K : PySem.W.Frag} {s : Sx} {d : Dt} {v : V} {xs : List Dt} {e a b c : Expr} {pos : Pos} {es : List Expr}
variable {ma mb mc mo : En → Mm Dt} {mr : En → Mm (List Dt)}
theorem ixR_mono {r r' : R2} (h : IxR X r) (k : ∀ x y H Q, r' x y H Q → r x y H Q) : IxR X r' := fun va sl pins s σ H x y v u Q I rx ry w => h va sl pins s σ H x y v u Q I rx ry (k x y H Q w)
theorem mtR_mono {id : String} {r r' : V → List V → Hp → VK → Prop} (h : MtR X id r) (k : ∀ x xs H Q, r' x xs H Q → r x xs H Q) : MtR X id r' := fun pins s σ H x xs v us Q I rx rxs w => h pins s σ H x xs v us Q I rx rxs (k x xs H Q w)
theorem slR_mono {r r' : V → Option Int → Option Int → Hp → VK → Prop} (h : SlR X r) (k : ∀ x lo hi H Q, r' x lo hi H Q → r x lo hi H Q) : SlR X r' := fun pins s σ H x v vl vu lo hi sl Q I rx hs pl pu w => h pins s σ H x v vl vu lo hi sl Q I rx hs pl pu (k x lo hi H Q w)
def ixM : Dt → Dt → Mm Dt := fun x y h => match y with
  | .int i => match x with
    | .str z => match atI z.cps.toList i with
      | some c => if z.length ≤ sizeLine then .ok (.str ⟨#[c]⟩) h else .no
      | none => .no
    | x => match (seqR h x).bind fun xs => atI xs i with
      | some d => .ok d h
      | none => .no
  | _ => .no
theorem atI_reps {ds : List Dt} {vs : List V} {i : Int} {d : Dt} (rs : Reps K s ds vs) (h : atI ds i = some d) : ∃ v, atI vs i = some v ∧ Rep K s d v := by
  unfold atI at h ⊢
  rw [rs.length]
  cases q : ixN ds.length i with
  | none => rw [q] at h; cases h
  | some j =>
    rw [q] at h
    obtain ⟨v, e, rv⟩ := rs.get h
    exact ⟨v, e, rv⟩
theorem i_seq : IxR X (rM X.K E ixM) := ixR_mono ix_seq fun x y H Q ⟨s, d, e, eH, r, rx, ry, ha⟩ => by
  subst eH
  unfold ixM at ha
  split at ha
  · rename_i i
    cases ry
    split at ha
    · rename_i z
      cases rx
      split at ha
      · rename_i c hc
        split at ha
        · rename_i hl
          exact .inr (.inr ⟨z, i, c, rfl, rfl, hl, hc, fin r ha rfl⟩)
        · exact ha.elim
      · exact ha.elim
    · split at ha
      · rename_i d' hd
        cases q : seqR s.h d with
        | none => rw [q] at hd; cases hd
        | some ys =>
          rw [q] at hd
          obtain ⟨p, vs, rfl, sq, rs⟩ := seqR_ok r rx q
          obtain ⟨w, hw, rw'⟩ := atI_reps rs hd
          rcases sq with sq | sq
          · exact .inl ⟨p, vs, i, w, rfl, rfl, sq, hw, fin r ha rw'⟩
          · exact .inr (.inl ⟨p, vs, i, w, rfl, rfl, sq, hw, fin r ha rw'⟩)
      · exact ha.elim
  · exact ha.elim
theorem me_ix {g : Dt → Dt → Mm Dt} (hr : IxR X (rM X.K E g)) (ha : PE X a (tE X.K E ma)) (hb : PE X b (tE X.K E mb)) (hs : PlainIx b) : PE X (.Subscript a b pos) (tE X.K E (op2 g ma mb)) := pe_mono (pe_ix hr ha hb hs) (op2_ok fun _ _ _ _ h => h)
def opN : En → Mm (Option Int) := fun _ => Mm.pure none
def isI : Dt → Mm (Option Int) := fun d => match d with
  | .int i => Mm.pure (some i)
  | _ => Mm.no
def opS (m : En → Mm Dt) : En → Mm (Option Int) := fun env => m env >>= isI
theorem mo_none : PO X none (tO X.K E opN) := po_mono po_none fun σ H Q ⟨s, env, e, r, he, ha⟩ => by
  subst e
  exact ha.ret r
theorem mo_some (h : PE X e (tE X.K E ma)) : PO X (some e) (tO X.K E (opS ma)) := po_mono (po_some h) fun σ H Q ⟨s, env, e, r, he, ha⟩ => by
  subst e
  refine tE_bind r he ha fun d s1 v x1 r1 e1 rv q => ?_
  cases d with
  | int i => cases rv; exact ⟨i, rfl, q.ret r1⟩
  | _ => exact q.elim
def slc (g : Dt → Option Int → Option Int → Mm Dt) (ma : En → Mm Dt) (ml mh : En → Mm (Option Int)) : En → Mm Dt := fun env => ma env >>= fun x => ml env >>= fun lo => mh env >>= fun hi => g x lo hi
theorem me_slice {g : Dt → Option Int → Option Int → Mm Dt} {ml mh : En → Mm (Option Int)} {lo hi : Option Expr} {p2 : Pos} (hr : SlR X (slM X.K E g)) (he : PE X e (tE X.K E ma)) (hl : PO X lo (tO X.K E ml)) (hu : PO X hi (tO X.K E mh)) : PE X (.Subscript e (.Slice lo hi none p2) pos) (tE X.K E (slc g ma ml mh)) :=
  pe_mono (pe_slice hr he hl hu) fun σ H Q ⟨s, env, e, r, he, ha⟩ => by
    subst e
    exact tE_bind r he ha fun d s1 v x1 r1 e1 rv q1 => tO_bind r1 e1 q1 fun lo s2 x2 r2 e2 q2 => tO_bind r2 e2 q2 fun hi s3 x3 r3 e3 q3 => ⟨s3, d, rfl, r3, (rv.ext x2).ext x3, q3⟩
def cutD (xs : List Dt) (lo hi : Option Int) : List Dt := (xs.drop (HT.sIx xs.length 0 lo)).take (HT.sIx xs.length xs.length hi - HT.sIx xs.length 0 lo)
def slD : Dt → Option Int → Option Int → Mm Dt := fun x lo hi h => match x with
  | .str z => if z.length ≤ sizeLine then .ok (.str (cutS z lo hi)) h else .no
  | .tup xs => .ok (.tup (cutD xs lo hi)) h
  | x => match lstR h x with
    | some xs => .ok (.lv (cutD xs lo hi)) h
    | none => .no
theorem cut_reps {ds : List Dt} {vs : List V} (lo hi : Option Int) (rs : Reps K s ds vs) : Reps K s (cutD ds lo hi) (cutV vs lo hi) := by
  unfold cutD cutV
  rw [rs.length]
  exact (rs.drop _).take _
theorem s_all : SlR X (slM X.K E slD) := slR_mono (sl_str.or (sl_tupA.or sl_list)) fun x lo hi H Q ⟨s, d, eH, r, rx, ha⟩ => by
  subst eH
  unfold slD at ha
  split at ha
  · rename_i z
    cases rx
    split at ha
    · rename_i hl
      exact .inl ⟨z, rfl, hl, fin r ha rfl⟩
    · exact ha.elim
  · rename_i xs
    obtain ⟨p, vs, rfl, k, rs⟩ := id rx
    refine .inr (.inl ⟨p, vs, rfl, .of k.1, fun hw => ?_, fun _ => newTv r (cut_reps lo hi rs) ha⟩)
    have : cutD xs lo hi = xs := by
      rw [rs.length] at hw
      unfold cutD
      rw [hw.1, hw.2]
      simp
    rw [this] at ha
    exact fin r ha rx
  · split at ha
    · rename_i xs q
      obtain ⟨p, vs, rfl, k, rs⟩ := lstR_ok r rx q
      exact .inr (.inr ⟨p, vs, rfl, k, newLv r (cut_reps lo hi rs) ha⟩)
    · exact ha.elim
theorem me_B {id : String} {g : List Dt → Mm Dt} {x : Str} {p : Pos} (hc : CallR X (.builtin id) (cM X.K E g)) (hg : Gl X x) (hm : X.mg x = none) (hv : bootBuiltins x = some (.builtin id)) (ha : PA X (e :: es) (tA X.K E mr)) (hn : x ≠ "__name__" := by decide) (hdb : (x == ("__debug__" : Str)) = false := by decide)
    (he : starEach (e :: es) X.env = (false, eval e X.env) :: starEach es X.env := by rfl) (hpl : (backTo pos (starEach es X.env)).any (·.1) = false := by rfl) : PE X (.Call (.Name x p) (e :: es) [] pos) (tE X.K E (bi g mr)) := pe_mono (pe_callB hc hg hm hv ha hn hdb he hpl) bi_ok
theorem me_Ty {T : String} {g : List Dt → Mm Dt} {x : Str} {p : Pos} (hc : CallR X (.type T) (cM X.K E g)) (hg : Gl X x) (hm : X.mg x = none) (hv : bootBuiltins x = some (.type T)) (ha : PA X (e :: es) (tA X.K E mr)) (hn : x ≠ "__name__" := by decide) (hdb : (x == ("__debug__" : Str)) = false := by decide)
    (he : starEach (e :: es) X.env = (false, eval e X.env) :: starEach es X.env := by rfl) (hpl : (backTo pos (starEach es X.env)).any (·.1) = false := by rfl) : PE X (.Call (.Name x p) (e :: es) [] pos) (tE X.K E (bi g mr)) := pe_mono (pe_callTy hc hg hm hv ha hn hdb he hpl) bi_ok
theorem Reps.one {d : Dt} {vs : List V} (h : Reps K s [d] vs) : ∃ v, vs = [v] ∧ Rep K s d v := by
  obtain ⟨v, r, rfl, h1, h2⟩ := h
  cases h2
  exact ⟨v, rfl, h1⟩
theorem Reps.two {d e : Dt} {vs : List V} (h : Reps K s [d, e] vs) : ∃ v w, vs = [v, w] ∧ Rep K s d v ∧ Rep K s e w := by
  obtain ⟨v, r, rfl, h1, h2⟩ := h
  obtain ⟨w, rfl, h3⟩ := h2.one
  exact ⟨v, w, rfl, h1, h3⟩
/-- dicts: keys and values -/
def dkR (h : Ah) : Dt → Option (List Key × List Dt)
  | .dk ks vs => some (ks, vs)
  | .obj i => match h[i]? with
    | some (.dk ks vs) => some (ks, vs)
    | _ => none
  | _ => none
def dtR (h : Ah) : Dt → Option (List (List Key) × List Dt)
  | .dt ks vs => some (ks, vs)
  | .obj i => match h[i]? with
    | some (.dt ks vs) => some (ks, vs)
    | _ => none
  | _ => none
theorem dkR_ok (r : HRel K s) (rv : Rep K s d v) {ks : List Key} {ds : List Dt} (e : dkR s.h d = some (ks, ds)) : ∃ a vs, v = .ref a ∧ Rd s.H a (.dK (ks.zip vs)) ∧ ks.length = vs.length ∧ Reps K s ds vs := by
  cases d with
  | dk ks' ds' =>
    cases e
    obtain ⟨a, vs, rfl, k, l, rs⟩ := rv
    exact ⟨a, vs, rfl, k.1, l, rs⟩
  | obj i =>
    simp only [dkR] at e
    cases q : s.h[i]? with
    | none => rw [q] at e; cases e
    | some o =>
      rw [q] at e
      cases o with
      | dk ks' ds' =>
        cases e
        obtain ⟨a, rfl, ea, vs, h1, h2, h3⟩ := obj_ok r rv q
        exact ⟨a, vs, rfl, .of h1, h2, h3⟩
      | _ => cases e
  | _ => cases e
theorem dtR_ok (r : HRel K s) (rv : Rep K s d v) {ks : List (List Key)} {ds : List Dt} (e : dtR s.h d = some (ks, ds)) : ∃ a vs, v = .ref a ∧ Rd s.H a (.dT (ks.zip vs)) ∧ ks.length = vs.length ∧ Reps K s ds vs := by
  cases d with
  | dt ks' ds' =>
    cases e
    obtain ⟨a, vs, rfl, k, l, rs⟩ := rv
    exact ⟨a, vs, rfl, k.1, l, rs⟩
  | obj i =>
    simp only [dtR] at e
    cases q : s.h[i]? with
    | none => rw [q] at e; cases e
    | some o =>
      rw [q] at e
      cases o with
      | dt ks' ds' =>
        cases e
        obtain ⟨a, rfl, ea, vs, h1, h2, h3⟩ := obj_ok r rv q
        exact ⟨a, vs, rfl, .of h1, h2, h3⟩
      | _ => cases e
  | _ => cases e
def bLen : List Dt → Mm Dt := fun ds h => match ds with
  | [.str z] => if z.length ≤ sizeLine then .ok (.int z.length) h else .no
  | [d] => match seqR h d with
    | some xs => .ok (.int xs.length) h
    | none => .no
  | _ => .no
theorem b_len : CallR X (.builtin "len") (cM X.K E bLen) := callR_mono (call_len_str.or call_len_seq) fun xs H Q ⟨s, ds, eH, r, rs, ha⟩ => by
  subst eH
  unfold bLen at ha
  split at ha
  · obtain ⟨v, rfl, rv⟩ := rs.one
    cases rv
    split at ha
    · rename_i hl
      exact .inl ⟨_, rfl, hl, fin r ha rfl⟩
    · exact ha.elim
  · obtain ⟨v, rfl, rv⟩ := rs.one
    split at ha
    · rename_i ys q
      obtain ⟨p, vs, rfl, sq, rs'⟩ := seqR_ok r rv q
      exact .inr ⟨p, vs, rfl, sq, by rw [rs'.length]; exact fin r ha rfl⟩
    · exact ha.elim
  · exact ha.elim
def bAbs : List Dt → Mm Dt := fun ds h => match ds with
  | [.int i] => .ok (.int (if i < 0 then -i else i)) h
  | _ => .no
theorem b_abs : CallR X (.builtin "abs") (cM X.K E bAbs) := callR_mono call_abs fun xs H Q ⟨s, ds, eH, r, rs, ha⟩ => by
  subst eH
  unfold bAbs at ha
  split at ha
  · obtain ⟨v, rfl, rv⟩ := rs.one
    cases rv
    exact ⟨_, rfl, fin r ha rfl⟩
  · exact ha.elim
def bMax2 : List Dt → Mm Dt := fun ds h => match ds with
  | [.int i, .int j] => .ok (.int (if j > i then j else i)) h
  | _ => .no
def bMin2 : List Dt → Mm Dt := fun ds h => match ds with
  | [.int i, .int j] => .ok (.int (if j < i then j else i)) h
  | _ => .no
theorem b_max2 (hc : X.calm = true) : CallR X (.builtin "max") (cM X.K E bMax2) := callR_mono (call_max2 hc) fun xs H Q ⟨s, ds, eH, r, rs, ha⟩ => by
  subst eH
  unfold bMax2 at ha
  split at ha
  · obtain ⟨v, w, rfl, rv, rw'⟩ := rs.two
    cases rv; cases rw'
    exact ⟨_, _, rfl, fin r ha rfl⟩
  · exact ha.elim
theorem b_min2 (hc : X.calm = true) : CallR X (.builtin "min") (cM X.K E bMin2) := callR_mono (call_min2 hc) fun xs H Q ⟨s, ds, eH, r, rs, ha⟩ => by
  subst eH
  unfold bMin2 at ha
  split at ha
  · obtain ⟨v, w, rfl, rv, rw'⟩ := rs.two
    cases rv; cases rw'
    exact ⟨_, _, rfl, fin r ha rfl⟩
  · exact ha.elim
def bDivmod : List Dt → Mm Dt := fun ds h => match ds with
  | [.int i, .int j] => if 0 < j ∧ j < 1073741824 then .ok (.tup [.int (i / j), .int (i % j)]) h else .no
  | _ => .no
theorem b_divmod : CallR X (.builtin "divmod") (cM X.K E bDivmod) := callR_mono call_divmod fun xs H Q ⟨s, ds, eH, r, rs, ha⟩ => by
  subst eH
  unfold bDivmod at ha
  split at ha
  · obtain ⟨v, w, rfl, rv, rw'⟩ := rs.two
    cases rv; cases rw'
    split at ha
    · rename_i hj
      exact ⟨_, _, rfl, hj, newTv r (Reps.cons (d := .int _) rfl (Reps.cons (d := .int _) rfl Reps.nil)) ha⟩
    · exact ha.elim
  · exact ha.elim
def bInt : List Dt → Mm Dt := fun ds h => match ds with
  | [.int i] => .ok (.int i) h
  | [.bl k] => .ok (.int (if k then 1 else 0)) h
  | [.str a] => match PySem.intText? a with
    | some n => if a.length ≤ 640 then .ok (.int n) h else .no
    | none => .no
  | _ => .no
theorem b_int : CallR X (.type "int") (cM X.K E bInt) := callR_mono (call_int1.or call_int_str) fun xs H Q ⟨s, ds, eH, r, rs, ha⟩ => by
  subst eH
  unfold bInt at ha
  split at ha
  · obtain ⟨v, rfl, rv⟩ := rs.one
    cases rv
    exact .inl (.inl ⟨_, rfl, fin r ha rfl⟩)
  · obtain ⟨v, rfl, rv⟩ := rs.one
    cases rv
    exact .inl (.inr ⟨_, rfl, fin r ha rfl⟩)
  · obtain ⟨v, rfl, rv⟩ := rs.one
    cases rv
    split at ha
    · rename_i n hn
      split at ha
      · rename_i hl
        exact .inr ⟨_, n, rfl, hn, hl, fin r ha rfl⟩
      · exact ha.elim
    · exact ha.elim
  · exact ha.elim
def bStr : List Dt → Mm Dt := fun ds h => match ds with
  | [.int i] => if i.natAbs.log2 < 1920 then .ok (.str (toString i)) h else .no
  | _ => .no
theorem b_str : CallR X (.type "str") (cM X.K E bStr) := callR_mono call_str_int fun xs H Q ⟨s, ds, eH, r, rs, ha⟩ => by
  subst eH
  unfold bStr at ha
  split at ha
  · obtain ⟨v, rfl, rv⟩ := rs.one
    cases rv
    split at ha
    · rename_i hl
      exact ⟨_, rfl, hl, fin r ha rfl⟩
    · exact ha.elim
  · exact ha.elim
def blsD : List Dt → Option (List Bool)
  | [] => some []
  | .bl b :: ds => match blsD ds with
    | some bs => some (b :: bs)
    | none => none
  | _ => none
theorem blsD_ok : ∀ {ds : List Dt} {vs : List V} {bs : List Bool}, Reps K s ds vs → blsD ds = some bs → vs = bs.map V.bl
  | [], vs, bs, rs, e => by cases rs; cases e; rfl
  | d :: ds, vs, bs, rs, e => by
    obtain ⟨v, w, rfl, h1, h2⟩ := rs
    cases d with
    | bl b =>
      cases h1
      simp only [blsD] at e
      cases q : blsD ds with
      | none => rw [q] at e; cases e
      | some bs' =>
        rw [q] at e; cases e
        rw [blsD_ok h2 q]; rfl
    | _ => cases e
def intsD : List Dt → Option (List Int)
  | [] => some []
  | .int b :: ds => match intsD ds with
    | some bs => some (b :: bs)
    | none => none
  | _ => none
theorem intsD_ok : ∀ {ds : List Dt} {vs : List V} {bs : List Int}, Reps K s ds vs → intsD ds = some bs → vs = bs.map V.int
  | [], vs, bs, rs, e => by cases rs; cases e; rfl
  | d :: ds, vs, bs, rs, e => by
    obtain ⟨v, w, rfl, h1, h2⟩ := rs
    cases d with
    | int b =>
      cases h1
      simp only [intsD] at e
      cases q : intsD ds with
      | none => rw [q] at e; cases e
      | some bs' =>
        rw [q] at e; cases e
        rw [intsD_ok h2 q]; rfl
    | _ => cases e
def strsD : List Dt → Option (List Str)
  | [] => some []
  | .str b :: ds => match strsD ds with
    | some bs => some (b :: bs)
    | none => none
  | _ => none
theorem strsD_ok : ∀ {ds : List Dt} {vs : List V} {bs : List Str}, Reps K s ds vs → strsD ds = some bs → vs = bs.map V.str
  | [], vs, bs, rs, e => by cases rs; cases e; rfl
  | d :: ds, vs, bs, rs, e => by
    obtain ⟨v, w, rfl, h1, h2⟩ := rs
    cases d with
    | str b =>
      cases h1
      simp only [strsD] at e
      cases q : strsD ds with
      | none => rw [q] at e; cases e
      | some bs' =>
        rw [q] at e; cases e
        rw [strsD_ok h2 q]; rfl
    | _ => cases e
def bFold {α : Type} (f : List Dt → Option α) (g : α → Dt) : List Dt → Mm Dt := fun ds h => match ds with
  | [d] => match (lstR h d).bind f with
    | some bs => .ok (g bs) h
    | none => .no
  | _ => .no
def bAll : List Dt → Mm Dt := bFold blsD fun bs => .bl (bs.all id)
def bAny : List Dt → Mm Dt := bFold blsD fun bs => .bl (bs.any id)
def bSum : List Dt → Mm Dt := bFold intsD fun ns => .int ns.sum
theorem bFold_ok {α : Type} {f : List Dt → Option α} {g : α → Dt} {ds : List Dt} {vs : List V} {Q : VK} (r : HRel K s) (rs : Reps K s ds vs) (ha : After K E s (bFold f g ds s.h) (fun z s' => ∀ v, Rep K s' z v → Q v s'.H)) :
    ∃ a ys bs ws, vs = [V.ref a] ∧ SqL K s.H a ws ∧ Reps K s ys ws ∧ f ys = some bs ∧ ∀ v, Rep K s (g bs) v → Q v s.H := by
  unfold bFold at ha
  split at ha
  · obtain ⟨v, rfl, rv⟩ := rs.one
    split at ha
    · rename_i bs hb
      rename_i d _
      cases q : lstR s.h d with
      | none => rw [q] at hb; cases hb
      | some ys =>
        rw [q] at hb
        obtain ⟨p, ws, rfl, sq, rs'⟩ := lstR_ok r rv q
        exact ⟨p, ys, bs, ws, rfl, sq, rs', hb, fun v rv => fin r ha rv⟩
    · exact ha.elim
  · exact ha.elim
theorem b_all (hc : X.calm = true) : CallR X (.builtin "all") (cM X.K E bAll) := callR_mono (cr_all hc) fun xs H Q ⟨s, ds, eH, r, rs, ha⟩ => by
  subst eH
  obtain ⟨a, ys, bs, ws, rfl, sq, rs', hb, q⟩ := bFold_ok r rs ha
  rw [blsD_ok rs' hb] at sq
  exact ⟨a, bs, rfl, sq, q _ rfl⟩
theorem b_any (hc : X.calm = true) : CallR X (.builtin "any") (cM X.K E bAny) := callR_mono (cr_any hc) fun xs H Q ⟨s, ds, eH, r, rs, ha⟩ => by
  subst eH
  obtain ⟨a, ys, bs, ws, rfl, sq, rs', hb, q⟩ := bFold_ok r rs ha
  rw [blsD_ok rs' hb] at sq
  exact ⟨a, bs, rfl, sq, q _ rfl⟩
theorem b_sum (hc : X.calm = true) : CallR X (.builtin "sum") (cM X.K E bSum) := callR_mono (cr_sum hc) fun xs H Q ⟨s, ds, eH, r, rs, ha⟩ => by
  subst eH
  obtain ⟨a, ys, bs, ws, rfl, sq, rs', hb, q⟩ := bFold_ok r rs ha
  rw [intsD_ok rs' hb] at sq
  exact ⟨a, bs, rfl, sq, q _ rfl⟩
def tyD (h : Ah) : Dt → Option String
  | .non => some "NoneType"
  | .bl _ => some "bool"
  | .int _ => some "int"
  | .str _ => some "str"
  | .tup _ => some "tuple"
  | .lv _ => some "list"
  | .dk _ _ => some "dict"
  | .obj i => match h[i]? with
    | some (.lst _) => some "list"
    | some (.dk _ _) => some "dict"
    | some (.dt _ _) => some "dict"
    | _ => none
  | _ => none
def subTy (t c : String) : Bool := t == c || (t == "bool" && c == "int")
def kindsT : List String := ["NoneType", "bool", "int", "str", "tuple", "list", "dict"]
def bIsi : List Dt → Mm Dt := fun ds h => match ds with
  | [x, .ty c] => match tyD h x with
    | some t => if kindsT.contains t && kindsT.contains c then .ok (.bl (subTy t c)) h else .no
    | none => .no
  | _ => .no
theorem kit_all : ∀ t ∈ kindsT, ∀ c ∈ kindsT, kitB t c = some (subTy t c) := by decide +kernel
theorem tyD_ok (r : HRel K s) (rv : Rep K s d v) {t : String} (e : tyD s.h d = some t) : TyX K s.H v (.type t) := by
  cases d with
  | non => cases rv; cases e; exact .base .non
  | bl b => cases rv; cases e; exact .base (.bl b)
  | int i => cases rv; cases e; exact .base (.int i)
  | str x => cases rv; cases e; exact .base (.str x)
  | tup xs =>
    cases e
    obtain ⟨a, vs, rfl, k, _⟩ := rv
    exact .base (.tup k.1)
  | lv xs =>
    cases e
    obtain ⟨a, vs, rfl, k, _⟩ := rv
    exact .base (.lst k.1)
  | dk ks vs =>
    cases e
    obtain ⟨a, vs, rfl, k, _⟩ := rv
    rcases k.1 with k | ⟨o, k⟩
    · exact .base (.dK k)
    · exact .fDict k
  | obj i =>
    simp only [tyD] at e
    cases q : s.h[i]? with
    | none => rw [q] at e; cases e
    | some o =>
      rw [q] at e
      obtain ⟨a, rfl, ea, ho⟩ := obj_ok r rv q
      cases o with
      | lst ys => cases e; obtain ⟨vs, h1, _⟩ := ho; exact .base (.lst h1)
      | dk ks ys => cases e; obtain ⟨vs, h1, _⟩ := ho; exact .base (.dK h1)
      | dt ks ys => cases e; obtain ⟨vs, h1, _⟩ := ho; exact .base (.dT h1)
      | dead => cases e
      | ins c fs => cases e
  | _ => cases e
theorem b_isi : CallR X (.builtin "isinstance") (cM X.K E bIsi) := callR_mono call_isi fun xs H Q ⟨s, ds, eH, r, rs, ha⟩ => by
  subst eH
  unfold bIsi at ha
  split at ha
  · obtain ⟨v, w, rfl, rv, rw'⟩ := rs.two
    cases rw'
    split at ha
    · rename_i t ht
      split at ha
      · rename_i hk
        rw [Bool.and_eq_true] at hk
        exact ⟨v, _, .type t, .type _, _, rfl, .ty _, tyD_ok r rv ht, kit_ty (kit_all t (by simpa using hk.1) _ (by simpa using hk.2)), fin r ha rfl⟩
      · exact ha.elim
    · exact ha.elim
  · exact ha.elim
def bm (tk : Ah → Dt → Bool) (g : Dt → List Dt → Mm Dt) (mo : En → Mm Dt) (mr : En → Mm (List Dt)) : En → Mm Dt := fun env => mo env >>= fun o => (fun h => if tk h o then .ok () h else .no) >>= fun _ => mr env >>= fun ds => g o ds
def isL (h : Ah) (d : Dt) : Bool := (lstR h d).isSome
def isSt (h : Ah) (d : Dt) : Bool := match d with
  | .str _ => true
  | _ => false
theorem isL_ok (r : HRel K s) (rv : Rep K s d v) (h : isL s.h d = true) : tyV K "list" v s.H := by
  unfold isL at h
  cases q : lstR s.h d with
  | none => rw [q] at h; cases h
  | some ys =>
    obtain ⟨p, vs, rfl, sq, rs'⟩ := lstR_ok r rv q
    exact .inl ⟨rfl, vs, sq⟩
theorem isSt_ok (r : HRel K s) (rv : Rep K s d v) (h : isSt s.h d = true) : tyV K "str" v s.H := by
  cases d with
  | str z => cases rv; rfl
  | _ => cases h
theorem bm_ok {T : String} {tk : Ah → Dt → Bool} {g : Dt → List Dt → Mm Dt} (ht : ∀ (s : Sx) d v, HRel X.K s → Rep X.K s d v → tk s.h d = true → tyV X.K T v s.H) : ∀ σ H Q, tE X.K E (bm tk g mo mr) σ H Q → tBM X.K T (mM X.K E g) (tE X.K E mo) (tA X.K E mr) σ H Q := fun σ H Q ⟨s, env, e, r, he, ha⟩ => by
  subst e
  refine tE_bind r he ha fun d s1 v x1 r1 e1 rv q => ?_
  have q2 := q.bind
  by_cases hk : tk s1.h d = true
  · simp only [hk, if_true] at q2
    have q3 := After.ret (a := ()) r1 q2
    exact ⟨ht s1 d v r1 rv hk, tA_bind r1 e1 q3 fun ds s2 vs x2 r2 e2 rs q4 => ⟨s2, d, ds, rfl, r2, rv.ext x2, rs, q4⟩⟩
  · simp only [hk] at q2
    exact q2.elim
theorem me_bm {T : String} {tk : Ah → Dt → Bool} {g : Dt → List Dt → Mm Dt} {id : String} {name : Str} {o : Expr} {apos cpos : Pos} (ht : ∀ (s : Sx) d v, HRel X.K s → Rep X.K s d v → tk s.h d = true → tyV X.K T v s.H)
    (pa : PlainAttrs T) (slot : Slot T name id) (hty : typeOf (.builtin id) = pure (.type "method_descriptor")) (hm : MtR X id (mM X.K E g)) (ho : PE X o (tE X.K E mo)) (ha : PA X (e :: es) (tA X.K E mr))
    (hbase : attributeBase o name X.env (eval o X.env) = eval o X.env := by rfl)
    (hfew : ((backTo cpos (starEach (e :: es) X.env)).all (fun x => !x.1) && (backToKw cpos (keywordEach [] X.env)).all (fun x => x.1.isSome)
      && decide ((e :: es).length + ([] : List Keyword).length + (if ([] : List Keyword).isEmpty then 0 else 1) < 30)) = true := by rfl)
    (hline : (apos.endLine == cpos.line) = true := by rfl) (hs : starEach (e :: es) X.env = (false, eval e X.env) :: starEach es X.env := by rfl) (hplain : (backTo cpos (starEach es X.env)).any (·.1) = false := by rfl) :
    PE X (.Call (.Attribute o name apos) (e :: es) [] cpos) (tE X.K E (bm tk g mo mr)) := pe_mono (pe_bm pa slot hty hm ho ha hbase hfew hline hs hplain) (bm_ok ht)
def bm0 (tk : Ah → Dt → Bool) (g : Dt → List Dt → Mm Dt) (mo : En → Mm Dt) : En → Mm Dt := fun env => mo env >>= fun o => (fun h => if tk h o then .ok () h else .no) >>= fun _ => g o []
theorem me_bm0 {T : String} {tk : Ah → Dt → Bool} {g : Dt → List Dt → Mm Dt} {id : String} {name : Str} {o : Expr} {apos cpos : Pos} (ht : ∀ (s : Sx) d v, HRel X.K s → Rep X.K s d v → tk s.h d = true → tyV X.K T v s.H)
    (pa : PlainAttrs T) (slot : Slot T name id) (hty : typeOf (.builtin id) = pure (.type "method_descriptor")) (hm : MtR X id (mM X.K E g)) (ho : PE X o (tE X.K E mo))
    (hbase : attributeBase o name X.env (eval o X.env) = eval o X.env := by rfl) (hline : (apos.endLine == cpos.line) = true := by rfl) : PE X (.Call (.Attribute o name apos) [] [] cpos) (tE X.K E (bm0 tk g mo)) := pe_mono (pe_bm0 pa slot hty hm ho hbase hline) fun σ H Q ⟨s, env, e, r, he, ha⟩ => by
  subst e
  refine tE_bind r he ha fun d s1 v x1 r1 e1 rv q => ?_
  have q2 := q.bind
  by_cases hk : tk s1.h d = true
  · simp only [hk, if_true] at q2
    have q3 := After.ret (a := ()) r1 q2
    exact ⟨ht s1 d v r1 rv hk, s1, d, [], rfl, r1, rv, rfl, q3⟩
  · simp only [hk] at q2
    exact q2.elim
def mApp : Dt → List Dt → Mm Dt := fun o ds h => match o, ds with
  | .obj i, [y] => match h[i]? with
    | some (.lst xs) => if xs.length < sizeLine then .ok .non (h.set i (.lst (xs ++ [y]))) else .no
    | _ => .no
  | _, _ => .no
theorem m_app : MtR X "list.append" (mM X.K E mApp) := mtR_mono mt_append fun x vs H Q ⟨s, d, ds, eH, r, rx, rs, ha⟩ => by
  subst eH
  unfold mApp at ha
  split at ha
  · rename_i i y
    obtain ⟨v, rfl, rv⟩ := rs.one
    obtain ⟨a, ea, rfl⟩ := rx
    split at ha
    · rename_i ys q
      split at ha
      · rename_i hl
        obtain ⟨ws, h1, h2⟩ := r.ob i a _ ea q
        have x := put_ext (u := .lst (ws ++ [v])) (o' := .lst (ys ++ [y])) r ea q (by intro z; cases z)
        have r' := put_rel (u := .lst (ws ++ [v])) (o' := .lst (ys ++ [y])) r ea q (by intro z; cases z) ⟨_, upd_same, (h2.ext x).append (Reps.cons (rv.ext x) Reps.nil)⟩
        exact ⟨a, ws, v, rfl, rfl, h1, by rw [h2.length]; exact hl, ha.now _ rfl x r' _ rfl⟩
      · exact ha.elim
    · exact ha.elim
  · exact ha.elim
theorem Reps.dropLast {ds : List Dt} {vs : List V} (h : Reps K s ds vs) : Reps K s ds.dropLast vs.dropLast := by
  rw [List.dropLast_eq_take, List.dropLast_eq_take, h.length]
  exact h.take _
def setL : Dt → Dt → Dt → Mm Unit := fun o i y h => match o, i with
  | .obj n, .int k => match h[n]? with
    | some (.lst xs) => match ixN xs.length k with
      | some j => .ok () (h.set n (.lst (xs.set j y)))
      | none => .no
    | _ => .no
  | _, _ => .no
theorem st_list : PSet X (stM X.K E setL) := fun pins s σ H o i v ov iv u Q I ro ri rv ⟨s1, d, e, f, eH, r, rx, re, rf, ha⟩ => by
  subst eH
  refine set_list pins s σ _ o i v ov iv u Q I ro ri rv ?_
  unfold setL at ha
  split at ha
  · rename_i n k
    cases re
    obtain ⟨a, ea, rfl⟩ := rx
    split at ha
    · rename_i ys q
      split at ha
      · rename_i j hj
        obtain ⟨ws, h1, h2⟩ := r.ob n a _ ea q
        have x := put_ext (u := .lst (ws.set j v)) (o' := .lst (ys.set j f)) r ea q (by intro z; cases z)
        have r' := put_rel (u := .lst (ws.set j v)) (o' := .lst (ys.set j f)) r ea q (by intro z; cases z) ⟨_, upd_same, Reps.set (rf.ext x) j (h2.ext x)⟩
        exact ⟨a, ws, k, j, rfl, rfl, h1, by rw [h2.length]; exact hj, ha.now _ rfl x r'⟩
      · exact ha.elim
    · exact ha.elim
  · exact ha.elim
def mSplit : Dt → List Dt → Mm Dt := fun o ds h => match o, ds with
  | .str a, [.str b] => if (b.length == 0) = false ∧ a.length + 2 ≤ sizeLine then .ok (.lv ((Txt.split a b).map .str)) h else .no
  | _, _ => .no
theorem reps_strs : ∀ (l : List Str), Reps K s (l.map Dt.str) (l.map V.str)
  | [] => rfl
  | x :: l => ⟨.str x, _, rfl, rfl, reps_strs l⟩
theorem reps_ints : ∀ (l : List Int), Reps K s (l.map Dt.int) (l.map V.int)
  | [] => rfl
  | x :: l => ⟨.int x, _, rfl, rfl, reps_ints l⟩
theorem m_split : MtR X "str.split" (mM X.K E mSplit) := mtR_mono mt_split fun x vs H Q ⟨s, d, ds, eH, r, rx, rs, ha⟩ => by
  subst eH
  unfold mSplit at ha
  split at ha
  · rename_i a b
    obtain ⟨v, rfl, rv⟩ := rs.one
    cases rx; cases rv
    split at ha
    · rename_i hl
      exact ⟨a, b, rfl, rfl, hl.1, hl.2, newLv r (reps_strs _) ha⟩
    · exact ha.elim
  · exact ha.elim
def mJoin : Dt → List Dt → Mm Dt := fun o ds h => match o, ds with
  | .str a, [d] => match (seqR h d).bind strsD with
    | some ys => if (ys.map (·.length)).sum + ys.length * a.length ≤ 16777216 then .ok (.str (Txt.join a ys)) h else .no
    | none => .no
  | _, _ => .no
theorem m_join : MtR X "str.join" (mM X.K E mJoin) := mtR_mono mt_join fun x vs H Q ⟨s, d, ds, eH, r, rx, rs, ha⟩ => by
  subst eH
  unfold mJoin at ha
  split at ha
  · rename_i a d'
    obtain ⟨v, rfl, rv⟩ := rs.one
    cases rx
    split at ha
    · rename_i ys hy
      cases q : seqR s.h d' with
      | none => rw [q] at hy; cases hy
      | some zs =>
        rw [q] at hy
        obtain ⟨p, ws, rfl, sq, rs'⟩ := seqR_ok r rv q
        rw [strsD_ok rs' hy] at sq
        split at ha
        · rename_i hl
          exact ⟨a, p, ys, rfl, rfl, sq, hl, fin r ha rfl⟩
        · exact ha.elim
    · exact ha.elim
  · exact ha.elim
def mSIndex : Dt → List Dt → Mm Dt := fun o ds h => match o, ds with
  | .str a, [.str b] => match Builtin.Str.occurrences a b 0 a.length 1 with
    | i :: _ => .ok (.int (i : Nat)) h
    | [] => .no
  | _, _ => .no
theorem m_sindex : MtR X "str.index" (mM X.K E mSIndex) := mtR_mono mt_sindex fun x vs H Q ⟨s, d, ds, eH, r, rx, rs, ha⟩ => by
  subst eH
  unfold mSIndex at ha
  split at ha
  · rename_i a b
    obtain ⟨v, rfl, rv⟩ := rs.one
    cases rx; cases rv
    split at ha
    · rename_i i rest hi
      exact ⟨a, b, i, rest, rfl, rfl, hi, fin r ha rfl⟩
    · exact ha.elim
  · exact ha.elim
end
end Mo
set_option Elab.async false
set_option linter.all false
set_option maxRecDepth 100000
set_option maxHeartbeats 4000000
namespace Mo
open PySem L2 PySem.Spec PyProof.Rows
section
variable {X : Cx} {E : XK} {K : PySem.W.Frag} {s s0 : Sx} {d : Dt} {v : V} {xs ds : List Dt} {e a b c tg : Expr} {pos p : Pos} {es : List Expr}
variable {ma mb mc mo : En → Mm Dt} {mr : En → Mm (List Dt)}
theorem itRep_of {J : It} {n : Nat} {G : Hp → Prop} {Y : Nat → Hp → V → Hp → Prop} (w : L2.Walk J n G Y) (hn : ds.length = n)
    (h : ∀ s, Ext s0 s → HRel K s → G s.H ∧ ∀ (i : Nat) d x H', ds[i]? = some d → Y i s.H x H' → ∃ s', s'.H = H' ∧ s'.h = s.h ∧ Ext s s' ∧ HRel K s' ∧ Rep K s' d x) : ItRep K s0 J ds := by
  subst hn
  refine ⟨fun s x r i d e => ?_, fun s x r => w.stops _ (h s x r).1⟩
  have hi := (List.getElem?_eq_some_iff.mp e).1
  exact ⟨w.goes i _ hi (h s x r).1, fun y H' hy => (h s x r).2 i d y H' e (w.yields i _ y H' hi (h s x r).1 hy)⟩
theorem same_end {d : Dt} {x : V} {H' : Hp} (r : HRel K s) (e : H' = s.H) (rv : Rep K s d x) : ∃ s', s'.H = H' ∧ s'.h = s.h ∧ Ext s s' ∧ HRel K s' ∧ Rep K s' d x := ⟨s, e.symm, rfl, Ext.refl s, r, rv⟩
theorem itRep_list {a : Addr} {vs : List V} (hq : ∀ s, Ext s0 s → HRel K s → SqL K s.H a vs) (rs : Reps K s0 ds vs) : ItRep K s0 (Itl K a) ds :=
  itRep_of (walk_list (K := K) (a := a) (xs := vs)) rs.length.symm fun s x r => ⟨hq s x r, fun i d y H' e ⟨e1, e2⟩ => by
    obtain ⟨w, e3, rw'⟩ := (rs.ext x).get e
    rw [e3] at e2; cases e2
    exact same_end r e1 rw'⟩
/-- a list that stays (a tracked one is used up) -/
def itemsL : Dt → Mm (List Dt) := fun d h => match d with
  | .lv xs => .ok xs h
  | .wl xs => .ok xs h
  | .obj i => match h[i]? with
    | some (.lst xs) => .ok xs (h.set i .dead)
    | _ => .no
  | _ => .no
theorem itemsL_ok {k : List Dt → Sx → Prop} (r : HRel K s) (rv : Rep K s d v) (h : After K E s (itemsL d s.h) k) : ∃ a vs ds s', v = .ref a ∧ s'.H = s.H ∧ Ext s s' ∧ HRel K s' ∧ Reps K s' ds vs ∧ (∀ s2, Ext s' s2 → HRel K s2 → SqL K s2.H a vs) ∧ k ds s' := by
  unfold itemsL at h
  split at h
  · rename_i xs
    obtain ⟨a, vs, rfl, q, rs⟩ := rv
    exact ⟨a, vs, xs, s, rfl, rfl, Ext.refl s, r, rs, fun s2 x _ => .of (x.keep q rfl).1, h s rfl (Ext.refl s) r⟩
  · rename_i xs
    obtain ⟨a, vs, rfl, q, rs⟩ := rv
    refine ⟨a, vs, xs, s, rfl, rfl, Ext.refl s, r, rs, fun s2 x _ => ?_, h s rfl (Ext.refl s) r⟩
    rcases q with q | q
    · exact .inl (q.ext x).1
    · rcases q with (q | ⟨_, q⟩) | q
      · cases q
      · cases q
      · exact .inr q
  · rename_i i
    split at h
    · rename_i xs q
      obtain ⟨a, ea, rfl⟩ := rv
      obtain ⟨vs, h1, h2⟩ := r.ob i a _ ea q
      have x := die_ext r i
      have f := die_fx r ea h1
      exact ⟨a, vs, xs, s.die i, rfl, rfl, x, die_rel r i, h2.ext x, fun s2 y _ => .of (y.keep ⟨h1, f.2⟩ rfl).1, h.now (s.die i) rfl x (die_rel r i)⟩
    · exact h.elim
  · exact h.elim
def itL (ma : En → Mm Dt) : En → Mm (List Dt) := fun env => ma env >>= itemsL
theorem mi_list (h : PE X e (tE X.K E ma)) : PI X tg e (tI X.K E (itL ma)) := pi_mono (pi_list h) fun σ H R ⟨s, env, e, r, he, ha⟩ => by
  subst e
  refine tE_bind r he ha fun d s1 v x1 r1 e1 rv q => ?_
  obtain ⟨a, vs, ds, s2, rfl, eH, x2, r2, rs, hq, k⟩ := itemsL_ok r1 rv q
  refine ⟨a, rfl, ⟨vs, ?_⟩, ?_⟩
  · rw [← eH]; exact hq s2 (Ext.refl _) r2
  · rw [← eH]
    exact k _ (itRep_list hq rs)
def signs (z : Str) : List Dt := z.cps.toList.map fun c => .str ⟨#[c]⟩
def itemsS : Dt → Mm (List Dt) := fun d h => match d with
  | .str z => .ok (signs z) h
  | _ => .no
def itS (ma : En → Mm Dt) : En → Mm (List Dt) := fun env => ma env >>= itemsS
theorem itRep_str {z : Str} : ItRep K s0 (Its z) (signs z) := itRep_of (walk_str (z := z)) (by simp [signs]) fun s x r => ⟨trivial, fun i d y H' e ⟨e1, c, e2, e3⟩ => by
  have : d = .str ⟨#[c]⟩ := by
    unfold signs at e
    rw [List.getElem?_map] at e
    have e4 : z.cps.toList[i]? = some c := by rw [← e2]; simp
    rw [e4] at e
    cases e; rfl
  subst this e3
  exact same_end r e1 rfl⟩
theorem mi_str (h : PE X e (tE X.K E ma)) : PI X tg e (tI X.K E (itS ma)) := pi_mono (pi_str h) fun σ H R ⟨s, env, e, r, he, ha⟩ => by
  subst e
  refine tE_bind r he ha fun d s1 v x1 r1 e1 rv q => ?_
  unfold itemsS at q
  split at q
  · rename_i z
    cases rv
    exact ⟨z, rfl, q s1 rfl (Ext.refl _) r1 _ itRep_str⟩
  · exact q.elim
def rng (lo : Int) (n : Nat) (c : Int) : List Dt := (List.range n).map fun i : Nat => .int (lo + (i : Int) * c)
theorem rng_get {lo c : Int} {n i : Nat} {d : Dt} (h : (rng lo n c)[i]? = some d) : d = .int (lo + (i : Int) * c) := by
  unfold rng at h
  rw [List.getElem?_map] at h
  by_cases hi : i < n
  · rw [List.getElem?_range hi] at h
    cases h; rfl
  · rw [List.getElem?_eq_none (by simpa using hi)] at h
    cases h
theorem itRep_range {lo : Int} {n : Nat} : ItRep K s0 (Itr lo n) (rng lo n 1) := itRep_of (walk_range (lo := lo) (n := n)) (by simp [rng]) fun s x r => ⟨trivial, fun i d y H' e ⟨e1, e2⟩ => by
  have := rng_get e
  subst this e2
  exact same_end r e1 (by show V.int _ = V.int _; rw [Int.mul_one])⟩
def itR1 (mr : En → Mm (List Dt)) : En → Mm (List Dt) := fun env => mr env >>= fun ds => match ds with
  | [.int j] => if -(2 ^ 62) ≤ j ∧ j < 2 ^ 62 then Mm.pure (rng 0 j.toNat 1) else Mm.no
  | _ => Mm.no
theorem mi_range1 (hg : Gl X "range") (hm : X.mg "range" = none) (ha : PA X [a] (tA X.K E mr)) (hs : starEach [a] X.env = [(false, eval a X.env)] := by rfl) : PI X tg (.Call (.Name "range" p) [a] [] pos) (tI X.K E (itR1 mr)) := pi_mono (pi_range1 hg hm ha hs) fun σ H R ⟨s, env, e, r, he, ha⟩ => by
  subst e
  refine tA_bind r he ha fun ds s1 vs x1 r1 e1 rs q => ?_
  split at q
  · obtain ⟨v, rfl, rv⟩ := rs.one
    cases rv
    split at q
    · rename_i hj
      exact ⟨_, rfl, hj.1, hj.2, q.ret r1 _ itRep_range⟩
    · exact q.elim
  · exact q.elim
theorem pair_end {d1 d2 : Dt} {x y : V} {T : Addr} {H' : Hp} (r : HRel K s) (hT : s.H T = none) (e : H' = upd s.H T (.tup [x, y])) (r1 : Rep K s d1 x) (r2 : Rep K s d2 y) : ∃ s', s'.H = H' ∧ s'.h = s.h ∧ Ext s s' ∧ HRel K s' ∧ Rep K s' (.tup [d1, d2]) (.ref T) := by
  subst e
  exact ⟨s.new T (.tup [x, y]), rfl, rfl, new_ext r hT, new_rel r hT, T, [x, y], rfl, ⟨upd_same, (new_fx r hT).2⟩, Reps.cons (r1.ext (new_ext r hT)) (Reps.cons (r2.ext (new_ext r hT)) Reps.nil)⟩
def enumD : Nat → List Dt → List Dt
  | _, [] => []
  | i, d :: ds => .tup [.int (i : Nat), d] :: enumD (i + 1) ds
theorem enumD_length : ∀ (n : Nat) (ds : List Dt), (enumD n ds).length = ds.length
  | _, [] => rfl
  | n, d :: ds => by simp [enumD, enumD_length (n + 1) ds]
theorem enumD_get : ∀ {n : Nat} {ds : List Dt} {i : Nat} {d : Dt}, (enumD n ds)[i]? = some d → ∃ d', ds[i]? = some d' ∧ d = .tup [.int ((n + i : Nat) : Int), d']
  | n, [], i, d, h => by simp [enumD] at h
  | n, x :: ds, 0, d, h => by simp [enumD] at h; exact ⟨x, rfl, h.symm⟩
  | n, x :: ds, i + 1, d, h => by
    obtain ⟨d', e1, e2⟩ := enumD_get (n := n + 1) (i := i) (by simpa [enumD] using h)
    exact ⟨d', by simpa using e1, by rw [e2, show n + 1 + i = n + (i + 1) by omega]⟩
theorem itRep_enum {a : Addr} {vs : List V} (hq : ∀ s, Ext s0 s → HRel K s → SqL K s.H a vs) (rs : Reps K s0 ds vs) : ItRep K s0 (Ite K a) (enumD 0 ds) :=
  itRep_of (walk_enum (K := K) (a := a) (xs := vs)) (by rw [enumD_length, rs.length]) fun s x r => ⟨hq s x r, fun i d y H' e ⟨T, x1, y1, e1, e2, e3, e4, e5⟩ => by
    obtain ⟨d', h1, rfl⟩ := enumD_get e
    obtain ⟨w, h2, rw'⟩ := (rs.ext x).get h1
    have e5 : vs[i]? = some y1 := e5
    rw [h2] at e5; cases e5
    have e4 : some (V.int (i : Nat)) = some x1 := e4
    cases e4
    subst e1
    exact pair_end r e2 e3 (by rw [Nat.zero_add]; exact rfl) rw'⟩
def itEL (mr : En → Mm (List Dt)) : En → Mm (List Dt) := fun env => mr env >>= fun ds => match ds with
  | [d] => itemsL d >>= fun xs => Mm.pure (enumD 0 xs)
  | _ => Mm.no
theorem mi_enum {tpos : Pos} {elts : List Expr} {kk : Nat} (hg : Gl X "enumerate") (hm : X.mg "enumerate" = none) (ha : PA X [e] (tA X.K E mr)) (hs : starEach [e] X.env = (false, eval e X.env) :: starEach [] X.env := by rfl) :
    PI X (.Tuple elts kk tpos) (.Call (.Name "enumerate" p) [e] [] pos) (tI X.K E (itEL mr)) := pi_mono (pi_enum hg hm ha hs) fun σ H R ⟨s, env, e, r, he, ha⟩ => by
  subst e
  refine tA_bind r he ha fun ds s1 vs x1 r1 e1 rs q => ?_
  split at q
  · obtain ⟨v, rfl, rv⟩ := rs.one
    obtain ⟨a, vs, ds, s2, rfl, eH, x2, r2, rs', hq, k⟩ := itemsL_ok r1 rv q.bind
    refine ⟨a, vs, rfl, ?_, ?_⟩
    · rw [← eH]; exact hq s2 (Ext.refl _) r2
    · rw [← eH]
      exact k.ret r2 _ (itRep_enum hq rs')
  · exact q.elim
def zipD (xs ys : List Dt) : List Dt := List.zipWith (fun x y => .tup [x, y]) xs ys
end
end Mo
set_option Elab.async false
set_option linter.all false
set_option maxRecDepth 100000
set_option maxHeartbeats 4000000
namespace Mo
open PySem L2 PySem.Spec PyProof.Rows
def keyD : Dt → Option Key
  | .int i => some (.inl i)
  | .str x => some (.inr x)
  | _ => none
def keysD : List Dt → Option (List Key)
  | [] => some []
  | d :: ds => match keyD d, keysD ds with
    | some k, some ks => some (k :: ks)
    | _, _ => none
def keyT : Dt → Option (List Key)
  | .tup ds => keysD ds
  | _ => none
def valG {κ α : Type} [DecidableEq κ] (kvs : List (κ × α)) (k : κ) : Option α := (kvs.find? fun kv => decide (kv.1 = k)).map (·.2)
def putG {κ : Type} [DecidableEq κ] (ks : List κ) (vs : List Dt) (k : κ) (d : Dt) : List κ × List Dt :=
  if k ∈ ks then (ks, (ks.zip vs).map fun p => if p.1 = k then d else p.2) else (ks ++ [k], vs ++ [d])
section
variable {X : Cx} {E : XK} {K : PySem.W.Frag} {s s0 : Sx} {d : Dt} {v : V} {xs ds : List Dt} {e a b c f o i tg : Expr} {pos p : Pos} {es : List Expr}
variable {ma mb mc mo mk mx : En → Mm Dt} {mr : En → Mm (List Dt)}
theorem keyD_ok {k : Key} (rv : Rep K s d v) (e : keyD d = some k) : v = kV k := by
  cases d with
  | int i => cases rv; cases e; rfl
  | str i => cases rv; cases e; rfl
  | _ => cases e
theorem keysD_ok : ∀ {ds : List Dt} {vs : List V} {ks : List Key}, Reps K s ds vs → keysD ds = some ks → vs = ks.map kV
  | [], vs, ks, rs, e => by cases rs; cases e; rfl
  | d :: ds, vs, ks, rs, e => by
    obtain ⟨v, w, rfl, h1, h2⟩ := rs
    simp only [keysD] at e
    cases q : keyD d with
    | none => rw [q] at e; simp at e
    | some k =>
      cases q2 : keysD ds with
      | none => rw [q, q2] at e; simp at e
      | some ks' =>
        rw [q, q2] at e; cases e
        rw [keyD_ok h1 q, keysD_ok h2 q2]; rfl
def RepO (K : PySem.W.Frag) (s : Sx) : Option Dt → Option V → Prop
  | some d, some v => Rep K s d v
  | none, none => True
  | _, _ => False
theorem RepO.some {z : Dt} {ov : Option V} (h : RepO K s (some z) ov) : ∃ w, ov = some w ∧ Rep K s z w := by
  cases ov with
  | none => exact h.elim
  | some w => exact ⟨w, rfl, h⟩
theorem RepO.none {ov : Option V} (h : RepO K s none ov) : ov = none := by
  cases ov with
  | none => rfl
  | some w => exact h.elim
theorem val_ok {κ : Type} [DecidableEq κ] {k : κ} : ∀ {ks : List κ} {ds : List Dt} {vs : List V}, ks.length = vs.length → Reps K s ds vs → RepO K s (valG (ks.zip ds) k) (valV (ks.zip vs) k)
  | [], ds, vs, hl, rs => by
    simp only [List.zip_nil_left]
    exact trivial
  | k' :: ks, ds, vs, hl, rs => by
    cases ds with
    | nil => cases rs; simp at hl
    | cons d ds =>
      obtain ⟨v, w, rfl, h1, h2⟩ := rs
      by_cases hk : k' = k
      · subst hk
        have e1 : valG ((k' :: ks).zip (d :: ds)) k' = some d := by simp [valG]
        have e2 : valV ((k' :: ks).zip (v :: w)) k' = some v := by simp [valV]
        rw [e1, e2]
        exact h1
      · have e1 : valG ((k' :: ks).zip (d :: ds)) k = valG (ks.zip ds) k := by simp [valG, hk]
        have e2 : valV ((k' :: ks).zip (v :: w)) k = valV (ks.zip w) k := by simp [valV, hk]
        rw [e1, e2]
        exact val_ok (by simpa using hl) h2
theorem any_key {κ : Type} [DecidableEq κ] {k : κ} : ∀ {ks : List κ} {vs : List V}, ks.length = vs.length → ((ks.zip vs).any fun kv => decide (kv.1 = k)) = decide (k ∈ ks)
  | [], vs, hl => by simp
  | k' :: ks, [], hl => by simp at hl
  | k' :: ks, v :: vs, hl => by
    rw [List.zip_cons_cons, List.any_cons, any_key (by simpa using hl)]
    by_cases hk : k' = k
    · simp [hk]
    · have : ¬ k = k' := fun z => hk z.symm
      simp [hk, this]
theorem put_same {κ : Type} [DecidableEq κ] {k : κ} {d : Dt} {w : V} (rv : Rep K s d w) : ∀ {ks : List κ} {ds : List Dt} {vs : List V}, ks.length = vs.length → Reps K s ds vs →
    ∃ ws, (ks.zip vs).map (fun kv => if kv.1 = k then (kv.1, w) else kv) = ks.zip ws ∧ ks.length = ws.length ∧ Reps K s ((ks.zip ds).map fun p => if p.1 = k then d else p.2) ws
  | [], ds, vs, hl, rs => by
    have : vs = [] := List.length_eq_zero_iff.mp (by simpa using hl.symm)
    subst this
    exact ⟨[], by simp, rfl, by simp; exact rfl⟩
  | k' :: ks, ds, vs, hl, rs => by
    cases ds with
    | nil => cases rs; simp at hl
    | cons d' ds =>
      obtain ⟨v, vs', rfl, h1, h2⟩ := rs
      obtain ⟨ws, e1, e2, e3⟩ := put_same rv (ks := ks) (by simpa using hl) h2
      by_cases hk : k' = k
      · refine ⟨w :: ws, ?_, by simp [e2], ?_⟩
        · simp only [List.zip_cons_cons, List.map_cons, hk, if_true]
          rw [e1]
        · simp only [List.zip_cons_cons, List.map_cons, hk, if_true]
          exact Reps.cons rv e3
      · refine ⟨v :: ws, ?_, by simp [e2], ?_⟩
        · simp only [List.zip_cons_cons, List.map_cons, hk, if_false]
          rw [e1]
        · simp only [List.zip_cons_cons, List.map_cons, hk, if_false]
          exact Reps.cons h1 e3
theorem put_ok {κ : Type} [DecidableEq κ] {k : κ} {d : Dt} {w : V} {ks : List κ} {ds : List Dt} {vs : List V} (hl : ks.length = vs.length) (rs : Reps K s ds vs) (rv : Rep K s d w) :
    ∃ ws, putK (ks.zip vs) k w = (putG ks ds k d).1.zip ws ∧ (putG ks ds k d).1.length = ws.length ∧ Reps K s (putG ks ds k d).2 ws := by
  unfold putK putG
  rw [any_key hl]
  by_cases hk : k ∈ ks
  · rw [if_pos (decide_eq_true hk), if_pos hk]
    exact put_same rv hl rs
  · rw [if_neg (by simp [hk]), if_neg hk]
    refine ⟨vs ++ [w], ?_, by simp [hl], rs.append (Reps.cons rv Reps.nil)⟩
    rw [List.zip_append hl]
    rfl
def getR (h : Ah) (d k : Dt) : Option (Option Dt) := match dkR h d, keyD k with
  | some kv, some kk => some (valG (kv.1.zip kv.2) kk)
  | _, _ => match dtR h d, keyT k with
    | some kv, some kk => some (valG (kv.1.zip kv.2) kk)
    | _, _ => none
theorem getR_ok (r : HRel K s) {k : Dt} {y : V} {z : Option Dt} (rd : Rep K s d v) (rk : Rep K s k y) (h : getR s.h d k = some z) : ∃ a ov, v = .ref a ∧ IsD s.H a ∧ DGet s.H a y ov ∧ RepO K s z ov := by
  unfold getR at h
  split at h
  · rename_i kv kk e1 e2
    obtain ⟨ks, vs⟩ := kv
    obtain ⟨a, ws, rfl, h1, h2, h3⟩ := dkR_ok r rd e1
    have := val_ok (k := kk) h2 h3
    cases h
    refine ⟨a, valV (ks.zip ws) kk, rfl, .inl ⟨_, h1⟩, .inl ⟨_, kk, h1, keyD_ok rk e2, rfl⟩, ?_⟩
    exact this
  · split at h
    · rename_i kv kk e1 e2
      obtain ⟨ks, vs⟩ := kv
      obtain ⟨a, ws, rfl, h1, h2, h3⟩ := dtR_ok r rd e1
      have := val_ok (k := kk) h2 h3
      cases h
      cases k with
      | tup ds =>
        obtain ⟨b, us, rfl, kb, rs⟩ := rk
        refine ⟨a, valV (ks.zip ws) kk, rfl, .inr ⟨_, h1⟩, .inr ⟨_, kk, b, h1, rfl, ?_, rfl⟩, this⟩
        rw [← keysD_ok rs e2]
        exact kb.1
      | _ => cases e2
    · cases h
def ixD : Dt → Dt → Mm Dt := fun x y h => match getR h x y with
  | some (some z) => .ok z h
  | _ => .no
theorem me_dix (hu : X.A.units + 1 < cLine) (ho : PE X o (tE X.K E mo)) (hi : PE X i (tE X.K E mk)) (hs : NoSl i) : PE X (.Subscript o i pos) (tE X.K E (op2 ixD mo mk)) := pe_mono (pe_dget hu ho hi hs) fun σ H Q ⟨s, env, e, r, he, ha⟩ => by
  subst e
  refine tE_bind r he ha fun d s1 x x1 r1 e1 rx q1 => tE_bind r1 e1 q1 fun k s2 y x2 r2 e2 ry q2 => ?_
  unfold ixD at q2
  split at q2
  · rename_i z hz
    obtain ⟨a, ov, rfl, h1, h2, h3⟩ := getR_ok r2 (rx.ext x2) ry hz
    obtain ⟨w, rfl, rw'⟩ := h3.some
    exact ⟨a, w, rfl, h2, fin r2 q2 rw'⟩
  · exact q2.elim
def dnewV : En → Mm Dt := fun _ => Mm.pure (.dk [] [])
theorem me_dnewV : PE X (.Dict [] [] pos) (tE X.K E dnewV) := pe_mono pe_dnewK fun σ H Q ⟨s, env, e, r, he, ha⟩ => by
  subst e
  intro p hp
  exact ha.now (s.new p (.dK [])) rfl (new_ext r hp) (new_rel r hp) _ ⟨p, [], rfl, new_fx r hp, rfl, rfl⟩
theorem me_dnewT : PE X (.Dict [] [] pos) (tE X.K E (fun _ => mkO (.dt [] []))) := pe_mono pe_dnewT fun σ H Q ⟨s, env, e, r, he, ha⟩ => by
  subst e
  intro p hp
  obtain ⟨_, x, rp, kq⟩ := mkO_ok (u := .dT []) (o := .dt [] []) r hp ⟨[], upd_same, rfl, rfl⟩ ha
  exact kq _ rp
end
end Mo
set_option Elab.async false
set_option linter.all false
set_option maxRecDepth 100000
set_option maxHeartbeats 4000000
namespace Mo
open PySem L2 PySem.Spec PyProof.Rows
structure FnG (P : Program) (w : World) (K : PySem.W.Frag) (mg : Str → Option Value) (base : Heap) (k : Nat) (f : Addr) (fd : FuncData) (ps : List Str) (fm : List Dt → Mm Dt) : Prop where
  run : ∀ (A : Around) (outer : List Env) (s : Shared) (H : Hp) (args : Args) (us : List Value) (vs : List V) (Q : VK), A.guards = some [] → Room k A → Env0 P w K mg base A outer s H → BindsTo s fd args (ps.zip us) → Vals vs us → spM K ps.length fm vs H Q E0 →
    codeAny (model P w) A (.call (.ref f) args) (CR CX0 outer P w H s Q E0) s
theorem spM_len {K : PySem.W.Frag} {n : Nat} {fm : List Dt → Mm Dt} {vs : List V} {H : Hp} {Q : VK} {E : XK} (h : spM K n fm vs H Q E) : vs.length = n := by
  obtain ⟨s, ds, _, hl, _, rv, _⟩ := h
  rw [rv.length, hl]
theorem FnG.mono {P : Program} {w : World} {K : PySem.W.Frag} {mg : Str → Option Value} {base : Heap} {k j : Nat} {f : Addr} {fd : FuncData} {ps : List Str} {fm : List Dt → Mm Dt} (F : FnG P w K mg base k f fd ps fm) (h : k ≤ j) : FnG P w K mg base j f fd ps fm :=
  ⟨fun A outer s H args us vs Q hg hr => F.run A outer s H args us vs Q hg (hr.mono h)⟩
/-- a def by its body -/
def CdV (K : PySem.W.Frag) (f : Addr) (cdv : Value) (q : Str) : Prop := ∃ oc od fd osl, K.lookup f = some ⟨oc, od, .func fd, osl⟩ ∧ fd.code = cdv ∧ PySem.W.codeIn K cdv q = true
theorem fnGc {P : Program} {w : World} {K : PySem.W.Frag} {mg : Str → Option Value} {base : Heap} {x qual : Str} {params : Arguments} {body : List Stmt} {scope : Scope} {dvs : List V} {kws : List (Str × V)} {f : Addr} {fd : FuncData} {N ps : List Str} {k : Nat} {ms : En → Mm Fl}
    (F : FunD K x qual params body scope dvs kws f fd) (S : FnScope N ps scope)
    (hbody : ∀ (cdv : Value) (A : Around) (outer : List Env) (s : Shared) (H : Hp) (E : XK), CdV K f cdv qual → A.guards = some [] → Room k (A.deeper (envOfC qual scope s.heap.objs.size f cdv)) → PSs (cxOf CX0 P w K mg base N qual scope f cdv A outer s H E).nox body (tS K E0 ms)) :
    FnG P w K mg base (k + 1) f fd ps (fnM N.length ms) := by
  obtain ⟨oc, od, dV, kV, doc, pm, an, cdv, ct, osl, rfl, lk, hcd, _, _⟩ := F.ex
  refine ⟨fun A outer s H args us vs Q hgd hr e0 hb r hsp => ?_⟩
  have hl := spM_len hsp
  have KX : K.In s.heap := e0.mod.kin.keeps fun b o e => (e0.bs b o e).1
  have lim : s.heap.NoLimit := e0.mod.nolimit.keeps fun b o e => (e0.bs b o e).1
  refine codeAny_call_function hr.depth (KX _ _ lk) rfl S.co S.gen rfl (PySem.W.codeRec_of KX hcd) (hb _ _ _ _ ?_)
  refine wpAny_newFunctionEnv_cells S.kind (fun ⟨n, v⟩ hy => ?_) fun env he s1 x => ?_
  · rcases S.par n (List.of_mem_zip hy).1 with q | q
    · exact .inl q
    · exact .inr ⟨q, PySem.W.cellsFrom_some _ _ _ (.inl q)⟩
  subst he
  refine ⟨lim.keeps x.toInCall.keep, codeAny_func ?_⟩
  have ht := PSs.nox (hbody cdv A outer s H E0 ⟨_, _, _, _, lk, rfl, hcd⟩ hgd (hr.deeper _))
  have I : Inv (cxOf CX0 P w K mg base N qual scope f cdv A outer s H E0) [] (L2.start N vs) H s1 := inv_start S hr.hd e0 hl r x
  have hq : tS K E0 ms { nx := fun _ H' => Q .non H', rt := Q } (L2.start N vs) H := by
    obtain ⟨s2, ds, rfl, hl2, r2, rv, ha⟩ := hsp
    refine tS_bind r2 (envs_start rv) ha fun fl s3 x3 r3 q => ?_
    cases fl with
    | nx e => exact fun σ' he' => q.ret r3 _ rfl
    | rt d => exact fun v rv => q.ret r3 v rv
    | bk e => exact q.elim
    | ct e => exact q.elim
  refine wpAny_mono (ht.run [] s1 (L2.start N vs) H _ I hq) (fun fl s' hs => ?_) fun e s' hs => hs
  cases fl with
  | ret u =>
    obtain ⟨v, σ', H', J, rv, q⟩ := hs
    exact ⟨v, H', J.os, J.bare, J.base, J.hok, rv, q⟩
  | next =>
    obtain ⟨σ', H', J, q⟩ := hs
    exact ⟨V.non, H', J.os, J.bare, J.base, J.hok, rfl, q⟩
  | brk => obtain ⟨_, _, _, q⟩ := hs; exact q.elim
  | cont => obtain ⟨_, _, _, q⟩ := hs; exact q.elim
theorem fnG {P : Program} {w : World} {K : PySem.W.Frag} {mg : Str → Option Value} {base : Heap} {x qual : Str} {params : Arguments} {body : List Stmt} {scope : Scope} {dvs : List V} {kws : List (Str × V)} {f : Addr} {fd : FuncData} {N ps : List Str} {k : Nat} {ms : En → Mm Fl}
    (F : FunD K x qual params body scope dvs kws f fd) (S : FnScope N ps scope)
    (hbody : ∀ (cdv : Value) (A : Around) (outer : List Env) (s : Shared) (H : Hp) (E : XK), A.guards = some [] → Room k (A.deeper (envOfC qual scope s.heap.objs.size f cdv)) → PSs (cxOf CX0 P w K mg base N qual scope f cdv A outer s H E).nox body (tS K E0 ms)) :
    FnG P w K mg base (k + 1) f fd ps (fnM N.length ms) := fnGc F S fun cdv A outer s H E _ => hbody cdv A outer s H E
section
variable {X : Cx} {k : Nat} {f : Addr} {fd : FuncData} {ps ks : List Str} {fm : List Dt → Mm Dt} {x : Str} {p pos kpos : Pos} {e : Expr} {es : List Expr} {mr mk : En → Mm (List Dt)}
theorem run_G {pins : List (Addr × Obj)} {σ : L2.St} {H : Hp} {s : Shared} {Q : VK} {us : List Value} {kw : List (Str × Value)} {ws : List Value} {vs : List V} (F : FnG X.prog X.w X.K X.mg X.base k f fd ps fm) (hgd : X.A.guards = some []) (hr : Room k X.A)
    (hb : BindsTo s fd ⟨us, kw⟩ (ps.zip ws)) (I : Inv X pins σ H s) (r : Vals vs ws) (h : spM X.K ps.length fm vs H Q E0) : wpAny (model X.prog X.w) X.A (call (.ref f) us kw) (EP X pins σ Q) X.xe s := by
  refine wpAny_call (codeAny_mono (F.run X.A X.stack s H ⟨us, kw⟩ ws vs Q hgd hr I.env0 hb r h) fun r s' hq => ?_)
  cases r with
  | error e => exact False.elim hq
  | ok fl =>
    cases fl with
    | ret u => exact I.after hq
    | next => exact False.elim hq
    | brk => exact False.elim hq
    | cont => exact False.elim hq
/-- f(e, ..) -/
theorem me_callG (F : FnG X.prog X.w X.K X.mg X.base k f fd ps fm) (hgd : X.A.guards = some []) (hr : Room k X.A) (hg : Gl X x) (hm : X.mg x = some (.ref f)) (hk : PySem.W.keepIn X.K (.ref f) = true) (hb : Binds X.K fd ps [])
    (ha : PA X (e :: es) (tA X.K E0 mr)) (hdb : (x == ("__debug__" : Str)) = false := by decide) (he : starEach (e :: es) X.env = (false, eval e X.env) :: starEach es X.env := by rfl) (hpl : (backTo pos (starEach es X.env)).any (·.1) = false := by rfl) :
    PE X (.Call (.Name x p) (e :: es) [] pos) (tE X.K E0 (callM ps.length fm mr)) := by
  refine ⟨fun pins s σ H Q I h => ?_⟩
  refine wpAny_Call_Name_kw (ld_glob I hg hm ?_ hdb)
  have h2 : tA X.K E0 mr σ H fun vs H1 => spM X.K ps.length fm vs H1 Q E0 := by
    obtain ⟨s1, env, rfl, r, he, ha⟩ := h
    refine tA_bind r he ha fun ds s2 vs x2 r2 e2 rv q => ?_
    split at q
    · rename_i hl
      exact ⟨s2, ds, rfl, hl, r2, rv, q⟩
    · exact q.elim
  refine PySem.W.callWith_K (h₀ := X.base) I.ok.mod.kin hk (thn (ha.run pos pins s σ H _ I h2) fun us s1 ⟨vs, H1, I1, r, q⟩ => ⟨I1.kIn, ?_⟩) he hpl
  refine run_G F hgd hr ?_ I1 r q
  have := hb s1 us I1.kIn (by rw [List.append_nil, ← r.length]; exact spM_len q)
  rw [List.append_nil] at this
  exact this
theorem me_callG0 (F : FnG X.prog X.w X.K X.mg X.base k f fd [] fm) (hgd : X.A.guards = some []) (hr : Room k X.A) (hg : Gl X x) (hm : X.mg x = some (.ref f)) (hk : PySem.W.keepIn X.K (.ref f) = true) (hb : Binds X.K fd [] [])
    (hdb : (x == ("__debug__" : Str)) = false := by decide) : PE X (.Call (.Name x p) [] [] pos) (tE X.K E0 (fun _ => fm [])) := by
  refine ⟨fun pins s σ H Q I h => ?_⟩
  refine wpAny_Call_Name_kw (ld_glob I hg hm ?_ hdb)
  have h2 : spM X.K 0 fm [] H Q E0 := by
    obtain ⟨s1, env, rfl, r, he, ha⟩ := h
    exact ⟨s1, [], rfl, rfl, r, rfl, ha⟩
  exact PySem.W.callWith_K0 I.kIn hk (run_G (us := []) (ws := []) (ps := []) F hgd hr (hb s [] I.kIn rfl) I .nil h2)
def permL {α : Type} (pm : List Nat) (xs : List α) : List α := pm.filterMap fun i => xs[i]?
theorem perm_vals (pm : List Nat) {vs : List V} {us : List Value} (r : Vals vs us) : Vals (permL pm vs) (permL pm us) := by
  unfold permL
  induction pm with
  | nil => exact .nil
  | cons i pm ih =>
    simp only [List.filterMap_cons]
    cases q : vs[i]? with
    | none =>
      rw [r.none_of q]
      exact ih
    | some v =>
      obtain ⟨u, e, rv⟩ := r.get q
      rw [e]
      exact .cons rv ih
theorem perm_reps {K : PySem.W.Frag} {s : Sx} (pm : List Nat) {ds : List Dt} {vs : List V} (r : Reps K s ds vs) : Reps K s (permL pm ds) (permL pm vs) := by
  unfold permL
  induction pm with
  | nil => exact rfl
  | cons i pm ih =>
    simp only [List.filterMap_cons]
    cases q : ds[i]? with
    | none =>
      have : vs[i]? = none := List.getElem?_eq_none (by rw [r.length]; exact List.getElem?_eq_none_iff.mp q)
      rw [this]
      exact ih
    | some d =>
      obtain ⟨u, e, rv⟩ := r.get q
      rw [e]
      exact Reps.cons rv ih
end
def showOk (p : PyData) : Bool := p.showable && !p.hasDict && decide (p.depth ≤ 60) && decide (p.shown.length ≤ sizeLine)
/-- a lambda's maker: its code object, its table -/
abbrev lamC (K : PySem.W.Frag) (n : Str) : Addr := (He.cT K (n, none)).1
abbrev lamP (K : PySem.W.Frag) (n : Str) : Addr := (He.cT K (n, none)).2
structure LamAt (K : PySem.W.Frag) (h : Heap) : Prop where
  hd : ∀ n ∈ lamDefs, PySem.W.codeHdIn K (lamC K n) (lamP K n) = true
  out : ∀ n ∈ lamDefs, K.lookup (lamP K n) = none
  empty : ∀ n ∈ lamDefs, h.get? (lamP K n) = some { cls := .none, data := .fields #[] }
theorem law_G {P : Program} {w : World} {K : PySem.W.Frag} {mg mb : Str → Option Value} {k : Nat} {fa a : Addr} {fd : FuncData} {x : Str} {fm : List Dt → Mm Dt} {s₁ : Shared} {vs : List Value} {ns : List Int}
    (KX : K.In s₁.heap) (hns : s₁.heap.Ns mainGlobals mg) (hb : s₁.heap.Ns builtinsNs mb) (hbb : ∀ x : Str, x ≠ "__name__" → mb x = bootBuiltins x) (hlim : s₁.heap.NoLimit) (hg : s₁.gens = #[]) (L : LamAt K s₁.heap)
    (hbm : ∃ (bm : Addr) (ob : Obj), mg "__builtins__" = some (.ref bm) ∧ bm ≠ builtinsNs ∧ s₁.heap.get? bm = some ob ∧ ob.cls = .type "module" ∧ ob.dict = some builtinsNs ∧ ob.data = .plain)
    (ha : s₁.heap.get? a = some { cls := .type "list", data := .seq vs.toArray }) (hi : IntsAre vs ns) (hl : ns.length ≤ sizeLine) (hr : Room k callerA)
    (F : ∀ base : Heap, K.In base → base.Ns mainGlobals mg → (∀ n ∈ lamDefs, LamX.TabB base mg (lamC K n) (lamP K n)) → FnG P w K mg base k fa fd [x] fm) (hbind : ∀ (s : Shared) (u : Value), BindsTo s fd ⟨[u], []⟩ [(x, u)])
    (hfm : ∃ h', fm [.wl (ns.map Dt.int)] [] = .ok (.bl true) h') :
    codeAny (model P w) callerA (.call (.ref fa) ⟨[.ref a], []⟩) (fun r s' => r = .ok (.ret (.bool true)) ∧ OldK s₁.heap s'.heap ∧ s'.os = s₁.os ∧ AllBare s'.gens) s₁ := by
  have key : ∀ (base : Heap) (H : Hp), K.In base → base.Ns mainGlobals mg → (∀ n ∈ lamDefs, LamX.TabB base mg (lamC K n) (lamP K n)) → Env0 P w K mg base callerA [] s₁ H → (∀ n ∈ lamDefs, H (lamP K n) = some (.tbl #[])) → SqL K H a (ns.map V.int) →
      codeAny (model P w) callerA (.call (.ref fa) ⟨[.ref a], []⟩) (CR CX0 [] P w H s₁ (fun v _ => v = .bl true) E0) s₁ := by
    intro base H kb nb tb e0 hT hS
    refine (F base kb nb tb).run callerA [] s₁ H ⟨[.ref a], []⟩ [.ref a] [.ref a] _ rfl hr e0 (hbind s₁ (.ref a)) (.cons rfl .nil) ?_
    obtain ⟨h', hh⟩ := hfm
    have r0 : HRel K ⟨[], [], H⟩ := ⟨rfl, List.nodup_nil, fun i b o e => by simp at e, fun p hp => by
      obtain ⟨n, hn, rfl⟩ := List.mem_map.mp hp
      exact LamX.TabS.nil (hT n hn)⟩
    refine ⟨⟨[], [], H⟩, [.wl (ns.map Dt.int)], rfl, rfl, r0, Reps.cons ⟨a, ns.map V.int, rfl, ?_, reps_ints ns⟩ Reps.nil, ?_⟩
    · rcases hS with hS | hS
      · exact .inl ⟨hS, fun ⟨i, o, e, _⟩ => by simp at e⟩
      · exact .inr (.inr hS)
    · show After K E0 ⟨[], [], H⟩ (fm [.wl (ns.map Dt.int)] []) _
      rw [hh]
      intro s' e1 x1 r1 v rv
      exact rv
  have rv := vals_ints hi
  have lenV := hi.length
  have C : ∀ n ∈ lamDefs, PySem.W.CodeHd s₁.heap (lamC K n) (lamP K n) := fun n hn => PySem.W.codeHd_of_K KX (L.hd n hn)
  -- the heap without what is tracked is the base
  have core : ∀ H : Hp, (∀ n ∈ lamDefs, H (lamP K n) = some (.tbl #[])) → SqL K H a (ns.map V.int) → HOk P w H s₁.heap →
      (∀ b u, H b = some u → (b = a ∧ K.lookup a = none ∧ ∃ o xs, u = .frz o (.lst xs)) ∨ ∃ n ∈ lamDefs, b = lamP K n) →
      codeAny (model P w) callerA (.call (.ref fa) ⟨[.ref a], []⟩) (fun r s' => r = .ok (.ret (.bool true)) ∧ OldK s₁.heap s'.heap ∧ s'.os = s₁.os ∧ AllBare s'.gens) s₁ := by
    intro H hT hS hok hA
    have none_of : ∀ {b : Addr} {o : Obj}, s₁.heap.get? b = some o → (∀ vs n, o.data ≠ .seq vs n) → o.data ≠ .fields #[] → H b = none := fun {b o} e h1 h2 => by
      cases q : H b with
      | none => rfl
      | some u =>
        rcases hA b u q with ⟨z, _, _⟩ | ⟨n, hn, z⟩
        · rw [z, ha] at e; cases e
          exact (h1 _ _ rfl).elim
        · rw [z, L.empty n hn] at e; cases e
          exact (h2 rfl).elim
    have nsK : ∀ {b : Addr} {m : Str → Option Value}, s₁.heap.Ns b m → (hidT s₁.heap H).Ns b m := fun {b m} ⟨o, es, ep, e, d, r⟩ => ⟨o, es, ep, hidT_get e (none_of e (fun vs n z => by rw [d] at z; cases z) fun z => by rw [d] at z; cases z), d, r⟩
    have kb : K.In (hidT s₁.heap H) := fun b o e => hidT_get (KX b o e) (by
      cases q : H b with
      | none => rfl
      | some u =>
        rcases hA b u q with ⟨z, zk, _⟩ | ⟨n, hn, z⟩
        · rw [z, zk] at e; cases e
        · rw [z, L.out n hn] at e; cases e)
    have tb : ∀ n ∈ lamDefs, LamX.TabB (hidT s₁.heap H) mg (lamC K n) (lamP K n) := fun n hn => by
      refine ⟨PySem.W.codeHd_of_K kb (L.hd n hn), ?_, fun z => ?_⟩
      · obtain ⟨bm, ob, b1, b2, b3, b4, b5, b6⟩ := hbm
        refine ⟨bm, ob, b1, b2, fun q => ?_, fun q => ?_, hidT_get b3 (none_of b3 (fun vs n z => by rw [b6] at z; cases z) fun z => by rw [b6] at z; cases z), b4, b5, b6⟩
        · obtain ⟨o, es, ep, e, hd, _⟩ := hns
          rw [q, e] at b3; cases b3
          rw [hd] at b6; cases b6
        · rw [q, L.empty n hn] at b3; cases b3
          cases b6
      · obtain ⟨o, es, ep, e, hd, _⟩ := hns
        rw [z, L.empty n hn] at e; cases e
        cases hd
    have e0 : Env0 P w K mg (hidT s₁.heap H) callerA [] s₁ H := ⟨rfl, ⟨kb, nsK hns, ⟨mb, nsK hb, hbb⟩, let ⟨mc, h1, h2⟩ := hlim; ⟨mc, nsK h1, h2⟩⟩, fun b o e => of_hidT e, Nat.le_of_eq (hidT_size _ _), trivial,
      fun b hb => absurd (show b ∈ ([] : List Addr) from hb) (by simp), hok, .of_eq hg⟩
    refine codeAny_mono (key _ H kb (nsK hns) tb e0 hT hS) fun r s' h => ?_
    match r, h with
    | .error e, h => exact False.elim h
    | .ok .next, h => exact False.elim h
    | .ok .brk, h => exact False.elim h
    | .ok .cont, h => exact False.elim h
    | .ok (.ret u), ⟨v, H', os, bare, un, hok', r', q⟩ =>
      have q' : v = .bl true := q
      subst q'
      obtain rfl : u = Value.bool true := r'
      have keep : ∀ b o, (∀ n ∈ lamDefs, b ≠ lamP K n) → s₁.heap.get? b = some o → s'.heap.get? b = some o := fun b o nb e => by
        cases q : H b with
        | none => exact un.keep b o e q (by intro z; exact absurd (show b ∈ ([] : List Addr) from z) (by simp)) (by simp)
        | some u =>
          rcases hA b u q with ⟨_, _, ob, xs, rfl⟩ | ⟨n, hn, z⟩
          · obtain ⟨e1, _⟩ := hok b _ q
            obtain ⟨e2, _⟩ := hok' b _ (un.frzs b ob _ q)
            rw [e] at e1; cases e1
            exact e2
          · exact (nb n hn z).elim
      have grown : ∀ n ∈ lamDefs, ∃ more : Array Value, s'.heap.get? (lamP K n) = some { cls := .none, data := .fields more } := fun n hn => by
        obtain ⟨more, z⟩ := un.tbls _ #[] (hT n hn)
        exact ⟨_, hok' _ _ z⟩
      refine ⟨rfl, ⟨fun b o e => ?_, fun b o e => ?_⟩, os, bare⟩
      · by_cases hb : ∃ n ∈ lamDefs, b = lamP K n
        · obtain ⟨n, hn, rfl⟩ := hb
          obtain ⟨more, hm⟩ := grown n hn
          rw [L.empty n hn] at e
          cases e
          exact .inr (.inl ⟨((C n hn).tab (L.empty n hn)).isCodeTable, rfl, #[], more, rfl, by rw [Array.empty_append]; exact hm⟩)
        · exact .inl (keep b o (fun n hn z => hb ⟨n, hn, z⟩) e)
      · by_cases hb : ∃ n ∈ lamDefs, b = lamP K n
        · obtain ⟨n, hn, rfl⟩ := hb
          obtain ⟨more, hm⟩ := grown n hn
          exact ⟨_, hm⟩
        · exact ⟨o, keep b o (fun n hn z => hb ⟨n, hn, z⟩) e⟩
  have aT : ∀ n ∈ lamDefs, lamP K n ≠ a := fun n hn z => by
    have q := L.empty n hn
    rw [z, ha] at q
    cases q
  cases hk : K.lookup a with
  | some o =>
    have e := KX a o hk
    rw [ha] at e
    cases e
    refine core (fun b => if b ∈ lamDefs.map (lamP K) then some (.tbl #[]) else none) (fun n hn => if_pos (List.mem_map.mpr ⟨n, hn, rfl⟩)) (.inr ⟨_, vs.toArray, _, hk, rfl, rfl, rfl, by rw [List.size_toArray, lenV]; exact hl, by simpa using rv⟩) (fun b u z => ?_) (fun b u z => ?_)
    · try dsimp only at z
      split at z
      · rename_i hm
        obtain ⟨n, hn, rfl⟩ := List.mem_map.mp hm
        cases z
        exact L.empty n hn
      · cases z
    · try dsimp only at z
      split at z
      · rename_i hm
        obtain ⟨n, hn, rfl⟩ := List.mem_map.mp hm
        exact .inr ⟨n, hn, rfl⟩
      · cases z
  | none =>
    refine core (fun b => if b = a then some (.frz { cls := .type "list", data := .seq vs.toArray } (.lst (ns.map V.int))) else if b ∈ lamDefs.map (lamP K) then some (.tbl #[]) else none)
      (fun n hn => (if_neg (aT n hn)).trans (if_pos (List.mem_map.mpr ⟨n, hn, rfl⟩))) (.inl (.inr ⟨{ cls := .type "list", data := .seq vs.toArray }, if_pos rfl⟩)) (fun b u z => ?_) (fun b u z => ?_)
    · try dsimp only at z
      split at z
      · rename_i hb; subst hb
        cases z
        exact ⟨ha, by rw [List.length_map]; exact hl, vs, _, rv, ha⟩
      · split at z
        · rename_i hm
          obtain ⟨n, hn, rfl⟩ := List.mem_map.mp hm
          cases z
          exact L.empty n hn
        · cases z
    · try dsimp only at z
      split at z
      · rename_i hb
        cases z
        exact .inl ⟨hb, hk, _, _, rfl⟩
      · split at z
        · rename_i hm
          obtain ⟨n, hn, rfl⟩ := List.mem_map.mp hm
          exact .inr ⟨n, hn, rfl⟩
        · cases z
theorem walk_G {l : PySem.W.OpenLaw} {n k : Nat} {q : Program} {loose : List Str} {XP : (Str → Option Value) → Heap → Prop} {YP : World → Heap → Prop} {d : DefRec} {x : Str}
    (hn : l.most = some n) (hn2 : n ≤ sizeLine) (hdf : d.params.defaults = []) (hr : Room k callerA)
    (F : ∀ (w : World) (mg : Str → Option Value) (fa : Addr) (h : Heap), YP w h → h.Ns mainGlobals mg → mg d.name = some (.ref fa) →
      ∃ (K : PySem.W.Frag) (fd : FuncData) (fm : List Dt → Mm Dt), K.In h ∧ LamAt K h ∧ (∀ (s : Shared) (u : Value), BindsTo s fd ⟨[u], []⟩ [(x, u)]) ∧
        (∀ ns : List Int, ns.length ≤ n → ∃ h', fm [.wl (ns.map Dt.int)] [] = .ok (.bl true) h') ∧
        ∀ base : Heap, K.In base → base.Ns mainGlobals mg → (∀ n ∈ lamDefs, LamX.TabB base mg (lamC K n) (lamP K n)) → FnG l.prog w K mg base k fa fd [x] fm) :
    PySem.W.WalkO q loose XP YP l.row.toRowW d [] (fun f vs => PySem.call f vs) := by
  refine Att.attach_call hn hdf fun w s₀ s₁ mg mb fa o pm cd doc a vs ns G Y ho hd hcd hmg hobj hints hlen hg => ?_
  obtain ⟨K, fd, fm, KX, L, hb, hfm, hF⟩ := F w mg fa _ Y G.T.g hmg
  exact law_G KX G.T.g G.T.b G.T.builtins G.T.nolimit hg L G.T.bmain hobj hints (Nat.le_trans hlen hn2) hr hF hb (hfm ns hlen)
end Mo
set_option Elab.async false
set_option linter.all false
set_option maxRecDepth 100000
set_option maxHeartbeats 4000000
namespace Mo
open PySem L2 PySem.Spec PyProof.Rows
section
variable {X : Cx} {E : XK} {K : PySem.W.Frag} {s s0 : Sx} {d : Dt} {v : V} {xs ds : List Dt} {e a b c f o i tg : Expr} {pos p : Pos} {es : List Expr}
variable {ma mb mc mo mk mx : En → Mm Dt} {mr : En → Mm (List Dt)}
def pairsM : List ((En → Mm Dt) × (En → Mm Dt)) → En → Mm (List (Dt × Dt))
  | [], _ => Mm.pure []
  | p :: r, env => p.1 env >>= fun x => p.2 env >>= fun y => pairsM r env >>= fun ps => Mm.pure ((x, y) :: ps)
def tP2 (K : PySem.W.Frag) (E : XK) (p : (En → Mm Dt) × (En → Mm Dt)) : TE × TE := (tE K E p.1, tE K E p.2)
theorem mps_nil : PPs X pos [] [] (([] : List ((En → Mm Dt) × (En → Mm Dt))).map (tP2 X.K E)) := pps_nil
theorem mps_cons {k v : Expr} {ks : List (Option Expr)} {vs : List Expr} {l : List ((En → Mm Dt) × (En → Mm Dt))} (hk : PE X k (tE X.K E mk)) (hv : PE X v (tE X.K E mx)) (hr : PPs X pos ks vs (l.map (tP2 X.K E))) : PPs X pos (some k :: ks) (v :: vs) (((mk, mx) :: l).map (tP2 X.K E)) := pps_cons hk hv hr
theorem pairs_ok {env : En} {σ : L2.St} {β : Type} {k : β → Sx → Prop} : ∀ {l : List ((En → Mm Dt) × (En → Mm Dt))} {s : Sx} {fm : List (Dt × Dt) → Mm β} {Q : List (V × V) → Hp → Prop}, HRel K s → Envs K s env σ → After K E s ((pairsM l env >>= fm) s.h) k →
    (∀ ps vps s1, Ext s s1 → HRel K s1 → Reps K s1 (ps.map (·.1)) (vps.map (·.1)) → Reps K s1 (ps.map (·.2)) (vps.map (·.2)) → After K E s1 (fm ps s1.h) k → Q vps s1.H) → tPairs (l.map (tP2 K E)) σ s.H Q
  | [], s, fm, Q, r, he, ha, h => h [] [] s (Ext.refl s) r rfl rfl (ha.bind.ret r)
  | p :: l, s, fm, Q, r, he, ha, h => by
    have as : ∀ h, (pairsM (p :: l) env >>= fm) h = (p.1 env >>= fun x => p.2 env >>= fun y => pairsM l env >>= fun ps => fm ((x, y) :: ps)) h := by
      intro h
      show Mm.bind (Mm.bind (p.1 env) _) _ h = Mm.bind (p.1 env) _ h
      simp only [Mm.bind]
      cases p.1 env h with
      | ok x h1 =>
        show Mm.bind (Mm.bind (p.2 env) _) _ h1 = Mm.bind (p.2 env) _ h1
        simp only [Mm.bind]
        cases p.2 env h1 with
        | ok y h2 =>
          show Mm.bind (Mm.bind (pairsM l env) _) _ h2 = Mm.bind (pairsM l env) _ h2
          simp only [Mm.bind]
          cases pairsM l env h2 <;> rfl
        | exn _ _ => rfl
        | no => rfl
      | exn _ _ => rfl
      | no => rfl
    rw [as] at ha
    refine tE_bind r he ha fun dx s1 x x1 r1 e1 rx q1 => tE_bind r1 e1 q1 fun dy s2 y x2 r2 e2 ry q2 => ?_
    refine pairs_ok r2 e2 q2 fun ps vps s3 x3 r3 h1 h2 q3 => ?_
    exact h ((dx, dy) :: ps) ((x, y) :: vps) s3 ((x1.trans x2).trans x3) r3 (Reps.cons ((rx.ext x2).ext x3) h1) (Reps.cons (ry.ext x3) h2) q3
def finD (n : Nat) (ps : List (Dt × Dt)) : Mm Dt := fun h => match h[n]? with
  | some (.dk [] []) => match keysD (ps.map (·.1)) with
    | some ks => if ks.Nodup ∧ ps.length ≤ 15 then .ok (.dk ks (ps.map (·.2))) (h.set n .dead) else .no
    | none => .no
  | _ => .no
def dispM (l : List ((En → Mm Dt) × (En → Mm Dt))) : En → Mm Dt := fun env => newO (.dk [] []) >>= fun n => pairsM l env >>= fun ps => finD n ps
theorem merge_nd : ∀ (more acc : List (Key × V)), ((acc ++ more).map (·.1)).Nodup → mergeK acc more = acc ++ more
  | [], acc, _ => by simp [mergeK]
  | p :: r, acc, h => by
    have hv : valV acc p.1 = none := by
      unfold valV
      rw [Option.map_eq_none_iff, List.find?_eq_none]
      intro q hq
      have h2 : (acc.map (·.1) ++ (p :: r).map (·.1)).Nodup := by simpa using h
      have := (List.nodup_append.mp h2).2.2 q.1 (List.mem_map_of_mem hq) p.1 (by simp)
      simpa using this
    show mergeK (putK acc p.1 p.2) r = _
    rw [putK_new _ hv, merge_nd r (acc ++ [(p.1, p.2)]) (by simpa using h)]
    simp
theorem zip_back : ∀ {ks : List Key} {vps : List (V × V)}, vps.map (·.1) = ks.map kV → vps = (ks.zip (vps.map (·.2))).map (fun kv => (kV kv.1, kv.2))
  | [], vps, h => by
    have : vps = [] := by simpa using h
    subst this; rfl
  | k :: ks, [], h => by simp at h
  | k :: ks, (x, y) :: vps, h => by
    simp only [List.map_cons, List.cons.injEq] at h
    simp only [List.map_cons, List.zip_cons_cons, h.1]
    rw [← zip_back h.2]
theorem zip_fst {α β : Type} : ∀ {ks : List α} {vs : List β}, ks.length = vs.length → (ks.zip vs).map (·.1) = ks
  | [], _, _ => by simp
  | _ :: _, [], h => by simp at h
  | k :: ks, v :: vs, h => by simp [zip_fst (ks := ks) (vs := vs) (by simpa using h)]
theorem me_disp {keys : List (Option Expr)} {values : List Expr} {l : List ((En → Mm Dt) × (En → Mm Dt))} (h : PPs X pos keys values (l.map (tP2 X.K E))) (hall : keys.all (·.isSome) = true) (hl : keys.length = values.length) (h0 : keys ≠ [])
    (h15 : keys.length ≤ 15) : PE X (.Dict keys values pos) (tE X.K E (dispM l)) := pe_mono (pe_disp h hall hl h0 h15) fun σ H Q ⟨s, env, e, r, he, ha⟩ => by
  subst e
  intro p hp
  have x1 := add_ext (u := .dK []) (o := .dk [] []) r hp
  have r1 := add_rel (u := .dK []) (o := .dk [] []) r hp ⟨[], upd_same, rfl, rfl⟩
  have q1 := ha.bind.now (s.add p (.dK []) (.dk [] [])) rfl x1 r1
  have ep : (s.add p (.dK []) (.dk [] [])).ρ[s.h.length]? = some p := add_at r
  refine pairs_ok r1 (he.ext x1) q1 fun ps vps s2 x2 r2 rk rv q2 => ?_
  have ep2 := x2.pre _ _ ep
  unfold finD at q2
  split at q2
  · rename_i hn
    split at q2
    · rename_i ks hk
      split at q2
      · rename_i hc
        obtain ⟨ws, w1, w2, w3⟩ := r2.ob _ p _ ep2 hn
        have hks := keysD_ok rk hk
        have lk : ks.length = vps.length := by
          have := congrArg List.length hks
          simpa using this.symm
        have lp : vps.length = ps.length := by
          have := rk.length
          simpa using this
        refine ⟨by rw [w1, List.zip_nil_left], ks.zip (vps.map (·.2)), ?_, ?_, ?_⟩
        · exact zip_back hks
        · rw [List.length_zip, List.length_map, lk, Nat.min_self, lp]; exact hc.2
        · rw [merge_nd _ [] (by rw [List.nil_append, zip_fst (by simp [lk])]; exact hc.1), List.nil_append]
          have rv' : Reps X.K s2 (ps.map (·.2)) (vps.map (·.2)) := rv
          have xa := put_ext (u := .dK (ks.zip (vps.map (·.2)))) (o' := .dk ks (ps.map (·.2))) r2 ep2 hn (by intro z; cases z)
          have ra := put_rel (u := .dK (ks.zip (vps.map (·.2)))) (o' := .dk ks (ps.map (·.2))) r2 ep2 hn (by intro z; cases z) ⟨_, upd_same, by simp [lk], rv'.ext xa⟩
          have xb := die_ext ra s.h.length
          have rb := die_rel ra s.h.length
          have fx : Fx ((s2.put s.h.length p (.dK (ks.zip (vps.map (·.2)))) (.dk ks (ps.map (·.2)))).die s.h.length) p (.dK (ks.zip (vps.map (·.2)))) := die_fx ra ep2 upd_same
          refine q2.now ((s2.put s.h.length p (.dK (ks.zip (vps.map (·.2)))) (.dk ks (ps.map (·.2)))).die s.h.length) ?_ (xa.trans xb) rb _ ⟨p, _, rfl, fx, by simp [lk], (rv'.ext xa).ext xb⟩
          show (s2.h.set s.h.length _).set s.h.length .dead = s2.h.set s.h.length .dead
          rw [List.set_set]
      · exact q2.elim
    · exact q2.elim
  · exact q2.elim
/-- what is walked of a dict: k its keys and values -/
def dkF : Dt → Mm (List Key × List Dt) := fun d h => match d with
  | .dk ks vs => .ok (ks, vs) h
  | .obj i => match h[i]? with
    | some (.dk ks vs) => .ok (ks, vs) (h.set i .dead)
    | _ => .no
  | _ => .no
def itV (ma : En → Mm Dt) : En → Mm (List Dt) := fun env => ma env >>= fun d => dkF d >>= fun kv => Mm.pure kv.2
end
end Mo
set_option Elab.async false
set_option linter.all false
set_option maxRecDepth 100000
set_option maxHeartbeats 4000000
namespace Mo
open PySem L2 PySem.Spec PyProof.Rows
end Mo
set_option Elab.async false
set_option linter.all false
set_option maxRecDepth 100000
set_option maxHeartbeats 4000000
namespace Mo
open PySem L2 PySem.Spec PyProof.Rows
section
variable {X : Cx} {pins : List (Addr × Obj)} {σ : L2.St} {H : Hp} {s : Shared} {a b : Addr} {r : Value} {d : V} {k : List Key} {A : Around} {E : Value → Shared → Prop}
theorem setdT {kvs : List (List Key × V)} {Q : Value → Shared → Prop} (hu : A.units + 1 < cLine) (I : Inv X pins σ H s) (e : H a = some (.dT kvs)) (eb : H b = some (.tup (k.map kV))) (rd : RelV d r) (hl : kvs.length < sizeLine)
    (h1 : ∀ v, valV kvs k = some v → ∀ (w' : Value) (s' : Shared), Inv X pins σ H s' → RelV v w' → Q w' s') (h2 : valV kvs k = none → ∀ (w' : Value) (s' : Shared), Inv X pins σ (upd H a (.dT (putK kvs k d))) s' → RelV d w' → Q w' s') :
    wpAny (model X.prog X.w) A (call (.builtin "dict.setdefault") [.ref a, .ref b, r]) Q E s := by
  obtain ⟨z, hd, xs, rel, dd⟩ := dt_of I.hok e
  have hz : xs.length ≤ sizeLine := by rw [← Paired.length rel]; exact z
  have hl2 : (putK kvs k d).length ≤ sizeLine := by have := length_putK kvs k d; omega
  have q := rel.val k
  refine call_meetsIn PySem.F.slot_dict_setdefault dd.typeIs PySem.F.entry_dict_setdefault (PySem.F.args_dict_setdefault_3 _ _ _) (meetsH_dict_setdefault (tupleKind (mixKind X.prog X.w)) a b hd r) ⟨tupleKind_room_in1 hu, k, xs, key_of I.hok eb, dd, hz, fun p hp => ?_, fun hn h' dd' hs => ?_⟩
  · rw [hp] at q
    cases q0 : valV kvs k with
    | none => rw [q0] at q; exact (show False from q).elim
    | some v0 => rw [q0] at q; exact h1 v0 q0 _ _ (I.tok _) q
  · rw [hn] at q
    cases q0 : valV kvs k with
    | some v0 => rw [q0] at q; exact (show False from q).elim
    | none =>
      obtain ⟨o, es, ep, hq, y2, y3, y4, _, y5⟩ := dd'
      refine h2 q0 _ _ (d_write I (by rw [e]; exact True.intro) hs ⟨o, hq⟩ ⟨hl2, hd, _, (rel.put k eb rd).keeps fun c ys ec => ?_, o, es, ep, hq, y2, y3, y4, y5⟩) rd
      rw [upd_ne (ne_of ec e (fun z => nomatch z))]
      exact ec
end
def tSetdT (td ty tx : TE) : TE := fun σ H Q => td σ H fun x H1 => ∃ a, x = .ref a ∧ IsD H1 a ∧ ty σ H1 fun y H2 => tx σ H2 fun z H3 => ∃ (kvs : List (List Key × V)) (k : List Key) (b : Addr), H3 a = some (.dT kvs) ∧ y = .ref b ∧ H3 b = some (.tup (k.map kV)) ∧ kvs.length < sizeLine ∧
  (∀ v, valV kvs k = some v → Q v H3) ∧ (valV kvs k = none → Q z (upd H3 a (.dT (putK kvs k z))))
section
variable {X : Cx} {E : XK} {K : PySem.W.Frag} {s s0 : Sx} {d : Dt} {v : V} {xs ds : List Dt} {e a b c f o i tg : Expr} {pos p p1 apos cpos : Pos} {es : List Expr}
variable {ma mb mc mo mk mx : En → Mm Dt} {mr : En → Mm (List Dt)} {td ty tx : TE}
theorem pe_setdT (hu : X.A.units + 1 < cLine) (ho : PE X o td) (he : PE X e ty) (hf : PE X f tx) (m : M2 X o "setdefault" apos e f cpos) : PE X (.Call (.Attribute o "setdefault" apos) [e, f] [] cpos) (tSetdT td ty tx) := by
  refine ⟨fun pins s σ H Q I h => ?_⟩
  refine wpAny_Call_method m.base m.few m.line PySem.F.plainAttrs_dict PySem.F.slot_dict_setdefault PySem.F.type_dict_setdefault (thn (ho.run pins s σ H _ I h) fun u s1 ⟨x, H1, I1, rx, a, ex, d, q1⟩ => ?_)
  subst ex
  obtain rfl : u = Value.ref a := rx
  obtain ⟨t1, t2, _⟩ := isD_at I1 d
  refine ⟨t1, t2, ?_⟩
  rw [m.trees]
  refine Calls.callWith_builtin rfl (Calls.evalArgs_plain (Calls.spliced_cons (thn (he.run pins s1 σ H1 _ I1 q1) fun iv s2 ⟨y, H2, I2, ry, q2⟩ =>
    Calls.spliced_cons (thn (hf.run pins s2 σ H2 _ I2 q2) fun fv s3 ⟨z, H3, I3, rz, kvs, k, b, ea, ey, eb, hl, q3, q4⟩ => Calls.spliced_nil ?_))))
  subst ey
  cases (show iv = Value.ref b from ry)
  exact setdT hu I3 ea eb rz hl (fun v hv w' s4 I4 rw' => ⟨v, _, I4, rw', q3 v hv⟩) fun hn w' s4 I4 rw' => ⟨z, _, I4, rw', q4 hn⟩
def dtO : Dt → Mm Unit := fun o h => match o with
  | .obj n => match h[n]? with
    | some (.dt _ _) => .ok () h
    | _ => .no
  | _ => .no
def setdR : Dt → Dt → Dt → Mm Dt := fun o k y h => match o with
  | .obj n => match h[n]? with
    | some (.dt ks vs) => match keyT k with
      | some kk => if vs.length < sizeLine then (match valG (ks.zip vs) kk with
        | some z => .ok z h
        | none => .ok y (h.set n (.dt (putG ks vs kk y).1 (putG ks vs kk y).2))) else .no
      | none => .no
    | _ => .no
  | _ => .no
def setdM (mo mk mx : En → Mm Dt) : En → Mm Dt := fun env => mo env >>= fun o => dtO o >>= fun _ => mk env >>= fun k => mx env >>= fun x => setdR o k x
theorem me_setd (hu : X.A.units + 1 < cLine) (h : PE X (.Call (.Attribute o "setdefault" apos) [e, f] [] cpos) (tSetdT (tE X.K E mo) (tE X.K E mk) (tE X.K E mx))) : PE X (.Call (.Attribute o "setdefault" apos) [e, f] [] cpos) (tE X.K E (setdM mo mk mx)) := pe_mono h fun σ H Q ⟨s, env, e, r, he, ha⟩ => by
  subst e
  refine tE_bind r he ha fun d s1 x x1 r1 e1 rx q1 => ?_
  replace q1 := q1.bind
  unfold dtO at q1
  split at q1
  · rename_i n
    split at q1
    · rename_i ks vs hn
      obtain ⟨a, ea, rfl⟩ := rx
      obtain ⟨ws, h1, h2, h3⟩ := r1.ob n a _ ea hn
      refine ⟨a, rfl, .inr ⟨_, .inl h1⟩, tE_bind r1 e1 (q1.ret r1) fun k s2 y x2 r2 e2 ry q2 => tE_bind r2 e2 q2 fun z s3 w x3 r3 e3 rw' q3 => ?_⟩
      have ea3 := x3.pre _ _ (x2.pre _ _ ea)
      unfold setdR at q3
      simp only at q3
      split at q3
      · rename_i ks3 vs3 hn3
        split at q3
        · rename_i kk hk
          split at q3
          · rename_i hl
            obtain ⟨ws3, g1, g2, g3⟩ := r3.ob n a _ ea3 hn3
            have hv := val_ok (k := kk) g2 g3
            have rk := ry.ext x3
            cases k with
            | tup kds =>
              obtain ⟨bb, bs, rfl, kb, rs⟩ := rk
              refine ⟨_, kk, bb, g1, rfl, ?_, ?_, fun v hvv => ?_, fun hvn => ?_⟩
              · rw [← keysD_ok rs hk]; exact kb.1
              · rw [List.length_zip, g2, Nat.min_self, g3.length]; exact hl
              · rw [hvv] at hv
                cases qv : valG (ks3.zip vs3) kk with
                | none => rw [qv] at hv; exact hv.elim
                | some z0 =>
                  rw [qv] at hv q3
                  exact fin r3 q3 hv
              · rw [hvn] at hv
                cases qv : valG (ks3.zip vs3) kk with
                | some z0 => rw [qv] at hv; exact hv.elim
                | none =>
                  rw [qv] at q3
                  obtain ⟨us, p1, p2, p3⟩ := put_ok (k := kk) g2 g3 rw'
                  have x := put_ext (u := .dT ((putG ks3 vs3 kk z).1.zip us)) (o' := .dt (putG ks3 vs3 kk z).1 (putG ks3 vs3 kk z).2) r3 ea3 hn3 (by intro z; cases z)
                  have r' := put_rel (u := .dT ((putG ks3 vs3 kk z).1.zip us)) (o' := .dt (putG ks3 vs3 kk z).1 (putG ks3 vs3 kk z).2) r3 ea3 hn3 (by intro z; cases z) ⟨us, upd_same, p2, p3.ext x⟩
                  rw [show putK (ks3.zip ws3) kk w = _ from p1]
                  exact q3.now _ rfl x r' _ (rw'.ext x)
            | _ => cases hk
          · exact q3.elim
        · exact q3.elim
      · exact q3.elim
    · exact q1.elim
  · exact q1.elim
theorem me_gint {x : Str} {n : Int} (hg : Gl X x) (hm : ∃ t, X.mg x = some (.int n t)) (hd : (x == ("__debug__" : Str)) = false := by decide) : PE X (.Name x pos) (tE X.K E (con (.int n))) := by
  obtain ⟨t, hm⟩ := hm
  exact me_con (t := tC (.int n)) (pe_glob (v := .int n) hg hm ⟨t, rfl⟩ hd) fun _ => rfl
theorem me_gstr {x z : Str} (hg : Gl X x) (hm : ∃ t, X.mg x = some (.str z t)) (hd : (x == ("__debug__" : Str)) = false := by decide) : PE X (.Name x pos) (tE X.K E (con (.str z))) := by
  obtain ⟨t, hm⟩ := hm
  exact me_con (t := tC (.str z)) (pe_glob (v := .str z) hg hm ⟨t, rfl⟩ hd) fun _ => rfl
/-- a written value, by looking -/
def atomV : Dt → Option V
  | .non => some .non
  | .bl b => some (.bl b)
  | .int i => some (.int i)
  | .str x => some (.str x)
  | _ => none
def atomVs : List Dt → Option (List V)
  | [] => some []
  | d :: ds => match atomV d, atomVs ds with
    | some v, some vs => some (v :: vs)
    | _, _ => none
theorem atomV_ok (h : atomV d = some v) : Rep K s d v := by
  cases d with
  | non => cases h; rfl
  | bl => cases h; rfl
  | int => cases h; rfl
  | str => cases h; rfl
  | _ => cases h
theorem atomVs_ok : ∀ {ds : List Dt} {vs : List V}, atomVs ds = some vs → Reps K s ds vs
  | [], vs, h => by cases h; rfl
  | d :: ds, vs, h => by
    simp only [atomVs] at h
    cases q : atomV d with
    | none => rw [q] at h; simp at h
    | some v =>
      cases q2 : atomVs ds with
      | none => rw [q, q2] at h; simp at h
      | some ws =>
        rw [q, q2] at h; cases h
        exact Reps.cons (atomV_ok q) (atomVs_ok q2)
def seenB (K : PySem.W.Frag) (d : Dt) (u : Value) : Bool := match d with
  | .wt ds => match u, atomVs ds with
    | .ref a, some vs => (match K.lookup a with
      | some ⟨.type c, _, .seq its _, _⟩ => decide (c = "tuple") && (decide (its.size ≤ sizeLine) && He.relAll vs its.toList)
      | _ => false)
    | _, _ => false
  | d => match atomV d with
    | some v => He.relB v u
    | none => false
theorem seenB_ok {u : Value} (h : seenB K d u = true) : ∃ v, RelV v u ∧ ∀ s, Rep K s d v := by
  have flat : (match atomV d with | some v => He.relB v u | none => false) = true → ∃ v, RelV v u ∧ ∀ s, Rep K s d v := by
    intro h
    cases q : atomV d with
    | none => rw [q] at h; cases h
    | some v =>
      rw [q] at h
      exact ⟨v, He.relB_ok h, fun s => atomV_ok q⟩
  cases d with
  | wt ds =>
    cases u with
    | ref a =>
      simp only [seenB] at h
      cases q : atomVs ds with
      | none => rw [q] at h; cases h
      | some vs =>
        rw [q] at h
        simp only at h
        cases q2 : K.lookup a with
        | none => rw [q2] at h; cases h
        | some o =>
          obtain ⟨oc, od, dt, osl⟩ := o
          rw [q2] at h
          cases oc with
          | type c =>
            cases dt with
            | seq its n =>
              obtain ⟨h1, h2⟩ := He.ba h
              obtain ⟨h3, h4⟩ := He.ba h2
              refine ⟨.ref a, rfl, fun s => ⟨a, vs, rfl, ?_, atomVs_ok q⟩⟩
              exact .inr ⟨_, its, n, q2, congrArg Value.type (of_decide_eq_true h1), rfl, of_decide_eq_true h3, He.relAll_ok h4⟩
            | _ => cases h
          | _ => cases dt <;> cases h
    | _ => simp [seenB] at h
  | _ => exact flat h
/-- a written dict with text keys: what it holds at some texts, or that it holds nothing there -/
abbrev Tb : Type := List (Str × Option Dt)
def tabB (K : PySem.W.Frag) (a : Addr) (tb : Tb) : Bool := tb.all fun q => match q.2, PySem.W.nsIn K a q.1 with
  | some d, some (some u) => seenB K d u
  | none, some none => true
  | _, _ => false
structure KTab (K : PySem.W.Frag) (w : World) (a : Addr) (tb : Tb) : Prop where
  kd : ∃ es n, KDict K w a es n
  tb : tabB K a tb = true
theorem lookup_mem {α β : Type} [BEq α] [LawfulBEq α] {x : α} {y : β} : ∀ {l : List (α × β)}, l.lookup x = some y → (x, y) ∈ l
  | [], h => by cases h
  | (a, b) :: l, h => by
    rw [List.lookup_cons] at h
    cases q : x == a with
    | true =>
      rw [q] at h; cases h
      rw [eq_of_beq q]; exact List.mem_cons_self
    | false =>
      rw [q] at h
      exact List.mem_cons_of_mem _ (lookup_mem h)
theorem KTab.hit {w : World} {p : Addr} {tb : Tb} {z : Str} (k : KTab K w p tb) (h : tb.lookup z = some (some d)) : ∃ u v, PySem.W.nsIn K p z = some (some u) ∧ RelV v u ∧ ∀ s, Rep K s d v := by
  have h1 := List.all_eq_true.mp k.tb _ (lookup_mem h)
  simp only at h1
  cases q : PySem.W.nsIn K p z with
  | none => rw [q] at h1; cases h1
  | some r =>
    rw [q] at h1
    cases r with
    | none => cases h1
    | some u =>
      obtain ⟨v, r1, r2⟩ := seenB_ok h1
      exact ⟨u, v, rfl, r1, r2⟩
def kix (tb : Tb) (mb : En → Mm Dt) : En → Mm Dt := fun env => mb env >>= fun d => match d with
  | .str z => (match tb.lookup z with
    | some (some y) => Mm.pure y
    | _ => Mm.no)
  | _ => Mm.no
theorem me_kix {x : Str} {q : Addr} {tb : Tb} (kt : KTab X.K X.w q tb) (hg : Gl X x) (hm : X.mg x = some (.ref q)) (hb : PE X b (tE X.K E mb)) (hs : PlainIx b) (hd : (x == ("__debug__" : Str)) = false := by decide) :
    PE X (.Subscript (.Name x p1) b pos) (tE X.K E (kix tb mb)) := by
  obtain ⟨es, n, D⟩ := kt.kd
  refine pe_mono (pe_ix ix_kdict (pe_glob hg hm (v := .ref q) rfl hd) hb hs) fun σ H Q ⟨s, env, e, r, he, ha⟩ => ?_
  subst e
  unfold tOp tC
  refine tE_bind r he ha fun d s1 x x1 r1 e1 rx q1 => ?_
  cases d with
  | str z =>
    cases rx
    simp only at q1
    cases ql : tb.lookup z with
    | none => rw [ql] at q1; exact q1.elim
    | some o =>
      rw [ql] at q1
      cases o with
      | none => exact q1.elim
      | some y =>
        obtain ⟨u, v, h1, h2, h3⟩ := kt.hit ql
        exact ⟨_, z, v, rfl, rfl, ⟨es, n, u, D.at_, D.lit, h1, h2⟩, q1.ret r1 v (h3 s1)⟩
  | _ => exact q1.elim
end
section
open He
abbrev AlM : Type := AlT × Bool
def obsM (fa : List Fa) (fn : List DefD) (ts : List Tab) (b : PySem.W.Frag → Bool) (K : PySem.W.Frag) : AlM := (obsT fa fn ts K, b K)
def valM (fn : List DefD) (ts : List Tab) (w : World) : AlM := (valT fn ts w, true)
def SaysM (fa : List Fa) (fn : List DefD) (ts : List Tab) (b : PySem.W.Frag → Bool) (w : World) (K : PySem.W.Frag) : Prop := obsM fa fn ts b K = valM fn ts w
theorem SaysM.t {fa : List Fa} {fn : List DefD} {ts : List Tab} {b : PySem.W.Frag → Bool} {w : World} {K : PySem.W.Frag} (c : SaysM fa fn ts b w K) : SaysT fa fn ts w K := congrArg (fun z : AlM => z.1) c
theorem SaysM.b {fa : List Fa} {fn : List DefD} {ts : List Tab} {b : PySem.W.Frag → Bool} {w : World} {K : PySem.W.Frag} (c : SaysM fa fn ts b w K) : b K = true := congrArg (fun z : AlM => z.2) c
end
end Mo
set_option Elab.async false
set_option linter.all false
set_option maxRecDepth 100000
set_option maxHeartbeats 4000000
namespace Mo
open PySem L2 PySem.Spec PyProof.Rows
abbrev SI (it : Addr) (x : Str) (t : Tok) (i : Nat) (h : Heap) : Prop := h.IsStrIter it (strIterType x) x t i
theorem drawS {prog : Program} {w : World} {A : Around} (hh : A.handled = none) (it : Addr) (x : Str) (t : Tok) :
    Draws prog w A it [it] x.cps.size (fun i v => ∃ c u, x.cps[i]? = some c ∧ v = .str ⟨#[c]⟩ u) (fun i h => SI it x t i h) := by
  cases ha : x.cps.all (· < 128) with
  | true =>
    have e : strIterType x = "str_ascii_iterator" := by simp only [strIterType, ha, if_true]
    rw [show (fun i h => SI it x t i h) = fun i h => h.IsStrIter it "str_ascii_iterator" x t i by funext i h; rw [← e]]
    exact Draws.strAscii hh it x t
  | false =>
    have e : strIterType x = "str_iterator" := by simp [strIterType, ha]
    rw [show (fun i h => SI it x t i h) = fun i h => h.IsStrIter it "str_iterator" x t i by funext i h; rw [← e]]
    exact Draws.strWide hh it x t
theorem SI.at {it : Addr} {x : Str} {t : Tok} {i : Nat} {h h' : Heap} (st : SI it x t i h) (k : ∀ o, h.get? it = some o → h'.get? it = some o) : SI it x t i h' := let ⟨o, ho, r⟩ := st; ⟨o, k o ho, r⟩
theorem SI.lt {it : Addr} {x : Str} {t : Tok} {i : Nat} {h : Heap} (st : SI it x t i h) : it < h.objs.size := let ⟨_, ho, _⟩ := st; Heap.lt_size ho
/-- pairs of what f, g tell, n of them -/
def Itp (n : Nat) (f g : Nat → Option V) : It := ⟨fun i _ => i < n, fun i H v H' => YPair f g i H v H', fun i _ => n ≤ i⟩
theorem walk_p {n : Nat} {f g : Nat → Option V} : Walk (Itp n f g) n (fun _ => True) (YPair f g) := ⟨fun _ _ hi _ => hi, fun _ _ => Nat.le_refl _, fun _ _ _ _ _ _ y => y⟩
def sgV (x : Str) (i : Nat) : Option V := x.cps[i]?.map fun c => .str ⟨#[c]⟩
theorem turn_enumS {P : Program} {w : World} {K : PySem.W.Frag} {elts : List Expr} {kk : Nat} {tpos : Pos} (x : Str) (t : Tok) (e it : Addr) (hne : e ≠ it) :
    Turn P w K (.Tuple elts kk tpos) (Itp x.cps.size (fun i => some (.int (i : Nat))) (sgV x)) [e, it] e (fun i h => (∃ old, IsEnum h e it ((i : Nat) : Int) old) ∧ SI it x t i h ∧ i ≤ x.cps.size) where
  mem := by simp
  obj := fun i h st b hb => by
    obtain ⟨⟨old, he⟩, ⟨o, ho, hc, hd⟩, _⟩ := st
    rcases List.mem_cons.mp hb with z | z
    · rw [z]; exact ⟨_, he, fun v q => nomatch q⟩
    · rw [List.mem_singleton.mp z]; exact ⟨o, ho, fun v q => by rw [hd] at q; cases q⟩
  keep := fun i h h' st k => let ⟨⟨old, he⟩, hi, hl⟩ := st; ⟨⟨old, k e (by simp) _ he⟩, hi.at fun o q => k it (by simp) o q, hl⟩
  item := fun X hP hw hK hc i pins s σ H E I hf st hg => by
    subst hP hw hK
    obtain ⟨⟨old, he⟩, hit, _⟩ := st
    have hg : i < x.cps.size := hg
    have hel : e < s.heap.objs.size := Heap.lt_size he
    refine wpAny_pyNext_enum_itemD (drawS (show X.A.in1.handled = none from I.ok.hd hc) it x t) he hit hg hne (by simp [hne]) fun y h' tk hP ho hit' hT hsz hk => ?_
    obtain ⟨c, u, hx, rfl⟩ := hP
    refine ⟨_, rfl, wpAny_letOwnedTupleGo_enum (s := { s with heap := h', toks := tk + 1 }) ho fun h'' he' sb => ?_⟩
    have hT2 : h''.get? s.heap.objs.size = some { cls := .type "tuple", data := .seq #[.int i tk, .str ⟨#[c]⟩ u] } := (sb.2 _ (Nat.ne_of_gt hel)).trans hT
    have new : ObjOk X.prog X.w (upd H s.heap.objs.size (.tup [.int (i : Nat), .str ⟨#[c]⟩])) h'' s.heap.objs.size (.tup [.int (i : Nat), .str ⟨#[c]⟩]) :=
      ⟨by show 2 ≤ sizeLine; decide, [.int i tk, .str ⟨#[c]⟩ u], .cons ⟨_, rfl⟩ (.cons ⟨_, rfl⟩ .nil), ⟨_, hT2, rfl, _, rfl⟩⟩
    have I1 : Inv X pins σ (upd H s.heap.objs.size (.tup [.int (i : Nat), .str ⟨#[c]⟩])) { s with heap := h'', toks := tk + 1 } :=
      I.turnedNew (ch := [e, it]) (fun b ob hb q => (sb.2 b (fun z => hb (by simp [z]))).trans (hk b ob (fun z => hb (by simp [z])) (fun z => hb (by simp [z])) q)) hf (Nat.le_refl _) new
    refine ⟨.ref s.heap.objs.size, _, I1, rfl, ⟨s.heap.objs.size, .int (i : Nat), .str ⟨#[c]⟩, rfl, I.hok.fresh (Nat.le_refl _), rfl, rfl, by simp [sgV, hx]⟩, ⟨⟨.str ⟨#[c]⟩ u, ?_⟩, SI.at hit' fun o q => (sb.2 it (Ne.symm hne)).trans q, hg⟩, fun b hb => ?_⟩
    · have e1 : ((i + 1 : Nat) : Int) = (i : Int) + 1 := by omega
      rw [e1]; exact he'
    · have hb' : b < s.heap.objs.size := by
        rcases List.mem_cons.mp hb with z | z
        · rw [z]; exact hel
        · rw [List.mem_singleton.mp z]; exact hit.lt
      rw [upd_ne (Nat.ne_of_lt hb')]
      exact (hf b hb).1
  done := fun X hP hw hK hc i pins s σ H E I hf st hg => by
    subst hP hw hK
    obtain ⟨⟨old, he⟩, hit, hl⟩ := st
    obtain rfl : i = x.cps.size := Nat.le_antisymm hl hg
    obtain ⟨f0, f1, f2, f3, f4, f5⟩ := hf it (by simp)
    exact wpAny_pyNext_enum_endD (drawS (show X.A.in1.handled = none from I.ok.hd hc) it x t) he hit fun h' eb => ⟨rfl, I.turned (t' := s.toks) (fun b o hb q => eb b o hb q) f0 f1 f3 f4 f5⟩
  self := fun A i s Q E st h => let ⟨⟨_, he⟩, _⟩ := st; wpAny_pyIter_enum he h
def iEnumS (ta : TA) : TI := fun σ H R => ta σ H fun vs H1 => ∃ x, vs = [.str x] ∧ R (Itp x.cps.size (fun i => some (.int (i : Nat))) (sgV x)) H1
theorem pi_enumS {X : Cx} {e : Expr} {ta : TA} {p pos tpos : Pos} {elts : List Expr} {kk : Nat} (hg : Gl X "enumerate") (hm : X.mg "enumerate" = none) (ha : PA X [e] ta) (hs : starEach [e] X.env = [(false, eval e X.env)] := by rfl) :
    PI X (.Tuple elts kk tpos) (.Call (.Name "enumerate" p) [e] [] pos) (iEnumS ta) := by
  refine ⟨fun pins s σ H R I h => ?_⟩
  refine Call_ (ld_blt I hg hm boot_enumerate (PyProof.Rows.callWith_type1 (thn (ha.run pos pins s σ H _ I h) fun us s1 ⟨vs, H1, I1, r1, q1⟩ => ?_) hs rfl))
  obtain ⟨x, ex, q⟩ := q1
  subst ex
  obtain ⟨u, rfl, t, rfl⟩ := vals1 r1
  refine call_enumerate_str fun h' he hit hsz hk => wpAny_pyIter_enum he ?_
  refine ⟨s1.heap.objs.size + 1, [s1.heap.objs.size + 1, s1.heap.objs.size], _, _, H1, rfl, I1.kept (t' := s1.toks) hk, turn_enumS x t (s1.heap.objs.size + 1) s1.heap.objs.size (Nat.succ_ne_self _), ⟨⟨.none, he⟩, hit, Nat.zero_le _⟩, fun b hb => ?_, q⟩
  have hle : s1.heap.objs.size ≤ b := by
    rcases List.mem_cons.mp hb with z | z
    · rw [z]; exact Nat.le_add_right _ _
    · rw [List.mem_singleton.mp z]; exact Nat.le_refl _
  exact I1.fpOk hle (I1.hok.fresh hle)
end Mo
set_option Elab.async false
set_option linter.all false
set_option maxRecDepth 100000
set_option maxHeartbeats 4000000
namespace Mo
open PySem L2 PySem.Spec PyProof.Rows
section
variable {X : Cx} {E : XK} {K : PySem.W.Frag} {s s0 : Sx} {d : Dt} {v : V} {xs ds : List Dt} {e a b c f o i tg : Expr} {pos p p1 apos cpos : Pos} {es : List Expr}
variable {ma mb mc mo mk mx : En → Mm Dt} {mr : En → Mm (List Dt)} {td ty tx : TE}
theorem signs_get {x : Str} {i : Nat} {d : Dt} (h : (signs x)[i]? = some d) : ∃ w, sgV x i = some w ∧ Rep K s d w := by
  unfold signs at h
  rw [List.getElem?_map] at h
  unfold sgV
  rw [Array.getElem?_toList] at h
  cases q : x.cps[i]? with
  | none => rw [q] at h; cases h
  | some c =>
    rw [q] at h
    cases h
    exact ⟨_, rfl, rfl⟩
def itES (mr : En → Mm (List Dt)) : En → Mm (List Dt) := fun env => mr env >>= fun ds => match ds with
  | [.str x] => Mm.pure (enumD 0 (signs x))
  | _ => Mm.no
theorem mi_enumS {tpos : Pos} {elts : List Expr} {kk : Nat} (hg : Gl X "enumerate") (hm : X.mg "enumerate" = none) (ha : PA X [e] (tA X.K E mr)) (hs : starEach [e] X.env = (false, eval e X.env) :: starEach [] X.env := by rfl) :
    PI X (.Tuple elts kk tpos) (.Call (.Name "enumerate" p) [e] [] pos) (tI X.K E (itES mr)) := pi_mono (pi_enumS hg hm ha hs) fun σ H R ⟨s, env, e, r, he, ha⟩ => by
  subst e
  refine tA_bind r he ha fun ds s1 vs x1 r1 e1 rs q => ?_
  split at q
  · rename_i x
    obtain ⟨v, rfl, rv⟩ := rs.one
    cases rv
    refine ⟨x, rfl, q.ret r1 _ (itRep_of walk_p (by rw [enumD_length]; simp [signs]) fun s2 x2 r2 => ⟨trivial, fun i d y H' e ⟨T, x1, y1, e1, e2, e3, e4, e5⟩ => ?_⟩)⟩
    obtain ⟨d', h1, rfl⟩ := enumD_get e
    obtain ⟨w, h2, h3⟩ := signs_get (K := X.K) (s := s2) h1
    have e5 : sgV x i = some y1 := e5
    rw [h2] at e5; cases e5
    have e4 : some (V.int (i : Nat)) = some x1 := e4
    cases e4
    subst e1
    exact pair_end r2 e2 e3 (by rw [Nat.zero_add]; exact rfl) h3
  · exact q.elim
def itZS (mr : En → Mm (List Dt)) : En → Mm (List Dt) := fun env => mr env >>= fun ds => match ds with
  | [.str x, .str y] => Mm.pure (zipD (signs x) (signs y))
  | _ => Mm.no
def revS : Dt → Mm Dt := fun d => match d with
  | .str z => if z.cps.size ≤ sizeLine then Mm.pure (.str ⟨z.cps.toList.reverse.toArray⟩) else Mm.no
  | _ => Mm.no
def op1' (g : Dt → Mm Dt) (m : En → Mm Dt) : En → Mm Dt := fun env => m env >>= g
def par3 (i j l : Nat) (m : En → Mm (List Dt)) : En → Mm Fl := fun env => m env >>= fun ds => match ds with
  | [x, y, z] => Mm.pure (.nx (((env.set i (some x)).set j (some y)).set l (some z)))
  | _ => Mm.no
theorem ms_par3 {i j l : Nat} {x y z : Str} {px py pz pt : Pos} {kt k2 pt2} (hc : X.calm = true) (hN : X.N.Nodup) (hi : X.N[i]? = some x) (hj : X.N[j]? = some y) (hl : X.N[l]? = some z) (hij : i ≠ j) (hil : i ≠ l) (hjl : j ≠ l)
    (hx : X.env.scope.names.lookup x = some .local) (hy : X.env.scope.names.lookup y = some .local) (hz : X.env.scope.names.lookup z = some .local) (ha : PA X [a, b, c] (tA X.K E mr))
    (hw : swappedStores [.Tuple [.Name x px, .Name y py, .Name z pz] kt pt] (.Tuple [a, b, c] k2 pt2) X.env = pure (some [x, y, z]))
    (hs : swapsWithSole [.Tuple [.Name x px, .Name y py, .Name z pz] kt pt] (.Tuple [a, b, c] k2 pt2) pos.line X.env = pure false := by rfl) :
    PS X (.Assign [.Tuple [.Name x px, .Name y py, .Name z pz] kt pt] (.Tuple [a, b, c] k2 pt2) pos) (tS X.K E (par3 i j l mr)) := ps_mono (ps_par3 hc hN hi hj hl hij hil hjl hx hy hz ha hw hs) fun D σ H ⟨s, env, e, r, he, ha⟩ => by
  subst e
  refine tA_bind r he ha fun ds s1 vs x1 r1 e1 rv q => ?_
  match ds, rv, q with
  | [d1, d2, d3], ⟨v, _, e2, rv1, w, _, e3, rv2, w3, _, e5, rv3, e6⟩, q =>
    subst e2 e3 e5 e6
    exact ⟨v, w, w3, rfl, q.ret r1 _ (((e1.set rv1 i).set rv2 j).set rv3 l)⟩
  | [], _, q => exact q.elim
  | [_], _, q => exact q.elim
  | [_, _], _, q => exact q.elim
  | _ :: _ :: _ :: _ :: _, _, q => exact q.elim
end
end Mo
set_option Elab.async false
set_option linter.all false
set_option maxRecDepth 100000
set_option maxHeartbeats 4000000
namespace Mo
open PySem L2 PySem.Spec PyProof.Rows
structure FnH (P : Program) (w : World) (K : PySem.W.Frag) (mg : Str → Option Value) (base : Heap) (k : Nat) (x : Str) (ps : List Str) (fm : List Dt → Mm Dt) : Prop where
  ex : ∃ fd, FnG P w K mg base k (He.ga K x) fd ps fm ∧ Binds K fd ps []
  kp : PySem.W.keepIn K (.ref (He.ga K x)) = true
  gl : mg x = some (.ref (He.ga K x))
section
variable {X : Cx} {k j : Nat} {ps ks : List Str} {pm : List Nat} {fm : List Dt → Mm Dt} {x : Str} {p pos kpos : Pos} {e : Expr} {es : List Expr} {kws : List Keyword} {mr mk : En → Mm (List Dt)}
theorem me_callH {n : Nat} (F : FnH X.prog X.w X.K X.mg X.base k x ps fm) (hgd : X.A.guards = some []) (hr : Room j X.A) (ha : PA X (e :: es) (tA X.K E0 mr)) (hn : ps.length = n := by rfl) (hg : Gl X x := by rfl) (hkj : k ≤ j := by decide) (hdb : (x == ("__debug__" : Str)) = false := by decide) (he : starEach (e :: es) X.env = (false, eval e X.env) :: starEach es X.env := by rfl) (hpl : (backTo pos (starEach es X.env)).any (·.1) = false := by rfl) :
    PE X (.Call (.Name x p) (e :: es) [] pos) (tE X.K E0 (callM n fm mr)) := by
  subst hn
  obtain ⟨fd, G, B⟩ := F.ex
  exact me_callG G hgd (hr.mono hkj) hg F.gl F.kp B ha hdb he hpl
theorem me_callH0 (F : FnH X.prog X.w X.K X.mg X.base k x [] fm) (hgd : X.A.guards = some []) (hr : Room j X.A) (hg : Gl X x := by rfl) (hkj : k ≤ j := by decide) (hdb : (x == ("__debug__" : Str)) = false := by decide) : PE X (.Call (.Name x p) [] [] pos) (tE X.K E0 (fun _ => fm [])) := by
  obtain ⟨fd, G, B⟩ := F.ex
  exact me_callG0 G hgd (hr.mono hkj) hg F.gl F.kp B hdb
theorem un65 {k : Nat} {A : Around} (r : Room k A) : A.units + 65 < cLine := by have := r.un; omega
theorem un64 {k : Nat} {A : Around} (r : Room k A) : A.units + 64 < cLine := by have := r.un; omega
theorem un1 {k : Nat} {A : Around} (r : Room k A) : A.units + 1 < cLine := by have := r.un; omega
end
end Mo
set_option Elab.async false
set_option linter.all false
set_option maxRecDepth 100000
set_option maxHeartbeats 4000000
namespace Mo
open PySem L2 PySem.Spec PyProof.Rows
end Mo
set_option Elab.async false
set_option linter.all false
set_option maxRecDepth 100000
set_option maxHeartbeats 4000000
namespace Mo
open PySem L2 PySem.Spec PyProof.Rows
end Mo
set_option Elab.async false
set_option linter.all false
set_option maxRecDepth 100000
set_option maxHeartbeats 4000000
namespace Mo
open PySem L2 PySem.Spec PyProof.Rows
section
variable {X : Cx} {E : XK} {o e f : Expr} {te tf : TE} {to : TE} {y z : Str} {j k l : Nat} {c0 c1 c2 apos pos p p' : Pos} {es : List Expr} {ta : TA} {mo mx : En → Mm Dt} {mr : En → Mm (List Dt)}
theorem pat_cons (ha : PE X e te) (hr : PAT X es ta) (hs : starEach (e :: es) X.env = (false, eval e X.env) :: starEach es X.env := by rfl) : PAT X (e :: es) (tCons te ta) := by
  intro pos pins s σ H Q h0 I h
  rw [hs]
  show wpAny _ _ (spliced ((false, eval e X.env) :: backTo pos (starEach es X.env))) _ _ s
  refine Calls.spliced_cons (wpAny_mono (wpAny_toks (ha.run pins s σ H _ I h)) (fun u s1 q => ?_) fun _ _ z => z.2)
  obtain ⟨hk, x, H1, I1, r1, q1⟩ := q
  exact thn (hr pos pins s1 σ H1 _ (Nat.le_trans h0 hk) I1 q1) fun us s2 ⟨xs, H2, I2, r2, q2⟩ => ⟨x :: xs, H2, I2, .cons r1 r2, q2⟩
theorem pat_mono {t u : TA} (h : PAT X es t) (k : ∀ σ H Q, u σ H Q → t σ H Q) : PAT X es u := fun pos pins s σ H Q h0 I q => h pos pins s σ H Q h0 I (k _ _ _ q)
theorem pet_mono {t u : TE} (h : PET X e t) (k : ∀ σ H Q, u σ H Q → t σ H Q) : PET X e u := fun pins s σ H Q h0 I q => h pins s σ H Q h0 I (k _ _ _ q)
theorem mat_cons (ha : PE X e (tE X.K E mo)) (hr : PAT X es (tA X.K E mr)) (hs : starEach (e :: es) X.env = (false, eval e X.env) :: starEach es X.env := by rfl) : PAT X (e :: es) (tA X.K E (argC mo mr)) := pat_mono (pat_cons ha hr hs) fun σ H Q ⟨s, env, e, r, he, ha⟩ => by
  subst e
  exact tE_bind r he ha fun d s1 v x1 r1 e1 rv q => tA_bind r1 e1 q fun ds s2 vs x2 r2 e2 rvs q2 => q2.ret r2 _ (Reps.cons (rv.ext x2) rvs)
def mUpper : Dt → List Dt → Mm Dt := fun o ds h => match o, ds with
  | .str a, [] => if a.length ≤ 5592405 then .ok (.str (Txt.upper a)) h else .no
  | _, _ => .no
theorem m_upper : MtR X "str.upper" (mM X.K E mUpper) := mtR_mono mt_upper fun x vs H Q ⟨s, d, ds, eH, r, rx, rs, ha⟩ => by
  subst eH
  unfold mUpper at ha
  split at ha
  · rename_i a
    cases rx; cases rs
    split at ha
    · rename_i hl
      exact ⟨a, rfl, rfl, hl, fin r ha rfl⟩
    · exact ha.elim
  · exact ha.elim
def mSplitO : Dt → List Dt → Mm Dt := fun o ds h => match o, ds with
  | .str a, [.str b] => if (b.length == 0) = false ∧ a.length + 2 ≤ sizeLine then mkO (.lst ((Txt.split a b).map .str)) h else .no
  | _, _ => .no
theorem m_splitO : MtR X "str.split" (mM X.K E mSplitO) := mtR_mono mt_split fun x vs H Q ⟨s, d, ds, eH, r, rx, rs, ha⟩ => by
  subst eH
  unfold mSplitO at ha
  split at ha
  · rename_i a b
    obtain ⟨v, rfl, rv⟩ := rs.one
    cases rx; cases rv
    split at ha
    · rename_i hl
      refine ⟨a, b, rfl, rfl, hl.1, hl.2, fun p hp => ?_⟩
      obtain ⟨_, x, rp, kq⟩ := mkO_ok (u := .lst ((Txt.split a b).map V.str)) (o := .lst ((Txt.split a b).map .str)) r hp ⟨_, upd_same, reps_strs _⟩ ha
      exact kq _ rp
    · exact ha.elim
  · exact ha.elim
end
end Mo
set_option Elab.async false
set_option linter.all false
set_option maxRecDepth 100000
set_option maxHeartbeats 4000000
namespace Mo
open PySem L2 PySem.Spec PyProof.Rows
end Mo
set_option Elab.async false
set_option linter.all false
set_option maxRecDepth 100000
set_option maxHeartbeats 4000000
namespace Mo
open PySem L2 PySem.Spec PyProof.Rows
section
variable {X : Cx} {E : XK}
def rNeL (K : PySem.W.Frag) : R2 := fun x y H Q => ∃ (a b : Addr) (xs : List V), x = .ref a ∧ y = .ref b ∧ SqL K H a xs ∧ SqL K H b [] ∧ Q (.bl (!xs.isEmpty)) H
theorem op_neL (hu : X.A.units < cLine) : OpR X (compareOp .NotEq) (rNeL X.K) := by
  intro pins s σ H x y v u Q I rx ry h
  obtain ⟨a, b, xs, rfl, rfl, ha, hb, q⟩ := h
  obtain rfl : v = Value.ref a := rx
  obtain rfl : u = Value.ref b := ry
  obtain ⟨its, rv, ht, _⟩ := I.list ha
  obtain ⟨itb, rb, hb', _⟩ := I.list hb
  cases rb
  have la : s.heap.IsList a its.toArray := ht.isList
  have lb : s.heap.IsList b ([] : List Value).toArray := hb'.isList
  cases rv with
  | nil => exact SeqAt.RcNeAt.lists (e := fun _ => true) la lb rfl hu (fun j h1 h2 => absurd h2 (by simp)) X.prog X.w _ _ ⟨.bl false, H, I, rfl, q⟩
  | cons r1 r2 => exact SeqAt.RcNeAt.lists_lengths la lb (by simp) hu X.prog X.w _ _ ⟨.bl true, H, I, rfl, q⟩
def opNeL : Dt → Dt → Mm Dt := fun x y h => match lstR h x, y with
  | some xs, .lv [] => .ok (.bl (!xs.isEmpty)) h
  | _, _ => .no
theorem o_neL (hu : X.A.units + 64 < cLine) : OpR X (compareOp .NotEq) (rM X.K E opNeL) := opR_mono (op_neL (by omega)) fun x y H Q ⟨s, d, e, eH, r, rx, ry, ha⟩ => by
  subst eH
  unfold opNeL at ha
  split at ha
  · rename_i xs hx
    obtain ⟨a, vs, rfl, sq, rs⟩ := lstR_ok r rx hx
    obtain ⟨b, ws, rfl, sqb, rsb⟩ := lstR_ok r ry (xs := []) rfl
    cases rsb
    refine ⟨a, b, vs, rfl, rfl, sq, sqb, ?_⟩
    have e : vs.isEmpty = xs.isEmpty := by
      have := rs.length
      cases vs <;> cases xs <;> simp at this ⊢
    rw [e]
    exact fin r ha rfl
  · exact ha.elim
end
end Mo
set_option Elab.async false
set_option linter.all false
set_option maxRecDepth 100000
set_option maxHeartbeats 4000000
namespace Mo
open PySem L2 PySem.Spec PyProof.Rows
section
variable {X : Cx} {E : XK} {K : PySem.W.Frag} {s : Sx} {e o : Expr} {c f m : Str} {pos p apos : Pos} {mo ma : En → Mm Dt} {mr : En → Mm (List Dt)} {fm : List Dt → Mm Dt} {k : Nat} {fa g pa C : Addr} {fd : FuncData} {ps : List Str} {es : List Expr}
/-- the instance of class c at d -/
def insR (c : Str) (h : Ah) : Dt → Option (List (Str × Dt))
  | .obj i => match h[i]? with
    | some (.ins c' fs) => if c' = c then some fs else none
    | _ => none
  | _ => none
theorem insR_ok {d : Dt} {v : V} {fs : List (Str × Dt)} (r : HRel K s) (rv : Rep K s d v) (h : insR c s.h d = some fs) : ∃ i a dx vs, d = .obj i ∧ v = .ref a ∧ s.ρ[i]? = some a ∧ s.h[i]? = some (.ins c fs) ∧ s.H a = some (.ins (He.ga K c) dx vs) ∧ (s.H dx = some (.own a) ∧ ¬ s.mut dx) ∧ RepF K s fs vs := by
  unfold insR at h
  split at h
  · rename_i i
    split at h
    · rename_i c' fs' hh
      split at h
      · rename_i hc
        cases h
        subst hc
        obtain ⟨a, ea, rfl⟩ := rv
        obtain ⟨dx, vs, h1, h2, h3⟩ := r.ob i a _ ea hh
        exact ⟨i, a, dx, vs, rfl, rfl, ea, hh, h1, h2, h3⟩
      · cases h
    · cases h
  · cases h
def fldR (c f : Str) : Dt → Mm Dt := fun d h => match (insR c h d).bind (fun fs => fs.lookup f) with
  | some y => .ok y h
  | none => .no
def fld (c f : Str) (mo : En → Mm Dt) : En → Mm Dt := fun env => mo env >>= fldR c f
theorem me_fld (hc : Cls X.K (He.ga X.K c)) (hn : NoAttr X.K (He.ga X.K c) f) (he : PE X e (tE X.K E mo)) (hb : attributeBase e f X.env (eval e X.env) = eval e X.env := by rfl) : PE X (.Attribute e f pos) (tE X.K E (fld c f mo)) := pe_mono (pe_fld he hb) fun σ H Q ⟨s, env, e, r, he, ha⟩ => by
  subst e
  refine tE_bind r he ha fun d s1 v x1 r1 e1 rv q => ?_
  unfold fldR at q
  cases qi : insR c s1.h d with
  | none => rw [qi] at q; exact q.elim
  | some fs =>
    obtain ⟨i, a, dx, vs, rfl, rfl, ea, hh, h1, h2, h3⟩ := insR_ok r1 rv qi
    rw [qi] at q
    rcases h3.lookup f with ⟨l1, l2⟩ | ⟨y, w, l1, l2, ry⟩
    · simp only [Option.bind_some, l1] at q; exact q.elim
    · simp only [Option.bind_some, l1] at q
      exact ⟨a, _, dx, vs, w, rfl, h1, hc, hn, l2, fin r1 q ry⟩
def putD (f : Str) (v : Dt) : List (Str × Dt) → List (Str × Dt)
  | [] => [(f, v)]
  | (g, x) :: r => if g = f then (g, v) :: r else (g, x) :: putD f v r
theorem RepF.put {y : Dt} {w : V} (ry : Rep K s y w) : ∀ {fs : List (Str × Dt)} {vs : List (Str × V)}, RepF K s fs vs → RepF K s (putD f y fs) (putF f w vs)
  | [], _, h => by cases h; exact ⟨w, [], rfl, ry, rfl⟩
  | (n, d) :: fs, _, h => by
    obtain ⟨v, r, rfl, h1, h2⟩ := h
    unfold putD putF
    by_cases e : n = f
    · rw [if_pos e, if_pos e]; exact ⟨w, r, rfl, ry, h2⟩
    · rw [if_neg e, if_neg e]; exact ⟨v, _, rfl, h1, RepF.put ry h2⟩
theorem RepF.length : ∀ {fs : List (Str × Dt)} {vs : List (Str × V)}, RepF K s fs vs → vs.length = fs.length
  | [], _, h => by cases h; rfl
  | (n, d) :: fs, _, h => by
    obtain ⟨v, r, rfl, h1, h2⟩ := h
    simp [RepF.length h2]
def setF (c f : Str) (o y : Dt) : Mm Unit := fun h => match o with
  | .obj i => match insR c h (.obj i) with
    | some fs => if fs.length < 1000 then .ok () (h.set i (.ins c (putD f y fs))) else .no
    | none => .no
  | _ => .no
def gF (c f : Str) (mo : En → Mm Dt) : Dt → En → Mm En := fun d env => mo env >>= fun o => setF c f o d >>= fun _ => Mm.pure env
theorem mg_fld (hc : Cls X.K (He.ga X.K c)) (hn : NoAttr X.K (He.ga X.K c) f) (ho : PE X o (tE X.K E mo)) : PG X (.Attribute o f pos) (tG X.K E (gF c f mo)) := ⟨fun pins t σ H v u Q I ru ⟨s, env, d, eH, r, he, rd, ha⟩ => by
  subst eH
  refine PySem.W.kas_attr ?_
  have h2 : tE X.K E mo σ s.H fun x H2 => ∃ a dx fs, x = .ref a ∧ H2 a = some (.ins (He.ga X.K c) dx fs) ∧ fs.length < 1000 ∧ ∃ σ', Q σ' (upd H2 a (.ins (He.ga X.K c) dx (putF f v fs))) ∧ σ' = σ := by
    refine tE_bind r he ha fun ov s1 w x1 r1 e1 rv q => ?_
    have q1 := q.bind
    unfold setF at q1
    split at q1
    · rename_i i
      cases qi : insR c s1.h (.obj i) with
      | none => rw [qi] at q1; exact q1.elim
      | some fs =>
        obtain ⟨i', a, dx, vs, e0, rfl, ea, hh, h1, h3, h4⟩ := insR_ok r1 rv qi
        cases e0
        rw [qi] at q1
        dsimp only at q1
        split at q1
        · rename_i hl
          have x := put_ext (u := .ins (He.ga X.K c) dx (putF f v vs)) (o' := .ins c (putD f d fs)) r1 ea hh (by intro z; cases z)
          have r' := put_rel (u := .ins (He.ga X.K c) dx (putF f v vs)) (o' := .ins c (putD f d fs)) r1 ea hh (by intro z; cases z) ⟨dx, _, upd_same, x.keep h3 rfl, (RepF.put (rd.ext x1) h4).ext x⟩
          refine ⟨a, dx, vs, rfl, h1, by rw [h4.length]; exact hl, σ, ?_, rfl⟩
          exact (q1.now _ rfl x r').ret r' σ (e1.ext x)
        · exact q1.elim
    · exact q1.elim
  refine thn (ho.run pins t σ _ _ I h2) fun ov s2 ⟨x, H2, I2, rx, a, dx, fs, ex, ea, l, σ', q2, e2⟩ => ?_
  subst ex e2
  obtain rfl : ov = Value.ref a := rx
  exact setattr_ok I2 ea hc hn l ru fun s3 I3 => ⟨_, _, I3, q2⟩⟩
end
end Mo
set_option Elab.async false
set_option linter.all false
set_option maxRecDepth 100000
set_option maxHeartbeats 4000000
namespace Mo
open PySem L2 PySem.Spec PyProof.Rows
theorem under_guards {A : Around} {C : Addr} {us : List Value} {kw : List (Str × Value)} : (A.under (.builtin "type.__call__" ⟨.ref C :: us, kw⟩)).guards = A.guards := by
  first | rfl | simp [Around.under, Code.isGuard, guardIds]
section
variable {X : Cx} {K : PySem.W.Frag} {s : Sx} {e o : Expr} {c f m x : Str} {pos p apos : Pos} {mo ma : En → Mm Dt} {mr : En → Mm (List Dt)} {fm : List Dt → Mm Dt} {k : Nat} {fa g pa C : Addr} {fd : FuncData} {ps : List Str} {es : List Expr}
/-- C(..): the new instance, its __init__ -/
def mkI (c : Str) (n : Nat) (fm : List Dt → Mm Dt) (ds : List Dt) : Mm Dt := newO (.ins c []) >>= fun i => if ds.length + 1 = n then fm (.obj i :: ds) >>= fun v => (match v with
  | .non => Mm.pure (.obj i)
  | _ => Mm.no) else Mm.no
def make (c : Str) (n : Nat) (fm : List Dt → Mm Dt) (mr : En → Mm (List Dt)) : En → Mm Dt := fun env => mr env >>= mkI c n fm
end
end Mo
set_option Elab.async false
set_option linter.all false
set_option maxRecDepth 100000
set_option maxHeartbeats 4000000
namespace Mo
open PySem L2 PySem.Spec PyProof.Rows
section
variable {X : Cx} {E : XK} {c : Str} {pos : Pos}
theorem me_cls (hg : Gl X c) (hm : X.mg c = some (.ref (He.ga X.K c))) (hd : (c == ("__debug__" : Str)) = false := by decide) : PE X (.Name c pos) (tE X.K E (con (.cl c))) :=
  me_con (t := tC (.ref (He.ga X.K c))) (pe_glob (v := .ref (He.ga X.K c)) hg hm rfl hd) fun _ => rfl
/-- what isinstance asks of an own class -/
structure IsC (K : PySem.W.Frag) (c : Str) : Prop where
  cl : Cls K (He.ga K c)
  ha : PySem.W.findIn K (.ref (He.ga K c)) "__class__" = some (some (.builtin "object.__class__"))
  hn : PySem.W.specialIn K (.builtin "object.__class__") "__get__" = some (some (.builtin "getset_descriptor.__get__"))
  ht : PySem.W.takesIn K (.builtin "object.__class__") = some true
  hm : PySem.W.mroIn K (He.ga K c) (.type "object") = some true
end
end Mo
set_option Elab.async false
set_option linter.all false
set_option maxRecDepth 100000
set_option maxHeartbeats 4000000
namespace Mo
open PySem L2 PySem.Spec PyProof.Rows
theorem lam_state {K : PySem.W.Frag} {s1 : Sx} {H1 : Hp} (r : HRel K s1) (eN : LamX.ExtN s1.H H1) (T1 : LamX.Tabs (LT K) H1) : Ext s1 ⟨s1.ρ, s1.h, H1⟩ ∧ HRel K ⟨s1.ρ, s1.h, H1⟩ := by
  have x : Ext s1 ⟨s1.ρ, s1.h, H1⟩ := ⟨fun _ _ h => h, fun a o h k n => ⟨⟨o, eN a o h n, .inl rfl⟩, k⟩⟩
  refine ⟨x, r.len, r.nd, fun i a o e k => (r.ob i a o e k).ext x ?_, T1⟩
  obtain ⟨u, q, n⟩ := r.live e k
  show H1 a = s1.H a
  rw [q]
  exact eN a u q n
end Mo
set_option Elab.async false
set_option linter.all false
set_option maxRecDepth 100000
set_option maxHeartbeats 4000000
namespace Mo
open PySem L2 PySem.Spec PyProof.Rows
/-- a def by its body, its code object known -/
theorem fnGL {P : Program} {w : World} {K : PySem.W.Frag} {mg : Str → Option Value} {base : Heap} {x : Str} {params : Arguments} {body : List Stmt} {scope : Scope} {dvs : List V} {kws : List (Str × V)} {fd : FuncData} {N ps : List Str} {k : Nat} {ms : En → Mm Fl}
    (F : FunD K x x params body scope dvs kws (He.ga K x) fd) (S : FnScope N ps scope)
    (hbody : ∀ (A : Around) (outer : List Env) (s : Shared) (H : Hp) (E : XK), A.guards = some [] → Room k (A.deeper (envOfC x scope s.heap.objs.size (He.ga K x) (.ref (lamC K x)))) → PSs (cxOf CX0 P w K mg base N x scope (He.ga K x) (.ref (lamC K x)) A outer s H E).nox body (tS K E0 ms)) :
    FnG P w K mg base (k + 1) (He.ga K x) fd ps (fnM N.length ms) := by
  refine fnGc F S fun cdv A outer s H E hc hgd hr => ?_
  obtain ⟨oc, od, fd', osl, lk, e, hcd⟩ := hc
  obtain ⟨c, rfl⟩ := He.codeIn_ref hcd
  have ec : lamC K x = c := He.codeOf_eq (p := (x, none)) (c := c) lk e
  subst ec
  exact hbody A outer s H E hgd hr
section
open He
/-- the property's object; its getter -/
def prO (K : PySem.W.Frag) (c f : Str) : Addr := ma K (ga K c) f
def prG (K : PySem.W.Frag) (c f : Str) : Addr := match PySem.W.recIn K (prO K c f) "property" with
  | some (.ref g :: _) => g
  | _ => 0
def fnWA (K : PySem.W.Frag) (a : Addr) : FnW := match K.lookup a with
  | some ⟨_, _, .func fd, _⟩ => some (fd.name, fd.qualname, fd.params, fd.body, fd.scope, fd.globals, fd.closure, fd.builtins)
  | _ => none
/-- a property: its class, its name, the getter's qualified name, parameters, body, scope -/
structure PrD where
  c : Str
  f : Str
  qual : Str
  params : Arguments
  body : List Stmt
  scope : Scope
def PrD.val (d : PrD) : FnW := some (d.f, d.qual, d.params, .stmts d.body, d.scope, mainGlobals, [], builtinsNs)
def PrD.ok (K : PySem.W.Frag) (d : PrD) : Bool := decide (PySem.W.findIn K (.ref (ga K d.c)) d.f = some (some (.ref (prO K d.c d.f)))) && (decide (PySem.W.specialIn K (.ref (prO K d.c d.f)) "__get__" = some (some (.builtin "property.__get__"))) &&
  (decide (PySem.W.takesIn K (.ref (prO K d.c d.f)) = some true) && ((match PySem.W.recIn K (prO K d.c d.f) "property" with
    | some (.ref _ :: _) => true
    | _ => false) && (PySem.W.keepIn K (.ref (prG K d.c d.f)) && (match K.lookup (prG K d.c d.f) with
  | some ⟨_, _, .func fd, _⟩ => PySem.W.codeIn K fd.code d.qual && (dflB K fd.defaults [] && kwdB K fd.kwdefaults [])
  | _ => false)))))
abbrev AlY : Type := AlX × (Bool × List FnW)
def obsP (pr : List PrD) (K : PySem.W.Frag) : Bool × List FnW := (pr.all fun d => d.ok K, pr.map fun d => fnWA K (prG K d.c d.f))
def valY (fn : List DefD) (ts : List Tab) (pr : List PrD) (w : World) : AlY := (valX fn ts w, (true, pr.map PrD.val))
structure SaysY (fa : List Fa) (fn : List DefD) (ts : List Tab) (tf : List Defn) (ex : PySem.W.Frag → Bool) (pr : List PrD) (w : World) (h : Heap) (K : PySem.W.Frag) : Prop where
  x : SaysX fa fn ts tf ex w h K
  p : obsP pr K = (true, pr.map PrD.val)
section
variable {fa : List Fa} {fn : List DefD} {ts : List Tab} {tf : List Defn} {ex : PySem.W.Frag → Bool} {pr : List PrD} {w : World} {h : Heap} {K : PySem.W.Frag}
theorem SaysY.lam (c : SaysY fa fn ts tf ex pr w h K) (ht : lamDefs.map (fun n => ((n, none) : Defn)) = tf) : LamAt K h :=
  have m : ∀ n ∈ lamDefs, ((n, none) : Defn) ∈ tf := fun n hn => ht ▸ List.mem_map.mpr ⟨n, hn, rfl⟩
  ⟨fun n hn => c.x.hd _ (m n hn), fun n hn => c.x.out _ (m n hn), fun n hn => c.x.empty _ (m n hn)⟩
end
end
end Mo
set_option Elab.async false
set_option linter.all false
set_option maxRecDepth 100000
set_option maxHeartbeats 4000000
namespace Mo
open PySem L2 PySem.Spec PyProof.Rows
def clsBody : Stmt → List Stmt
  | .ClassDef _ _ _ b _ _ _ _ _ _ _ => b
  | _ => []
/-- the tables of the defs that hold lambdas -/
def Lams (base : Heap) (K : PySem.W.Frag) (mg : Str → Option Value) : Prop := ∀ n ∈ lamDefs, LamX.TabB base mg (lamC K n) (lamP K n)
abbrev FnPa (K : PySem.W.Frag) (g x : Str) (st : Stmt) (fd : FuncData) : Prop := FunD K x x (defArgs st) (defBody st) (defScope st) [] [] (He.ga K g) fd
abbrev FnM (K : PySem.W.Frag) (c x q : Str) (st : Stmt) (fd : FuncData) : Prop := FunD K x q (defArgs st) (defBody st) (defScope st) [] [] (He.ma K (He.ga K c) x) fd
theorem lt_mem {K : PySem.W.Frag} {n : Str} (h : n ∈ lamDefs) : (lamP K n, n ++ ".<locals>." ++ "<lambda>") ∈ LT K := List.mem_map.mpr ⟨n, h, rfl⟩
theorem lt_one {K : PySem.W.Frag} {n : Str} (h : lamDefs = [n]) : ∀ p ∈ LT K, p.1 = lamP K n → p.2 = n ++ ".<locals>." ++ "<lambda>" := fun p hp _ => by
  obtain ⟨m, hm, rfl⟩ := List.mem_map.mp hp
  rw [h] at hm
  cases List.mem_singleton.mp hm
  rfl
end Mo
set_option Elab.async false
set_option linter.all false
set_option maxRecDepth 100000
set_option maxHeartbeats 4000000
namespace Mo
open PySem L2 PySem.Spec PyProof.Rows He
/-- what these names stand for -/
def near (nm : List Str) (g : Addr → Option Obj) : List Addr := match g mainGlobals with
  | some o => (match o.data with
    | .dict es _ => es.toList.flatMap fun e => match e.key with
      | .str x _ => if nm.contains x then refV e.val else []
      | _ => []
    | _ => [])
  | none => []
def nextZ (g : Addr → Option Obj) (l : List Addr) : List Addr := l.flatMap fun a => match g a with
  | some o => refsD o
  | none => []
def walkZ (g : Addr → Option Obj) : Nat → List Addr → List Addr
  | 0, l => l
  | n + 1, l => l ++ walkZ g n (nextZ g l)
def asZ (nm : List Str) (n : Nat) (g : Addr → Option Obj) : List Addr := mainGlobals :: sysModules :: walkZ g n (near nm g)
section
variable {nm : List Str} {n : Nat} {fa : List Fa} {fn : List DefD} {ts : List Tab} {tf : List Defn} {ex : PySem.W.Frag → Bool} {pr : List PrD} {w : World} {h : Heap}
def obsZ (nm : List Str) (n : Nat) (fa : List Fa) (fn : List DefD) (ts : List Tab) (tf : List Defn) (ex : PySem.W.Frag → Bool) (pr : List PrD) (g : Addr → Option Obj) : AlY :=
  ((obsT fa fn ts (frT g (asZ nm n g)), ex (frT g (asZ nm n g)) && tabsB g tf (frT g (asZ nm n g))), obsP pr (frT g (asZ nm n g)))
theorem saysZ_of {K : PySem.W.Frag} {l : List Addr} (hK : K = frT h.get? l) (e1 : obsT fa fn ts K = valT fn ts w) (e2 : (ex K && tabsB h.get? tf K) = true) : SaysX fa fn ts tf ex w h K := by
  have h1 := (Bool.and_eq_true_iff.mp e2).1
  have h2 := (Bool.and_eq_true_iff.mp e2).2
  have key : ∀ p ∈ tf, PySem.W.codeHdIn K (cT K p).1 (cT K p).2 = true ∧ ∃ o, h.get? (cT K p).2 = some o ∧ emptyTab o = true := fun p hp => by
    have z := Bool.and_eq_true_iff.mp (List.all_eq_true.mp h2 p hp)
    refine ⟨z.1, ?_⟩
    have z2 := z.2
    cases q : h.get? (cT K p).2 with
    | none => rw [q] at z2; cases z2
    | some o => rw [q] at z2; exact ⟨o, rfl, z2⟩
  refine ⟨e1, h1, fun p hp => (key p hp).1, fun p hp => ?_, fun p hp => ?_⟩
  · obtain ⟨-, o, q, z⟩ := key p hp
    subst hK
    exact frT_none q z
  · obtain ⟨-, o, q, z⟩ := key p hp
    rw [q, emptyTab_eq z]
def hookZ (nm : List Str) (n : Nat) (fa : List Fa) (fn : List DefD) (ts : List Tab) (tf : List Defn) (ex : PySem.W.Frag → Bool) (pr : List PrD) : PySem.W.Hook where
  α := AlY
  obs := fun s => obsZ nm n fa fn ts tf ex pr s.heap.get?
  val := fun w => valY fn ts pr w
  says := fun w h => ∃ K : PySem.W.Frag, K.In h ∧ SaysY fa fn ts tf ex pr w h K
  of := fun _ _ e => ⟨_, frT_in, saysZ_of rfl (congrArg (fun z : AlY => z.1.1) e) (congrArg (fun z : AlY => z.1.2) e), congrArg (fun z : AlY => z.2) e⟩
  keeps := fun _ _ _ ⟨K, hK, c⟩ k => ⟨K, PySem.W.Frag.In.keeps hK k, ⟨c.x.t, c.x.more, c.x.hd, c.x.out, fun p hp => k _ _ (c.x.empty p hp)⟩, c.p⟩
theorem obsZ_eq {g : Addr → Option Obj} {s : Shared} (h : ∀ a, g a = s.heap.get? a) : obsZ nm n fa fn ts tf ex pr g = (hookZ nm n fa fn ts tf ex pr).obs s := by
  have e : g = s.heap.get? := funext h
  rw [e] <;> rfl
end
end Mo
set_option Elab.async false
set_option linter.all false
set_option maxRecDepth 100000
set_option maxHeartbeats 4000000
namespace Mo
open PySem L2 PySem.Spec PyProof.Rows PySem.HandSPX
open Builtin Builtin.ObjectAttr
/-- own classes, then the mro of a built-in one -/
def ovr (tl : List Value) : List Value → Bool
  | .ref _ :: r => ovr tl r
  | l => l == tl
theorem ovr_cases {tl : List Value} : ∀ l : List Value, ovr tl l = true → (∃ c r, l = .ref c :: r ∧ ovr tl r = true) ∨ l = tl
  | [], e => .inr (beq_iff_eq.mp e)
  | a :: r, e => by
    cases a with
    | ref c => exact .inl ⟨c, r, rfl, e⟩
    | _ => exact .inr (beq_iff_eq.mp e)
structure XB (B nw ini : String) (tl : List Value) : Prop where
  f : ExcBaseFacts B nw ini tl
  s : StoreFacts B tl "object.__setattr__" "object"
  ob : tl.contains (.type "object") = true
  ne : tl.isEmpty = false
abbrev tlV : List Value := [.type "ValueError", .type "Exception", .type "BaseException", .type "object"]
abbrev tlA : List Value := [.type "ArithmeticError", .type "Exception", .type "BaseException", .type "object"]
theorem xbV : XB "ValueError" "ValueError.__new__" "ValueError.__init__" tlV := ⟨F.excBase_ValueError, F.store_ValueError, by decide +kernel, rfl⟩
theorem xbA : XB "ArithmeticError" "ArithmeticError.__new__" "ArithmeticError.__init__" tlA := ⟨F.excBase_ArithmeticError, F.store_ArithmeticError, by decide +kernel, rfl⟩
section
variable {B nw ini : String} {tl : List Value}
theorem ovr_pass (b : XB B nw ini tl) (self : Value) : ∀ l : List Value, ovr tl l = true → refuseLoop self "__setattr__" l = pure ()
  | [], e => by
    have : ([] : List Value) = tl := beq_iff_eq.mp e
    have := b.ne
    subst tl
    cases this
  | a :: r, e => by
    rcases ovr_cases (a :: r) e with ⟨c, r', q, h⟩ | q
    · cases q
      rw [refuseLoop_ref]
      exact ovr_pass b self r h
    · rw [q]
      exact b.s.passes self
theorem ovr_has (b : XB B nw ini tl) (Y : String) : ∀ l : List Value, ovr tl l = true → l.contains (.type Y) = tl.contains (.type Y)
  | [], e => by
    have : ([] : List Value) = tl := beq_iff_eq.mp e
    rw [← this]
  | a :: r, e => by
    rcases ovr_cases (a :: r) e with ⟨c, r', q, h⟩ | q
    · cases q
      rw [List.contains_cons, ovr_has b Y r h]
      rfl
    · rw [q]
theorem ovr_ne (b : XB B nw ini tl) : ∀ {l : List Value}, ovr tl l = true → l.isEmpty = false
  | [], e => by
    have : ([] : List Value) = tl := beq_iff_eq.mp e
    have := b.ne
    subst tl
    cases this
  | _ :: _, _ => rfl
end
section
variable {prog : Program} {w : World} {A : Around} {R : Result → Shared → Prop} {hp : Heap} {g : Array GenState} {dw : Drawn} {t : Nat} {os : OsState} {B nw ini : String} {tl : List Value} {K : PySem.W.Frag} {n : Str} {tk : Tok} {v : Value} {x C : Addr} {fv : Array Value} {cd : ClassData}
/-- the first field -/
theorem xosa (b : XB B nw ini tl) (X : K.In hp) (hx : hp.get? x = some { cls := .ref C, data := .fields fv }) (hcd : PySem.W.clsIn K C = some cd) (hm : ovr tl cd.mro = true) (hh : cd.hasDict = true) (ha : PySem.W.findIn K (.ref C) n = some none)
    (hq : ∀ h' tk' dx, (∀ c o, c ≠ x → hp.get? c = some o → h'.get? c = some o) → hp.objs.size ≤ dx → dx ≠ x → h'.get? x = some { cls := .ref C, dict := some dx, data := .fields fv } → h'.Ns1 dx (fun y => if y = n then some v else none) → R (.ok (.ret .none)) ⟨h', g, dw, tk', os⟩) :
    codeAny (model prog w) A (.call (.builtin "object.__setattr__") ⟨[.ref x, .str n tk, v], []⟩) R ⟨hp, g, dw, t, os⟩ := by
  have J : PySem.W.InstAt hp x { cls := .ref C, data := .fields fv } C none := ⟨hx, rfl, rfl, trivial⟩
  have so := F.store_object
  have e0 := ovr_ne b hm
  have e1 : cd.mro.contains (.type "object") = true := (ovr_has b "object" _ hm).trans b.ob
  have e2 : x ≠ hp.objs.size := Nat.ne_of_lt (Heap.lt_size hx)
  have l1 : PySem.W.Looks (model prog w) hp (classData C) cd := PySem.W.looks_clsIn X hcd
  have l2 : PySem.W.Looks (model prog w) hp (mroOf (.ref C)) cd.mro := l1.andThen .now
  have l3 : PySem.W.Looks (model prog w) hp (storeTaker? none) none := .now
  have l4 : PySem.W.Looks (model prog w) hp (isInstance (.ref x) (.type "object")) true := J.type.andThen (PySem.W.looks_mroIn X (by
    unfold PySem.W.mroIn
    rw [hcd, Option.bind_some, if_neg (by rw [e0]; decide), e1]))
  refine codeAny_call_builtin so.slot.plain so.entry (@PySem.W.check_slot (model prog w) _ _ ⟨hp, g, dw, t, os⟩ "object.__setattr__" "object" "__setattr__" (.ref x) [.str n tk, v] [] _ so.kind so.split l4 (so.args (.ref x) (.str n tk) v) ?_)
  rw [PySem.W.osa_eq, refuse_eq]
  refine wpAny_bind (wpAny_bind (J.type.at (wpAny_bind (l2.at ?_))))
  rw [ovr_pass b _ _ hm]
  refine wpAny_pure (wpAny_bind (J.type.at (wpAny_bind ((PySem.W.looks_findIn X ha).at (wpAny_bind (l3.at ?_))))))
  show wpAny _ _ (storeInOwnDict (.ref x) (.ref C) (.str n tk) n v false) _ _ _
  obtain ⟨c1, c2, c3, c4, c5, c6, c7, c8, c9, c10, c11⟩ := cd
  dsimp only at hh
  subst hh
  unfold storeInOwnDict ownDictForStores
  repeat (first | with_reducible refine store_in_new ?_ ?_ | with_reducible refine wpAny_loadPart_at hx ?_ | with_reducible refine l1.at ?_ | wp_step)
  · exact ⟨_, #[], _, (Heap.get?_update_ne _ _ _ _ e2.symm).trans (Heap.get?_push_at rfl rfl), rfl, fun e he => absurd he (by simp), fun _ => rfl⟩
  · intro h' tk' hn' hs
    have z := Heap.get?_push_of_some { cls := .type "dict", data := .dict #[] } hx
    refine hq h' tk' hp.objs.size (fun c o hb ho => ?_) (Nat.le_refl _) e2.symm ?_ hn'
    · exact (hs.2 c (Nat.ne_of_lt (Heap.lt_size ho))).trans ((Heap.get?_update_ne _ _ _ _ hb).trans (Heap.get?_push_of_some _ ho))
    · exact (hs.2 x e2).trans (Heap.get?_update_self _ z rfl)
/-- a further field -/
theorem xosb (b : XB B nw ini tl) {dx : Addr} {m0 : Str → Option Value} {nl : List Str} (X : K.In hp) (hx : hp.get? x = some { cls := .ref C, dict := some dx, data := .fields fv }) (hns : hp.Ns1 dx m0) (hw : Within m0 nl) (hz : nl.length ≤ 1000) (hcd : PySem.W.clsIn K C = some cd) (hm : ovr tl cd.mro = true) (hh : cd.hasDict = true) (ha : PySem.W.findIn K (.ref C) n = some none)
    (hq : ∀ h' tk', (∀ c o, c ≠ dx → hp.get? c = some o → h'.get? c = some o) → h'.Ns1 dx (fun y => if y = n then some v else m0 y) → R (.ok (.ret .none)) ⟨h', g, dw, tk', os⟩) :
    codeAny (model prog w) A (.call (.builtin "object.__setattr__") ⟨[.ref x, .str n tk, v], []⟩) R ⟨hp, g, dw, t, os⟩ := by
  obtain ⟨oD, d1, d2, hoD, d3, d4⟩ := hns.count hw
  have J : PySem.W.InstAt hp x { cls := .ref C, dict := some dx, data := .fields fv } C (some oD) := ⟨hx, rfl, rfl, hoD⟩
  have so := F.store_object
  have e0 := ovr_ne b hm
  have e1 : cd.mro.contains (.type "object") = true := (ovr_has b "object" _ hm).trans b.ob
  have l1 : PySem.W.Looks (model prog w) hp (classData C) cd := PySem.W.looks_clsIn X hcd
  have l2 : PySem.W.Looks (model prog w) hp (mroOf (.ref C)) cd.mro := l1.andThen .now
  have l3 : PySem.W.Looks (model prog w) hp (storeTaker? none) none := .now
  have l4 : PySem.W.Looks (model prog w) hp (isInstance (.ref x) (.type "object")) true := J.type.andThen (PySem.W.looks_mroIn X (by
    unfold PySem.W.mroIn
    rw [hcd, Option.bind_some, if_neg (by rw [e0]; decide), e1]))
  refine codeAny_call_builtin so.slot.plain so.entry (@PySem.W.check_slot (model prog w) _ _ ⟨hp, g, dw, t, os⟩ "object.__setattr__" "object" "__setattr__" (.ref x) [.str n tk, v] [] _ so.kind so.split l4 (so.args (.ref x) (.str n tk) v) ?_)
  rw [PySem.W.osa_eq, refuse_eq]
  refine wpAny_bind (wpAny_bind (J.type.at (wpAny_bind (l2.at ?_))))
  rw [ovr_pass b _ _ hm]
  refine wpAny_pure (wpAny_bind (J.type.at (wpAny_bind ((PySem.W.looks_findIn X ha).at (wpAny_bind (l3.at ?_))))))
  show wpAny _ _ (storeInOwnDict (.ref x) (.ref C) (.str n tk) n v false) _ _ _
  obtain ⟨c1, c2, c3, c4, c5, c6, c7, c8, c9, c10, c11⟩ := cd
  dsimp only at hh
  subst hh
  unfold storeInOwnDict ownDictForStores
  repeat (first | with_reducible refine PySem.OEX.store_in_old hns hw hz ?_ | with_reducible refine wpAny_loadPart_at hx ?_ | with_reducible refine l1.at ?_ | wp_step)
  intro h' tk' hn' hs
  exact hq h' tk' (fun c o hb ho => (hs.2 c hb).trans ho) hn'
end
end Mo
set_option Elab.async false
set_option linter.all false
set_option maxRecDepth 100000
set_option maxHeartbeats 4000000
namespace Mo
open PySem L2 PySem.Spec PyProof.Rows
/-- what the written part says of such a class -/
structure XcC (K : PySem.W.Frag) (C : Addr) (nw : String) (tl : List Value) : Prop where
  cls : ∃ nm q N bs bm sn sub ab col dd k0 k1 k2 k3 k5, K.lookup C = some (excClassObj nm q C N bs bm true sn sub ab col dd k0 k1 k2 k3 k5 nw) ∧ ovr tl bm = true
  sa : PySem.W.findIn K (.ref C) "__setattr__" = some (some (.builtin "object.__setattr__"))
  kC : PySem.W.keepIn K (.ref C) = true
section
variable {X : Cx} {pins : List (Addr × Obj)} {σ : L2.St} {H : Hp} {s : Shared} {a C dx : Addr} {f : Str} {y : V} {u : Value} {fs : List (Str × V)} {Q : Unit → Shared → Prop} {E : Value → Shared → Prop} {A : Around} {B nw ini : String} {tl : List Value}
theorem xst_new (b : XB B nw ini tl) (T : XcC X.K C nw tl) (I : Inv X pins σ H s) (ea : H a = some (exo a C none)) (hno : PySem.W.findIn X.K (.ref C) f = some none) (ry : RelV y u)
    (k : ∀ dx s', H dx = none → dx ≠ a → Inv X pins σ (upd (upd H dx (exd dx [(f, y)])) a (exo a C (some dx))) s' → Q () s') : wpAny (model X.prog X.w) A (setAttr (.ref a) f u) Q E s := by
  obtain ⟨z1, z2, z3, z4, bm, z5, z6, z7, z8, z9, z10, z11, z12, z13, z14, hC, hbm⟩ := T.cls
  have hcl : PySem.W.clsIn X.K C = some { name := z1, bases := z4, mro := .ref C :: bm, ns := z3, qualname := z2, hasDict := true, slotNames := z5, subclasses := z6, abstract := z7, collection := z8, hasDel := false } := by
    unfold PySem.W.clsIn
    rw [hC] <;> rfl
  obtain ⟨t1, ho⟩ := exo_at I.hok ea
  obtain ⟨hp, g, d, t, os⟩ := s
  refine PySem.W.set_plain I.kIn (ox := { cls := .ref C, dict := none, data := .fields #[.ref t1, .none, .none, .none, .bool false, .none] }) (od := none) ⟨ho, rfl, rfl, trivial⟩ T.sa ?_
  refine xosa b I.kIn ho hcl (show ovr tl (.ref C :: bm) = true from hbm) rfl hno (fun h' tk' dx kk dn dne hx hn => ?_)
  have fresh : H dx = none := I.hok.fresh dn
  have old : ∀ {c : Addr} {o : Obj}, hp.get? c = some o → c ≠ dx := fun {c o} q => Nat.ne_of_lt (Nat.lt_of_lt_of_le (Heap.lt_size q) dn)
  have na : ∀ {c : Addr}, H c = none → c ≠ a := fun {c} n z => by rw [z, ea] at n; cases n
  have U : Un X.fs [] H (upd (upd H dx (exd dx [(f, y)])) a (exo a C (some dx))) hp h' := by
    constructor
    · exact fun c o q n _ _ => kk c o (na n) q
    · exact fun c o q n _ _ => ⟨o.slots, kk c o (na n) q⟩
    · intro c o q n _
      rw [upd_ne (na n), upd_ne (old q)]
      exact n
    · intro c o q _
      by_cases hc : c = a
      · exact ⟨_, by rw [hc]; exact hx⟩
      · exact ⟨o, kk c o hc q⟩
    · intro c xs q
      rw [upd_ne (at_ne ea q exo_tup), upd_ne (ne_of_none q fresh)]
      exact q
    · intro c o v q
      rw [upd_ne (at_ne ea q exo_frz), upd_ne (ne_of_none q fresh)]
      exact q
    · exact fun c ps q => ⟨#[], by rw [upd_ne (at_ne ea q exo_tbl), upd_ne (ne_of_none q fresh), q]; simp⟩
  refine k dx _ fresh dne (I.un (t' := tk') U fun c o q => ?_)
  by_cases hc : c = a
  · subst hc
    rw [upd_same] at q
    cases q
    exact exo_ok hx
  · rw [upd_ne hc] at q
    by_cases hd : c = dx
    · subst hd
      rw [upd_same] at q
      cases q
      exact exd_ok hn (relO_put (fs := []) ry fun g => True.intro)
    · rw [upd_ne hd] at q
      refine (I.hok c o q).stay (fun c' v hc' z => kk c' v ?_ z) (fun c' hc' => ?_) (fun c' xs hc' => ?_)
      · rcases hc' with e | e
        · rw [e]; exact hc
        · exact at_ne ea e exo_own
      · rw [upd_ne (at_ne ea hc' exo_own), upd_ne (ne_of_none hc' fresh)]; exact hc'
      · rw [upd_ne (at_ne ea hc' exo_tup), upd_ne (ne_of_none hc' fresh)]; exact hc'
theorem xst_old (b : XB B nw ini tl) (T : XcC X.K C nw tl) (I : Inv X pins σ H s) (ea : H a = some (exo a C (some dx))) (ed : H dx = some (exd dx fs)) (hl : fs.length ≤ 900) (hno : PySem.W.findIn X.K (.ref C) f = some none) (ry : RelV y u)
    (k : ∀ s', Inv X pins σ (upd H dx (exd dx ((f, y) :: fs))) s' → Q () s') : wpAny (model X.prog X.w) A (setAttr (.ref a) f u) Q E s := by
  obtain ⟨z1, z2, z3, z4, bm, z5, z6, z7, z8, z9, z10, z11, z12, z13, z14, hC, hbm⟩ := T.cls
  have hcl : PySem.W.clsIn X.K C = some { name := z1, bases := z4, mro := .ref C :: bm, ns := z3, qualname := z2, hasDict := true, slotNames := z5, subclasses := z6, abstract := z7, collection := z8, hasDel := false } := by
    unfold PySem.W.clsIn
    rw [hC] <;> rfl
  obtain ⟨t1, ho⟩ := exo_at I.hok ea
  obtain ⟨mA, hns, rel⟩ := exd_at I.hok ed
  have hw := within_of rel
  obtain ⟨hp, g, d, t, os⟩ := s
  obtain ⟨oD, d1, d2, hoD, d3, d4⟩ := hns.count hw
  refine PySem.W.set_plain I.kIn (ox := { cls := .ref C, dict := some dx, data := .fields #[.ref t1, .none, .none, .none, .bool false, .none] }) (od := some oD) ⟨ho, rfl, rfl, hoD⟩ T.sa ?_
  refine xosb b I.kIn ho hns hw (by rw [List.length_map]; omega) hcl (show ovr tl (.ref C :: bm) = true from hbm) rfl hno (fun h' tk' kk hn => ?_)
  have there : ∃ o, h'.get? dx = some o := by
    obtain ⟨o, _, _, e', _⟩ := hn
    exact ⟨o, e'⟩
  exact k _ (I.write (t' := tk') (x := dx) (e := dx) (o := exd dx ((f, y) :: fs)) (by rw [ed]; exact True.intro) (.inl rfl) kk there (exd_ok hn (relO_put ry rel)))
end
/-- self.f = e, in an exception that is being made -/
def tOx (K : PySem.W.Frag) (nw : String) (tl : List Value) (f : Str) (to te : TE) : TS := fun D σ H => te σ H fun y H1 => to σ H1 fun x H2 => ∃ a C : Addr, x = .ref a ∧ XcC K C nw tl ∧ PySem.W.findIn K (.ref C) f = some none ∧
  ((H2 a = some (exo a C none) ∧ ∀ dx, H2 dx = none → dx ≠ a → D.nx σ (upd (upd H2 dx (exd dx [(f, y)])) a (exo a C (some dx)))) ∨
    ∃ (dx : Addr) (fs : List (Str × V)), H2 a = some (exo a C (some dx)) ∧ H2 dx = some (exd dx fs) ∧ fs.length ≤ 900 ∧ D.nx σ (upd H2 dx (exd dx ((f, y) :: fs))))
section
variable {X : Cx} {o e : Expr} {es : List Expr} {to te : TE} {ta : TA} {f : Str} {p p' p1 p2 pos : Pos} {B nw ini : String} {tl : List Value}
theorem ps_ox (b : XB B nw ini tl) (ho : PE X o to) (he : PE X e te) (hs : swapsWith e (some (.Attribute o f p')) pos.line X.env = pure false := by rfl) : PS X (.Assign [.Attribute o f p'] e pos) (tOx X.K nw tl f to te) := by
  refine ⟨fun pins s σ H D I h => ?_⟩
  refine plainObj_wpAny_Assign_Attribute (thn (he.run pins s σ H _ I h) fun v s1 ⟨y, H1, I1, r1, q1⟩ => thn (ho.run pins s1 σ H1 _ I1 q1) fun u s2 ⟨x, H2, I2, r2, a, C, ex, T, hno, q⟩ => ?_) hs
  subst ex
  cases r2
  rcases q with ⟨ea, q⟩ | ⟨dx, fs, ea, ed, hl, q⟩
  · exact xst_new b T I2 ea hno r1 fun dx s' n ne J => ⟨σ, _, J, q dx n ne⟩
  · exact xst_old b T I2 ea ed hl hno r1 fun s' J => ⟨σ, _, J, q⟩
end
end Mo
set_option Elab.async false
set_option linter.all false
set_option maxRecDepth 100000
set_option maxHeartbeats 4000000
namespace Mo
open PySem L2 PySem.Spec PyProof.Rows
/-- a def by what it does to the heap, nothing raised -/
structure FnS (P : Program) (w : World) (K : PySem.W.Frag) (mg : Str → Option Value) (base : Heap) (k : Nat) (f : Addr) (fd : FuncData) (ps : List Str) (sp : List V → Hp → VK → Prop) : Prop where
  run : ∀ (A : Around) (outer : List Env) (s : Shared) (H : Hp) (args : Args) (us : List Value) (vs : List V) (Q : VK), A.guards = some [] → Room k A → Env0 P w K mg base A outer s H → BindsTo s fd args (ps.zip us) → Vals vs us → vs.length = ps.length → sp vs H Q →
    codeAny (model P w) A (.call (.ref f) args) (CR CX0 outer P w H s Q E0) s
theorem fnS {P : Program} {w : World} {K : PySem.W.Frag} {mg : Str → Option Value} {base : Heap} {x qual : Str} {params : Arguments} {body : List Stmt} {scope : Scope} {dvs : List V} {kws : List (Str × V)} {f : Addr} {fd : FuncData} {N ps : List Str} {k : Nat} {t : TS} {sp : List V → Hp → VK → Prop}
    (F : FunD K x qual params body scope dvs kws f fd) (S : FnScope N ps scope)
    (hbody : ∀ (cdv : Value) (A : Around) (outer : List Env) (s : Shared) (H : Hp) (E : XK), PSs (cxOf CX0 P w K mg base N qual scope f cdv A outer s H E).nox body t)
    (hsp : ∀ vs H Q, vs.length = ps.length → sp vs H Q → t { nx := fun _ H' => Q .non H', rt := Q } (L2.start N vs) H) : FnS P w K mg base (k + 1) f fd ps sp := by
  obtain ⟨oc, od, dV, kV, doc, pm, an, cdv, ct, osl, rfl, lk, hcd, _, _⟩ := F.ex
  refine ⟨fun A outer s H args us vs Q hgd hr e0 hb r hl q => ?_⟩
  have KX : K.In s.heap := e0.mod.kin.keeps fun b o e => (e0.bs b o e).1
  have lim : s.heap.NoLimit := e0.mod.nolimit.keeps fun b o e => (e0.bs b o e).1
  refine codeAny_call_function hr.depth (KX _ _ lk) rfl S.co S.gen rfl (PySem.W.codeRec_of KX hcd) (hb _ _ _ _ ?_)
  refine wpAny_newFunctionEnv_cells S.kind (fun ⟨n, v⟩ hy => ?_) fun env he s1 x => ?_
  · rcases S.par n (List.of_mem_zip hy).1 with q | q
    · exact .inl q
    · exact .inr ⟨q, PySem.W.cellsFrom_some _ _ _ (.inl q)⟩
  subst he
  refine ⟨lim.keeps x.toInCall.keep, codeAny_func ?_⟩
  have ht := PSs.nox (hbody cdv A outer s H E0)
  have I : Inv (cxOf CX0 P w K mg base N qual scope f cdv A outer s H E0) [] (L2.start N vs) H s1 := inv_start S hr.hd e0 hl r x
  refine wpAny_mono (ht.run [] s1 (L2.start N vs) H _ I (hsp vs H Q hl q)) (fun fl s' hs => ?_) fun e s' hs => hs
  cases fl with
  | ret u =>
    obtain ⟨v, σ', H', J, rv, q⟩ := hs
    exact ⟨v, H', J.os, J.bare, J.base, J.hok, rv, q⟩
  | next =>
    obtain ⟨σ', H', J, q⟩ := hs
    exact ⟨V.non, H', J.os, J.bare, J.base, J.hok, rfl, q⟩
  | brk => obtain ⟨_, _, _, q⟩ := hs; exact q.elim
  | cont => obtain ⟨_, _, _, q⟩ := hs; exact q.elim
/-- an __init__ that keeps its arguments as fields, the last one first in fs -/
def spI (C : Addr) (ns : List Str) : List V → Hp → VK → Prop := fun vs H Q => ∃ a ws, vs = .ref a :: ws ∧ H a = some (exo a C none) ∧ ∀ dx, H dx = none → dx ≠ a → Q .non (upd (upd H dx (exd dx (ns.zip ws).reverse)) a (exo a C (some dx)))
section
variable {P : Program} {w : World} {K : PySem.W.Frag} {mg : Str → Option Value} {base : Heap} {x qual : Str} {params : Arguments} {body : List Stmt} {scope : Scope} {dvs : List V} {kws : List (Str × V)} {fI : Addr} {fd : FuncData} {C : Addr} {f g : Str} {p1 p2 p3 p4 p5 p6 p7 p8 : Pos} {B nw ini : String} {tl : List Value}
/-- one field -/
theorem init1 (b : XB B nw ini tl) (T : XcC K C nw tl) (hf : PySem.W.findIn K (.ref C) f = some none) (F : FunD K x qual params [.Assign [.Attribute (.Name "self" p1) f p2] (.Name f p3) p4] scope dvs kws fI fd) (S : FnScope ["self", f] ["self", f] scope)
    (v0 : Vis scope "self") (v1 : Vis scope f) (d1 : (f == ("__debug__" : Str)) = false) (d2 : (f == ("__classdict__" : Str)) = false)
    (hs : ∀ env : Env, swapsWith (.Name f p3) (some (.Attribute (.Name "self" p1) f p2)) p4.line env = pure false) : FnS P w K mg base 1 fI fd ["self", f] (spI C [f]) := by
  refine fnS (t := tOx K nw tl f (tVar 0) (tVar 1)) F S (fun cdv A outer s H E => pss_one (ps_ox b (pe_var (i := 0) rfl v0) (pe_var (i := 1) rfl v1 d1 d2) (hs _))) fun vs H Q hl h => ?_
  obtain ⟨a, ws, rfl, ea, q⟩ := h
  match ws, hl with
  | [w1], _ => exact ⟨w1, rfl, .ref a, rfl, a, C, rfl, T, hf, .inl ⟨ea, fun dx n ne => q dx n ne⟩⟩
end
end Mo
set_option Elab.async false
set_option linter.all false
set_option maxRecDepth 100000
set_option maxHeartbeats 4000000
namespace PySem.MoKw
open PySem.W PySem.Calls PyProof.Rows PySem.HandSPX
end PySem.MoKw
set_option Elab.async false
set_option linter.all false
set_option maxRecDepth 100000
set_option maxHeartbeats 4000000
namespace Mo
open PySem L2 PySem.Spec PyProof.Rows
/-- an own exception class with its own __init__: fields ns; by name the order pm of the names ks -/
structure XcI (P : Program) (w : World) (K : PySem.W.Frag) (mg : Str → Option Value) (base : Heap) (c : Str) (ns ks : List Str) (pm : List Nat) : Prop where
  ex : ∃ B nw ini tl, XB B nw ini tl ∧ XcC K (He.ga K c) nw tl
  gl : mg c = some (.ref (He.ga K c))
  iC : PySem.W.findIn K (.ref (He.ga K c)) "__init__" = some (some (.ref (He.ma K (He.ga K c) "__init__")))
  tI : PySem.W.typeIn K (.ref (He.ma K (He.ga K c) "__init__")) = some (.type "function")
  fn : ∃ fd, FnS P w K mg base 1 (He.ma K (He.ga K c) "__init__") fd (Str.ofString "self" :: ns) (spI (He.ga K c) ns) ∧ Binds K fd (Str.ofString "self" :: ns) [] ∧
    ∀ (s : Shared) (self : Value) (ws : List Value), ws.length = ns.length → BindsTo s fd ⟨[self], ks.zip ws⟩ ((Str.ofString "self" :: ns).zip (self :: permL pm ws))
theorem zip_rev {α β : Type} : ∀ {l : List α} {m : List β}, l.length = m.length → (l.zip m).reverse = l.reverse.zip m.reverse
  | [], [], _ => rfl
  | a :: l, b :: m, h => by
    have h : l.length = m.length := by simpa using h
    rw [List.zip_cons_cons, List.reverse_cons, zip_rev h, List.reverse_cons, List.reverse_cons, List.zip_append (by simpa using h)]
    rfl
end Mo
set_option Elab.async false
set_option linter.all false
set_option maxRecDepth 100000
set_option maxHeartbeats 4000000
namespace PySem.MoKw
open PySem.W PySem.Spec PySem.Calls PyProof.Rows
section
variable {prog : Program} {w : World} {A : Around} {E : Value → Shared → Prop} {s : Shared} {K : Frag} {x D : Addr} {ox : Obj} {od : Option Obj}
structure ExB (K : Frag) (D : Addr) : Prop where
  hg : findIn K (.ref D) "__getattribute__" = some (some (.builtin "BaseException.__getattribute__"))
  hk : findIn K (.ref D) "__getattr__" = some none
  hs : subIn K (.ref D) (.type "BaseException") = some true
  hd : hasDictIn K D = true
  ha : findIn K (.ref D) "__class__" = some (some (.builtin "object.__class__"))
  hn : specialIn K (.builtin "object.__class__") "__get__" = some (some (.builtin "getset_descriptor.__get__"))
  ht : takesIn K (.builtin "object.__class__") = some true
  hm : mroIn K D (.type "object") = some true
theorem fo_bind {C : Addr} {n : Str} {a g : Value} (hc : (clsIn K C).isSome = true) (ha : findIn K (.ref C) n = some (some a)) (hg : specialIn K a "__get__" = some (some g)) (ht : takesIn K a = some true) : findObj K C od n = some (.bind g a) := by
  obtain ⟨cd, hc⟩ := Option.isSome_iff_exists.mp hc
  unfold findObj
  rw [hc, Option.bind_some, ha, Option.bind_some]
  simp [hg, ht]
theorem cls_of {Q : Option Value → Shared → Prop} (C : ExB K D) (X : K.In s.heap) (I : InstAt s.heap x ox D od) (h : Q (some (.ref D)) { s with toks := s.toks + 1 }) : wpAny (model prog w) A (getAttr? (.ref x) "__class__") Q E s := by
  have hf : findObj K D od "__class__" = some (.bind (.builtin "getset_descriptor.__get__") (.builtin "object.__class__")) := fo_bind (by
    obtain ⟨cd, hc, _⟩ := any_some C.hd
    rw [hc]
    rfl) C.ha C.hn C.ht
  obtain ⟨hp, g, d, t, os⟩ := s
  have l0 := I.type (M := model prog w)
  have l1 := looks_findIn (M := model prog w) X C.hg
  have l2 := looks_findIn (M := model prog w) X C.hk
  have l3 := looks_find (M := model prog w) X I hf
  have l4 : Looks (model prog w) hp (isInstance (.ref x) (.type "BaseException")) true := l0.andThen (looks_subIn X C.hs)
  have n0 : (false && onTheHeap (Value.builtin "BaseException.__getattribute__")) = false := rfl
  have n2 : (Value.builtin "BaseException.__getattribute__" == Value.builtin "object.__getattribute__") = false := by decide +kernel
  have n1 : (onTheHeap (Value.ref D) && Value.builtin "BaseException.__getattribute__" == Value.builtin "object.__getattribute__") = false := by
    rw [n2]
    rfl
  unfold getAttr? getAttrBy? getAttrBy
  refine wpAny_bind (wpAny_mkText (wpAny_bind (wpAny_attempt (wpAny_holding (wpAny_bind (l0.at (wpAny_bind (l1.at ?_))))))))
  show wpAny _ _ (if (onTheHeap (Value.ref D) && Value.builtin "BaseException.__getattribute__" == Value.builtin "object.__getattribute__") = true then _ else _) _ _ _
  rw [n1, if_neg Bool.false_ne_true]
  unfold getAttrByItsOwn hookBefore
  refine wpAny_bind ?_
  rw [if_pos (show onTheHeap (Value.ref D) = true from rfl)]
  refine l2.at ?_
  refine wpAny_bind (wpAny_attempt (wpAny_holding ?_))
  unfold callGetattribute
  rw [n0, if_neg Bool.false_ne_true]
  unfold boundAndCalled
  rw [PySem.F.excAttr_ValueError.ga.bind (.ref x)]
  refine wpAny_bind (wpAny_pure ?_)
  show wpAny _ _ (call (.builtin "BaseException.__getattribute__") [.ref x, .str "__class__" t]) _ _ _
  refine wpAny_call (codeAny_call_builtin PySem.F.excAttr_ValueError.ga.plain PySem.F.entry_bexc_ga ?_)
  refine @check_slot (model prog w) _ _ ⟨hp, g, d, t + 1, os⟩ "BaseException.__getattribute__" "BaseException" "__getattribute__" (.ref x) [.str "__class__" t] [] _ (by decide +kernel) (by decide +kernel) l4 (PySem.F.args_bexc_ga (.ref x) (.str "__class__" t)) ?_
  unfold Builtin.«object.__getattribute__»
  refine wpAny_bind (wpAny_of_eq (a := ((Value.ref x : Value), [Value.str "__class__" t])) (by first | rfl | (simp only [slotArgs]; rfl)) ?_)
  refine wpAny_bind (wpAny_pure (wpAny_bind (l0.at (wpAny_bind (l3.at ?_)))))
  show wpAny _ _ (holding [Value.builtin "object.__class__"] (call (.builtin "getset_descriptor.__get__") [.builtin "object.__class__", .ref x, .ref D]) >>= ret) _ _ _
  refine wpAny_bind (wpAny_holding (wpAny_call (class_get (s := ⟨hp, g, d, t + 1, os⟩) (ox := ox) (od := od) X I C.hm ?_)))
  refine wpAny_pure ?_
  show wpAny _ _ (handedOut (.ref D)) _ _ _
  rw [handedOut_of (v := .ref D) rfl]
  first
    | exact wpAny_pure (wpAny_pure h)
    | exact wpAny_pure h
    | exact wpAny_pure (wpAny_bind (wpAny_pure (wpAny_pure h)))
theorem kitE (C : ExB K D) : KitX K (.ref x) (.ref D) (fun h => ∃ ox od, InstAt h x ox D od) where
  ty := fun _ _ _ I => by
    obtain ⟨ox, od, I⟩ := I
    exact I.type
  it := fun _ _ X _ => by
    obtain ⟨c1, h1, _⟩ := any_some C.hd
    unfold clsIn at h1
    split at h1
    · rename_i z1 z2 z3 z4 ho
      intro A' Q' E' s' k q
      unfold isType loadHead
      exact wpAny_bind (wpAny_loadPart (k _ _ (X _ _ ho)) (wpAny_pure q))
    · cases h1
  ne := fun h tp dd its n sl X htp => by
    obtain ⟨c1, h1, _⟩ := any_some C.hd
    refine Bool.eq_false_iff.mpr fun q => ?_
    have e : D = tp := Value.ref.inj (beq_iff_eq.mp q)
    subst e
    unfold clsIn at h1
    split at h1
    · rename_i z1 z2 z3 z4 ho
      cases (X _ _ ho).symm.trans htp
    · cases h1
  ca := fun X I k => by
    obtain ⟨ox, od, I⟩ := I
    exact cls_of C X I k
end
end PySem.MoKw
namespace Mo
open PySem L2 PySem.Spec PyProof.Rows
theorem zip_look {K : PySem.W.Frag} {s : Sx} {f : Str} {y : Dt} : ∀ {ns : List Str} {ds : List Dt} {vs : List V}, Reps K s ds vs → (ns.zip ds).lookup f = some y → ∃ v, (ns.zip vs).lookup f = some v ∧ Rep K s y v
  | [], _, _, _, h => by simp at h
  | _ :: _, [], _, _, h => by simp at h
  | n :: ns, d :: ds, _, rs, h => by
    obtain ⟨v, r, rfl, h1, h2⟩ := rs
    rw [List.zip_cons_cons, List.lookup_cons] at h ⊢
    by_cases e : f == n
    · rw [e] at h ⊢
      cases h
      exact ⟨v, rfl, h1⟩
    · have e : (f == n) = false := by simpa using e
      rw [e] at h ⊢
      exact zip_look h2 h
/-- what is told of the classes: own ones above each, the built-in one above it -/
structure IsXs (K : PySem.W.Frag) (bs : List Str) (tb : List (Str × List Str)) : Prop where
  ex : ∀ p ∈ tb, PySem.MoKw.ExB K (He.ga K p.1) ∧ ∀ b ∈ bs, PySem.W.kitOne K (.ref (He.ga K p.1)) (.ref (He.ga K b)) = some (decide (b ∈ p.2))
end Mo
set_option Elab.async false
set_option linter.all false
set_option maxRecDepth 100000
set_option maxHeartbeats 4000000
namespace Mo
open PySem L2 PySem.Spec PyProof.Rows
section
variable {X : Cx} {E : XK}
theorem look_mem {α β : Type} [BEq α] [LawfulBEq α] {x : α} {y : β} : ∀ {l : List (α × β)}, l.lookup x = some y → (x, y) ∈ l
  | [], h => by cases h
  | (a, b) :: l, h => by
    rw [List.lookup_cons] at h
    by_cases e : x == a
    · rw [e] at h
      cases h
      rw [eq_of_beq e]
      exact List.mem_cons_self
    · have e : (x == a) = false := by simpa using e
      rw [e] at h
      exact List.mem_cons_of_mem _ (look_mem h)
end
def keyP : Key → PyData
  | .inl i => .int i
  | .inr x => .str x
mutual
def toQ : Dt → Option PyData
  | .non => some .none
  | .bl b => some (.bool b)
  | .int i => some (.int i)
  | .str x => some (.str x)
  | .tup ds => (match toQs ds with
    | some ps => some (.tuple ps)
    | none => none)
  | .lv ds => (match toQs ds with
    | some ps => some (.list ps)
    | none => none)
  | .dk ks ds => (match toQs ds with
    | some ps => some (.dict ((ks.map keyP).zip ps))
    | none => none)
  | _ => none
def toQs : List Dt → Option (List PyData)
  | [] => some []
  | d :: ds => (match toQ d, toQs ds with
    | some p, some ps => some (p :: ps)
    | _, _ => none)
end
theorem toQs_len : ∀ {ds : List Dt} {ps : List PyData}, toQs ds = some ps → ps.length = ds.length
  | [], _, e => by cases e; rfl
  | d :: ds, _, e => by
    simp only [toQs] at e
    cases q1 : toQ d with
    | none => rw [q1] at e; simp at e
    | some p =>
      cases q2 : toQs ds with
      | none => rw [q1, q2] at e; simp at e
      | some ps =>
        rw [q1, q2] at e
        cases e
        rw [List.length_cons, List.length_cons, toQs_len q2]
section
variable {X : Cx} {pins : List (Addr × Obj)} {σ : L2.St} {s : Sx} {t : Shared}
theorem not_sys {H : Hp} (I : Inv X pins σ H t) (hk : (X.K.lookup sysModules).isSome = true) {a : Addr} {o : HO} (e : H a = some o) : a ≠ sysModules := fun z => by
  obtain ⟨ob, ho⟩ := Option.isSome_iff_exists.mp hk
  have := (I.bs _ _ (I.ok.mod.kin _ _ ho)).2
  rw [z, this] at e
  cases e
theorem pairs_keys {P : Program} {w : World} {h : Heap} : ∀ {es : List DictEntry} {kvs : List (Key × Value)}, Pairs (mixKind P w) es kvs → ReadsAll h (es.map (·.key)) (kvs.map fun q => keyP q.1) [] ∧ es.map (·.val) = kvs.map (·.2)
  | _, _, .nil => ⟨.nil, rfl⟩
  | _, _, .cons (e := e) (kv := kv) h1 h2 h3 => by
    obtain ⟨i1, i2⟩ := pairs_keys h3
    refine ⟨?_, by rw [List.map_cons, List.map_cons, h2, i2]⟩
    rw [List.map_cons, List.map_cons]
    have k : Reads h e.key (keyP kv.1) [] := by
      rcases keyIs_shape h1 with ⟨i, t, e1, e2⟩ | ⟨x, t, e1, e2⟩
      · rw [e1, e2]; exact .int i t
      · rw [e1, e2]; exact .str x t
    exact ReadsAll.cons k i1
mutual
theorem toQ_reads (I : Inv X pins σ s.H t) (r : HRel X.K s) (hk : (X.K.lookup sysModules).isSome = true) : ∀ {d : Dt} {v : V} {u : Value} {p : PyData}, Rep X.K s d v → RelV v u → toQ d = some p → ∃ as, Reads t.heap u p as ∧ sysModules ∉ as
  | .non, _, _, _, rv, ru, e => by cases rv; cases ru; cases e; exact ⟨_, .none, by simp⟩
  | .bl b, _, _, _, rv, ru, e => by cases rv; cases ru; cases e; exact ⟨_, .bool b, by simp⟩
  | .int i, _, _, _, rv, ru, e => by cases rv; obtain ⟨k, rfl⟩ := ru; cases e; exact ⟨_, .int i k, by simp⟩
  | .str x, _, _, _, rv, ru, e => by cases rv; obtain ⟨k, rfl⟩ := ru; cases e; exact ⟨_, .str x k, by simp⟩
  | .tup ds, _, _, _, rv, ru, e => by
    simp only [toQ] at e
    cases q : toQs ds with
    | none => rw [q] at e; cases e
    | some ps =>
      rw [q] at e; cases e
      obtain ⟨a, vs, rfl, sq, rs⟩ := tupR_ok rv (xs := ds) rfl
      cases ru
      obtain ⟨its, rv', ⟨o, ho, hc, n, hd⟩, _⟩ := I.tuple sq
      obtain ⟨as, h1, h2⟩ := toQs_reads I r hk rs rv' q
      exact ⟨_, .tuple ho hc hd h1, h2⟩
  | .lv ds, _, _, _, rv, ru, e => by
    simp only [toQ] at e
    cases q : toQs ds with
    | none => rw [q] at e; cases e
    | some ps =>
      rw [q] at e; cases e
      obtain ⟨a, vs, rfl, k, rs⟩ := rv
      cases ru
      obtain ⟨its, rv', ⟨o, n, ho, hc, _, hd⟩, _⟩ := I.list (.of k.1)
      obtain ⟨as, h1, h2⟩ := toQs_reads I r hk rs rv' q
      refine ⟨_, .list ho hc hd h1, fun z => ?_⟩
      rcases List.mem_cons.mp z with z | z
      · exact not_sys I hk k.1 z.symm
      · exact h2 z
  | .dk ks ds, _, _, _, rv, ru, e => by
    simp only [toQ] at e
    cases q : toQs ds with
    | none => rw [q] at e; cases e
    | some ps =>
      rw [q] at e; cases e
      obtain ⟨a, vs, rfl, k, l, rs⟩ := rv
      cases ru
      obtain ⟨_, sm, ws, kv, o, es, ep, ho, hx, hd, _, hp, _⟩ := dk_rd I.hok k.1
      have ne : a ≠ sysModules := by simpa using sm
      obtain ⟨k1, k2⟩ := pairs_keys (h := t.heap) hp
      have kv2 : ∀ {l : List (Key × V)} {m : List (Key × Value)}, KV l m → l.map (·.1) = m.map (·.1) ∧ Vals (l.map (·.2)) (m.map (·.2)) := by
        intro l m h
        induction h with
        | nil => exact ⟨rfl, .nil⟩
        | cons h1 h2 ih => exact ⟨by rw [List.map_cons, List.map_cons, h1.1, ih.1], .cons h1.2 ih.2⟩
      obtain ⟨m1, m2⟩ := kv2 kv
      have z1 : (ks.zip vs).map (·.1) = ks := by rw [List.map_fst_zip (by omega)]
      have z2 : (ks.zip vs).map (·.2) = vs := by rw [List.map_snd_zip (by omega)]
      rw [z1] at m1
      rw [z2, ← k2] at m2
      obtain ⟨as, h1, h2⟩ := toQs_reads I r hk rs m2 q
      have lp : ps.length = ks.length := by rw [toQs_len q, ← rs.length, l]
      have e1 : ((ks.map keyP).zip ps).map (·.1) = ks.map keyP := by rw [List.map_fst_zip (by simp; omega)]
      have e2 : ((ks.map keyP).zip ps).map (·.2) = ps := by rw [List.map_snd_zip (by simp; omega)]
      have k3 : ReadsAll t.heap (es.toList.map (·.key)) (((ks.map keyP).zip ps).map (·.1)) [] := by
        rw [e1, m1, List.map_map]
        exact k1
      refine ⟨_, .dict ho hx.1 hd k3 (by rw [e2]; exact h1), fun z => ?_⟩
      simp only [List.append_nil, List.mem_append, List.mem_cons, List.not_mem_nil, or_false] at z
      rcases z with z | z
      · exact ne z.symm
      · exact h2 z
  | .ty _, _, _, _, _, _, e => by simp [toQ] at e
  | .adr _, _, _, _, _, _, e => by simp [toQ] at e
  | .cl _, _, _, _, _, _, e => by simp [toQ] at e
  | .wt _, _, _, _, _, _, e => by simp [toQ] at e
  | .wl _, _, _, _, _, _, e => by simp [toQ] at e
  | .dt _ _, _, _, _, _, _, e => by simp [toQ] at e
  | .exc _ _ _, _, _, _, _, _, e => by simp [toQ] at e
  | .hot _ _ _ _ _, _, _, _, _, _, e => by simp [toQ] at e
  | .obj _, _, _, _, _, _, e => by simp [toQ] at e
theorem toQs_reads (I : Inv X pins σ s.H t) (r : HRel X.K s) (hk : (X.K.lookup sysModules).isSome = true) : ∀ {ds : List Dt} {vs : List V} {us : List Value} {ps : List PyData}, Reps X.K s ds vs → Vals vs us → toQs ds = some ps → ∃ as, ReadsAll t.heap us ps as ∧ sysModules ∉ as
  | [], _, _, _, rs, ru, e => by cases rs; cases ru; cases e; exact ⟨_, .nil, by simp⟩
  | d :: ds, _, _, _, rs, ru, e => by
    obtain ⟨v, r', rfl, h1, h2⟩ := rs
    simp only [toQs] at e
    cases q1 : toQ d with
    | none => rw [q1] at e; simp at e
    | some p =>
      cases q2 : toQs ds with
      | none => rw [q1, q2] at e; simp at e
      | some ps =>
        rw [q1, q2] at e
        cases e
        cases ru with
        | cons ru1 ru2 =>
          obtain ⟨as, a1, a2⟩ := toQ_reads I r hk h1 ru1 q1
          obtain ⟨bs, b1, b2⟩ := toQs_reads I r hk h2 ru2 q2
          exact ⟨_, .cons a1 b1, fun z => by rcases List.mem_append.mp z with z | z; exact a2 z; exact b2 z⟩
end
end
end Mo
set_option Elab.async false
set_option linter.all false
set_option maxRecDepth 100000
set_option maxHeartbeats 4000000
namespace Mo
open PySem L2 PySem.Spec PyProof.Rows
def showQ (p : PyData) : Bool := p.showable && decide (p.depth ≤ 60) && decide (p.shown.length ≤ sizeLine)
def xcB (K : PySem.W.Frag) (C : Addr) (nw : String) (tl : List Value) : Bool := (match K.lookup C with
  | some ⟨.type ty, _, .cls cd, sl⟩ => (match cd.mro, sl.toList with
    | .ref C' :: bm, [_, _, _, _, some (.builtin n), _] => decide (ty = "type") && (decide (C' = C) && (decide (n = nw) && (!cd.hasDel && (cd.hasDict && ovr tl bm))))
    | _, _ => false)
  | _ => false) && (decide (PySem.W.findIn K (.ref C) "__setattr__" = some (some (.builtin "object.__setattr__"))) && PySem.W.keepIn K (.ref C))
theorem xcB_ok {K : PySem.W.Frag} {C : Addr} {nw : String} {tl : List Value} (h : xcB K C nw tl = true) : XcC K C nw tl := by
  unfold xcB at h
  obtain ⟨h1, h2⟩ := Bool.and_eq_true_iff.mp h
  obtain ⟨h3, h4⟩ := Bool.and_eq_true_iff.mp h2
  refine ⟨?_, of_decide_eq_true h3, h4⟩
  split at h1
  · rename_i ty dd cd sl ho
    split at h1
    · rename_i C' bm k0 k1 k2 k3 n k5 hm hs
      simp only [Bool.and_eq_true, decide_eq_true_eq, Bool.not_eq_true'] at h1
      obtain ⟨rfl, rfl, rfl, hdel, hdct, ov⟩ := h1
      obtain ⟨nm, bs, mro, ns, qn, hd, sn, sub, ab, col, del⟩ := cd
      dsimp only at hm hdel hdct
      subst hm hdel hdct
      have hsl : sl = #[k0, k1, k2, k3, some (.builtin n), k5] := by
        obtain ⟨l⟩ := sl
        simp only at hs
        rw [hs]
      subst hsl
      exact ⟨nm, qn, ns, bs, bm, sn, sub, ab, col, dd, k0, k1, k2, k3, k5, ho, ov⟩
    · cases h1
  · cases h1
/-- its __init__ -/
def xiB (K : PySem.W.Frag) (c : Str) : Bool := decide (PySem.W.findIn K (.ref (He.ga K c)) "__init__" = some (some (.ref (He.ma K (He.ga K c) "__init__")))) && decide (PySem.W.typeIn K (.ref (He.ma K (He.ga K c) "__init__")) = some (.type "function"))
theorem xiB_ok {K : PySem.W.Frag} {c : Str} (h : xiB K c = true) : PySem.W.findIn K (.ref (He.ga K c)) "__init__" = some (some (.ref (He.ma K (He.ga K c) "__init__"))) ∧ PySem.W.typeIn K (.ref (He.ma K (He.ga K c) "__init__")) = some (.type "function") :=
  ⟨of_decide_eq_true (Bool.and_eq_true_iff.mp h).1, of_decide_eq_true (Bool.and_eq_true_iff.mp h).2⟩
open PySem.W in
def exB (K : PySem.W.Frag) (D : Addr) : Bool := decide (findIn K (.ref D) "__getattribute__" = some (some (.builtin "BaseException.__getattribute__"))) && (decide (findIn K (.ref D) "__getattr__" = some none) && (decide (subIn K (.ref D) (.type "BaseException") = some true) && (hasDictIn K D && (decide (findIn K (.ref D) "__class__" = some (some (.builtin "object.__class__"))) &&
  (decide (specialIn K (.builtin "object.__class__") "__get__" = some (some (.builtin "getset_descriptor.__get__"))) && (decide (takesIn K (.builtin "object.__class__") = some true) && decide (mroIn K D (.type "object") = some true)))))))
theorem exB_ok {K : PySem.W.Frag} {D : Addr} (h : exB K D = true) : PySem.MoKw.ExB K D := by
  simp only [exB, Bool.and_eq_true, decide_eq_true_eq] at h
  obtain ⟨h1, h2, h3, h4, h5, h6, h7, h8⟩ := h
  exact ⟨h1, h2, h3, h4, h5, h6, h7, h8⟩
def isXsB (K : PySem.W.Frag) (bs : List Str) (tb : List (Str × List Str)) : Bool := tb.all fun p => exB K (He.ga K p.1) && bs.all fun b => decide (PySem.W.kitOne K (.ref (He.ga K p.1)) (.ref (He.ga K b)) = some (decide (b ∈ p.2)))
theorem isXsB_ok {K : PySem.W.Frag} {bs : List Str} {tb : List (Str × List Str)} (h : isXsB K bs tb = true) : IsXs K bs tb := ⟨fun p hp => by
  obtain ⟨h1, h2⟩ := Bool.and_eq_true_iff.mp (List.all_eq_true.mp h p hp)
  exact ⟨exB_ok h1, fun b hb => of_decide_eq_true (List.all_eq_true.mp h2 b hb)⟩⟩
def xfsB (K : PySem.W.Frag) (cs : List Str) (f : Str) : Bool := cs.all fun c => xfB K (He.ga K c) && decide (PySem.W.findIn K (.ref (He.ga K c)) f = some none)
theorem xfsB_ok {K : PySem.W.Frag} {cs : List Str} {f : Str} (h : xfsB K cs f = true) : ∀ c ∈ cs, XfC K (He.ga K c) ∧ PySem.W.findIn K (.ref (He.ga K c)) f = some none := fun c hc => by
  obtain ⟨h1, h2⟩ := Bool.and_eq_true_iff.mp (List.all_eq_true.mp h c hc)
  exact ⟨xfB_ok h1, of_decide_eq_true h2⟩
section
variable {P : Program} {w : World} {K : PySem.W.Frag} {mg : Str → Option Value} {base : Heap} {x qual : Str} {params : Arguments} {body : List Stmt} {scope : Scope} {dvs : List V} {kws : List (Str × V)} {fI : Addr} {fd : FuncData} {C : Addr} {f g : Str} {p1 p2 p3 p4 p5 p6 p7 p8 : Pos} {B nw ini : String} {tl : List Value}
theorem initA (b : XB B nw ini tl) (T : XcC K C nw tl) (hf : PySem.W.findIn K (.ref C) f = some none) (F : FunD K x qual params body scope dvs kws fI fd) (S : FnScope [Str.ofString "self", f] [Str.ofString "self", f] scope) (hb : body = [.Assign [.Attribute (.Name (Str.ofString "self") p1) f p2] (.Name f p3) p4])
    (v0 : Vis scope (Str.ofString "self")) (v1 : Vis scope f) (d1 : (f == ("__debug__" : Str)) = false) (d2 : (f == ("__classdict__" : Str)) = false) (hs : ∀ env : Env, swapsWith (.Name f p3) (some (.Attribute (.Name (Str.ofString "self") p1) f p2)) p4.line env = pure false) : FnS P w K mg base 1 fI fd [Str.ofString "self", f] (spI C [f]) := by
  subst hb
  exact init1 b T hf F S v0 v1 d1 d2 hs
end
/-- binding by name, behind self -/
theorem kwBinds1 {K : PySem.W.Frag} {x qual : Str} {params : Arguments} {body : List Stmt} {scope : Scope} {kws : List (Str × V)} {f : Addr} {fd : FuncData} {ps ks : List Str} {pm : List Nat} {n : Nat} (F : FunD K x qual params body scope [] kws f fd)
    (h : ∀ (kV doc pm' : Value) (an : Option Addr) (cdv ct : Value) (self : Value) (us : List Value), us.length = n → bindArgs (PySem.W.fnOf x qual params body scope .none kV doc pm' an cdv ct) ⟨[self], ks.zip us⟩ = pure (ps.zip (self :: permL pm us))) (s : Shared) (self : Value) (us : List Value) (hl : us.length = n) : BindsTo s fd ⟨[self], ks.zip us⟩ (ps.zip (self :: permL pm us)) := by
  obtain ⟨oc, od, dV, kV, doc, pm, an, cdv, ct, osl, rfl, lk, hcd, hD, hK⟩ := F.ex
  rcases hD with ⟨_, rfl⟩ | ⟨e, _⟩
  · exact .of_eq (h kV doc pm an cdv ct self us hl)
  · exact absurd rfl e
end Mo
set_option Elab.async false
set_option linter.all false
set_option maxRecDepth 100000
set_option maxHeartbeats 4000000
namespace Mo
open PySem L2 PySem.Spec PyProof.Rows
def mLCountB : Dt → List Dt → Mm Dt := fun o ds h => match ds with
  | [.bl k] => (match (lstR h o).bind blsD with
    | some bs => .ok (.int (bs.count k : Nat)) h
    | none => .no)
  | _ => .no
theorem bls_reps {K : PySem.W.Frag} {s : Sx} : ∀ {zs : List Dt} {bs : List Bool} {vs : List V}, Reps K s zs vs → blsD zs = some bs → vs = bs.map V.bl
  | [], _, _, rs, e => by cases rs; cases e; rfl
  | z :: zs, bs, _, rs, e => by
    obtain ⟨v, r, rfl, h1, h2⟩ := rs
    cases z with
    | bl b =>
      simp only [blsD] at e
      cases q : blsD zs with
      | none => rw [q] at e; cases e
      | some cs =>
        rw [q] at e
        cases e
        cases h1
        rw [bls_reps h2 q]
        rfl
    | _ => cases e
theorem bls_reads {h : Heap} : ∀ {bs : List Bool} {its : List Value}, Vals (bs.map V.bl) its → ReadsAll h its (bs.map PyData.bool) []
  | [], _, r => by cases r; exact .nil
  | b :: bs, _, r => by
    cases r with
    | cons r1 r2 =>
      cases r1
      exact ReadsAll.cons (.bool b) (bls_reads r2)
theorem bls_count (k : Bool) : ∀ bs : List Bool, (bs.map PyData.bool).countP (fun y => PyData.eqv y (.bool k)) = bs.count k
  | [] => rfl
  | b :: bs => by
    rw [List.map_cons, List.countP_cons, bls_count k bs, List.count_cons]
    cases b <;> cases k <;> rfl
theorem bls_plain : ∀ bs : List Bool, PyData.plainAll (bs.map PyData.bool) = true
  | [] => by simp [PyData.plainAll]
  | b :: bs => by
    rw [List.map_cons]
    simp [PyData.plainAll, PyData.plain, bls_plain bs]
theorem bls_depth : ∀ bs : List Bool, PyData.depthAll (bs.map PyData.bool) = 0
  | [] => by simp [PyData.depthAll]
  | b :: bs => by
    rw [List.map_cons]
    simp [PyData.depthAll, PyData.depth, bls_depth bs]
theorem m_lcountB {X : Cx} {E : XK} (hu : X.A.units + 64 < cLine) : MtR X "list.count" (mM X.K E mLCountB) := fun pins s σ H x xs v us Q I rx rxs ⟨s1, d, ds, eH, r, rd, rs, ha⟩ => by
  subst eH
  unfold mLCountB at ha
  split at ha
  · rename_i k
    obtain ⟨w, rfl, rw'⟩ := rs.one
    cases rw'
    split at ha
    · rename_i bs hb
      cases q : lstR s1.h d with
      | none => rw [q] at hb; cases hb
      | some zs =>
        rw [q] at hb
        obtain ⟨p, vs, rfl, sq, rz⟩ := lstR_ok r rd q
        have ev := bls_reps rz hb
        subst ev
        cases rx
        obtain ⟨u, rfl, ru⟩ := rxs.one
        cases ru
        obtain ⟨its, rv, ⟨o, n, ho, hc, hdn, hdt⟩, hlen⟩ := I.list sq
        refine SeqAt.count_list_data (vs := its.toArray) (xs := bs.map PyData.bool) (d := .bool k) ⟨o, ho, hc, n, hdt⟩ (by simpa using bls_reads rv) (.bool k) (bls_plain bs) (by simp [PyData.plain]) (by rw [bls_depth]; simp; omega) ?_
        rw [bls_count]
        exact ⟨.int (bs.count k : Nat), s1.H, I.tok _, ⟨_, rfl⟩, fin r ha rfl⟩
    · exact ha.elim
  · exact ha.elim
end Mo
set_option Elab.async false
set_option linter.all false
set_option maxRecDepth 100000
set_option maxHeartbeats 4000000
namespace Mo
open PySem L2 PySem.Spec PyProof.Rows
end Mo
set_option Elab.async false
set_option linter.all false
set_option maxRecDepth 100000
set_option maxHeartbeats 4000000
namespace Mo
open PySem L2 PySem.Spec PyProof.Rows
end Mo
set_option Elab.async false
set_option linter.all false
set_option maxRecDepth 100000
set_option maxHeartbeats 4000000
namespace PySem.MoSp
open PySem PySem.W PyProof.Rows
section
variable {prog : Program} {w : World} {A : Around} {E : Value → Shared → Prop} {s : Shared} {K : Frag} {x C f : Addr} {ox : Obj} {od : Option Obj} {b tb : Value}
/-- str(x), x an instance with its own __str__ -/
theorem str_of (X : K.In s.heap) (I : InstAt s.heap x ox C od) (hs : findIn K (.ref C) "__str__" = some (some (.ref f))) (hf : isFn K (.ref f) = true) (hu : A.units < cLine) {Q : Value → Shared → Prop}
    (h : wpAny (model prog w) A (call (.ref f) [.ref x]) (fun v s' => ∃ y t, v = .str y t ∧ Q (.str y t) s') E s) : wpAny (model prog w) A (Builtin.Str.strOf (.ref x)) Q E s := by
  unfold Builtin.Str.strOf
  have h1 : Builtin.Str.isExactStr (.ref x) = false := rfl
  rw [h1]
  simp only [Bool.false_eq_true, if_false]
  try refine wpAny_bind (wpAny_pure ?_)
  refine wpAny_bind (wpAny_cRoomFor hu ?_)
  refine wpAny_bind (special_fn (args := []) X I hs (beq_iff_eq.mp hf) (wpAny_mono h (fun v s' hv => ?_) fun _ _ e => e))
  obtain ⟨y, t, rfl, hq⟩ := hv
  repeat (first | exact hq | exact wpAny_pure hq | wp_step)
end
end PySem.MoSp
set_option Elab.async false
set_option linter.all false
set_option maxRecDepth 100000
set_option maxHeartbeats 4000000
namespace PySem.MoSp
open PySem PySem.W PyProof.Rows
section
variable {prog : Program} {w : World} {A : Around} {E : Value → Shared → Prop} {s : Shared} {K : Frag} {x C f : Addr} {ox : Obj} {od : Option Obj}
/-- T(..), T built in, what its __new__ does told for this one run -/
theorem callT {T newId : String} {Bn : Builtin} {args : List Value} {Q : Value → Shared → Prop} (ft : TypeCalled T newId "object.__init__")
    (hne : (some newId != some "object.__new__") = true) (hct : checkTypeCall T ⟨args, []⟩ = pure ()) (hcn : checkBuiltinCall newId ⟨.type T :: args, []⟩ = pure ())
    (hok : ∀ obj, argsOk "object.__init__" ⟨obj :: args, []⟩) (entryN : entryFor table newId = some Bn)
    (h : wpAny (model prog w) A.in1.in1 (Bn ⟨.type T :: args, []⟩) (fun fin s' => match fin with
      | .done (.ret obj) => s'.TypeIs obj T ∧ Q obj s'
      | _ => False) E s) : wpAny (model prog w) A (call (.type T) args) Q E s := by
  obtain ⟨c, tl, hmro⟩ := ft.mro
  have hmade := ft.made
  have hsub := ft.sub
  refine wpAny_call (codeAny_of_tree ?_)
  show wpAny _ _ (callAny (.type T) _) _ _ _
  refine wpAny_pure ⟨Code.quiet_builtin _ (by decide +kernel), codeAny_builtin F.entry_type_call ?_⟩
  rw [Around.under_plain (weight_type_call_type T args []) (units_type_call_type T args [])]
  have n1 := ft.notType
  have n2 := ft.canCreate
  repeat (any_goals (first | assumption | wp_step))
  refine codeAny_call_builtin ft.plain entryN (wpAny_of_eq hcn (wpAny_mono h (fun fin s1 hr => ?_) fun _ _ z => z))
  cases fin with
  | again c => exact hr.elim
  | done fl =>
    cases fl with
    | ret obj =>
      obtain ⟨hT, hq⟩ := hr
      have hli := ft.init.lookup
      have hbi := ft.init.bind obj
      show wpAny _ _ _ _ _ _
      repeat (any_goals (first | assumption | wp_step))
      refine codeAny_mono (codeAny_call_builtin ft.init.plain F.entry_object_init (ft.init.check _ _ _ _ _ _ _ _ hT (hok obj) (object_init_meets ft.init.lookup ft.made hne prog w A.in1 (wants (fun r s2 => r = .none ∧ Q obj s2) E) s1 ⟨hT, rfl, hq⟩))) fun r2 s2 hr2 => ?_
      cases r2 with
      | error e => exact hr2
      | ok fl2 =>
        cases fl2 with
        | ret r =>
          obtain ⟨rfl, hq2⟩ := hr2
          repeat (any_goals (first | assumption | wp_step))
        | _ => exact hr2.elim
    | _ => exact hr.elim
theorem str_inst (X : K.In s.heap) (I : InstAt s.heap x ox C od) (hs : findIn K (.ref C) "__str__" = some (some (.ref f))) (hf : isFn K (.ref f) = true) (hu : A.in1.in1.units < cLine) {Q : Value → Shared → Prop}
    (h : wpAny (model prog w) A.in1.in1 (call (.ref f) [.ref x]) (fun v s' => ∃ y t, v = .str y t ∧ Q (.str y t) s') E s) : wpAny (model prog w) A (call (.type "str") [.ref x]) Q E s := by
  refine callT F.called_str (by decide) (F.typeCall_str_1 _) (F.newCall_str_1 _) (fun obj => F.args_object_init_2 obj _) F.entry_str_new ?_
  rw [str_new_tree]
  refine wpAny_bind (wpAny_pure ?_)
  refine wpAny_bind (wpAny_of_eq isSubtype_str_str ?_)
  refine wpAny_bind (str_of X I hs hf hu (wpAny_mono h (fun v s' hv => ?_) fun _ _ e => e))
  obtain ⟨y, t, rfl, hq⟩ := hv
  exact ⟨y, t, rfl, wpAny_pure ⟨typeIs_str _ _ _, hq⟩⟩
end
end PySem.MoSp
set_option Elab.async false
set_option linter.all false
set_option maxRecDepth 100000
set_option maxHeartbeats 4000000
namespace Mo
open PySem L2 PySem.Spec PyProof.Rows
section
variable {X : Cx} {K : PySem.W.Frag} {s : Sx} {c : Str} {fm : List Dt → Mm Dt} {k j : Nat} {g : Addr} {fd : FuncData} {ps : List Str}
theorem runG {A : Around} {pins : List (Addr × Obj)} {σ : L2.St} {H : Hp} {t : Shared} {Q : VK} {us : List Value} {vs : List V} {E' : Value → Shared → Prop} (hfr : A.frames = X.A.frames) (hgd : A.guards = some []) (hr : Room k A) (I : Inv X pins σ H t)
    (F : FnG X.prog X.w X.K X.mg X.base k g fd ps fm) (hb : Binds X.K fd ps []) (r : Vals vs us) (h : spM X.K ps.length fm vs H Q E0) : wpAny (model X.prog X.w) A (call (.ref g) us) (EP X pins σ Q) E' t := by
  have e := I.env0
  have e0 : Env0 X.prog X.w X.K X.mg X.base A X.stack t H := ⟨by rw [hfr]; exact e.frames, e.mod, e.bs, e.bsz, e.funs, e.frf, e.hok, e.bare⟩
  have hl : (us ++ []).length = ps.length := by
    rw [List.append_nil, ← r.length]
    exact spM_len h
  have bb := hb t us I.kIn hl
  rw [List.append_nil] at bb
  refine wpAny_call (codeAny_mono (F.run A X.stack t H ⟨us, []⟩ us vs Q hgd hr e0 bb r h) fun r s' hq => ?_)
  cases r with
  | error er => exact False.elim hq
  | ok fl =>
    cases fl with
    | ret u =>
      obtain ⟨v, H', I3, rv, q3⟩ := I.after hq
      exact ⟨v, H', I3, rv, q3⟩
    | next => exact False.elim hq
    | brk => exact False.elim hq
    | cont => exact False.elim hq
/-- a method that Python itself calls -/
structure SpH (P : Program) (w : World) (K : PySem.W.Frag) (mg : Str → Option Value) (base : Heap) (k : Nat) (c m : Str) (ps : List Str) (fm : List Dt → Mm Dt) : Prop where
  ex : ∃ fd, FnG P w K mg base k (He.ma K (He.ga K c) m) fd ps fm ∧ Binds K fd ps []
  at_ : PySem.W.findIn K (.ref (He.ga K c)) m = some (some (.ref (He.ma K (He.ga K c) m)))
  fn : PySem.W.isFn K (.ref (He.ma K (He.ga K c) m)) = true
/-- str(o), repr(o) -/
def strO (c : Str) (fm : List Dt → Mm Dt) : List Dt → Mm Dt := fun ds => match ds with
  | [d] => (fun h => if (insR c h d).isSome then .ok () h else .no) >>= fun _ => fm [d] >>= fun z => (match z with
    | .str x => Mm.pure (.str x)
    | _ => Mm.no)
  | _ => Mm.no
theorem strO_ok {pins : List (Addr × Obj)} {σ : L2.St} {t : Shared} {xs : List V} {us : List Value} {ds : List Dt} {Q : VK} {m : Str} (F : SpH X.prog X.w X.K X.mg X.base k c m ps fm) (hn : ps.length = 1) (I : Inv X pins σ s.H t) (r : HRel X.K s) (rd : Reps X.K s ds xs) (ru : Vals xs us)
    (q : After X.K E0 s (strO c fm ds s.h) (fun d s' => ∀ v, Rep X.K s' d v → Q v s'.H)) :
    ∃ a ox od, us = [.ref a] ∧ PySem.W.InstAt t.heap a ox (He.ga X.K c) od ∧
      ∀ (A : Around) (E' : Value → Shared → Prop), A.frames = X.A.frames → A.guards = some [] → Room k A → wpAny (model X.prog X.w) A (call (.ref (He.ma X.K (He.ga X.K c) m)) [.ref a]) (fun v s' => ∃ y tk, v = .str y tk ∧ EP X pins σ Q (.str y tk) s') E' t := by
  match ds, rd, q with
  | [d], rd, q =>
    obtain ⟨x, rfl, rx⟩ := rd.one
    have q1 := q.bind
    by_cases hc : (insR c s.h d).isSome = true
    · simp only [hc, if_true] at q1
      have q2 := After.ret (a := ()) r q1
      obtain ⟨fs, hi⟩ := Option.isSome_iff_exists.mp hc
      obtain ⟨i, a, dx, vs, rfl, rfl, ea, hh, h1, h2, h3⟩ := insR_ok r rx hi
      obtain ⟨u, rfl, ru1⟩ := L2.vals1 ru
      obtain rfl : u = Value.ref a := ru1
      obtain ⟨mA, O, _⟩ := ins_get I.hok h1
      obtain ⟨od, J, _⟩ := O.look
      refine ⟨a, _, _, rfl, J, fun A E' hfr hgd hr => ?_⟩
      obtain ⟨fd, G, B⟩ := F.ex
      refine wpAny_mono (runG (Q := fun v H => ∃ y, v = .str y ∧ Q (.str y) H) hfr hgd hr I G B (.cons (show RelV (.ref a) (.ref a) from rfl) .nil) ?_) (fun v s' hv => ?_) fun _ _ z => z
      · refine ⟨s, [.obj i], rfl, hn.symm, r, Reps.cons ⟨a, ea, rfl⟩ Reps.nil, ?_⟩
        refine q2.bind.mono fun z s3 x3 r3 q3 v rv => ?_
        cases z with
        | str y => cases rv; exact ⟨y, rfl, q3.ret r3 _ rfl⟩
        | _ => exact q3.elim
      · obtain ⟨w, H', I', rw', y, rfl, qq⟩ := hv
        obtain ⟨tk, rfl⟩ := (show ∃ tk, v = Value.str y tk from rw')
        exact ⟨y, tk, rfl, .str y, H', I', ⟨tk, rfl⟩, qq⟩
    · simp only [hc, if_false] at q1
      exact q1.elim
  | [], _, q => exact q.elim
  | _ :: _ :: _, _, q => exact q.elim
theorem b_strO (F : SpH X.prog X.w X.K X.mg X.base k c "__str__" ps fm) (hgd : X.A.guards = some []) (hr : Room j X.A) (hn : ps.length = 1 := by rfl) (hkj : k + 2 ≤ j := by decide) : CallR X (.type "str") (cM X.K E0 (strO c fm)) := by
  intro pins t σ H xs us Q I rx ⟨s, ds, eH, r, rs, q⟩
  subst eH
  obtain ⟨a, ox, od, rfl, J, call⟩ := strO_ok F hn I r rs rx q
  exact PySem.MoSp.str_inst I.kIn J F.at_ F.fn ((hr.mono hkj).in1.in1.mono (Nat.zero_le _)).units0 (call X.A.in1.in1 X.xe rfl hgd (hr.mono hkj).in1.in1)
structure IsD (K : PySem.W.Frag) (c : Str) : Prop where
  is : IsC K c
  no : ∀ t ∈ kindsT, PySem.W.kitOne K (.type t) (.ref (He.ga K c)) = some false
end
end Mo
set_option Elab.async false
set_option linter.all false
set_option maxRecDepth 100000
set_option maxHeartbeats 4000000
namespace Mo
open PySem L2 PySem.Spec PyProof.Rows
section
variable {X : Cx} {E : XK} {e : Expr} {ma : En → Mm Dt}
def mPopAt : Dt → List Dt → Mm Dt := fun o ds h => match o, ds with
  | .obj i, [.int n] => (match h[i]? with
    | some (.lst xs) => if 0 ≤ n ∧ n < 2 ^ 62 then (match xs[n.toNat]? with
      | some y => .ok y (h.set i (.lst (xs.eraseIdx n.toNat)))
      | none => .no) else .no
    | _ => .no)
  | _, _ => .no
theorem Reps.eraseIdx {K : PySem.W.Frag} {s : Sx} : ∀ {ds : List Dt} {vs : List V} (n : Nat), Reps K s ds vs → Reps K s (ds.eraseIdx n) (vs.eraseIdx n)
  | [], _, _, h => by cases h; exact rfl
  | _ :: _, _, 0, h => by obtain ⟨_, _, rfl, _, h2⟩ := h; exact h2
  | _ :: _, _, n + 1, h => by
    obtain ⟨w, _, rfl, h1, h2⟩ := h
    exact ⟨w, _, rfl, h1, Reps.eraseIdx n h2⟩
theorem m_popAt : MtR X "list.pop" (mM X.K E mPopAt) := mtR_mono mt_popAt fun x vs H Q ⟨s, d, ds, eH, r, rx, rs, ha⟩ => by
  subst eH
  unfold mPopAt at ha
  split at ha
  · rename_i i n
    obtain ⟨w, rfl, rw'⟩ := rs.one
    cases rw'
    obtain ⟨a, ea, rfl⟩ := rx
    split at ha
    · rename_i ys q
      split at ha
      · rename_i hb
        split at ha
        · rename_i y hy
          obtain ⟨ws, h1, h2⟩ := r.ob i a _ ea q
          have x := put_ext (u := .lst (ws.eraseIdx n.toNat)) (o' := .lst (ys.eraseIdx n.toNat)) r ea q (by intro z; cases z)
          have r' := put_rel (u := .lst (ws.eraseIdx n.toNat)) (o' := .lst (ys.eraseIdx n.toNat)) r ea q (by intro z; cases z) ⟨_, upd_same, (h2.ext x).eraseIdx _⟩
          obtain ⟨v, e1, rv⟩ := h2.get hy
          have hlt : n.toNat < ws.length := (List.getElem?_eq_some_iff.mp e1).1
          refine ⟨a, ws, n, n.toNat, v, rfl, rfl, h1, by omega, by omega, ?_, e1, ha.now _ rfl x r' _ (rv.ext x)⟩
          unfold seqIndex?
          have n0 : ¬ n < 0 := by omega
          have n1 : (n : Int) < (ws.length : Int) := by omega
          simp only [if_neg n0]
          rw [if_pos (by simp only [Bool.and_eq_true, decide_eq_true_eq]; omega)]
        · exact ha.elim
      · exact ha.elim
    · exact ha.elim
  · exact ha.elim
def revL : Dt → Mm Dt := fun d h => match lstR h d with
  | some xs => .ok (.lv xs.reverse) h
  | none => .no
theorem me_revL {k : Nat} {p1 p2 p3 pos : Pos} (h : PE X e (tE X.K E ma)) : PE X (.Subscript e (.Slice none none (some (.UnaryOp .USub (.Constant (.int 1) k p1) p2)) p3) pos) (tE X.K E (op1 revL ma)) := pe_mono (pe_revL h) fun σ H Q ⟨s, env, e, r, he, ha⟩ => by
  subst e
  refine tE_bind r he ha fun d s1 x x1 r1 e1 rx q1 => ?_
  unfold revL at q1
  split at q1
  · rename_i xs hx
    obtain ⟨a, vs, rfl, sq, rz⟩ := lstR_ok r1 rx hx
    exact ⟨a, vs, rfl, sq, fun p hp => q1.now (s1.new p (.lst vs.reverse)) rfl (new_ext r1 hp) (new_rel r1 hp) _ ⟨p, _, rfl, ⟨upd_same, (new_fx r1 hp).2⟩, (rz.reverse).ext (new_ext r1 hp)⟩⟩
  · exact q1.elim
def lstRg (ma : En → Mm Dt) : En → Mm Dt := fun env => ma env >>= fun d => match d with
  | .int n => if 0 ≤ n ∧ n ≤ 16777216 then mkO (.lst ((List.range n.toNat).map fun (i : Nat) => Dt.int i)) else Mm.no
  | _ => Mm.no
theorem reps_range {K : PySem.W.Frag} {s : Sx} : ∀ (l : List Nat), Reps K s (l.map fun (i : Nat) => Dt.int i) (l.map fun (i : Nat) => V.int (0 + (i : Int)))
  | [] => rfl
  | i :: l => ⟨_, _, rfl, by show V.int (0 + (i : Int)) = V.int i; rw [Int.zero_add], reps_range l⟩
theorem me_lstRg {p p2 pos pos2 : Pos} (hc : X.calm = true) (hg : Gl X "list") (hm : X.mg "list" = none) (hg2 : Gl X "range") (hm2 : X.mg "range" = none) (ha : PE X e (tE X.K E ma)) (na : starEach [e] X.env = (false, eval e X.env) :: starEach [] X.env := by rfl)
    (na2 : starEach [.Call (.Name "range" p2) [e] [] pos2] X.env = (false, eval (.Call (.Name "range" p2) [e] [] pos2) X.env) :: starEach [] X.env := by rfl) :
    PE X (.Call (.Name "list" p) [.Call (.Name "range" p2) [e] [] pos2] [] pos) (tE X.K E (lstRg ma)) := pe_mono (pe_listRg hc hg hm (prg_1 hg2 hm2 ha na) na2) fun σ H Q ⟨s, env, e, r, he, ha⟩ => by
  subst e
  unfold tLstRg tRg1
  refine tE_bind r he ha fun d s1 x x1 r1 e1 rx q1 => ?_
  cases d with
  | int n =>
    cases rx
    have q1 : After X.K E s1 ((if 0 ≤ n ∧ n ≤ 16777216 then mkO (.lst ((List.range n.toNat).map fun (i : Nat) => Dt.int i)) else Mm.no) s1.h) _ := q1
    split at q1
    · rename_i hn
      refine ⟨n, rfl, RgOk.of_le (Int.le_refl _) hn.2 (by omega) hn.1, fun p hp => ?_⟩
      obtain ⟨_, x, rp, kq⟩ := mkO_ok (u := .lst (rgV 0 n)) (o := .lst ((List.range n.toNat).map fun (i : Nat) => Dt.int i)) r1 hp ⟨_, upd_same, by
        unfold rgV
        rw [Int.sub_zero]
        exact reps_range _⟩ q1
      exact kq _ rp
    · exact q1.elim
  | _ => exact q1.elim
end
end Mo
set_option Elab.async false
set_option linter.all false
set_option maxRecDepth 100000
set_option maxHeartbeats 4000000
namespace Mo
open PySem L2 PySem.Spec PyProof.Rows
section
variable {X : Cx} {c : Str} {pos p : Pos} {mr : En → Mm (List Dt)} {fm : List Dt → Mm Dt} {k j n : Nat} {ps ks : List Str} {pm : List Nat} {kws : List Keyword}
def makeK (c : Str) (n : Nat) (pm : List Nat) (fm : List Dt → Mm Dt) (mr : En → Mm (List Dt)) : En → Mm Dt := fun env => mr env >>= fun ds => if ds.length + 1 = n then mkI c n fm (permL pm ds) else Mm.no
end
end Mo
set_option Elab.async false
set_option linter.all false
set_option maxRecDepth 100000
set_option maxHeartbeats 4000000
namespace Mo
open PySem L2 PySem.Spec PyProof.Rows
end Mo
set_option Elab.async false
set_option linter.all false
set_option maxRecDepth 100000
set_option maxHeartbeats 4000000
namespace Mo
open PySem L2 PySem.Spec PyProof.Rows
end Mo
set_option Elab.async false
set_option linter.all false
set_option maxRecDepth 100000
set_option maxHeartbeats 4000000
namespace Mo
open PySem L2 PySem.Spec PyProof.Rows
end Mo
set_option Elab.async false
set_option linter.all false
set_option maxRecDepth 100000
set_option maxHeartbeats 4000000
namespace Mo
open PySem L2 PySem.Spec PyProof.Rows
end Mo
set_option Elab.async false
set_option linter.all false
set_option maxRecDepth 100000
set_option maxHeartbeats 4000000
namespace Mo
open PySem L2 PySem.Spec PyProof.Rows
end Mo
set_option Elab.async false
set_option linter.all false
set_option maxRecDepth 100000
set_option maxHeartbeats 4000000
namespace Mo
open PySem L2 PySem.Spec PyProof.Rows
section
variable {X : Cx} {E : XK}
def bStrS : List Dt → Mm Dt := fun ds h => match ds with
  | [.str x] => .ok (.str x) h
  | _ => .no
theorem b_strS : CallR X (.type "str") (cM X.K E bStrS) := callR_mono SkE.call_str_str fun xs H Q ⟨s, ds, eH, r, rs, ha⟩ => by
  subst eH
  unfold bStrS at ha
  split at ha
  · obtain ⟨v, rfl, rv⟩ := rs.one
    cases rv
    exact ⟨_, rfl, fin r ha rfl⟩
  · exact ha.elim
end
variable {K : PySem.W.Frag} {c m : Str}
def spB (K : PySem.W.Frag) (c m : Str) : Bool := decide (PySem.W.findIn K (.ref (He.ga K c)) m = some (some (.ref (He.ma K (He.ga K c) m)))) && PySem.W.isFn K (.ref (He.ma K (He.ga K c) m))
theorem spB_ok (h : spB K c m = true) : PySem.W.findIn K (.ref (He.ga K c)) m = some (some (.ref (He.ma K (He.ga K c) m))) ∧ PySem.W.isFn K (.ref (He.ma K (He.ga K c) m)) = true := by
  unfold spB at h
  simpa only [Bool.and_eq_true, decide_eq_true_eq] using h
end Mo
set_option Elab.async false
set_option linter.all false
set_option maxRecDepth 100000
set_option maxHeartbeats 4000000
namespace Mo
open PySem L2 PySem.Spec PyProof.Rows
end Mo
set_option Elab.async false
set_option linter.all false
set_option maxRecDepth 100000
set_option maxHeartbeats 4000000
namespace Mo
open PySem L2 PySem.Spec PyProof.Rows
/-- what a def does that may raise: its own wish E of what leaves -/
def spX (K : PySem.W.Frag) (n : Nat) (fm : List Dt → Mm Dt) : Sp := fun vs H Q E => ∃ s ds, s.H = H ∧ ds.length = n ∧ HRel K s ∧ Reps K s ds vs ∧ After K E s (fm ds s.h) (fun d s' => ∀ v, Rep K s' d v → Q v s'.H)
theorem spX_len {K : PySem.W.Frag} {n : Nat} {fm : List Dt → Mm Dt} {vs : List V} {H : Hp} {Q : VK} {E : XK} (h : spX K n fm vs H Q E) : vs.length = n := by
  obtain ⟨s, ds, _, hl, _, rv, _⟩ := h
  rw [rv.length, hl]
structure FnX (P : Program) (w : World) (K : PySem.W.Frag) (mg : Str → Option Value) (base : Heap) (k : Nat) (f : Addr) (fd : FuncData) (ps : List Str) (fm : List Dt → Mm Dt) : Prop where
  run : ∀ (A : Around) (outer : List Env) (s : Shared) (H : Hp) (args : Args) (us : List Value) (vs : List V) (Q : VK) (E : XK), A.guards = some [] → Room k A → Env0 P w K mg base A outer s H → BindsTo s fd args (ps.zip us) → Vals vs us → spX K ps.length fm vs H Q E →
    codeAny (model P w) A (.call (.ref f) args) (CR (L2N.CX P w) outer P w H s Q E) s
theorem FnX.mono {P : Program} {w : World} {K : PySem.W.Frag} {mg : Str → Option Value} {base : Heap} {k j : Nat} {f : Addr} {fd : FuncData} {ps : List Str} {fm : List Dt → Mm Dt} (F : FnX P w K mg base k f fd ps fm) (h : k ≤ j) : FnX P w K mg base j f fd ps fm :=
  ⟨fun A outer s H args us vs Q E hg hr => F.run A outer s H args us vs Q E hg (hr.mono h)⟩
theorem fnXc {P : Program} {w : World} {K : PySem.W.Frag} {mg : Str → Option Value} {base : Heap} {x qual : Str} {params : Arguments} {body : List Stmt} {scope : Scope} {dvs : List V} {kws : List (Str × V)} {f : Addr} {fd : FuncData} {N ps : List Str} {k : Nat} {ms : En → Mm Fl}
    (F : FunD K x qual params body scope dvs kws f fd) (S : FnScope N ps scope)
    (hbody : ∀ (cdv : Value) (A : Around) (outer : List Env) (s : Shared) (H : Hp) (E : XK), CdV K f cdv qual → A.guards = some [] → Room k (A.deeper (envOfC qual scope s.heap.objs.size f cdv)) → PSs (cxOf (L2N.CX P w) P w K mg base N qual scope f cdv A outer s H E) body (tS K E ms)) :
    FnX P w K mg base (k + 1) f fd ps (fnM N.length ms) := by
  obtain ⟨co, ds, dvV, kwV, dc, pmo, ann, cde, ctr, sl, rfl, lkp, hcod, _, _⟩ := F.ex
  refine ⟨fun A outer s H args us vs Q E hgd hr e0 hb r hsp => ?_⟩
  have hlen := spX_len hsp
  have inK : K.In s.heap := e0.mod.kin.keeps fun b o e => (e0.bs b o e).1
  have nolim : s.heap.NoLimit := e0.mod.nolimit.keeps fun b o e => (e0.bs b o e).1
  refine codeAny_call_function hr.depth (inK _ _ lkp) rfl S.co S.gen rfl (PySem.W.codeRec_of inK hcod) (hb _ _ _ _ ?_)
  refine wpAny_newFunctionEnv_cells S.kind (fun ⟨n, v⟩ hy => ?_) fun env he s1 ic => ?_
  · rcases S.par n (List.of_mem_zip hy).1 with q | q
    · exact .inl q
    · exact .inr ⟨q, PySem.W.cellsFrom_some _ _ _ (.inl q)⟩
  subst he
  refine ⟨nolim.keeps ic.toInCall.keep, codeAny_func ?_⟩
  have bodyOk := hbody cde A outer s H E ⟨_, _, _, _, lkp, rfl, hcod⟩ hgd (hr.deeper _)
  have J0 : Inv (cxOf (L2N.CX P w) P w K mg base N qual scope f cde A outer s H E) [] (L2.start N vs) H s1 := inv_start S hr.hd e0 hlen r ic
  have asked : tS K E ms { nx := fun _ H' => Q .non H', rt := Q } (L2.start N vs) H := by
    obtain ⟨s2, ds, rfl, hl2, r2, rv, ha⟩ := hsp
    refine tS_bind r2 (envs_start rv) ha fun fl s3 x3 r3 q => ?_
    cases fl with
    | nx e => exact fun σ' he' => q.ret r3 _ rfl
    | rt d => exact fun v rv => q.ret r3 v rv
    | bk e => exact q.elim
    | ct e => exact q.elim
  refine wpAny_mono (bodyOk.run [] s1 (L2.start N vs) H _ J0 asked) (fun fl s' hs => ?_) fun e s' hs => hs
  cases fl with
  | ret u =>
    obtain ⟨v, σ', H', J, rv, q⟩ := hs
    exact ⟨v, H', J.os, J.bare, J.base, J.hok, rv, q⟩
  | next =>
    obtain ⟨σ', H', J, q⟩ := hs
    exact ⟨V.non, H', J.os, J.bare, J.base, J.hok, rfl, q⟩
  | brk => obtain ⟨_, _, _, q⟩ := hs; exact q.elim
  | cont => obtain ⟨_, _, _, q⟩ := hs; exact q.elim
/-- an expression that lets nothing out, where something may be let out -/
def noX {α : Type} (m : Mm α) : Mm α := fun h => match m h with
  | .ok a h' => .ok a h'
  | _ => .no
def noXE (m : En → Mm Dt) : En → Mm Dt := fun env => noX (m env)
theorem after_noX {α : Type} {K : PySem.W.Frag} {E E' : XK} {s : Sx} {m : Mm α} {k : α → Sx → Prop} (h : After K E s (noX m s.h) k) : After K E' s (m s.h) k := by
  unfold noX at h
  cases q : m s.h with
  | ok a h' => rw [q] at h; exact h
  | exn x h' => rw [q] at h; exact h.elim
  | no => rw [q] at h; exact h.elim
theorem me_noX {X : Cx} {E E' : XK} {e : Expr} {m : En → Mm Dt} (h : PE X e (tE X.K E' m)) : PE X e (tE X.K E (noXE m)) := pe_mono h fun σ H Q ⟨s, env, e, r, he, ha⟩ => ⟨s, env, e, r, he, after_noX ha⟩
theorem mr_noX {X : Cx} {E E' : XK} {es : List Expr} {m : En → Mm (List Dt)} (h : PA X es (tA X.K E' m)) : PA X es (tA X.K E (fun env => noX (m env))) := ⟨fun pos pins s σ H Q I ⟨s1, env, e, r, he, ha⟩ => h.run pos pins s σ H Q I ⟨s1, env, e, r, he, after_noX ha⟩⟩
theorem ms_noX {X : Cx} {E E' : XK} {st : Stmt} {m : En → Mm Fl} (h : PS X st (tS X.K E' m)) : PS X st (tS X.K E (fun env => noX (m env))) := ps_mono h fun D σ H ⟨s, env, e, r, he, ha⟩ => ⟨s, env, e, r, he, after_noX ha⟩
section
variable {X : Cx} {E : XK} {k : Nat} {f : Addr} {fd : FuncData} {ps ks : List Str} {fm : List Dt → Mm Dt} {x : Str} {p pos kpos : Pos} {e : Expr} {es : List Expr} {mr mk : En → Mm (List Dt)}
/-- what a callee may let out is taken here -/
abbrev TakesE (X : Cx) (E : XK) : Prop := L2N.Takes X (fun cls d _ H => E cls d H)
end
end Mo
set_option Elab.async false
set_option linter.all false
set_option maxRecDepth 100000
set_option maxHeartbeats 4000000
namespace Mo
open PySem L2 PySem.Spec PyProof.Rows
section
variable {X : Cx} {c : Str} {ns ks : List Str} {pm : List Nat} {E : XK}
theorem run_mkR {pins : List (Addr × Obj)} {σ : L2.St} {H : Hp} {t : Shared} {Q : XK} {us : List Value} {vs : List V} (M : XcI X.prog X.w X.K X.mg X.base c ns ks pm) (Tr : L2.Raises X (.ref (He.ga X.K c))) (hgd : X.A.guards = some []) (hr : Room 2 X.A) (hl : vs.length = ns.length) (h8 : ns.length ≤ 8) (I : Inv X pins σ H t) (r : Vals vs us)
    (h : ∀ dx, H dx = none → Q (.ref (He.ga X.K c)) (some dx) (upd H dx (.xd (ns.zip vs).reverse))) :
    wpAny (model X.prog X.w) X.A (call (.ref (He.ga X.K c)) us) (L2N.MkP X pins σ Q) X.xe t := by
  obtain ⟨B, nw, ini, tl, b, T⟩ := M.ex
  obtain ⟨fd, F, hb, _⟩ := M.fn
  obtain ⟨z1, z2, z3, z4, bm, z5, z6, z7, z8, z9, z10, z11, z12, z13, z14, hC, hbm⟩ := T.cls
  obtain ⟨hp, g, dr, tk, os⟩ := t
  have iC := M.iC
  have tI := M.tI
  generalize He.ma X.K (He.ga X.K c) "__init__" = fI at *
  generalize He.ga X.K c = C at *
  have hsz : hp.objs.size ≤ hp.objs.size + 1 := Nat.le_succ _
  have hn : H (hp.objs.size + 1) = none := I.hok.fresh hsz
  have kk : ∀ c o, hp.get? c = some o → ((hp.push (PySem.W.kdv_tup us)).push (PySem.HandSPX.excO C hp.objs.size)).get? c = some o := fun c o e => Heap.get?_push_of_some _ (Heap.get?_push_of_some _ e)
  have hget : ((hp.push (PySem.W.kdv_tup us)).push (PySem.HandSPX.excO C hp.objs.size)).get? (hp.objs.size + 1) = some (PySem.HandSPX.excO C hp.objs.size) := by heap_get
  have I2 := I.laid (t' := tk) (a := hp.objs.size + 1) (o := exo (hp.objs.size + 1) C none) (h' := (hp.push (PySem.W.kdv_tup us)).push (PySem.HandSPX.excO C hp.objs.size)) kk hsz (exo_ok hget)
  have r2 : Vals (V.ref (hp.objs.size + 1) :: vs) (Value.ref (hp.objs.size + 1) :: us) := .cons rfl r
  have hl2 : (Value.ref (hp.objs.size + 1) :: us ++ []).length = (Str.ofString "self" :: ns).length := by
    rw [List.append_nil, List.length_cons, List.length_cons, ← r.length, hl]
  have hus : us.length ≤ sizeLine := by
    rw [← r.length, hl, sizeLine_eq]
    omega
  have hbb := hb _ (Value.ref (hp.objs.size + 1) :: us) I2.kIn hl2
  rw [List.append_nil] at hbb
  refine wpAny_call (PySem.HandSPX.call_own b.f (fun Y => ovr_has b Y bm hbm) (I.kIn _ _ hC) (PySem.W.looks_findIn I.kIn iC) (fun self => PySem.W.bind_fn I.kIn self tI) hus
    (codeAny_mono (F.run _ X.stack _ _ ⟨Value.ref (hp.objs.size + 1) :: us, []⟩ (Value.ref (hp.objs.size + 1) :: us) _ (fun v H2 => v = .non ∧ ∃ dx, H dx = none ∧ dx ≠ hp.objs.size + 1 ∧ H2 = upd (upd H dx (exd dx (ns.zip vs).reverse)) (hp.objs.size + 1) (exo (hp.objs.size + 1) C (some dx))) (by rw [under_guards]; exact hgd) (hr.make C us []) (I2.env0.make C us []) hbb r2 (by rw [List.length_cons, hl, List.length_cons])
      ⟨_, vs, rfl, upd_same, fun dx n ne => ⟨rfl, dx, ?_, ne, ?_⟩⟩) fun r s' hq' => ?_))
  · rw [upd_ne ne] at n
    exact n
  · funext z
    by_cases h1 : z = hp.objs.size + 1
    · subst h1; rw [upd_same, upd_same]
    · rw [upd_ne h1, upd_ne h1]
      by_cases h2 : z = dx
      · subst h2; rw [upd_same, upd_same]
      · rw [upd_ne h2, upd_ne h2, upd_ne h1]
  · cases r with
    | error er => exact False.elim hq'
    | ok fl =>
      cases fl with
      | ret u =>
        obtain ⟨v, H', eos, bare, un, hok, rv, ev, dx, hd, ne, eH⟩ := hq'
        subst ev eH
        obtain ⟨h2, g2, d2, t2, os2⟩ := s'
        obtain ⟨t0, G, J, kG, ge, hoe, na⟩ := mk_end0 (d2 := d2) (t2 := t2) (d := dx) (C := C) (fs := (ns.zip vs).reverse) I hsz kk un hok eos bare upd_same (by rw [upd_ne ne, upd_same]) hd
        have eD : upd (del (upd (upd H dx (exd dx (ns.zip vs).reverse)) (hp.objs.size + 1) (exo (hp.objs.size + 1) C (some dx))) (hp.objs.size + 1)) dx (.xd (ns.zip vs).reverse) = upd H dx (.xd (ns.zip vs).reverse) := by
          funext z
          by_cases h1 : z = dx
          · subst h1; rw [upd_same, upd_same]
          · rw [upd_ne h1, upd_ne h1]
            by_cases h2 : z = hp.objs.size + 1
            · subst h2; rw [del_same, hn]
            · rw [del_ne h2, upd_ne h2, upd_ne h1]
        rw [eD] at J na
        exact ⟨rv, ⟨hp.objs.size + 1, _, _, ⟨G, g2, d2, t2, os2⟩, _, .ref C, some dx, rfl, J, kG, ge, hoe, ⟨rfl, rfl, fun vs e => by cases e; rfl⟩, rfl, rfl, na, rfl, bare, Tr, h dx hd⟩⟩
      | next => exact False.elim hq'
      | brk => exact False.elim hq'
      | cont => exact False.elim hq'
/-- raise C(e, ..) -/
def rai1 (c : Str) (ns : List Str) (ds : List Dt) : Mm Fl := if ds.length = ns.length then (fun h => .exn ⟨c, ns.reverse, ds.reverse⟩ h) else Mm.no
def rai (c : Str) (ns : List Str) (mr : En → Mm (List Dt)) : En → Mm Fl := fun env => mr env >>= rai1 c ns
theorem ms_raise {p pos rpos : Pos} {e : Expr} {es : List Expr} {mr : En → Mm (List Dt)} {j : Nat} (M : XcI X.prog X.w X.K X.mg X.base c ns ks pm) (Tr : L2.Raises X (.ref (He.ga X.K c))) (tk : TakesE X E) (hc : X.calm = true) (hgd : X.A.guards = some []) (hr : Room j X.A) (ha : PA X (e :: es) (tA X.K E mr)) (hj : 2 ≤ j := by decide) (h8 : ns.length ≤ 8 := by decide) (hg : Gl X c := by rfl) (hdb : (c == ("__debug__" : Str)) = false := by decide)
    (he : starEach (e :: es) X.env = (false, eval e X.env) :: starEach es X.env := by rfl) (hpl : (backTo pos (starEach es X.env)).any (·.1) = false := by rfl) : PS X (.Raise (some (.Call (.Name c p) (e :: es) [] pos)) none rpos) (tS X.K E (rai c ns mr)) := by
  have mk : L2N.PMk X (.Call (.Name c p) (e :: es) [] pos) (fun σ H Q => tA X.K E mr σ H fun vs H1 => vs.length = ns.length ∧ ∀ dx, H1 dx = none → Q (.ref (He.ga X.K c)) (some dx) (upd H1 dx (.xd (ns.zip vs).reverse))) := by
    intro pins t σ H Q I h
    obtain ⟨B, nw, ini, tl, b, T⟩ := M.ex
    refine wpAny_Call_Name_kw (ld_glob I hg M.gl ?_ hdb)
    exact PySem.W.callWith_K (h₀ := X.base) I.ok.mod.kin T.kC (thn (ha.run pos pins t σ H _ I h) fun us s1 ⟨vs, H1, I1, r, hl, q⟩ => ⟨I1.kIn, run_mkR M Tr hgd (hr.mono hj) hl h8 I1 r q⟩) he hpl
  refine ps_mono (L2N.ps_raise hc tk mk) fun D σ H ⟨s, env, eH, r, hen, ht⟩ => ?_
  subst eH
  refine tA_bind r hen ht fun ds s2 vs x2 r2 e2 rv q => ?_
  by_cases hl : ds.length = ns.length
  · have e9 : (rai1 c ns ds) s2.h = Rs.exn ⟨c, ns.reverse, ds.reverse⟩ s2.h := congrFun (if_pos hl : rai1 c ns ds = fun h => Rs.exn ⟨c, ns.reverse, ds.reverse⟩ h) s2.h
    replace q : After X.K E s2 (Rs.exn ⟨c, ns.reverse, ds.reverse⟩ s2.h) (flK X.K D) := e9 ▸ q
    have hl' : vs.length = ns.length := by rw [rv.length]; exact hl
    refine ⟨hl', fun dx hd => ?_⟩
    have x := new_ext (u := .xd (ns.zip vs).reverse) r2 hd
    have rn := new_rel (u := .xd (ns.zip vs).reverse) r2 hd
    refine q (s2.new dx (.xd (ns.zip vs).reverse)) _ _ rfl x rn ⟨rfl, .inr ⟨dx, vs.reverse, rfl, ⟨?_, fun ⟨i, o, e, _, _⟩ => r2.fresh hd e⟩, by simp [hl'], (rv.ext x).reverse⟩⟩
    show upd s2.H dx _ dx = _
    rw [upd_same, zip_rev hl'.symm]
  · have e9 : (rai1 c ns ds) s2.h = .no := congrFun (if_neg hl : rai1 c ns ds = Mm.no) s2.h
    replace q : After X.K E s2 .no (flK X.K D) := e9 ▸ q
    exact False.elim q
end
end Mo
set_option Elab.async false
set_option linter.all false
set_option maxRecDepth 100000
set_option maxHeartbeats 4000000
namespace Mo
open PySem L2 PySem.Spec PyProof.Rows
theorem fly_push {B h : Heap} {l : List Env} {a : Addr} {Z : Obj → Prop} (f : HandSPX.FlyingZ B l a Z h) (o : Obj) : HandSPX.FlyingZ B l a Z (h.push o) := by
  obtain ⟨f1, f2, f3, oe, vs, T, oT, ts, g1, g2, g3, g4, g5, g6, g7, g8, g9⟩ := f
  exact ⟨fun b u e => Heap.get?_push_of_some _ (f1 b u e), f2, Heap.FunFrames.of_keeps (fun b u e _ => ⟨u, Heap.get?_push_of_some _ e, rfl⟩) f3, oe, vs, T, oT, ts, Heap.get?_push_of_some _ g1, g2, g3, g4, g5, g6, Heap.get?_push_of_some _ g7, g8, g9⟩
/-- the ends behind a suite that unbinds slot i -/
abbrev endsT (i : Nat) (D : Ends) : Ends := { nx := fun σ' H' => D.nx (σ'.set i none) H', rt := D.rt, bk := fun σ' H' => D.bk (σ'.set i none) H', ct := fun σ' H' => D.ct (σ'.set i none) H' }
/-- what the clause wishes of an exception of the body: it is of one of both classes, and the suite -/
def wT (K : PySem.W.Frag) (c1 c2 : Value) (i : Nat) (ts : Addr → Value → Option Addr → TS) (D : Ends) : WX := fun cls d σ H =>
  PySem.W.exmAny K cls [c1, c2] = some true ∧ ∀ a, H a = none → ts a cls d (endsT i D) (σ.set i (some (.ref a))) H
section
variable {X : Cx} {x1 x2 n : Str} {c1 c2 : Value} {i kk : Nat} {body suite : List Stmt} {b₀ : Stmt} {q1 q2 tpos pos pos' : Pos} {tb : WX → TS} {ts : Addr → Value → Option Addr → TS}
theorem ps_tryT (hs : X.stack = X.env :: X.outer) (hf : X.env.frame = some X.env.locals) (hN : X.N.Nodup) (hi : X.N[i]? = some n) (hln : X.env.kindOf n = some .local) (hg1 : Gl X x1) (hm1 : X.mg x1 = some c1) (hg2 : Gl X x2) (hm2 : X.mg x2 = some c2)
    (hb : ∀ (W : WX) (pn : List (Addr × Obj)) (xe : Value → Shared → Prop), L2N.Takes (X.tr pn xe) W → PassesOwn (model X.prog X.w) X.A X.env xe → PSs (X.tr pn xe) body (tb W))
    (hsu : ∀ (a : Addr) (oe : Obj) (cls : Value) (d : Option Addr) (pn : List (Addr × Obj)), L2N.Zn cls d oe → (∃ vs, oe.data = .fields vs) → PSs (X.suite a ((a, oe) :: pn)) (b₀ :: suite) (ts a cls d))
    (d1 : (x1 == ("__debug__" : Str)) = false := by decide) (d2 : (x2 == ("__debug__" : Str)) = false := by decide) :
    PS X (.Try body [.ExceptHandler (some (.Tuple [.Name x1 q1, .Name x2 q2] kk tpos)) (some n) (b₀ :: suite) pos'] [] [] pos) (fun D σ H => tb (wT X.K c1 c2 i ts D) D σ H) := by
  refine ⟨fun pins t σ H D I0 hw => ?_⟩
  have okX := I0.ok
  have frA : X.A.frames = some (X.env :: X.outer) := by rw [okX.frames, hs]
  have locN : Loc X.env.scope n := .inl hln
  refine wpAny_Try_except ?_
  refine wpAny_mono ((hb (wT X.K c1 c2 i ts D) (X.pn ++ pins) (fun e t1 => wpAny (model X.prog X.w) X.A (noteFrame e X.env) (fun _ t2 => wpAny (model X.prog X.w) X.A (setFlight e none) (fun _ t3 =>
    wpAny (model X.prog X.w) X.A (handleBy e X.env [.ExceptHandler (some (.Tuple [.Name x1 q1, .Name x2 q2] kk tpos)) (some n) (b₀ :: suite) pos']) (SP X pins D) X.xe t3) X.xe t2) X.xe t1) (fun u t' air => ?_) PassesOwn.looking).run [] t σ H D (I0.toTry _) hw) (fun fl t1 hsp => ?_) (fun e t1 he => he)
  · obtain ⟨a, B, tI, pins', σ', H', cls, d, rfl, JT, nbT, upT, skT, naT, osT, agT, hmT, yesT⟩ := air
    have J0 : Inv X pins σ' H' tI := JT.ofTry okX
    have sk2 : L2.Sky B (X.env :: X.outer) a (L2N.Zn cls d) X.env.locals t'.heap := by rw [← hs]; exact skT
    show wpAny (model X.prog X.w) X.A (noteFrame (.ref a) X.env) _ _ _
    refine L2N.Sky.land L2N.Zn.steady frA hf sk2 fun g3 fly3 upg3 => ?_
    have K3 : Inv X pins σ' H' { t' with heap := g3 } := J0.landed nbT fly3.1 (upT.trans upg3) osT agT
    obtain ⟨ob3, vs3, get3, zn3, dat3⟩ := fly3.there
    have offFr : ∀ {g : Heap} {o : Obj} {vs : Array Value}, g.FunFrames B (X.env :: X.outer) → g.get? a = some o → o.data = .fields vs → a ∉ frs (X.env :: X.outer) := fun {g o vs} ff e dd hm => by
      obtain ⟨_, o', e', hnf⟩ := ff.mem hm
      rw [e] at e'; cases e'
      exact hnf _ dd
    have offL := offFr fly3.2.2.1 get3 dat3
    have neL : a ≠ X.env.locals := fun z => offL (List.mem_filterMap.mpr ⟨X.env, List.mem_cons_self, by rw [hf, z]⟩)
    have neF : a ∉ X.fs := fun hm => by
      obtain ⟨e, he, q⟩ := List.mem_filterMap.mp hm
      exact offL (List.mem_filterMap.mpr ⟨e, List.mem_cons_of_mem _ he, q⟩)
    have SS3 := K3.suite get3 dat3 naT neL neF
    refine wpAny_handleBy_cons (codeAny_handlers_test ?_) (by intro q; cases q)
    have LT3 : PySem.W.Looks (model X.prog X.w) g3 (typeOf (.ref a)) cls := fun A Q E s k q => wpAny_typeOf_ref (k _ _ get3) (by rw [zn3.1]; exact q)
    have grow : ∀ b o, g3.get? b = some o → (g3.push { cls := .type "tuple", data := .seq [c1, c2].toArray }).get? b = some o := fun b o e => Heap.get?_push_of_some _ e
    refine wpAny_Tuple ?_
    refine wpAny_items_cons (ld_glob (X := X.suite a ((a, ob3) :: (X.pn ++ pins))) SS3 hg1 hm1 ?_ d1)
    refine wpAny_items_cons (ld_glob (X := X.suite a ((a, ob3) :: (X.pn ++ pins))) SS3 hg2 hm2 ?_ d2)
    refine wpAny_items_nil ⟨by size_fits, ?_⟩
    have LM3 := PySem.W.exm_tup2 (M := model X.prog X.w) ((K3.kIn).keeps grow) (LT3.keeps grow) (Heap.get?_push_size g3 rfl) hmT
    refine LM3.here ?_
    have flyP := fly_push fly3 { cls := .type "tuple", data := .seq [c1, c2].toArray }
    refine codeAny_handlers_suite_as ?_
    refine HandSPX.lands_againZ flyP fun g4 fly4 upg4 => ?_
    have K4 : Inv X pins σ' H' { t' with heap := g4 } := J0.landed nbT fly4.1 (((upT.trans upg3).trans (Heap.UpToSlots.of_keeps grow)).trans upg4) osT agT
    obtain ⟨ob4, vs4, get4, zn4, dat4⟩ := fly4.there
    have SS4 := K4.suite get4 dat4 naT neL neF
    refine store_ok (X := X.suite a ((a, ob4) :: (X.pn ++ pins))) (v := .ref a) SS4 hN hi locN rfl (fun t5 SS5 => ?_) (.inr hln)
    refine wpAny_mono ((hsu a ob4 cls d (X.pn ++ pins) zn4 ⟨_, dat4⟩).run [] t5 _ H' _ SS5 (yesT a naT)) (fun fl t6 hsp => ?_) (fun _ _ z => False.elim z)
    have atEnd : ∀ {σ6 : L2.St} {H6 : Hp} {Q : Shared → Prop}, Inv (X.suite a ((a, ob4) :: (X.pn ++ pins))) [] σ6 H6 t6 → (∀ t7, Inv X pins (σ6.set i none) H6 t7 → Q t7) →
        wpAny (model X.prog X.w) X.A (do bindName X.env n .none; unbindBehindTheSuite X.env n pos') (fun _ t7 => Q t7) X.xe t6 := fun {σ6 H6 Q} S6 hq => gone_ok (S6.unsuite okX) hN hi hln hq
    cases fl with
    | next =>
      obtain ⟨σ6, H6, S6, r6⟩ := hsp
      exact atEnd S6 fun t7 J7 => ⟨_, _, J7, r6⟩
    | brk =>
      obtain ⟨σ6, H6, S6, r6⟩ := hsp
      exact atEnd S6 fun t7 J7 => ⟨_, _, J7, r6⟩
    | cont =>
      obtain ⟨σ6, H6, S6, r6⟩ := hsp
      exact atEnd S6 fun t7 J7 => ⟨_, _, J7, r6⟩
    | ret u =>
      obtain ⟨v6, σ6, H6, S6, rv6, r6⟩ := hsp
      exact atEnd S6 fun t7 J7 => ⟨_, _, _, J7, rv6, r6⟩
  · cases fl with
    | next =>
      obtain ⟨σ', H', JT, q⟩ := hsp
      exact wpAny_execs_nil ⟨σ', H', JT.ofTry okX, q⟩
    | brk =>
      obtain ⟨σ', H', JT, q⟩ := hsp
      exact ⟨σ', H', JT.ofTry okX, q⟩
    | cont =>
      obtain ⟨σ', H', JT, q⟩ := hsp
      exact ⟨σ', H', JT.ofTry okX, q⟩
    | ret u =>
      obtain ⟨v, σ', H', JT, rv, q⟩ := hsp
      exact ⟨v, σ', H', JT.ofTry okX, rv, q⟩
end
end Mo
set_option Elab.async false
set_option linter.all false
set_option maxRecDepth 100000
set_option maxHeartbeats 4000000
namespace Mo
open PySem L2 PySem.Spec PyProof.Rows HotX
/-- p's object is the exception that is handled: of the class c, d its dict -/
structure HotP (X : Cx) (p : Addr × Obj) (c : Str) (d : Option Addr) : Prop where
  inn : p ∈ X.pn
  hot : L2H.Hot1 X.A p
  zn : L2N.Zn (.ref (He.ga X.K c)) d p.2
  dat : ∃ vs, p.2.data = .fields vs
structure FnHM (P : Program) (w : World) (K : PySem.W.Frag) (mg : Str → Option Value) (base : Heap) (k : Nat) (f : Addr) (fd : FuncData) (ps : List Str) (fm : Addr → Option Addr → Str → List Dt → Mm Dt) : Prop where
  run : ∀ (A : Around) (outer : List Env) (s : Shared) (H : Hp) (args : Args) (us : List Value) (vs : List V) (Q : VK) (p : Addr × Obj) (c : Str) (d : Option Addr), A.guards = some [] → L2H.RoomH k A → L2H.Hot1 A p → L2H.PinOk outer H s p → L2N.Zn (.ref (He.ga K c)) d p.2 → (∃ vs, p.2.data = .fields vs) →
    Env0 P w K mg base A outer s H → BindsTo s fd args (ps.zip us) → Vals vs us → spM K ps.length (fm p.1 d c) vs H Q E0 → codeAny (model P w) A (.call (.ref f) args) (CR CX0 outer P w H s Q E0) s
theorem fnHM {P : Program} {w : World} {K : PySem.W.Frag} {mg : Str → Option Value} {base : Heap} {x qual : Str} {params : Arguments} {body : List Stmt} {scope : Scope} {dvs : List V} {kws : List (Str × V)} {f : Addr} {fd : FuncData} {N ps : List Str} {k : Nat} {ms : Addr → Option Addr → Str → En → Mm Fl}
    (F : FunD K x qual params body scope dvs kws f fd) (S : FnScope N ps scope)
    (hbody : ∀ (cdv : Value) (A : Around) (outer : List Env) (s : Shared) (H : Hp) (p : Addr × Obj) (c : Str) (d : Option Addr), A.guards = some [] → L2H.RoomH k (A.deeper (envOfC qual scope s.heap.objs.size f cdv)) → HotP (L2H.cxH CX0 P w K mg base N qual scope f cdv A outer s H E0 p).nox p c d →
      PSs (L2H.cxH CX0 P w K mg base N qual scope f cdv A outer s H E0 p).nox body (tS K E0 (ms p.1 d c))) :
    FnHM P w K mg base (k + 1) f fd ps (fun a d c => fnM N.length (ms a d c)) := by
  obtain ⟨co, ds, dvV, kwV, dc, pmo, ann, cde, ctr, sl, rfl, lkp, hcod, _, _⟩ := F.ex
  refine ⟨fun A outer s H args us vs Q p c d hgd hr hot hpin hz hdat e0 hb r hsp => ?_⟩
  have hlen := spM_len hsp
  have inK : K.In s.heap := e0.mod.kin.keeps fun b o e => (e0.bs b o e).1
  have nolim : s.heap.NoLimit := e0.mod.nolimit.keeps fun b o e => (e0.bs b o e).1
  refine codeAny_call_function hr.depth (inK _ _ lkp) rfl S.co S.gen rfl (PySem.W.codeRec_of inK hcod) (hb _ _ _ _ ?_)
  refine wpAny_newFunctionEnv_cells S.kind (fun ⟨n, v⟩ hy => ?_) fun env he s1 ic => ?_
  · rcases S.par n (List.of_mem_zip hy).1 with q | q
    · exact .inl q
    · exact .inr ⟨q, PySem.W.cellsFrom_some _ _ _ (.inl q)⟩
  subst he
  refine ⟨nolim.keeps ic.toInCall.keep, codeAny_func ?_⟩
  have bodyOk := PSs.nox (hbody cde A outer s H p c d hgd (hr.deeper _) ⟨List.mem_singleton.mpr rfl, hot, hz, hdat⟩)
  have J0 : Inv (L2H.cxH CX0 P w K mg base N qual scope f cde A outer s H E0 p) [] (L2.start N vs) H s1 := L2H.inv_startH S hpin e0 hlen r ic
  have asked : tS K E0 (ms p.1 d c) { nx := fun _ H' => Q .non H', rt := Q } (L2.start N vs) H := by
    obtain ⟨s2, ds, rfl, hl2, r2, rv, ha⟩ := hsp
    refine tS_bind r2 (envs_start rv) ha fun fl s3 x3 r3 q => ?_
    cases fl with
    | nx e => exact fun σ' he' => q.ret r3 _ rfl
    | rt d => exact fun v rv => q.ret r3 v rv
    | bk e => exact q.elim
    | ct e => exact q.elim
  refine wpAny_mono (bodyOk.run [] s1 (L2.start N vs) H _ J0 asked) (fun fl s' hs => ?_) fun e s' hs => hs
  cases fl with
  | ret u =>
    obtain ⟨v, σ', H', J, rv, q⟩ := hs
    exact ⟨v, H', J.os, J.bare, J.base, J.hok, rv, q⟩
  | next =>
    obtain ⟨σ', H', J, q⟩ := hs
    exact ⟨V.non, H', J.os, J.bare, J.base, J.hok, rfl, q⟩
  | brk => obtain ⟨_, _, _, q⟩ := hs; exact q.elim
  | cont => obtain ⟨_, _, _, q⟩ := hs; exact q.elim
section
variable {X : Cx} {E : XK} {k : Nat} {f : Addr} {fd : FuncData} {ps : List Str} {fm : Addr → Option Addr → Str → List Dt → Mm Dt} {x : Str} {qp pos : Pos} {e : Expr} {es : List Expr} {mr : En → Mm (List Dt)} {p : Addr × Obj} {c : Str} {d : Option Addr}
theorem me_callHM (F : FnHM X.prog X.w X.K X.mg X.base k f fd ps fm) (P : HotP X p c d) (hgd : X.A.guards = some []) (hr : L2H.RoomH k X.A) (hg : Gl X x) (hm : X.mg x = some (.ref f)) (hk : PySem.W.keepIn X.K (.ref f) = true) (hb : Binds X.K fd ps [])
    (ha : PA X (e :: es) (tA X.K E0 mr)) (hdb : (x == ("__debug__" : Str)) = false := by decide) (he : starEach (e :: es) X.env = (false, eval e X.env) :: starEach es X.env := by rfl) (hpl : (backTo pos (starEach es X.env)).any (·.1) = false := by rfl) :
    PE X (.Call (.Name x qp) (e :: es) [] pos) (tE X.K E0 (callM ps.length (fm p.1 d c) mr)) := by
  refine ⟨fun pins s σ H Q I h => ?_⟩
  refine wpAny_Call_Name_kw (ld_glob I hg hm ?_ hdb)
  have h2 : tA X.K E0 mr σ H fun vs H1 => spM X.K ps.length (fm p.1 d c) vs H1 Q E0 := by
    obtain ⟨s1, env, rfl, r, he, ha⟩ := h
    refine tA_bind r he ha fun ds s2 vs x2 r2 e2 rv q => ?_
    split at q
    · rename_i hlen
      exact ⟨s2, ds, rfl, hlen, r2, rv, q⟩
    · exact q.elim
  refine PySem.W.callWith_K (h₀ := X.base) I.ok.mod.kin hk (thn (ha.run pos pins s σ H _ I h2) fun us s1 ⟨vs, H1, J, r, q⟩ => ⟨J.kIn, ?_⟩) he hpl
  have bnd := hb s1 us J.kIn (by rw [List.append_nil, ← r.length]; exact spM_len q)
  rw [List.append_nil] at bnd
  have P1 := J.pin p (List.mem_append_left _ P.inn)
  have pinned : L2H.PinOk X.stack H1 s1 p := ⟨P1.1, P1.2.1, fun hm => (List.mem_cons.mp (J.stkSub p.1 hm)).elim P1.2.2.1 P1.2.2.2.1, P1.2.2.2.2⟩
  refine wpAny_call (codeAny_mono (F.run X.A X.stack s1 H1 ⟨us, []⟩ us vs Q p c d hgd hr P.hot pinned P.zn P.dat J.env0 bnd r q) fun res s' hq => ?_)
  cases res with
  | error e => exact False.elim hq
  | ok fl =>
    cases fl with
    | ret u => exact J.after hq
    | next => exact False.elim hq
    | brk => exact False.elim hq
    | cont => exact False.elim hq
/-- the caught exception as an object -/
theorem hot_inst {pins : List (Addr × Obj)} {σ : L2.St} {s : Sx} {t : Shared} {ns : List Str} {ds : List Dt} {v : V} (P : HotP X p c d) (I : Inv X pins σ s.H t) (rv : Rep X.K s (.hot p.1 d c ns ds) v) :
    v = .ref p.1 ∧ ∃ od, PySem.W.InstAt t.heap p.1 p.2 (He.ga X.K c) od := by
  obtain ⟨rfl, h⟩ := rv
  refine ⟨rfl, ?_⟩
  obtain ⟨vs0, hd0⟩ := P.dat
  have get := (I.pin p (List.mem_append_left _ P.inn)).1
  have nc : PySem.W.notCls p.2 = true := by unfold PySem.W.notCls; rw [hd0] <;> rfl
  rcases h with ⟨hd, _, _⟩ | ⟨dd, vs, hd, ⟨ed, _⟩, _, _⟩
  · exact ⟨none, get, P.zn.1, nc, by rw [P.zn.2.1, hd]; trivial⟩
  · have hx : ObjOk X.prog X.w s.H t.heap dd (.xd (ns.zip vs)) := I.hok dd _ ed
    obtain ⟨mA, hns, hr⟩ := hx
    obtain ⟨od, ho, hl⟩ := lookIn_ns hns
    exact ⟨some od, get, P.zn.1, nc, by rw [P.zn.2.1, hd]; exact ho⟩
/-- isinstance(e, C), e the caught exception -/
def bIsH (a0 : Addr) (d0 : Option Addr) (c0 : Str) (bs : List Str) (tb : List (Str × List Str)) : List Dt → Mm Dt := fun ds h => match ds with
  | [.hot a d c _ _, .cl b] => if a = a0 ∧ d = d0 ∧ c = c0 then (match tb.lookup c with
    | some l => if b ∈ bs then .ok (.bl (decide (b ∈ l))) h else .no
    | none => .no) else .no
  | _ => .no
theorem b_isH {bs : List Str} {tb : List (Str × List Str)} (C : IsXs X.K bs tb) (P : HotP X p c d) : CallR X (.builtin "isinstance") (cM X.K E (bIsH p.1 d c bs tb)) := fun pins s σ H xs us Q I rx ⟨s1, ds, eH, r, rs, ha⟩ => by
  subst eH
  unfold bIsH at ha
  split at ha
  · rename_i a0 d0 c0 ns ds b
    split at ha
    · rename_i same
      obtain ⟨rfl, rfl, rfl⟩ := same
      split at ha
      · rename_i l hl
        split at ha
        · rename_i hb
          obtain ⟨v1, r1, rfl, k1, v2, r2, rfl, k2, rfl⟩ := rs
          obtain ⟨rfl, od, J⟩ := hot_inst P I k1
          cases k2
          obtain ⟨e1, e2⟩ := C.ex _ (look_mem hl)
          cases rx with
          | cons ra rr =>
            cases rr with
            | cons rb rr =>
              cases rr
              cases ra
              cases rb
              exact PySem.W.kia_one (PySem.MoKw.kitE e1) I.kIn ⟨_, _, J⟩ (e2 b hb) (fun z => nomatch z) fun tk => ⟨.bl _, s1.H, I.kept (t' := tk) fun _ _ z => z, rfl, fin r ha rfl⟩
        · exact ha.elim
      · exact ha.elim
    · exact ha.elim
  · exact ha.elim
/-- e.f, e the caught exception -/
def fldH (a0 : Addr) (d0 : Option Addr) (c0 : Str) (cs : List Str) (f : Str) (z : Dt) : Mm Dt := fun h => match z with
  | .hot a d c ns ds => if (a = a0 ∧ d = d0 ∧ c = c0) ∧ c ∈ cs then (match (ns.zip ds).lookup f with
    | some y => .ok y h
    | none => .no) else .no
  | _ => .no
def hfld (a0 : Addr) (d0 : Option Addr) (c0 : Str) (cs : List Str) (f : Str) (mo : En → Mm Dt) : En → Mm Dt := fun env => mo env >>= fldH a0 d0 c0 cs f
theorem me_hfld {n : Str} {cs : List Str} {mo : En → Mm Dt} (hX : ∀ c ∈ cs, XfC X.K (He.ga X.K c) ∧ PySem.W.findIn X.K (.ref (He.ga X.K c)) n = some none) (P : HotP X p c d) (he : PE X e (tE X.K E mo)) (hb : attributeBase e n X.env (eval e X.env) = eval e X.env := by rfl) : PE X (.Attribute e n pos) (tE X.K E (hfld p.1 d c cs n mo)) := by
  refine ⟨fun pins t σ H Q I h => ?_⟩
  have h2 : tE X.K E mo σ H fun x H1 => ∃ s1 ns ds y, s1.H = H1 ∧ HRel X.K s1 ∧ Rep X.K s1 (.hot p.1 d c ns ds) x ∧ c ∈ cs ∧ (ns.zip ds).lookup n = some y ∧ ∀ v, Rep X.K s1 y v → Q v H1 := by
    obtain ⟨s1, env, rfl, r, he, ha⟩ := h
    refine tE_bind r he ha fun z s2 v x2 r2 e2 rv q => ?_
    unfold fldH at q
    split at q
    · rename_i a0 d0 c0 ns ds
      split at q
      · rename_i same
        obtain ⟨⟨rfl, rfl, rfl⟩, hc⟩ := same
        split at q
        · rename_i y hy
          exact ⟨s2, ns, ds, y, rfl, r2, rv, hc, hy, fun v rv => q.now s2 rfl (Ext.refl s2) r2 v rv⟩
        · exact q.elim
      · exact q.elim
    · exact q.elim
  refine attr_of hb (thn (he.run pins t σ H _ I h2) fun u t1 ⟨x, H1, I1, rx, s1, ns, ds, y, eH, r1, rv, hc, hy, q⟩ => ?_)
  subst eH
  obtain ⟨T, hno⟩ := hX c hc
  obtain ⟨rfl, hh⟩ := rv
  cases rx
  obtain ⟨vs0, hd0⟩ := P.dat
  have get := (I1.pin p (List.mem_append_left _ P.inn)).1
  have nc : PySem.W.notCls p.2 = true := by unfold PySem.W.notCls; rw [hd0] <;> rfl
  rcases hh with ⟨_, rfl, _⟩ | ⟨dd, vs, hd, ⟨ed, _⟩, l, rs⟩
  · simp at hy
  · have hx : ObjOk X.prog X.w s1.H t1.heap dd (.xd (ns.zip vs)) := I1.hok dd _ ed
    obtain ⟨mA, hns, hr⟩ := hx
    obtain ⟨od, ho, hl⟩ := lookIn_ns hns
    obtain ⟨v, hv, ry⟩ := zip_look rs hy
    obtain ⟨u, hu, ru⟩ := RelO.some_of (v := v) (o := mA n) (by rw [← hv]; exact hr n)
    have J : PySem.W.InstAt t1.heap p.1 p.2 (He.ga X.K c) (some od) := ⟨get, P.zn.1, nc, by rw [P.zn.2.1, hd]; exact ho⟩
    exact HandSPX.exc_get I1.kIn J T.ga T.gg T.exC (PySem.W.findObj_own T.hdC hno rfl (by rw [hl, hu])) (handed_of ru) ⟨v, s1.H, I1.tok _, ru, q v ry⟩
end
end Mo
set_option Elab.async false
set_option linter.all false
set_option maxRecDepth 100000
set_option maxHeartbeats 4000000
namespace Mo
open PySem L2 PySem.Spec PyProof.Rows
/-- the context of a lambda's body, an exception may leave it -/
def lamN (X : Cx) (A : Around) (outer : List Env) (s : Shared) (H : Hp) (E : XK) (scope : Scope) (f c' : Addr) : Cx :=
  (LamX.lamCx X A outer s H E0 scope f c').wish (fun e s' => wpAny (model X.prog X.w) (A.deeper (LamX.lamEnv X scope s.heap.objs.size f c')) (leaving (LamX.lamEnv X scope s.heap.objs.size f c') e) (fun _ s'' => L2N.CX X.prog X.w outer H s E e s'') (fun e' s'' => L2N.CX X.prog X.w outer H s E e' s'') s')
theorem lamN_takes {X : Cx} {A : Around} {outer : List Env} {s : Shared} {H : Hp} {E : XK} {scope : Scope} {f c' : Addr} : TakesE (lamN X A outer s H E scope f c') E := L2N.takes_of rfl rfl rfl rfl
section
variable {X : Cx} {pins : List (Addr × Obj)} {σ : L2.St} {H : Hp} {s : Shared}
/-- x(), in the try of the def that got the lambda -/
theorem pe_actX {Ng : List Str} {qg : Str} {sg : Scope} {g f c' : Addr} {cdg pm ctv : Value} {params : Arguments} {body : Expr} {scope : Scope} {k i : Nat} {a : Str} {pn : List (Addr × Obj)} {xe : Value → Shared → Prop} {W : WX} {tb : XK → TE} {p1 p2 : Pos}
    (I : Inv X pins σ H s) (L : LamX.LamS X.env.scope scope) (hf : s.heap.get? f = some (PySem.W.kla_obj "<lambda>" (X.env.qual ++ "<lambda>") params body scope (cloFrom X.env.cells scope.names []) pm c' ctv)) (hfn : H f = none) (hfr : f ∉ frs X.stack)
    (hbind : bindArgs (PySem.W.kla_fn "<lambda>" (X.env.qual ++ "<lambda>") params body scope (cloFrom X.env.cells scope.names []) pm (.ref c') ctv) ⟨[], []⟩ = pure [])
    (hgd : X.A.guards = some []) (hr : Room (k + 1) (X.A.deeper (envOfC qg sg s.heap.objs.size g cdg)))
    (hbody : ∀ (A : Around) (outer : List Env) (s : Shared) (H : Hp) (E : XK), A.guards = some [] → Room k (A.deeper (LamX.lamEnv X scope s.heap.objs.size f c')) → PE (lamN X A outer s H E scope f c') body (tb E))
    (tk : L2N.Takes ((cxOf CX0 X.prog X.w X.K X.mg X.base Ng qg sg g cdg X.A X.stack s H E0).tr pn xe) W)
    (hN : Ng[i]? = some a) (hv : Vis sg a) (hd : (a == ("__debug__" : Str)) = false := by decide) (hcd : (a == ("__classdict__" : Str)) = false := by decide) :
    PE ((cxOf CX0 X.prog X.w X.K X.mg X.base Ng qg sg g cdg X.A X.stack s H E0).tr pn xe) (.Call (.Name a p1) [] [] p2)
      (fun σZ HZ Q => σZ[i]? = some (some (.ref f)) ∧ HZ c' = some (LamX.CodeO c' (X.env.qual ++ "<lambda>")) ∧ tb (fun cls d H' => W cls d σZ H') σ HZ Q) := by
  refine ⟨fun pinsZ sZ σZ HZ Q IZ h => ?_⟩
  obtain ⟨slot, code, told⟩ := h
  refine wpAny_Call_Name_kw (thn ((pe_var (pos := p1) (i := i) hN hv hd hcd).run pinsZ sZ σZ HZ (fun v H1 => v = .ref f ∧ H1 = HZ) IZ ⟨.ref f, slot, rfl, rfl⟩) fun u s1 ⟨v, H1, J1, rv1, q1⟩ => ?_)
  obtain ⟨ev, eH⟩ := q1
  subst ev
  rw [eH] at J1
  obtain rfl : u = Value.ref f := rv1
  have getf : s1.heap.get? f = some (PySem.W.kla_obj "<lambda>" (X.env.qual ++ "<lambda>") params body scope (cloFrom X.env.cells scope.names []) pm c' ctv) := J1.base.keep f _ hf hfn hfr (fun z => nomatch (show f ∈ ([] : List Addr) from z))
  refine PySem.W.callWith_F0 ⟨_, _, _, _, getf⟩ ?_
  have unq : Un (frs X.stack) [] H HZ s.heap s1.heap := J1.base
  obtain ⟨⟨oc, vs, t, hoc, hdc, hvc⟩, _, _⟩ := J1.hok c' _ code
  have ran : codeAny (model X.prog X.w) (X.A.deeper (envOfC qg sg s.heap.objs.size g cdg)) (.call (.ref f) ⟨[], []⟩) (CR (L2N.CX X.prog X.w) (envOfC qg sg s.heap.objs.size g cdg :: X.stack) X.prog X.w HZ s1 Q (fun cls d H' => W cls d σZ H')) s1 := by
    refine PySem.W.kla_callFunE hr.depth getf rfl L.co L.gen rfl ⟨c', oc, vs, t, rfl, hoc, hdc, hvc⟩ ?_
    rw [hbind]
    refine wpAny_pure (wpAny_newFunctionEnv (fun y hy => (L.own y hy).2) (fun y hy => absurd hy (by simp)) (fun h₁ hns hsb => ⟨J1.nolimit.fresh _ hsb, ?_⟩) L.kind)
    show codeAny _ _ (.expr body (LamX.lamEnv X scope s1.heap.objs.size f c')) _ _
    have grow : ∀ b o, s1.heap.get? b = some o → h₁.get? b = some o := fun b o e => hsb.extBut b o (Nat.ne_of_lt (Heap.lt_size e)) (Heap.get?_push_of_some _ e)
    have J0 : Inv (LamX.lamCx X (X.A.deeper (envOfC qg sg s.heap.objs.size g cdg)) (envOfC qg sg s.heap.objs.size g cdg :: X.stack) s1 HZ E0 scope f c') [] σ HZ { s1 with heap := h₁, toks := s1.toks + ([] : List (Str × Value)).length } :=
      LamX.lam_start2 I L J1.env0 hr.hd unq hns grow
    refine PySem.W.kla_codeExpr (wpAny_mono ((hbody (X.A.deeper (envOfC qg sg s.heap.objs.size g cdg)) _ s1 HZ (fun cls d H' => W cls d σZ H') hgd (hr.deeper _)).run [] _ _ HZ Q (J0.wish _) told) (fun v s' hq => ?_) fun e s' hq => hq)
    obtain ⟨w', H', J', rv, q⟩ := hq
    exact ⟨w', H', J'.os, J'.bare, J'.base, J'.hok, rv, q⟩
  refine wpAny_call (codeAny_mono ran fun res s' hq => ?_)
  cases res with
  | error e => exact tk e s' (L2N.XE.of_call J1 (fun _ _ _ q => q) hq)
  | ok fl =>
    cases fl with
    | ret u => exact J1.after hq
    | next => exact False.elim hq
    | brk => exact False.elim hq
    | cont => exact False.elim hq
end
/-- what m tells, or what tf tells of what it raises -/
def toldM (tf : Xv → Mm Dt) (mr : Dt → Mm Dt) (mb : En → Mm Dt) : En → Mm Dt := fun env h => match mb env h with
  | .ok d h' => mr d h'
  | .exn x h' => noX (tf x) h'
  | .no => .no
/-- the def's slots, one of them set -/
def slotE (n i : Nat) (d : Dt) : En := (List.replicate n none).set i (some d)
theorem slot_envs {K : PySem.W.Frag} {s : Sx} {n i : Nat} {d : Dt} {v : V} {σ : L2.St} (hl : σ.length = n) (rv : Rep K s d v) : Envs K s (slotE n i d) (σ.set i (some v)) := by
  refine ⟨by simp [slotE, hl], fun j z e => ?_⟩
  unfold slotE at e
  rw [List.getElem?_set] at e ⊢
  by_cases c : i = j
  · subst c
    by_cases l : i < n
    · rw [if_pos rfl, if_pos (by simpa using l)] at e
      rw [if_pos rfl, if_pos (by omega)]
      cases e
      exact ⟨v, rfl, rv⟩
    · rw [if_pos rfl, if_neg (by simpa using l)] at e
      cases e
  · rw [if_neg c] at e
    have := List.mem_of_getElem? e
    simp at this
theorem pss_ex {X : Cx} {α : Type} {st : List Stmt} {P : α → Prop} {t : α → TS} (h : ∀ a, P a → PSs X st (t a)) : PSs X st (fun D σ H => ∃ a, P a ∧ t a D σ H) := ⟨fun pins s σ H D I ⟨a, pa, q⟩ => (h a pa).run pins s σ H D I q⟩
section
variable {X : Cx}
theorem me_told {x a b n x1 x2 : Str} {g c P : Addr} {c1 c2 : Value} {k ib ie kk : Nat} {pg : Arguments} {bg : List Stmt} {sg : Scope} {fd : FuncData} {Ng : List Str} {params : Arguments} {body : Expr} {scope : Scope} {mb : En → Mm Dt} {p lpos pos p1 p2 p3 p4 p5 p9 q1 q2 tpos pos' : Pos} {b0 : Stmt} {suite : List Stmt} {ret : Expr} {mret : En → Mm Dt} {msu : Addr → Option Addr → Str → En → Mm Fl} {tf : Xv → Mm Dt}
    (hg : Gl X x) (hm : X.mg x = some (.ref g)) (hk : PySem.W.keepIn X.K (.ref g) = true) (F : FunD X.K x x pg bg sg [] [] g fd) (hb : Binds X.K fd [a] []) (Sg : FnScope Ng [a] sg)
    (hbg : bg = [.Try [.Assign [.Name b p1] (.Call (.Name a p2) [] [] p3) p4] [.ExceptHandler (some (.Tuple [.Name x1 q1, .Name x2 q2] kk tpos)) (some n) (b0 :: suite) pos'] [] [] p5, .Return (some ret) p9])
    (hNa : Ng[0]? = some a) (hNb : Ng[ib]? = some b) (hNe : Ng[ie]? = some n) (hva : sg.names.lookup a = some .local) (hvb : sg.names.lookup b = some .local) (hve : sg.names.lookup n = some .local)
    (hg1 : sg.names.lookup x1 = some .globalImplicit) (hm1 : X.mg x1 = some c1) (hg2 : sg.names.lookup x2 = some .globalImplicit) (hm2 : X.mg x2 = some c2)
    (hsu : ∀ (cdv : Value) (s' : Shared) (H1 : Hp) (pn : List (Addr × Obj)) (pp : Addr × Obj) (cc : Str) (d : Option Addr), L2H.RoomH (k + 1) ((cxOf CX0 X.prog X.w X.K X.mg X.base Ng x sg g cdv X.A X.stack s' H1 E0).suite pp.1 (pp :: pn)).A →
      HotP ((cxOf CX0 X.prog X.w X.K X.mg X.base Ng x sg g cdv X.A X.stack s' H1 E0).suite pp.1 (pp :: pn)) pp cc d → PSs ((cxOf CX0 X.prog X.w X.K X.mg X.base Ng x sg g cdv X.A X.stack s' H1 E0).suite pp.1 (pp :: pn)) (b0 :: suite) (tS X.K E0 (msu pp.1 d cc)))
    (hret : ∀ (cdv : Value) (s' : Shared) (H1 : Hp), PE (cxOf CX0 X.prog X.w X.K X.mg X.base Ng x sg g cdv X.A X.stack s' H1 E0) ret (tE X.K E0 mret))
    (htf : ∀ z h v h', tf z h = .ok v h' → PySem.W.exmAny X.K (.ref (He.ga X.K z.cls)) [c1, c2] = some true ∧ ∀ a d, msu a d z.cls (slotE Ng.length ie (.hot a d z.cls z.ns z.ds)) h = .ok (.rt v) h')
    (TB : LamX.TabB X.base X.mg c P) (hcode : X.env.code = .ref c) (hmT : (P, X.env.qual ++ "<lambda>") ∈ LT X.K) (hu : ∀ p ∈ LT X.K, p.1 = P → p.2 = X.env.qual ++ "<lambda>") (hgd : X.A.guards = some []) (hr : Room (k + 2) X.A) (L : LamX.LamS X.env.scope scope) (hdef : defaultsOf params X.env = ([], []))
    (hbind : ∀ (q : Str) (cl : List (Str × Addr)) (pm cv ctv : Value), bindArgs (PySem.W.kla_fn "<lambda>" q params body scope cl pm cv ctv) ⟨[], []⟩ = pure [])
    (hbody : ∀ (A : Around) (outer : List Env) (s : Shared) (H : Hp) (E : XK) (f c' : Addr), A.guards = some [] → Room k (A.deeper (LamX.lamEnv X scope s.heap.objs.size f c')) → PE (lamN X A outer s H E scope f c') body (tE X.K E mb))
    (hdb : (x == ("__debug__" : Str)) = false := by decide) (hda : (a == ("__debug__" : Str)) = false := by decide) (hca : (a == ("__classdict__" : Str)) = false := by decide) (d1 : (x1 == ("__debug__" : Str)) = false := by decide) (d2 : (x2 == ("__debug__" : Str)) = false := by decide) :
    PE X (.Call (.Name x p) [.Lambda params body scope lpos] [] pos) (tE X.K E0 (toldM tf (fun d => mret (slotE Ng.length ib d)) mb)) := by
  obtain ⟨co, od, dvV, kwV, dc, pmo, ann, cde, ctr, sl, rfl, lkp, hcod, _, _⟩ := F.ex
  subst hbg
  refine ⟨fun pins s σ H Q I h => ?_⟩
  obtain ⟨s1, env, rfl, r, he, ha⟩ := h
  refine wpAny_Call_Name_kw (ld_glob I hg hm ?_ hdb)
  refine PySem.W.callWith_K (h₀ := X.base) I.ok.mod.kin hk ?_ (by rfl) (by rfl)
  show wpAny _ _ (spliced ((false, eval (.Lambda params body scope lpos) X.env) :: backTo pos (starEach [] X.env))) _ _ s
  refine Calls.spliced_cons (LamX.lam_make2 I TB hcode hmT hu r.tb hdef (L.has I.ok) fun f c' pm' ctv H1 s' I1 eN T1 hf hfn hfr hco => ?_)
  refine Calls.spliced_nil ⟨I1.kIn, ?_⟩
  obtain ⟨x2', r2⟩ := lam_state r eN T1
  have e2 := he.ext x2'
  have lenN : (L2.start Ng [V.ref f]).length = Ng.length := by
    have hpl : 1 ≤ Ng.length := by
      cases Ng with
      | nil => simp at hNa
      | cons _ _ => simp
    simp [L2.start]
    omega
  have ran : codeAny (model X.prog X.w) X.A (.call (.ref g) ⟨[.ref f], []⟩) (CR CX0 X.stack X.prog X.w H1 s' Q E0) s' := by
    refine LamX.run_ofS (CX := CX0) (N := Ng) (ps := [a]) (us := [.ref f]) (vs := [.ref f]) lkp hcod Sg hr I1.env0 (hb s' [.ref f] I1.kIn rfl) (.cons rfl .nil) rfl fun hr' => ?_
    have st1 : ∀ (W : WX) (pn : List (Addr × Obj)) (xe : Value → Shared → Prop), L2N.Takes ((cxOf CX0 X.prog X.w X.K X.mg X.base Ng x sg g cde X.A X.stack s' H1 E0).tr pn xe) W → PassesOwn (model X.prog X.w) (cxOf CX0 X.prog X.w X.K X.mg X.base Ng x sg g cde X.A X.stack s' H1 E0).A (cxOf CX0 X.prog X.w X.K X.mg X.base Ng x sg g cde X.A X.stack s' H1 E0).env xe →
        PSs ((cxOf CX0 X.prog X.w X.K X.mg X.base Ng x sg g cde X.A X.stack s' H1 E0).tr pn xe) [.Assign [.Name b p1] (.Call (.Name a p2) [] [] p3) p4] _ := fun W pn xe tk _ =>
      pss_one (ps_set (i := ib) Sg.nd hNb (.inl hvb) (pe_actX (Ng := Ng) (qg := x) (sg := sg) (g := g) (cdg := cde) (i := 0) (a := a) (W := W) (p1 := p2) (p2 := p3) I1 L hf hfn hfr (hbind _ _ _ _ _) hgd hr' (fun A outer s H E hgA hr2 => hbody A outer s H E f c' hgA hr2) tk hNa (.inl hva) hda hca) rfl (.inr hvb))
    have tryOk := ps_tryT (X := cxOf CX0 X.prog X.w X.K X.mg X.base Ng x sg g cde X.A X.stack s' H1 E0) (q1 := q1) (q2 := q2) (kk := kk) (tpos := tpos) (pos := p5) (pos' := pos') rfl rfl Sg.nd hNe hve hg1 hm1 hg2 hm2 st1 (ts := fun a cls d D σ H => ∃ cc, cls = .ref (He.ga X.K cc) ∧ tS X.K E0 (msu a d cc) D σ H) (fun a oe cls d pn hz hdat => pss_ex fun cc ecc => by
      subst ecc
      obtain ⟨vs0, hd0⟩ := hdat
      exact hsu cde s' H1 pn (a, oe) cc d (L2H.roomH_mark hr' _) ⟨List.mem_cons_self, ⟨rfl, vs0, hd0, hz.2.2 vs0 hd0⟩, hz, vs0, hd0⟩) d1 d2
    refine ⟨_, pss_cons tryOk (pss_one (ps_ret (hret cde s' H1))), ?_⟩
    refine ⟨?_, hco, ?_⟩
    · show (L2.start Ng [V.ref f])[0]? = some (some (.ref f))
      simp [L2.start]
    refine ⟨⟨s1.ρ, s1.h, H1⟩, env, rfl, r2, e2, ?_⟩
    have ha2 : After X.K E0 ⟨s1.ρ, s1.h, H1⟩ (toldM tf (fun d => mret (slotE Ng.length ib d)) mb env s1.h) (fun d s' => ∀ v, Rep X.K s' d v → Q v s'.H) := After.ext x2' ha
    unfold toldM at ha2
    show After X.K _ ⟨s1.ρ, s1.h, H1⟩ (mb env s1.h) _
    cases qm : mb env s1.h with
    | no => rw [qm] at ha2; exact ha2.elim
    | ok d h' =>
      rw [qm] at ha2
      intro s3 e3 x3 r3 v rv
      refine ⟨s3, slotE Ng.length ib d, rfl, r3, slot_envs lenN rv, ?_⟩
      rw [e3]
      exact After.ext x3 ha2
    | exn z h' =>
      rw [qm] at ha2
      dsimp only at ha2
      unfold noX at ha2
      intro s3 cl dd e3 x3 r3 xr
      cases qt : tf z h' with
      | no => rw [qt] at ha2; exact ha2.elim
      | exn z2 h2 => rw [qt] at ha2; exact ha2.elim
      | ok v0 h2 =>
        rw [qt] at ha2
        obtain ⟨hx1, hx2⟩ := htf z h' v0 h2 qt
        obtain ⟨ecl, hxr⟩ := xr
        subst ecl
        refine ⟨hx1, fun a0 ha0 => ⟨z.cls, rfl, s3, slotE Ng.length ie (.hot a0 dd z.cls z.ns z.ds), rfl, r3, slot_envs lenN ⟨rfl, hxr⟩, ?_⟩⟩
        rw [e3, hx2 a0 dd]
        intro s4 e4 x4 r4 v rv
        exact ha2 s4 e4 (x3.trans x4) r4 v rv
  refine wpAny_call (codeAny_mono ran fun res s2 hq => ?_)
  cases res with
  | error e => exact (show False from hq).elim
  | ok fl =>
    cases fl with
    | ret u => exact I1.after hq
    | next => exact False.elim hq
    | brk => exact False.elim hq
    | cont => exact False.elim hq
end
end Mo
set_option Elab.async false
set_option linter.all false
set_option maxRecDepth 100000
set_option maxHeartbeats 4000000
namespace Mo
open PySem L2 PySem.Spec PyProof.Rows
end Mo
set_option Elab.async false
set_option linter.all false
set_option maxRecDepth 100000
set_option maxHeartbeats 4000000
namespace Mo
open PySem L2 PySem.Spec PyProof.Rows HotX
/-- a def that lets nothing out, where something may be let out -/
def nx (f : List Dt → Mm Dt) : List Dt → Mm Dt := fun ds => noX (f ds)
section
variable {X : Cx} {E E' : XK}
theorem mt_noX {e : Expr} {m : En → Mm Bool} (h : PT X e (tT X.K E' m)) : PT X e (tT X.K E (fun env => noX (m env))) := pt_mono h fun σ H Q ⟨s, env, e, r, he, ha⟩ => ⟨s, env, e, r, he, after_noX ha⟩
theorem cr_noX {v : Value} {g : List Dt → Mm Dt} (h : CallR X v (cM X.K E' g)) : CallR X v (cM X.K E (nx g)) := callR_mono h fun xs H Q ⟨s, ds, e, r, rs, ha⟩ => ⟨s, ds, e, r, rs, after_noX ha⟩
end
structure HmH (P : Program) (w : World) (K : PySem.W.Frag) (mg : Str → Option Value) (base : Heap) (k : Nat) (x : Str) (ps : List Str) (fm : Addr → Option Addr → Str → List Dt → Mm Dt) : Prop where
  ex : ∃ fd, FnHM P w K mg base k (He.ga K x) fd ps fm ∧ Binds K fd ps []
  kp : PySem.W.keepIn K (.ref (He.ga K x)) = true
  gl : mg x = some (.ref (He.ga K x))
def raB (K : PySem.W.Frag) (c : Str) : Bool := decide (PySem.W.subIn K (.ref (He.ga K c)) (.type "BaseException") = some true) && decide (PySem.W.typeIn K (.ref (He.ga K c)) = some (.type "type"))
theorem raB_ok {K : PySem.W.Frag} {c : Str} (h : raB K c = true) : PySem.W.subIn K (.ref (He.ga K c)) (.type "BaseException") = some true ∧ PySem.W.typeIn K (.ref (He.ga K c)) = some (.type "type") := by
  unfold raB at h
  simpa only [Bool.and_eq_true, decide_eq_true_eq] using h
section
variable {X : Cx} {E : XK} {c m x : Str} {k j n : Nat} {ps ks : List Str} {pm : List Nat} {fm : List Dt → Mm Dt} {pos apos p : Pos} {o e : Expr} {es : List Expr} {mo : En → Mm Dt} {mr : En → Mm (List Dt)} {pl : Sem Bool}
theorem me_callHT {fm : Addr → Option Addr → Str → List Dt → Mm Dt} {q : Addr × Obj} {cc : Str} {d : Option Addr} (F : HmH X.prog X.w X.K X.mg X.base k x ps fm) (P : HotP X q cc d) (hgd : X.A.guards = some []) (hr : L2H.RoomH j X.A) (ha : PA X (e :: es) (tA X.K E0 mr)) (hn : ps.length = n := by rfl) (hg : Gl X x := by rfl) (hkj : k ≤ j := by decide)
    (hdb : (x == ("__debug__" : Str)) = false := by decide) (he : starEach (e :: es) X.env = (false, eval e X.env) :: starEach es X.env := by rfl) (hpl : (backTo pos (starEach es X.env)).any (·.1) = false := by rfl) :
    PE X (.Call (.Name x p) (e :: es) [] pos) (tE X.K E0 (callM n (fm q.1 d cc) mr)) := by
  subst hn
  obtain ⟨fd, G, B⟩ := F.ex
  exact me_callHM G P hgd (hr.mono hkj) hg F.gl F.kp B ha hdb he hpl
end
theorem unH64 {k : Nat} {A : Around} (r : L2H.RoomH k A) : A.units + 64 < cLine := by have := r.un; omega
theorem unH65 {k : Nat} {A : Around} (r : L2H.RoomH k A) : A.units + 65 < cLine := by have := r.un; omega
def bReprA : List Dt → Mm Dt := fun ds h => match ds with
  | [.int i] => if i.natAbs.log2 < 1920 then .ok (.str (toString i)) h else .no
  | [.str x] => if (reprText x).length ≤ sizeLine then .ok (.str (reprText x)) h else .no
  | [.non] => .ok (.str (Str.ofString "None")) h
  | [.bl b] => .ok (.str (if b then "True" else "False")) h
  | [d] => (match toQ d with
    | some p => if showQ p then .ok (.str p.shown) h else .no
    | none => .no)
  | _ => .no
section
variable {X : Cx} {E : XK}
theorem repr_adr {K : PySem.W.Frag} {s : Sx} {d : Dt} {v : V} {p : PyData} (rv : Rep K s d v) (hp : toQ d = some p) (h1 : ∀ i, d ≠ .int i) (h2 : ∀ x, d ≠ .str x) (h3 : d ≠ .non) (h4 : ∀ b, d ≠ .bl b) : ∃ a, v = .ref a := by
  cases d with
  | non => exact (h3 rfl).elim
  | bl b => exact (h4 b rfl).elim
  | int i => exact (h1 i rfl).elim
  | str x => exact (h2 x rfl).elim
  | tup xs => obtain ⟨a, vs, rfl, _⟩ := rv; exact ⟨a, rfl⟩
  | lv xs => obtain ⟨a, vs, rfl, _⟩ := rv; exact ⟨a, rfl⟩
  | dk ks xs => obtain ⟨a, vs, rfl, _⟩ := rv; exact ⟨a, rfl⟩
  | _ => cases hp
theorem b_reprA (hk : (X.K.lookup sysModules).isSome = true) (hgd : X.A.guards = some []) (hu : X.A.units + 64 < cLine) : CallR X (.builtin "repr") (cM X.K E bReprA) := fun pins s σ H xs us Q I rx ⟨s1, ds, eH, r, rs, ha⟩ => by
  subst eH
  unfold bReprA at ha
  split at ha
  · rename_i i
    obtain ⟨v, rfl, rv⟩ := rs.one
    cases rv
    split at ha
    · rename_i hz
      exact SkE.call_repr_int pins s σ _ _ us Q I rx ⟨i, rfl, hz, fin r ha rfl⟩
    · exact ha.elim
  · rename_i y
    obtain ⟨v, rfl, rv⟩ := rs.one
    cases rv
    obtain ⟨u, rfl, tk, rfl⟩ := L2.vals1 rx
    split at ha
    · rename_i hz
      exact PySem.P.repr_of_str ⟨.str _, s1.H, I.tok _, ⟨_, rfl⟩, fin r ha rfl⟩ hz
    · exact ha.elim
  · obtain ⟨v, rfl, rv⟩ := rs.one
    cases rv
    obtain ⟨u, rfl, ru⟩ := L2.vals1 rx
    cases ru
    exact PySem.P.repr_of_none ⟨.str _, s1.H, I.tok _, ⟨_, rfl⟩, fin r ha rfl⟩
  · rename_i b
    obtain ⟨v, rfl, rv⟩ := rs.one
    cases rv
    obtain ⟨u, rfl, ru⟩ := L2.vals1 rx
    cases ru
    exact PySem.P.repr_of_bool ⟨.str _, s1.H, I.tok _, ⟨_, rfl⟩, fin r ha rfl⟩
  · rename_i d n1 n2 n3 n4
    obtain ⟨v, rfl, rv⟩ := rs.one
    split at ha
    · rename_i p hp
      split at ha
      · rename_i hs
        simp only [showQ, Bool.and_eq_true, decide_eq_true_eq] at hs
        obtain ⟨⟨h1, h3⟩, h4⟩ := hs
        obtain ⟨u, rfl, ru⟩ := L2.vals1 rx
        obtain ⟨as, rd, ns⟩ := toQ_reads I r hk rv ru hp
        obtain ⟨a, rfl⟩ := repr_adr rv hp (fun i z => n1 i (by rw [z])) (fun x z => n2 x (by rw [z])) (fun z => n3 (by rw [z])) (fun b z => n4 b (by rw [z]))
        cases ru
        refine repr_of_reads' rd h1 (fun _ => ns) hgd (by omega) (fun _ _ e => e) (fun h' u tk hk => ?_) h4
        exact ⟨.str p.shown, s1.H, I.kept hk, ⟨u, rfl⟩, fin r ha rfl⟩
      · exact ha.elim
    · exact ha.elim
  · exact ha.elim
def mLIndexB : Dt → List Dt → Mm Dt := fun o ds h => match ds with
  | [.bl k] => (match (lstR h o).bind blsD with
    | some bs => if k ∈ bs then .ok (.int (bs.idxOf k : Nat)) h else .no
    | none => .no)
  | _ => .no
theorem m_lindexB : MtR X "list.index" (mM X.K E mLIndexB) := fun pins s σ H x xs v us Q I rx rxs ⟨s1, d, ds, eH, r, rd, rs, ha⟩ => by
  subst eH
  unfold mLIndexB at ha
  split at ha
  · rename_i k
    obtain ⟨w, rfl, rw'⟩ := rs.one
    cases rw'
    split at ha
    · rename_i bs hb
      split at ha
      · rename_i hm
        cases q : lstR s1.h d with
        | none => rw [q] at hb; cases hb
        | some zs =>
          rw [q] at hb
          obtain ⟨p, vs, rfl, sq, rz⟩ := lstR_ok r rd q
          have ev := bls_reps rz hb
          subst ev
          have hj := List.idxOf_lt_length_of_mem hm
          refine mt_index pins s σ _ _ _ v us Q I rx rxs ⟨p, bs.map V.bl, .bl k, bs.idxOf k, .bl k, rfl, rfl, sq, rfl, ?_, ?_, ?_, ?_, fin r ha rfl⟩
          · rw [List.all_map]; exact List.all_eq_true.mpr fun _ _ => rfl
          · rw [List.getElem?_map, List.getElem?_eq_getElem hj, List.getElem_idxOf hj]; rfl
          · cases k <;> rfl
          · intro m z' hml hz
            rw [List.getElem?_map] at hz
            cases qm : bs[m]? with
            | none => rw [qm] at hz; cases hz
            | some b =>
              rw [qm] at hz
              cases hz
              have hne : b ≠ k := fun z => by
                subst z
                obtain ⟨hl, e⟩ := List.getElem?_eq_some_iff.mp qm
                have := List.not_of_lt_findIdx (p := (· == b)) (xs := bs) hml
                rw [e] at this
                simp at this
              cases b <;> cases k <;> first | rfl | exact (hne rfl).elim
      · exact ha.elim
    · exact ha.elim
  · exact ha.elim
end
section
variable {env env' : En} {h h' : Ah} {m1 m2 : En → Mm Fl} {mt : En → Mm Bool} {ma mb : En → Mm Dt} {mr : En → Mm (List Dt)} {d : Dt} {ds : List Dt} {r : Rs Fl} {rd : Rs Dt} {n : Nat} {g : List Dt → Mm Dt} {i : Nat}
theorem bnd {α β : Type} {m : Mm α} {f : α → Mm β} {a : α} (e : m h = .ok a h') : (m >>= f) h = f a h' := by
  show Mm.bind m f h = _
  unfold Mm.bind
  rw [e]
theorem ev_seqN (e : m1 env h = .ok (.nx env') h') (k : m2 env' h' = r) : seq m1 m2 env h = r := (bnd (m := m1 env) e).trans k
theorem ev_seqR (e : m1 env h = .ok (.rt d) h') : seq m1 m2 env h = .ok (.rt d) h' := (bnd (m := m1 env) e).trans rfl
theorem ev_ifT (e : mt env h = .ok true h') (k : m1 env h' = r) : ifS mt m1 m2 env h = r := (bnd (m := mt env) e).trans k
theorem ev_iF (e : mt env h = .ok false h') (k : mb env h' = rd) : ifE mt ma mb env h = rd := (bnd (m := mt env) e).trans k
theorem ev_ret (e : ma env h = .ok d h') : ret ma env h = .ok (.rt d) h' := (bnd (m := ma env) e).trans rfl
theorem ev_bi {h2 : Ah} (e : mr env h = .ok ds h') (k : g ds h' = .ok d h2) : bi g mr env h = .ok d h2 := (bnd (m := mr env) e).trans k
theorem ev_fn (e : m1 (ds.map some ++ List.replicate (n - ds.length) none) h = .ok (.rt d) h') : fnM n m1 ds h = .ok d h' := (bnd (m := m1 _) e).trans rfl
theorem ev_sto (e : ma env h = .ok d h') : sto i ma env h = .ok (.nx (env.set i (some d))) h' := (bnd (m := ma env) e).trans rfl
theorem ev_call {h2 : Ah} (e : mr env h = .ok ds h') (l : ds.length = n) (k : g ds h' = .ok d h2) : callM n g mr env h = .ok d h2 := (bnd (m := mr env) e).trans (by rw [if_pos l]; exact k)
theorem ev_arg {h2 : Ah} (e : ma env h = .ok d h') (k : mr env h' = .ok ds h2) : argC ma mr env h = .ok (d :: ds) h2 := (bnd (m := ma env) e).trans ((bnd (m := mr env) k).trans rfl)
theorem ev_tup (e : mr env h = .ok ds h') (l : ds.length ≤ sizeLine) : tupE mr env h = .ok (.tup ds) h' := (bnd (m := mr env) e).trans (by rw [if_pos l]; rfl)
end
end Mo
set_option Elab.async false
set_option linter.all false
set_option maxRecDepth 100000
set_option maxHeartbeats 4000000
namespace Mo
open PySem L2 PySem.Spec PyProof.Rows HotX
theorem tkX {P : Program} {w : World} {K : PySem.W.Frag} {mg : Str → Option Value} {base : Heap} {N : List Str} {qual : Str} {scope : Scope} {f : Addr} {cdv : Value} {A : Around} {outer : List Env} {s : Shared} {H : Hp} {E : XK} :
    TakesE (cxOf (L2N.CX P w) P w K mg base N qual scope f cdv A outer s H E) E := L2N.takes_of rfl rfl rfl rfl
section
variable {X : Cx} {E : XK} {kpos : Pos} {e : Expr} {mr : En → Mm (List Dt)}
theorem mkE_nil : PK X [] (tA X.K E argN) := ⟨fun pos pins s σ H Q I ⟨s1, env, e, r, he, ha⟩ => by
  subst e
  exact pk_nil.run pos pins s σ _ Q I (ha.ret r [] rfl)⟩
theorem mkE_cons {ma : En → Mm Dt} {nm : Option Str} {kws : List Keyword} (ha : PE X e (tE X.K E ma)) (hr : PK X kws (tA X.K E mr)) : PK X (⟨nm, e, kpos⟩ :: kws) (tA X.K E (argC ma mr)) := ⟨fun pos pins s σ H Q I ⟨s1, env, e, r, he, q⟩ => by
  subst e
  refine (pk_cons ha hr).run pos pins s σ _ Q I ?_
  exact tE_bind r he q fun d s1 v x1 r1 e1 rv q => tA_bind r1 e1 q fun ds s2 vs x2 r2 e2 rvs q2 => q2.ret r2 _ (Reps.cons (rv.ext x2) rvs)⟩
end
section
variable {a : Addr} {d : Option Addr} {c f b : Str} {ns bs cs l : List Str} {ds : List Dt} {tb : List (Str × List Str)} {h h1 h2 : Ah} {r : Bool} {x y z : Dt} {env : En} {mo ma mb : En → Mm Dt} {mr : En → Mm (List Dt)} {g : Dt → Dt → Mm Dt}
theorem isH_at (hl : tb.lookup c = some l) (hb : b ∈ bs) (hr : decide (b ∈ l) = r) : bIsH a d c bs tb [.hot a d c ns ds, .cl b] h = .ok (.bl r) h := by
  subst hr
  unfold bIsH
  dsimp only
  rw [if_pos ⟨rfl, rfl, rfl⟩, hl]
  dsimp only
  rw [if_pos hb]
theorem hfld_at (hc : c ∈ cs) (hx : (ns.zip ds).lookup f = some x) (e : mo env h = .ok (.hot a d c ns ds) h) : hfld a d c cs f mo env h = .ok x h := by
  refine (bnd (m := mo env) e).trans ?_
  unfold fldH
  dsimp only
  rw [if_pos ⟨⟨rfl, rfl, rfl⟩, hc⟩, hx]
theorem ev_lst (e : mr env h = .ok ds h1) (k : ds.length ≤ sizeLine) : lstE mr env h = .ok (.lv ds) h1 := (bnd (m := mr env) e).trans (by rw [if_pos k]; rfl)
theorem ev_op2 {h3 : Ah} (e1 : ma env h = .ok x h1) (e2 : mb env h1 = .ok y h2) (k : g x y h2 = .ok z h3) : op2 g ma mb env h = .ok z h3 := (bnd (m := ma env) e1).trans ((bnd (m := mb env) e2).trans k)
end
end Mo
set_option Elab.async false
set_option linter.all false
set_option maxRecDepth 100000
set_option maxHeartbeats 4000000
namespace PySem.MoEq
open PySem PySem.W PyProof.Rows
end PySem.MoEq
set_option Elab.async false
set_option linter.all false
set_option maxRecDepth 100000
set_option maxHeartbeats 4000000
namespace PySem.MoEq
open PySem PySem.W PyProof.Rows
end PySem.MoEq
set_option Elab.async false
set_option linter.all false
set_option maxRecDepth 100000
set_option maxHeartbeats 4000000
namespace Mo
open PySem L2 PySem.Spec PyProof.Rows
end Mo
set_option Elab.async false
set_option linter.all false
set_option maxRecDepth 100000
set_option maxHeartbeats 4000000
namespace Mo
open PySem L2 PySem.Spec PyProof.Rows
end Mo
set_option Elab.async false
set_option linter.all false
set_option maxRecDepth 100000
set_option maxHeartbeats 4000000
namespace Mo
open PySem L2 PySem.Spec PyProof.Rows
end Mo
set_option Elab.async false
set_option linter.all false
set_option maxRecDepth 100000
set_option maxHeartbeats 4000000
namespace Mo
open PySem L2 PySem.Spec PyProof.Rows
section
variable {X : Cx} {E : XK} {K : PySem.W.Frag} {s : Sx} {e : Expr} {c : Str} {pos p : Pos} {mr : En → Mm (List Dt)} {fm : List Dt → Mm Dt} {k : Nat} {fa C : Addr} {fd : FuncData} {ps : List Str} {es : List Expr}
theorem run_makeX {pins : List (Addr × Obj)} {σ : L2.St} {H : Hp} {t : Shared} {Q : VK} {us ws : List Value} {kw : List (Str × Value)} {vs : List V} (M : Mk X.K C fa) (F : FnX X.prog X.w X.K X.mg X.base k fa fd ps fm) (tk : TakesE X E) (hgd : X.A.guards = some []) (hr : Room (k + 1) X.A)
    (hb : ∀ (t' : Shared) (self : Value), X.K.In t'.heap → BindsTo t' fd ⟨self :: us, kw⟩ (ps.zip (self :: ws))) (I : Inv X pins σ H t) (r : Vals vs ws)
    (h : ∀ y dx, H y = none → H dx = none → dx ≠ y → spX X.K ps.length fm (.ref y :: vs) (upd (upd H dx (.own y)) y (.ins C dx [])) (fun v H2 => v = .non ∧ Q (.ref y) H2) E) :
    wpAny (model X.prog X.w) X.A (call (.ref C) us kw) (EP X pins σ Q) X.xe t := by
  have hq := h (t.heap.objs.size + 1) t.heap.objs.size (I.hok.fresh (Nat.le_succ _)) (I.hok.fresh (Nat.le_refl _)) (Nat.ne_of_lt (Nat.lt_succ_self _))
  have I2 := Inv.made (C := C) I
  have r2 : Vals (V.ref (t.heap.objs.size + 1) :: vs) (Value.ref (t.heap.objs.size + 1) :: ws) := .cons rfl r
  refine wpAny_call (make_map (f := fa) I.kIn M.makes M.init (beq_iff_eq.mp M.fn) (codeAny_mono (F.run _ X.stack _ _ ⟨Value.ref (t.heap.objs.size + 1) :: us, kw⟩ (Value.ref (t.heap.objs.size + 1) :: ws) _ _ E (by rw [under_guards]; exact hgd) (hr.make C us kw)
    (I2.env0.make C us kw) (hb _ _ I2.kIn) r2 hq) fun r s' hq' => ?_))
  cases r with
  | error er => exact L2N.passes_call tk (fun _ _ _ _ q => q) pins σ _ _ er s' I2 hq'
  | ok fl =>
    cases fl with
    | ret u =>
      obtain ⟨v, H', I3, rv, ev, q3⟩ := I2.after hq'
      subst ev
      exact ⟨rv, ⟨V.ref (t.heap.objs.size + 1), H', I3, rfl, q3⟩⟩
    | next => exact False.elim hq'
    | brk => exact False.elim hq'
    | cont => exact False.elim hq'
theorem mkI_okX {s1 : Sx} {ds : List Dt} {vs : List V} {Q : VK} {n : Nat} (r1 : HRel K s1) (rv : Reps K s1 ds vs) (q : After K E s1 (mkI c n fm ds s1.h) (fun d s' => ∀ v, Rep K s' d v → Q v s'.H)) :
    ∀ y dx, s1.H y = none → s1.H dx = none → dx ≠ y → spX K n fm (.ref y :: vs) (upd (upd s1.H dx (.own y)) y (.ins (He.ga K c) dx [])) (fun v H2 => v = .non ∧ Q (.ref y) H2) E := by
  intro y dx hy hdx ne
  have xa := new_ext (u := .own y) r1 hdx
  have ra : HRel K (s1.new dx (.own y)) := new_rel r1 hdx
  have hy' : (s1.new dx (.own y)).H y = none := by
    show upd s1.H dx (.own y) y = none
    rw [upd_ne (fun z => ne z.symm)]; exact hy
  have xb := add_ext (u := .ins (He.ga K c) dx []) (o := .ins c []) ra hy'
  have rb := add_rel (u := .ins (He.ga K c) dx []) (o := .ins c []) ra hy' ⟨dx, [], upd_same, xb.keep ⟨upd_same, fun ⟨i, o, e1, _, _⟩ => r1.fresh hdx e1⟩ rfl, rfl⟩
  have q1 := (After.ext xa q).bind
  have q2 := q1.now ((s1.new dx (.own y)).add y (.ins (He.ga K c) dx []) (.ins c [])) rfl xb rb
  have eo : ((s1.new dx (.own y)).add y (.ins (He.ga K c) dx []) (.ins c [])).ρ[s1.h.length]? = some y := add_at ra
  split at q2
  · rename_i hn
    refine ⟨_, .obj s1.h.length :: ds, rfl, by simpa using hn, rb, Reps.cons ⟨y, eo, rfl⟩ ((rv.ext xa).ext xb), ?_⟩
    refine q2.bind.mono fun d s3 x3 r3 q3 v rvd => ?_
    cases d with
    | non =>
      cases rvd
      exact ⟨rfl, q3.ret r3 _ ⟨y, x3.pre _ _ eo, rfl⟩⟩
    | _ => exact q3.elim
  · exact q2.elim
theorem me_makeX (M : Mk X.K (He.ga X.K c) fa) (F : FnX X.prog X.w X.K X.mg X.base k fa fd ps fm) (tk : TakesE X E) (hgd : X.A.guards = some []) (hr : Room (k + 1) X.A) (hg : Gl X c) (hm : X.mg c = some (.ref (He.ga X.K c))) (hb : Binds X.K fd ps [])
    (ha : PA X (e :: es) (tA X.K E mr)) (hdb : (c == ("__debug__" : Str)) = false := by decide) (he : starEach (e :: es) X.env = (false, eval e X.env) :: starEach es X.env := by rfl) (hpl : (backTo pos (starEach es X.env)).any (·.1) = false := by rfl) :
    PE X (.Call (.Name c p) (e :: es) [] pos) (tE X.K E (make c ps.length fm mr)) := by
  refine ⟨fun pins t σ H Q I h => ?_⟩
  refine wpAny_Call_Name_kw (ld_glob I hg hm ?_ hdb)
  have h2 : tA X.K E mr σ H fun vs H1 => ∀ y dx, H1 y = none → H1 dx = none → dx ≠ y → spX X.K ps.length fm (.ref y :: vs) (upd (upd H1 dx (.own y)) y (.ins (He.ga X.K c) dx [])) (fun v H2 => v = .non ∧ Q (.ref y) H2) E := by
    obtain ⟨s1, env, rfl, r, he, ha⟩ := h
    exact tA_bind r he ha fun ds s2 vs x2 r2 e2 rv q => mkI_okX r2 rv q
  refine PySem.W.callWith_K (h₀ := X.base) I.ok.mod.kin M.kp (thn (ha.run pos pins t σ H _ I h2) fun us s1 ⟨vs, H1, I1, r, q⟩ => ⟨I1.kIn, ?_⟩) he hpl
  refine run_makeX (ws := us) M F tk hgd hr (fun t' self ki => ?_) I1 r q
  have hl : (self :: us ++ []).length = ps.length := by
    have := spX_len (q (s1.heap.objs.size + 1) s1.heap.objs.size (I1.hok.fresh (Nat.le_succ _)) (I1.hok.fresh (Nat.le_refl _)) (Nat.ne_of_lt (Nat.lt_succ_self _)))
    rw [List.append_nil]
    simp only [List.length_cons] at this ⊢
    rw [← r.length]
    exact this
  have := hb t' (self :: us) ki hl
  rwa [List.append_nil] at this
end
end Mo
set_option Elab.async false
set_option linter.all false
set_option maxRecDepth 100000
set_option maxHeartbeats 4000000
namespace PySem.MoSp
open PySem PySem.W PyProof.Rows
end PySem.MoSp
namespace PySem.MoEq
open PySem PySem.W PyProof.Rows
end PySem.MoEq
namespace Mo
open PySem L2 PySem.Spec PyProof.Rows
end Mo
set_option Elab.async false
set_option linter.all false
set_option maxRecDepth 100000
set_option maxHeartbeats 4000000
namespace Mo
open PySem L2 PySem.Spec PyProof.Rows
structure MxH (P : Program) (w : World) (K : PySem.W.Frag) (mg : Str → Option Value) (base : Heap) (k : Nat) (c : Str) (ps : List Str) (fm : List Dt → Mm Dt) : Prop where
  ex : ∃ fd, FnX P w K mg base k (He.ma K (He.ga K c) "__init__") fd ps fm ∧ Binds K fd ps []
  mks : Mk K (He.ga K c) (He.ma K (He.ga K c) "__init__")
  gl : mg c = some (.ref (He.ga K c))
section
variable {X : Cx} {E : XK} {e : Expr} {c : Str} {pos p : Pos} {mr : En → Mm (List Dt)} {fm : List Dt → Mm Dt} {k j n : Nat} {ps : List Str} {es : List Expr}
theorem me_makeXH (F : MxH X.prog X.w X.K X.mg X.base k c ps fm) (tk : TakesE X E) (hgd : X.A.guards = some []) (hr : Room j X.A) (ha : PA X (e :: es) (tA X.K E mr)) (hn : ps.length = n := by rfl) (hg : Gl X c := by rfl) (hkj : k + 1 ≤ j := by decide) (hdb : (c == ("__debug__" : Str)) = false := by decide)
    (he : starEach (e :: es) X.env = (false, eval e X.env) :: starEach es X.env := by rfl) (hpl : (backTo pos (starEach es X.env)).any (·.1) = false := by rfl) : PE X (.Call (.Name c p) (e :: es) [] pos) (tE X.K E (make c n fm mr)) := by
  subst hn
  obtain ⟨fd, G, B⟩ := F.ex
  exact me_makeX F.mks G tk hgd (hr.mono hkj) hg F.gl B ha hdb he hpl
end
end Mo
set_option Elab.async false
set_option linter.all false
set_option maxRecDepth 100000
set_option maxHeartbeats 4000000
namespace Mo
open PySem L2 PySem.Spec PyProof.Rows
end Mo
set_option Elab.async false
set_option linter.all false
set_option maxRecDepth 100000
set_option maxHeartbeats 4000000
namespace Mo
open PySem L2 PySem.Spec PyProof.Rows
end Mo
set_option Elab.async false
set_option linter.all false
set_option maxRecDepth 100000
set_option maxHeartbeats 4000000
namespace Mo
open PySem L2 PySem.Spec PyProof.Rows
end Mo
set_option Elab.async false
set_option linter.all false
set_option maxRecDepth 100000
set_option maxHeartbeats 4000000
namespace Mo
open PySem L2 PySem.Spec PyProof.Rows
end Mo
set_option Elab.async false
set_option linter.all false
set_option maxRecDepth 100000
set_option maxHeartbeats 4000000
namespace Mo
open PySem L2 PySem.Spec PyProof.Rows
end Mo
set_option Elab.async false
set_option linter.all false
set_option maxRecDepth 100000
set_option maxHeartbeats 4000000
namespace Mo
open PySem L2 PySem.Spec PyProof.Rows
end Mo
set_option Elab.async false
set_option linter.all false
set_option maxRecDepth 100000
set_option maxHeartbeats 4000000
namespace Mo
open PySem L2 PySem.Spec PyProof.Rows
end Mo
set_option Elab.async false
set_option linter.all false
set_option maxRecDepth 100000
set_option maxHeartbeats 4000000
namespace Mo
open PySem L2 PySem.Spec PyProof.Rows PySem.Builtin PySem.Builtin.List
end Mo
set_option Elab.async false
set_option linter.all false
set_option maxRecDepth 100000
set_option maxHeartbeats 4000000
namespace Mo
open PySem L2 PySem.Spec PyProof.Rows PySem.Builtin PySem.Builtin.List
end Mo
set_option Elab.async false
set_option linter.all false
set_option maxRecDepth 100000
set_option maxHeartbeats 4000000
namespace Mo
open PySem L2 PySem.Spec PyProof.Rows PySem.Builtin PySem.Builtin.List
end Mo
set_option Elab.async false
set_option linter.all false
set_option maxRecDepth 100000
set_option maxHeartbeats 4000000
namespace Mo
open PySem L2 PySem.Spec PyProof.Rows
end Mo
set_option Elab.async false
set_option linter.all false
set_option maxRecDepth 100000
set_option maxHeartbeats 4000000
namespace Mo
open PySem L2 PySem.Spec PyProof.Rows
end Mo
set_option Elab.async false
set_option linter.all false
set_option maxRecDepth 100000
set_option maxHeartbeats 4000000
namespace Mo
open PySem L2 PySem.Spec PyProof.Rows
end Mo
set_option Elab.async false
set_option linter.all false
set_option maxRecDepth 100000
set_option maxHeartbeats 4000000
namespace Mo
open PySem L2 PySem.Spec PyProof.Rows
end Mo
set_option Elab.async false
set_option linter.all false
set_option maxRecDepth 100000
set_option maxHeartbeats 4000000
namespace Mo
open PySem L2 PySem.Spec PyProof.Rows
end Mo
set_option Elab.async false
set_option linter.all false
set_option maxRecDepth 100000
set_option maxHeartbeats 4000000
namespace Mo
open PySem L2 PySem.Spec PyProof.Rows
end Mo
set_option Elab.async false
set_option linter.all false
set_option maxRecDepth 100000
set_option maxHeartbeats 4000000
namespace Mo
open PySem L2 PySem.Spec PyProof.Rows
section
variable {X : Cx} {E : XK} {o e f a b : Expr} {te tf : TE} {to : TE} {y z : Str} {j k : Nat} {c0 c1 apos pos p p' : Pos} {es : List Expr} {ta : TA} {mo mx ma mb : En → Mm Dt} {mr : En → Mm (List Dt)} {st : Stmt} {rest : List Stmt} {t u : TS} {m1 m2 : En → Mm Fl} {g : Dt → Dt → Mm Dt}
def PEo (X : Cx) (e : Expr) (te : TE) : Prop := ∀ (pins : List (Addr × Obj)) (s : Shared) (σ : L2.St) (H : Hp) (Q : VK), Inv X pins σ H s → te σ H Q → wpAny (model X.prog X.w) X.A (eval e X.env) (fun v s1 => 1 ≤ s1.toks ∧ EP X pins σ Q v s1) X.xe s
def PAo (X : Cx) (es : List Expr) (ta : TA) : Prop := ∀ (q : Pos) (pins : List (Addr × Obj)) (s : Shared) (σ : L2.St) (H : Hp) (Q : List V → Hp → Prop), Inv X pins σ H s → ta σ H Q → wpAny (model X.prog X.w) X.A (spliced (backTo q (starEach es X.env))) (fun us s1 => 1 ≤ s1.toks ∧ AP X pins σ Q us s1) X.xe s
def PSo (X : Cx) (st : Stmt) (t : TS) : Prop := ∀ (pins : List (Addr × Obj)) (s : Shared) (σ : L2.St) (H : Hp) (D : Ends), Inv X pins σ H s → t D σ H → wpAny (model X.prog X.w) X.A (exec st X.env) (fun f s1 => 1 ≤ s1.toks ∧ SP X pins D f s1) X.xe s
theorem peo_mono {t u : TE} (h : PEo X e t) (k : ∀ σ H Q, u σ H Q → t σ H Q) : PEo X e u := fun pins s σ H Q I q => h pins s σ H Q I (k _ _ _ q)
theorem pao_mono {t u : TA} (h : PAo X es t) (k : ∀ σ H Q, u σ H Q → t σ H Q) : PAo X es u := fun q pins s σ H Q I w => h q pins s σ H Q I (k _ _ _ w)
theorem pso_mono {t u : TS} (h : PSo X st t) (k : ∀ D σ H, u D σ H → t D σ H) : PSo X st u := fun pins s σ H D I q => h pins s σ H D I (k _ _ _ q)
theorem psst_mono {t u : TS} (h : PSsT X rest t) (k : ∀ D σ H, u D σ H → t D σ H) : PSsT X rest u := fun pins s σ H D h0 I q => h pins s σ H D h0 I (k _ _ _ q)
theorem pst_mono {t u : TS} (h : PST X st t) (k : ∀ D σ H, u D σ H → t D σ H) : PST X st u := fun pins s σ H D h0 I q => h pins s σ H D h0 I (k _ _ _ q)
/-- x op "text" -/
theorem peo_lit {op : Operator} {r : R2} (ho : OpR X (binaryOp op) r) (ha : PE X a te) : PEo X (.BinOp a op (.Constant (.str y) j c0) pos) (tOp r te (tC (.str y))) := by
  intro pins s σ H Q I h
  refine wpAny_BinOp (thn (ha.run pins s σ H _ I h) fun v s1 ⟨x, H1, I1, r1, q1⟩ => Calls.Constant_str ?_)
  refine wpAny_mono (PySem.wpAny_toks (ho pins _ σ H1 x (.str y) v _ Q (I1.tok (s1.toks + 1)) r1 ⟨_, rfl⟩ q1)) (fun w s2 q => ?_) fun _ _ z => z.2
  have hk : s1.toks + 1 ≤ s2.toks := q.1
  exact ⟨by omega, q.2⟩
theorem peo_op {op : Operator} {r : R2} (ho : OpR X (binaryOp op) r) (ha : PE X a te) (hb : PEo X b tf) : PEo X (.BinOp a op b pos) (tOp r te tf) := by
  intro pins s σ H Q I h
  refine wpAny_BinOp (thn (ha.run pins s σ H _ I h) fun v s1 ⟨x, H1, I1, r1, q1⟩ => thn (hb pins s1 σ H1 _ I1 q1) fun u s2 ⟨k2, y, H2, I2, r2, q2⟩ => ?_)
  refine wpAny_mono (PySem.wpAny_toks (ho pins _ σ H2 x y v _ Q I2 r1 r2 q2)) (fun w s3 q => ?_) fun _ _ z => z.2
  exact ⟨Nat.le_trans k2 q.1, q.2⟩
theorem pao_first (ha : PEo X e te) (hr : PAT X es ta) (hs : starEach (e :: es) X.env = (false, eval e X.env) :: starEach es X.env := by rfl) : PAo X (e :: es) (tCons te ta) := by
  intro pos pins s σ H Q I h
  rw [hs]
  show wpAny _ _ (spliced ((false, eval e X.env) :: backTo pos (starEach es X.env))) _ _ s
  refine Calls.spliced_cons (thn (ha pins s σ H _ I h) fun u s1 ⟨k1, x, H1, I1, r1, q1⟩ => ?_)
  refine wpAny_mono (PySem.wpAny_toks (hr pos pins s1 σ H1 _ k1 I1 q1)) (fun us s2 q => ?_) fun _ _ z => z.2
  obtain ⟨k2, xs, H2, I2, r2, q2⟩ := q
  exact ⟨Nat.le_trans k1 k2, x :: xs, H2, I2, .cons r1 r2, q2⟩
theorem pao_cons (ha : PE X e te) (hr : PAo X es ta) (hs : starEach (e :: es) X.env = (false, eval e X.env) :: starEach es X.env := by rfl) : PAo X (e :: es) (tCons te ta) := by
  intro pos pins s σ H Q I h
  rw [hs]
  show wpAny _ _ (spliced ((false, eval e X.env) :: backTo pos (starEach es X.env))) _ _ s
  refine Calls.spliced_cons (thn (ha.run pins s σ H _ I h) fun u s1 ⟨x, H1, I1, r1, q1⟩ => ?_)
  exact thn (hr pos pins s1 σ H1 _ I1 q1) fun us s2 ⟨k2, xs, H2, I2, r2, q2⟩ => ⟨k2, x :: xs, H2, I2, .cons r1 r2, q2⟩
theorem peo_lst {pos : Pos} (h : PAo X es ta) : PEo X (.List es pos) (tLst ta) := by
  intro pins s σ H Q I hq
  refine wpAny_List_spliced (thn (h pos pins s σ H _ I hq) fun us s1 ⟨k1, xs, H1, I1, r, z, q⟩ => ⟨by rw [← r.length]; exact z, ?_⟩)
  have hf : H1 s1.heap.objs.size = none := I1.hok.fresh (Nat.le_refl _)
  refine ⟨k1, .ref s1.heap.objs.size, upd H1 s1.heap.objs.size (.lst xs), I1.laid (t' := s1.toks) (fun b u e => Heap.get?_push_of_some _ e) (Nat.le_refl _) ?_, rfl, q _ hf⟩
  exact ⟨z, us, 0, r, Heap.get?_push_size _ rfl⟩
theorem pso_set {i : Nat} {x : Str} {pos' : Pos} (hN : X.N.Nodup) (hi : X.N[i]? = some x) (hx : Loc X.env.scope x) (he : PEo X e te) (hs : swapsWith e (some (.Name x pos')) pos.line X.env = pure false := by rfl) (hf : X.fn x = true ∨ X.env.scope.names.lookup x = some .local := by first | exact .inl rfl | exact .inr rfl | assumption) :
    PSo X (.Assign [.Name x pos'] e pos) (tAsg te (gName i)) := by
  intro pins s σ H D I h
  refine wpAny_Assign_Name (thn (he pins s σ H _ I h) fun v s1 ⟨k1, y, H1, I1, r1, q1⟩ => ?_) hs
  refine wpAny_mono (PySem.wpAny_toks (store_ok (Q := fun _ s2 => Inv X pins (σ.set i (some y)) H1 s2) I1 hN hi hx r1 (fun s2 I2 => I2) hf)) (fun _ s2 q => ?_) fun _ _ z => z.2
  exact ⟨Nat.le_trans k1 q.1, _, H1, q.2, q1⟩
theorem pst_set {i : Nat} {x : Str} {pos' : Pos} (hN : X.N.Nodup) (hi : X.N[i]? = some x) (hx : Loc X.env.scope x) (he : PET X e te) (hs : swapsWith e (some (.Name x pos')) pos.line X.env = pure false := by rfl) (hf : X.fn x = true ∨ X.env.scope.names.lookup x = some .local := by first | exact .inl rfl | exact .inr rfl | assumption) :
    PST X (.Assign [.Name x pos'] e pos) (tAsg te (gName i)) := by
  intro pins s σ H D h0 I h
  refine wpAny_Assign_Name (thn (he pins s σ H _ h0 I h) fun v s1 ⟨y, H1, I1, r1, q1⟩ => ?_) hs
  exact store_ok I1 hN hi hx r1 (fun s2 I2 => ⟨_, H1, I2, q1⟩) hf
theorem pss_out (h1 : PSo X st t) (h2 : PSsT X rest u) : PSs X (st :: rest) (tSeq t u) := by
  refine ⟨fun pins s σ H D I h => ?_⟩
  refine wpAny_execs_cons (thn (h1 pins s σ H { D with nx := u D } I h) fun f s1 q => ?_)
  obtain ⟨hk, q⟩ := q
  cases f with
  | next =>
    obtain ⟨σ', H', I', q⟩ := q
    exact h2 pins s1 σ' H' D hk I' q
  | ret v => exact q
  | brk => exact q
  | cont => exact q
theorem pat_ofA (h : PA X es ta) : PAT X es ta := fun q pins s σ H Q _ I w => h.run q pins s σ H Q I w
theorem pat_consTT (ha : PET X e te) (hr : PAT X es ta) (hs : starEach (e :: es) X.env = (false, eval e X.env) :: starEach es X.env := by rfl) : PAT X (e :: es) (tCons te ta) := L2.pat_cons ha hr hs
def rpl2 (y z : Str) (mo : En → Mm Dt) : En → Mm Dt := fun env => mo env >>= fun d => match d with
  | .str x => if x.length + (x.length + 1) * z.length ≤ 16777216 then Mm.pure (.str (Txt.replace x y z)) else Mm.no
  | _ => Mm.no
theorem met_repl2 (ho : PE X o (tE X.K E mo)) (hyz : (y == z) = false := by decide)
    (hst : starEach [.Constant (.str y) j c0, .Constant (.str z) k c1] X.env = [(false, eval (.Constant (.str y) j c0) X.env), (false, eval (.Constant (.str z) k c1) X.env)] := by rfl)
    (hbase : attributeBase o "replace" X.env (eval o X.env) = eval o X.env := by rfl) (hline : (apos.endLine == pos.line) = true := by rfl) :
    PET X (.Call (.Attribute o "replace" apos) [.Constant (.str y) j c0, .Constant (.str z) k c1] [] pos) (tE X.K E (rpl2 y z mo)) := pet_mono (CwR.pet_replC ho hyz hst hbase hline) fun σ H Q ⟨s, env, e, r, he, ha⟩ => by
  subst e
  refine tE_bind r he ha fun d s1 v x1 r1 e1 rv q => ?_
  cases d with
  | str x =>
    cases rv
    by_cases hl : x.length + (x.length + 1) * z.length ≤ 16777216
    · simp only [hl, if_true] at q
      exact ⟨x, rfl, hl, q.ret r1 _ rfl⟩
    · simp only [hl, if_false] at q
      exact q.elim
  | _ => exact q.elim
theorem mat_nil : PAT X [] (tA X.K E argN) := pat_ofA ma_nil
theorem argC_ok (ma : En → Mm Dt) (mr : En → Mm (List Dt)) : ∀ σ H Q, tA X.K E (argC ma mr) σ H Q → tCons (tE X.K E ma) (tA X.K E mr) σ H Q := fun σ H Q ⟨s, env, e, r, he, ha⟩ => by
  subst e
  exact tE_bind r he ha fun d s1 v x1 r1 e1 rv q => tA_bind r1 e1 q fun ds s2 vs x2 r2 e2 rvs q2 => q2.ret r2 _ (Reps.cons (rv.ext x2) rvs)
theorem mat_consTT (ha : PET X e (tE X.K E ma)) (hr : PAT X es (tA X.K E mr)) (hs : starEach (e :: es) X.env = (false, eval e X.env) :: starEach es X.env := by rfl) : PAT X (e :: es) (tA X.K E (argC ma mr)) := pat_mono (pat_consTT ha hr hs) (argC_ok ma mr)
theorem mao_lit {op : Operator} (ho : OpR X (binaryOp op) (rM X.K E g)) (ha : PE X a (tE X.K E ma)) (hr : PAT X es (tA X.K E mr)) (hs : starEach (.BinOp a op (.Constant (.str y) j c0) pos :: es) X.env = (false, eval (.BinOp a op (.Constant (.str y) j c0) pos) X.env) :: starEach es X.env := by rfl) :
    PAo X (.BinOp a op (.Constant (.str y) j c0) pos :: es) (tA X.K E (argC (op2 g ma (con (.str y))) mr)) :=
  pao_mono (pao_first (te := tE X.K E (op2 g ma (con (.str y)))) (peo_mono (peo_lit ho ha) fun σ H Q w => by
    obtain ⟨s, env, e, r, he, ha⟩ := w
    subst e
    exact tE_bind r he ha fun d s1 x x1 r1 e1 rx q => ⟨s1, d, .str y, rfl, r1, rx, rfl, After.ret r1 q.bind⟩) hr hs) (argC_ok _ mr)
theorem mao_cons (ha : PE X e (tE X.K E ma)) (hr : PAo X es (tA X.K E mr)) (hs : starEach (e :: es) X.env = (false, eval e X.env) :: starEach es X.env := by rfl) : PAo X (e :: es) (tA X.K E (argC ma mr)) := pao_mono (pao_cons ha hr hs) (argC_ok ma mr)
theorem lstE_ok : ∀ σ H Q, tE X.K E (lstE mr) σ H Q → tLst (tA X.K E mr) σ H Q := fun σ H Q ⟨s, env, e, r, he, ha⟩ => by
  subst e
  refine tA_bind r he ha fun ds s1 vs x1 r1 e1 rv q => ?_
  split at q
  · rename_i hl
    rw [rv.length]
    refine ⟨hl, fun p hp => ?_⟩
    exact q.now (s1.new p (.lst vs)) rfl (new_ext r1 hp) (new_rel r1 hp) _ ⟨p, vs, rfl, ⟨upd_same, (new_fx r1 hp).2⟩, rv.ext (new_ext r1 hp)⟩
  · exact q.elim
theorem meo_lst {pos : Pos} (h : PAo X es (tA X.K E mr)) : PEo X (.List es pos) (tE X.K E (lstE mr)) := peo_mono (peo_lst h) lstE_ok
theorem met_lst {pos : Pos} (h : PAT X es (tA X.K E mr)) : PET X (.List es pos) (tE X.K E (lstE mr)) := pet_mono (pet_lst h) lstE_ok
theorem meo_op {op : Operator} (ho : OpR X (binaryOp op) (rM X.K E g)) (ha : PE X a (tE X.K E ma)) (hb : PEo X b (tE X.K E mb)) : PEo X (.BinOp a op b pos) (tE X.K E (op2 g ma mb)) := peo_mono (peo_op ho ha hb) (op2_ok fun _ _ _ _ h => h)
theorem met_op {op : Operator} (ho : OpR X (binaryOp op) (rM X.K E g)) (ha : PE X a (tE X.K E ma)) (hb : PET X b (tE X.K E mb)) : PET X (.BinOp a op b pos) (tE X.K E (op2 g ma mb)) := pet_mono (CwR.pet_op ho (CwR.PET.of ha) hb) (op2_ok fun _ _ _ _ h => h)
theorem sto_ok {i : Nat} : ∀ D σ H, tS X.K E (sto i ma) D σ H → tAsg (tE X.K E ma) (gName i) D σ H := fun D σ H ⟨s, env, e, r, he, ha⟩ => by
  subst e
  exact tE_bind r he ha fun d s1 v x1 r1 e1 rv q => q.ret r1 _ (e1.set rv i)
theorem mso_set {i : Nat} {x : Str} {pos' : Pos} (hN : X.N.Nodup) (hi : X.N[i]? = some x) (hx : Loc X.env.scope x) (he : PEo X e (tE X.K E ma)) (hs : swapsWith e (some (.Name x pos')) pos.line X.env = pure false := by rfl) (hf : X.fn x = true ∨ X.env.scope.names.lookup x = some .local := by first | exact .inl rfl | exact .inr rfl | assumption) :
    PSo X (.Assign [.Name x pos'] e pos) (tS X.K E (sto i ma)) := pso_mono (pso_set hN hi hx he hs hf) sto_ok
theorem mst_set {i : Nat} {x : Str} {pos' : Pos} (hN : X.N.Nodup) (hi : X.N[i]? = some x) (hx : Loc X.env.scope x) (he : PET X e (tE X.K E ma)) (hs : swapsWith e (some (.Name x pos')) pos.line X.env = pure false := by rfl) (hf : X.fn x = true ∨ X.env.scope.names.lookup x = some .local := by first | exact .inl rfl | exact .inr rfl | assumption) :
    PST X (.Assign [.Name x pos'] e pos) (tS X.K E (sto i ma)) := pst_mono (pst_set hN hi hx he hs hf) sto_ok
theorem seq_ok : ∀ D σ H, tS X.K E (seq m1 m2) D σ H → tSeq (tS X.K E m1) (tS X.K E m2) D σ H := fun D σ H ⟨s, env, e, r, he, ha⟩ => by
  subst e
  refine tS_bind r he ha fun fl s1 x1 r1 q => ?_
  cases fl with
  | nx e => exact fun σ' he' => ⟨s1, e, rfl, r1, he', q⟩
  | bk e => exact fun σ' he' => q.ret r1 σ' he'
  | ct e => exact fun σ' he' => q.ret r1 σ' he'
  | rt d => exact fun v rv => q.ret r1 v rv
theorem mss_out (h1 : PSo X st (tS X.K E m1)) (h2 : PSsT X rest (tS X.K E m2)) : PSs X (st :: rest) (tS X.K E (seq m1 m2)) := pss_mono (pss_out h1 h2) seq_ok
theorem msst_cons (h1 : PST X st (tS X.K E m1)) (h2 : PSsT X rest (tS X.K E m2)) : PSsT X (st :: rest) (tS X.K E (seq m1 m2)) := psst_mono (psst_cons h1 h2) seq_ok
end
section
variable {X : Cx} {E : XK} {c : Str} {pos p : Pos} {mr : En → Mm (List Dt)} {fm : List Dt → Mm Dt} {k j n : Nat} {ps ks : List Str} {pm : List Nat} {kws : List Keyword}
structure MxKw (P : Program) (w : World) (K : PySem.W.Frag) (mg : Str → Option Value) (base : Heap) (k : Nat) (c : Str) (ps ks : List Str) (pm : List Nat) (fm : List Dt → Mm Dt) : Prop where
  ex : ∃ fd, FnX P w K mg base k (He.ma K (He.ga K c) "__init__") fd ps fm ∧ ∀ (s : Shared) (self : Value) (us : List Value), us.length + 1 = ps.length → BindsTo s fd ⟨[self], ks.zip us⟩ (ps.zip (self :: permL pm us))
  mks : Mk K (He.ga K c) (He.ma K (He.ga K c) "__init__")
  gl : mg c = some (.ref (He.ga K c))
theorem me_makeXK (F : MxKw X.prog X.w X.K X.mg X.base k c ps ks pm fm) (tk : TakesE X E) (hgd : X.A.guards = some []) (hr : Room j X.A) (hkw : PK X kws (tA X.K E mr)) (hn : ps.length = n := by rfl) (hg : Gl X c := by rfl) (hkj : k + 1 ≤ j := by decide) (hdb : (c == ("__debug__" : Str)) = false := by decide)
    (hall : (backToKw pos (keywordEach kws X.env)).all (·.1.isSome) = true := by rfl) (hks : (backToKw pos (keywordEach kws X.env)).filterMap (·.1) = ks := by rfl)
    (hpl : ((backTo pos (starEach [] X.env)).any (·.1) || (backToKw pos (keywordEach kws X.env)).any (·.1.isNone)) = false := by rfl) : PE X (.Call (.Name c p) [] kws pos) (tE X.K E (makeK c n pm fm mr)) := by
  subst hn
  obtain ⟨fd, G, B⟩ := F.ex
  refine ⟨fun pins t σ H Q I h => ?_⟩
  refine wpAny_Call_Name_kw (ld_glob I hg F.gl ?_ hdb)
  have h2 : tA X.K E mr σ H fun vs H1 => vs.length + 1 = ps.length ∧ ∀ y dx, H1 y = none → H1 dx = none → dx ≠ y → spX X.K ps.length fm (.ref y :: permL pm vs) (upd (upd H1 dx (.own y)) y (.ins (He.ga X.K c) dx [])) (fun v H2 => v = .non ∧ Q (.ref y) H2) E := by
    obtain ⟨s1, env, rfl, r, he, ha⟩ := h
    refine tA_bind r he ha fun ds s2 vs x2 r2 e2 rv q => ?_
    split at q
    · rename_i hl
      exact ⟨by rw [rv.length]; exact hl, mkI_okX r2 (perm_reps pm rv) q⟩
    · exact q.elim
  refine PySem.W.callWith_KW0 (h₀ := X.base) I.ok.mod.kin F.mks.kp hall (thn (hkw.run pos pins t σ H _ I h2) fun ws s2 ⟨zs, H2, I2, rz, hl, q2⟩ => ⟨I2.kIn, ?_⟩) hpl
  rw [hks]
  exact run_makeX (us := []) (ws := permL pm ws) (vs := permL pm zs) F.mks G tk hgd (hr.mono hkj) (fun t' self _ => B t' self ws (by rw [← rz.length]; exact hl)) I2 (perm_vals pm rz) q2
end
end Mo
set_option Elab.async false
set_option linter.all false
set_option maxRecDepth 100000
set_option maxHeartbeats 4000000
namespace K51
open PySem L2 Mo
def tb_SHIFTS : Tb := [("e", some (.wt [.int 1, .int 0])), ("n", some (.wt [.int 0, .int 1])), ("w", some (.wt [.int (-1), .int 0])), ("s", some (.wt [.int 0, .int (-1)]))]
def xbs : List Str := ["Broken", "InUse", "InvalidBar", "InvalidBars", "InvalidCell", "InvalidCells", "InvalidClaim", "InvalidIndex", "InvalidName", "InvalidNumber", "InvalidText", "NoAnswer", "NotABoard", "NotALine", "NotClosed", "NotFacing", "NotOneRim", "NotTurned", "NothingToUndo", "TooMany", "Touches", "UnknownName", "WrongValue"]
def xtb : List (Str × List Str) := [("InvalidText", ["InvalidText", "WrongValue"]), ("NotClosed", ["NotClosed", "NoAnswer"]), ("Touches", ["Touches", "NoAnswer"])]
def cs_given : List Str := ["InvalidText"]
def cs_index : List Str := []
def cs_number : List Str := []
def cs_place : List Str := ["NotClosed", "Touches"]
def cs_told : List Str := []
/-- Line___str__(self): slots self -/
def m_Line___str__ : En → Mm Fl := (ret (bi bStrS (argC (fld "Line" "written" (var 0)) argN)))
def f_Line___str__ : List Dt → Mm Dt := fnM 1 m_Line___str__
/-- _law_purse(_law_script, _law_spot): slots _law_script, _law_spot, _law_cell, _law_seed, _law_one -/
def m__lwp_purse : En → Mm Fl := (seq (sto 2 (ifE (tst (op2 opLt (var 1) (bi bLen (argC (var 0) argN)))) (op2 ixM (var 0) (var 1)) (op2 opMul (con (.int 6211)) (op2 opAdd (var 1) (con (.int 5))))))
    (seq (sto 3 (op2 opAdd (con (.int 619)) (var 1)))
    (seq (forM (itL (op2 opAdd (slc slD (var 0) opN (opS (con (.int 5)))) (lstE (argC (var 2) argN)))) (.nm 4) (sto 3 (op2 opMod (bi bInt (argC (op2 opAdd (op2 opAdd (op2 opMul (var 3) (con (.int 69621))) (op2 opMod (bi bInt (argC (var 4) argN)) (con (.int 2147483647)))) (con (.int 101))) argN)) (con (.int 2147483647)))))
    (ret (lstO (argC (ifE (tst (op2 opGe (bi bAbs (argC (var 2) argN)) (op2 opPow (con (.int 10)) (con (.int 18))))) (bi bAbs (argC (var 2) argN)) (con (.int 0))) (argC (var 3) argN)))))))
def f__lwp_purse : List Dt → Mm Dt := fnM 5 m__lwp_purse
/-- _law_draw(_law_purse_here, _law_many): slots _law_purse_here, _law_many, _law_digit -/
def m__lwp_draw : En → Mm Fl := (seq (ifS (tst (op2 opGt (op2 ixM (var 0) (con (.int 0))) (con (.int 0)))) (seq (asg (bi bDivmod (argC (op2 ixM (var 0) (con (.int 0))) (argC (var 1) argN))) (gT 2 (gsC (gS (var 0) (con (.int 0)) setL) (gsC (gN 2) gsN))))
    (ret (var 2))) nxt)
    (seq (asg (op2 opMod (bi bInt (argC (op2 opAdd (op2 opMul (op2 ixM (var 0) (con (.int 1))) (con (.int 48271))) (con (.int 40503))) argN)) (con (.int 2147483647))) (gS (var 0) (con (.int 1)) setL))
    (ret (op2 opMod (bi bInt (argC (op2 opFdiv (op2 ixM (var 0) (con (.int 1))) (con (.int 1024))) argN)) (var 1)))))
def f__lwp_draw : List Dt → Mm Dt := fnM 3 m__lwp_draw
/-- _law_shift(_law_spot, _law_letter): slots _law_spot, _law_letter -/
def m__lwp_shift : En → Mm Fl := (ret (op2 ixD (dispM [((con (.str "e")), (tupE (argC (op2 opAdd (op2 ixM (var 0) (con (.int 0))) (con (.int 1))) (argC (op2 ixM (var 0) (con (.int 1))) argN)))), ((con (.str "n")), (tupE (argC (op2 ixM (var 0) (con (.int 0))) (argC (op2 opAdd (op2 ixM (var 0) (con (.int 1))) (con (.int 1))) argN)))), ((con (.str "w")), (tupE (argC (op2 opSub (op2 ixM (var 0) (con (.int 0))) (con (.int 1))) (argC (op2 ixM (var 0) (con (.int 1))) argN)))), ((con (.str "s")), (tupE (argC (op2 ixM (var 0) (con (.int 0))) (argC (op2 opSub (op2 ixM (var 0) (con (.int 1))) (con (.int 1))) argN))))]) (var 1)))
def f__lwp_shift : List Dt → Mm Dt := fnM 2 m__lwp_shift
/-- _law_spots(_law_steps): slots _law_steps, _law_found, _law_letter -/
def m__lwp_spots : En → Mm Fl := (seq (sto 1 (lstO (argC (tupE (argC (con (.int 0)) (argC (con (.int 0)) argN))) argN)))
    (seq (forM (itL (var 0)) (.nm 2) (drp (bm isL mApp (var 1) (argC (callM 2 f__lwp_shift (argC (op2 ixM (var 1) (op1 unNeg (con (.int 1)))) (argC (var 2) argN))) argN))))
    (ret (var 1))))
def f__lwp_spots : List Dt → Mm Dt := fnM 3 m__lwp_spots
/-- _law_level(_law_letter): slots _law_letter -/
def m__lwp_level : En → Mm Fl := (ret (op2 opIn (var 0) (lstE (argC (con (.str "e")) (argC (con (.str "w")) argN)))))
def f__lwp_level : List Dt → Mm Dt := fnM 1 m__lwp_level
/-- _law_touch(_law_steps): slots _law_steps, _law_spots_here, _law_k, _law_spot, _law_before, _law_j, _law_pair -/
def m__lwp_touch : En → Mm Fl := (seq (sto 1 (slc slD (callM 1 f__lwp_spots (argC (var 0) argN)) opN (opS (op1 unNeg (con (.int 1))))))
    (seq (forM (itEL (argC (var 1) argN)) (.tp [(.nm 2), (.nm 3)]) (seq (sto 4 (lcM (itR1 (argC (var 2) argN)) (.nm 5) (tst (op2 opEq (op2 ixM (var 1) (var 5)) (var 3))) (var 5) [5]))
    (seq (ifS (tst (op2 opGt (bi bLen (argC (var 4) argN)) (con (.int 1)))) (ret (var 3)) nxt)
    (ifS (tst (op2 opEq (bi bLen (argC (var 4) argN)) (con (.int 1)))) (seq (sto 6 (lstE (argC (op2 opAdd (op2 ixM (var 0) (op2 opSub (var 2) (con (.int 1)))) (op2 ixM (var 0) (var 2))) (argC (op2 opAdd (op2 ixM (var 0) (op2 opSub (op2 ixM (var 4) (con (.int 0))) (con (.int 1)))) (op2 ixM (var 0) (op2 ixM (var 4) (con (.int 0))))) argN))))
    (seq (ifS (orT (tst (op2 opNotIn (op2 ixM (var 6) (con (.int 0))) (lstE (argC (con (.str "ee")) (argC (con (.str "ww")) (argC (con (.str "nn")) (argC (con (.str "ss")) argN))))))) (tst (op2 opNotIn (op2 ixM (var 6) (con (.int 1))) (lstE (argC (con (.str "ee")) (argC (con (.str "ww")) (argC (con (.str "nn")) (argC (con (.str "ss")) argN)))))))) (ret (var 3)) nxt)
    (ifS (tst (op2 opEq (callM 1 f__lwp_level (argC (op2 ixM (var 0) (var 2)) argN)) (callM 1 f__lwp_level (argC (op2 ixM (var 0) (op2 ixM (var 4) (con (.int 0)))) argN)))) (ret (var 3)) nxt))) nxt))))
    (ret (con .non))))
def f__lwp_touch : List Dt → Mm Dt := fnM 7 m__lwp_touch
/-- _law_begun(_law_steps): slots _law_steps, _law_at, _law_k -/
def m__lwp_begun : En → Mm Fl := (seq (sto 1 (op2 ixM (lcM (itR1 (argC (bi bLen (argC (var 0) argN)) argN)) (.nm 2) (tst (op2 opNe (op2 ixM (var 0) (op2 opSub (var 2) (con (.int 1)))) (op2 ixM (var 0) (var 2)))) (var 2) [2]) (con (.int 0))))
    (ret (op2 opAdd (slc slD (var 0) (opS (var 1)) opN) (slc slD (var 0) opN (opS (var 1))))))
def f__lwp_begun : List Dt → Mm Dt := fnM 3 m__lwp_begun
/-- _law_cells(_law_purse_here, _law_tries, _law_most): slots _law_purse_here, _law_tries, _law_most, _law_steps, _law_at, _law_turn, _law_near, _law_spot, _law_letter, _law_beside, _law_other, _law_later -/
def m__lwp_cells : En → Mm Fl := (seq (par 3 4 (argC (lstE (argC (con (.str "e")) (argC (con (.str "n")) (argC (con (.str "w")) (argC (con (.str "s")) argN))))) (argC (con (.int 0)) argN)))
    (seq (forM (itR1 (argC (var 1) argN)) (.nm 5) (seq (sto 6 (ifE (tst (op2 opGt (callM 2 f__lwp_draw (argC (var 0) (argC (con (.int 4)) argN))) (con (.int 0)))) (op2 opSub (op2 opAdd (var 4) (con (.int 2))) (callM 2 f__lwp_draw (argC (var 0) (argC (con (.int 5)) argN)))) (callM 2 f__lwp_draw (argC (var 0) (argC (bi bLen (argC (var 3) argN)) argN)))))
    (seq (sto 7 (op2 opMod (bi bInt (argC (var 6) argN)) (bi bLen (argC (var 3) argN))))
    (seq (sto 8 (op2 ixM (var 3) (var 7)))
    (seq (sto 9 (op2 ixD (dispM [((con (.str "e")), (con (.str "s"))), ((con (.str "n")), (con (.str "e"))), ((con (.str "w")), (con (.str "n"))), ((con (.str "s")), (con (.str "w")))]) (var 8)))
    (seq (sto 10 (op2 ixD (dispM [((con (.str "e")), (con (.str "n"))), ((con (.str "n")), (con (.str "w"))), ((con (.str "w")), (con (.str "s"))), ((con (.str "s")), (con (.str "e")))]) (var 8)))
    (seq (sto 11 (op2 opAdd (op2 opAdd (slc slD (var 3) opN (opS (var 7))) (lstE (argC (var 9) (argC (var 8) (argC (var 10) argN))))) (slc slD (var 3) (opS (op2 opAdd (var 7) (con (.int 1)))) opN)))
    (ifS (andT (tst (op2 opLe (bi bLen (argC (var 11) argN)) (var 2))) (tst (op2 opIsN (callM 1 f__lwp_touch (argC (var 11) argN)) (con .non)))) (par 3 4 (argC (var 11) (argC (op2 opAdd (var 7) (con (.int 1))) argN))) nxt))))))))
    (ret (callM 1 f__lwp_begun (argC (var 3) argN)))))
def f__lwp_cells : List Dt → Mm Dt := fnM 12 m__lwp_cells
/-- _law_mixed(_law_purse_here, _law_many): slots _law_purse_here, _law_many, _law_left, _law_found, _law_turn -/
def m__lwp_mixed : En → Mm Fl := (seq (par 2 3 (argC (lstRg (var 1)) (argC (lstO argN) argN)))
    (seq (forM (itR1 (argC (var 1) argN)) (.nm 4) (drp (bm isL mApp (var 3) (argC (bm isL mPopAt (var 2) (argC (callM 2 f__lwp_draw (argC (var 0) (argC (bi bLen (argC (var 2) argN)) argN))) argN)) argN))))
    (ret (var 3))))
def f__lwp_mixed : List Dt → Mm Dt := fnM 5 m__lwp_mixed
/-- _law_woven(_law_purse_here, _law_many): slots _law_purse_here, _law_many, _law_across, _law_along, _law_steps, _law_k, _law_by -/
def m__lwp_woven : En → Mm Fl := (seq (par3 2 3 4 (argC (callM 2 f__lwp_mixed (argC (var 0) (argC (var 1) argN))) (argC (callM 2 f__lwp_mixed (argC (var 0) (argC (var 1) argN))) (argC (lstE argN) argN))))
    (seq (forM (itR1 (argC (var 1) argN)) (.nm 5) (seq (sto 6 (op2 opSub (op2 ixM (var 2) (op2 opMod (bi bInt (argC (op2 opAdd (var 5) (con (.int 1))) argN)) (var 1))) (op2 ixM (var 2) (var 5))))
    (seq (sto 4 (op2 opAdd (var 4) (op2 opMul (lstE (argC (ifE (tst (op2 opGt (var 6) (con (.int 0)))) (con (.str "e")) (con (.str "w"))) argN)) (bi bAbs (argC (var 6) argN)))))
    (seq (sto 6 (op2 opSub (op2 ixM (var 3) (op2 opMod (bi bInt (argC (op2 opAdd (var 5) (con (.int 1))) argN)) (var 1))) (op2 ixM (var 3) (var 5))))
    (sto 4 (op2 opAdd (var 4) (op2 opMul (lstE (argC (ifE (tst (op2 opGt (var 6) (con (.int 0)))) (con (.str "n")) (con (.str "s"))) argN)) (bi bAbs (argC (var 6) argN)))))))))
    (ret (var 4))))
def f__lwp_woven : List Dt → Mm Dt := fnM 7 m__lwp_woven
/-- _law_two(): slots _law_found, _law_word -/
def m__lwp_two : En → Mm Fl := (seq (sto 0 (lstE argN))
    (seq (forM (itL (bm isSt mSplit (con (.str "e5 n3 w4 n1 e1 s5 e4 n7 w7 s4 e5 s1 w1 n4 w3 s5")) (argC (con (.str " ")) argN))) (.nm 1) (sto 0 (op2 opAdd (var 0) (op2 opMul (lstE (argC (op2 ixM (var 1) (con (.int 0))) argN)) (bi bInt (argC (op2 ixM (var 1) (con (.int 1))) argN))))))
    (ret (var 0))))
def f__lwp_two : List Dt → Mm Dt := fnM 2 m__lwp_two
/-- _law_round(_law_steps): slots _law_steps, _law_found, _law_k, _law_letter, _law_pair -/
def m__lwp_round : En → Mm Fl := (seq (sto 1 (con (.int 0)))
    (seq (forM (itEL (argC (var 0) argN)) (.tp [(.nm 2), (.nm 3)]) (seq (sto 4 (op2 opAdd (op2 ixM (var 0) (op2 opSub (var 2) (con (.int 1)))) (var 3)))
    (sto 1 (op2 opSub (op2 opAdd (var 1) (bi bInt (argC (op2 opIn (var 4) (lstE (argC (con (.str "en")) (argC (con (.str "nw")) (argC (con (.str "ws")) (argC (con (.str "se")) argN)))))) argN))) (bi bInt (argC (op2 opIn (var 4) (lstE (argC (con (.str "es")) (argC (con (.str "sw")) (argC (con (.str "wn")) (argC (con (.str "ne")) argN)))))) argN))))))
    (ret (var 1))))
def f__lwp_round : List Dt → Mm Dt := fnM 5 m__lwp_round
/-- _law_drawn(_law_purse_here, _law_size): slots _law_purse_here, _law_size, _law_way_here, _law_steps, _law_at, _law_tries, _law_turn, _law_good, _law_back, _law_letter -/
def m__lwp_drawn : En → Mm Fl := (seq (sto 2 (callM 2 f__lwp_draw (argC (var 0) (argC (con (.int 9)) argN))))
    (seq (ifS (tst (op2 opLt (var 2) (con (.int 4)))) (ret (callM 3 f__lwp_cells (argC (var 0) (argC (var 1) (argC (con (.int 60)) argN))))) nxt)
    (seq (ifS (tst (op2 opLt (var 2) (con (.int 6)))) (ret (callM 2 f__lwp_woven (argC (var 0) (argC (op2 opAdd (con (.int 2)) (callM 2 f__lwp_draw (argC (var 0) (argC (con (.int 6)) argN)))) argN)))) nxt)
    (seq (ifS (tst (op2 opEq (var 2) (con (.int 6)))) (seq (sto 3 (fun _ => f__lwp_two []))
    (seq (sto 4 (callM 2 f__lwp_draw (argC (var 0) (argC (bi bLen (argC (var 3) argN)) argN))))
    (ret (callM 1 f__lwp_begun (argC (op2 opAdd (slc slD (var 3) (opS (var 4)) opN) (slc slD (var 3) opN (opS (var 4)))) argN))))) nxt)
    (seq (ifS (tst (op2 opEq (var 2) (con (.int 7)))) (seq (sto 5 (lcM (itR1 (argC (con (.int 6)) argN)) (.nm 6) yes (callM 2 f__lwp_woven (argC (var 0) (argC (op2 opAdd (con (.int 3)) (callM 2 f__lwp_draw (argC (var 0) (argC (con (.int 5)) argN)))) argN))) [6]))
    (seq (sto 7 (lcM (itL (var 5)) (.nm 3) (tst (op2 opEq (callM 1 f__lwp_round (argC (var 3) argN)) (con (.int 4)))) (var 3) [3]))
    (ret (ifE (tst (op2 opNeL (var 7) (lstE argN))) (op2 ixM (var 7) (con (.int 0))) (op2 ixM (var 5) (con (.int 0))))))) nxt)
    (seq (sto 8 (dispM [((con (.str "e")), (con (.str "w"))), ((con (.str "w")), (con (.str "e"))), ((con (.str "n")), (con (.str "s"))), ((con (.str "s")), (con (.str "n")))]))
    (ret (callM 1 f__lwp_begun (argC (lcM (itL (op1 revL (callM 3 f__lwp_cells (argC (var 0) (argC (var 1) (argC (con (.int 60)) argN)))))) (.nm 9) yes (op2 ixD (var 8) (var 9)) [9]) argN)))))))))
def f__lwp_drawn : List Dt → Mm Dt := fnM 10 m__lwp_drawn
/-- _law_text(_law_steps): slots _law_steps, _law_words, _law_many, _law_k, _law_letter -/
def m__lwp_text : En → Mm Fl := (seq (par 1 2 (argC (lstO argN) (argC (con (.int 0)) argN)))
    (seq (forM (itEL (argC (var 0) argN)) (.tp [(.nm 3), (.nm 4)]) (seq (sto 2 (op2 opAdd (var 2) (con (.int 1))))
    (ifS (orT (tst (op2 opEq (var 3) (op2 opSub (bi bLen (argC (var 0) argN)) (con (.int 1))))) (tst (op2 opNe (op2 ixM (var 0) (op2 opAdd (var 3) (con (.int 1)))) (var 4)))) (seq (drp (bm isL mApp (var 1) (argC (op2 opAdd (var 4) (bi bStr (argC (var 2) argN))) argN)))
    (sto 2 (con (.int 0)))) nxt)))
    (ret (bm isSt mJoin (con (.str " ")) (argC (var 1) argN)))))
def f__lwp_text : List Dt → Mm Dt := fnM 5 m__lwp_text
/-- _law_sign_of_text(_law_purse_here): slots _law_purse_here -/
def m__lwp_sign_of_text : En → Mm Fl := (ret (op2 ixM (con (.str "enws0123 -\n9aE;_!+")) (callM 2 f__lwp_draw (argC (var 0) (argC (con (.int 18)) argN)))))
def f__lwp_sign_of_text : List Dt → Mm Dt := fnM 1 m__lwp_sign_of_text
/-- _law_bent(_law_purse_here, _law_line): slots _law_purse_here, _law_line, _law_turn, _law_way, _law_at, _law_sign -/
def m__lwp_bent : En → Mm Fl := (seq (forM (itR1 (argC (callM 2 f__lwp_draw (argC (var 0) (argC (con (.int 3)) argN))) argN)) (.nm 2) (seq (par3 3 4 5 (argC (callM 2 f__lwp_draw (argC (var 0) (argC (con (.int 4)) argN))) (argC (callM 2 f__lwp_draw (argC (var 0) (argC (op2 opAdd (bi bLen (argC (var 1) argN)) (con (.int 1))) argN))) (argC (callM 1 f__lwp_sign_of_text (argC (var 0) argN)) argN))))
    (ifS (tst (op2 opEq (var 3) (con (.int 0)))) (sto 1 (op2 opAdd (op2 opAdd (slc slD (var 1) opN (opS (var 4))) (var 5)) (slc slD (var 1) (opS (var 4)) opN))) (ifS (tst (op2 opEq (var 3) (con (.int 1)))) (sto 1 (op2 opAdd (slc slD (var 1) opN (opS (var 4))) (slc slD (var 1) (opS (op2 opAdd (var 4) (con (.int 1)))) opN))) (ifS (tst (op2 opEq (var 3) (con (.int 2)))) (sto 1 (op2 opAdd (op2 opAdd (slc slD (var 1) opN (opS (var 4))) (var 5)) (slc slD (var 1) (opS (op2 opAdd (var 4) (con (.int 1)))) opN))) (sto 1 (op2 opAdd (slc slD (var 1) opN (opS (var 4))) (slc slD (var 1) (opS (bi bMax2 (argC (con (.int 0)) (argC (op2 opSub (var 4) (con (.int 1))) argN)))) opN))))))))
    (ret (var 1)))
def f__lwp_bent : List Dt → Mm Dt := fnM 6 m__lwp_bent
/-- _law_pick(_law_purse_here, _law_some): slots _law_purse_here, _law_some -/
def m__lwp_pick : En → Mm Fl := (ret (op2 ixM (var 1) (callM 2 f__lwp_draw (argC (var 0) (argC (bi bLen (argC (var 1) argN)) argN)))))
def f__lwp_pick : List Dt → Mm Dt := fnM 2 m__lwp_pick
/-- _law_shuffled(_law_purse_here, _law_said): slots _law_purse_here, _law_said, _law_words, _law_way_here, _law_at, _law_to, _law_opposite, _law_k -/
def m__lwp_shuffled : En → Mm Fl := (seq (asg (tupE (argC (bm isSt mSplitO (var 1) (argC (con (.str " ")) argN)) (argC (callM 2 f__lwp_draw (argC (var 0) (argC (con (.int 6)) argN))) argN))) (gT 2 (gsC (gN 2) (gsC (gN 3) gsN))))
    (seq (asg (tupE (argC (callM 2 f__lwp_draw (argC (var 0) (argC (bi bLen (argC (var 2) argN)) argN))) (argC (callM 2 f__lwp_draw (argC (var 0) (argC (bi bLen (argC (var 2) argN)) argN))) argN))) (gT 2 (gsC (gN 4) (gsC (gN 5) gsN))))
    (seq (ifS (tst (op2 opLt (var 3) (con (.int 2)))) (ret (bm isSt mJoin (con (.str " ")) (argC (op2 opAdd (op2 opAdd (slc slD (var 2) opN (opS (var 4))) (slc slD (var 2) (opS (op2 opAdd (var 4) (var 3))) (opS (var 5)))) (slc slD (var 2) (opS (var 5)) opN)) argN))) nxt)
    (seq (ifS (tst (op2 opEq (var 3) (con (.int 2)))) (asg (tupE (argC (op2 ixM (var 2) (var 5)) (argC (op2 ixM (var 2) (var 4)) argN))) (gT 2 (gsC (gS (var 2) (var 4) setL) (gsC (gS (var 2) (var 5) setL) gsN)))) nxt)
    (seq (ifS (tst (op2 opGt (var 3) (con (.int 2)))) (asg (op2 opAdd (op2 ixM (op2 ixM (var 2) (var 4)) (con (.int 0))) (bi bStr (argC (op2 opAdd (bi bInt (argC (slc slD (op2 ixM (var 2) (var 4)) (opS (con (.int 1))) opN) argN)) (con (.int 1))) argN))) (gS (var 2) (var 4) setL)) nxt)
    (seq (sto 6 (lcM (itR1 (argC (bi bLen (argC (var 2) argN)) argN)) (.nm 7) (tst (op2 opEq (op2 ixM (op2 ixM (var 2) (var 7)) (con (.int 0))) (op2 ixD (dispM [((con (.str "e")), (con (.str "w"))), ((con (.str "w")), (con (.str "e"))), ((con (.str "n")), (con (.str "s"))), ((con (.str "s")), (con (.str "n")))]) (op2 ixM (op2 ixM (var 2) (var 4)) (con (.int 0)))))) (var 7) [7]))
    (seq (ifS (andT (tst (op2 opGt (var 3) (con (.int 3)))) (tst (op2 opNeL (var 6) (lstE argN)))) (seq (sto 7 (callM 2 f__lwp_pick (argC (var 0) (argC (var 6) argN))))
    (asg (op2 opAdd (op2 ixM (op2 ixM (var 2) (var 7)) (con (.int 0))) (bi bStr (argC (op2 opAdd (bi bInt (argC (slc slD (op2 ixM (var 2) (var 7)) (opS (con (.int 1))) opN) argN)) (con (.int 1))) argN))) (gS (var 2) (var 7) setL))) nxt)
    (ret (bm isSt mJoin (con (.str " ")) (argC (var 2) argN))))))))))
def f__lwp_shuffled : List Dt → Mm Dt := fnM 8 m__lwp_shuffled
/-- _law_odd(_law_purse_here): slots _law_purse_here, _law_odd_here -/
def m__lwp_odd : En → Mm Fl := (seq (sto 1 (lstE (argC (con .non) (argC (con (.bl true)) (argC (con (.str "")) (argC (con (.str "0")) (argC (con (.int 1)) (argC (tupE argN) (argC (tupE (argC (con (.int 0)) argN)) (argC (lstE argN) (argC dnewV (argC (op1 unNeg (con (.int 1))) (argC (tupE (argC (con (.str "a")) (argC (con (.int 1)) argN))) (argC (con (.str "A")) (argC (lstE (argC (con (.str "a")) argN)) (argC (con (.str "a b")) (argC (tupE (argC (tupE argN) argN)) (argC (con (.bl false)) (argC (con (.str "abcdefghi")) (argC (con (.str "e0")) argN))))))))))))))))))))
    (ret (op2 ixM (var 1) (callM 2 f__lwp_draw (argC (var 0) (argC (con (.int 18)) argN))))))
def f__lwp_odd : List Dt → Mm Dt := fnM 2 m__lwp_odd
/-- stretch_of(word): slots word, sign -/
def m_stretch_of : En → Mm Fl := (seq (ifS (orT (notT (tst (bi bIsi (argC (var 0) (argC (con (.ty "str")) argN))))) (orT (tst (op2 opLt (bi bLen (argC (var 0) argN)) (con (.int 2)))) (orT (tst (op2 opNotIn (op2 ixM (var 0) (con (.int 0))) (con (.str "enws")))) (tst (op2 opEq (op2 ixM (var 0) (con (.int 1))) (con (.str "0"))))))) (ret (con .non)) nxt)
    (seq (ifS (notT (tst (bi bAll (argC (lcM (itS (slc slD (var 0) (opS (con (.int 1))) opN)) (.nm 1) yes (op2 opIn (var 1) (con (.str "0123456789"))) [1]) argN)))) (ret (con .non)) nxt)
    (ret (tupE (argC (op2 ixM (var 0) (con (.int 0))) (argC (bi bInt (argC (slc slD (var 0) (opS (con (.int 1))) opN) argN)) argN))))))
def f_stretch_of : List Dt → Mm Dt := fnM 2 m_stretch_of
/-- stretches_of(text): slots text, found, word -/
def m_stretches_of : En → Mm Fl := (seq (ifS (notT (tst (bi bIsi (argC (var 0) (argC (con (.ty "str")) argN))))) (ret (con .non)) nxt)
    (seq (sto 1 (lcM (itL (bm isSt mSplit (var 0) (argC (con (.str " ")) argN))) (.nm 2) yes (callM 1 f_stretch_of (argC (var 2) argN)) [2]))
    (ret (ifE (tst (op2 opIn (con .non) (var 1))) (con .non) (var 1)))))
def f_stretches_of : List Dt → Mm Dt := fnM 3 m_stretches_of
/-- is_level(way): slots way -/
def m_is_level : En → Mm Fl := (ret (op2 opIn (var 0) (con (.str "ew"))))
def f_is_level : List Dt → Mm Dt := fnM 1 m_is_level
/-- steps_of(text): slots text, found, way, number, k -/
def m_steps_of : En → Mm Fl := (seq (sto 1 (callM 1 f_stretches_of (argC (var 0) argN)))
    (seq (ifS (orT (tst (op2 opIsN (var 1) (con .non))) (orT (tst (op2 opLt (bi bLen (argC (var 1) argN)) (con (.int 4)))) (tst (op2 opGt (bi bSum (argC (lcM (itL (var 1)) (.tp [(.nm 2), (.nm 3)]) yes (var 3) [2, 3]) argN)) (con (.int 120)))))) (ret (con .non)) nxt)
    (seq (ifS (tst (bi bAny (argC (lcM (itEL (argC (var 1) argN)) (.tp [(.nm 4), (.tp [(.nm 2), (.nm 3)])]) yes (op2 opEq (callM 1 f_is_level (argC (op2 ixM (op2 ixM (var 1) (op2 opSub (var 4) (con (.int 1)))) (con (.int 0))) argN)) (callM 1 f_is_level (argC (var 2) argN))) [4, 2, 3]) argN))) (ret (con .non)) nxt)
    (ret (bm isSt mJoin (con (.str "")) (argC (lcM (itL (var 1)) (.tp [(.nm 2), (.nm 3)]) yes (op2 opMul (var 2) (var 3)) [2, 3]) argN))))))
def f_steps_of : List Dt → Mm Dt := fnM 5 m_steps_of
/-- places_of_names(steps): slots steps, found, way, shift -/
def m_places_of_names : En → Mm Fl := (seq (sto 1 (lstO (argC (tupE (argC (con (.int 0)) (argC (con (.int 0)) argN))) argN)))
    (seq (forM (itS (var 0)) (.nm 2) (seq (sto 3 (kix tb_SHIFTS (var 2)))
    (drp (bm isL mApp (var 1) (argC (tupE (argC (op2 opAdd (op2 ixM (op2 ixM (var 1) (op1 unNeg (con (.int 1)))) (con (.int 0))) (op2 ixM (var 3) (con (.int 0)))) (argC (op2 opAdd (op2 ixM (op2 ixM (var 1) (op1 unNeg (con (.int 1)))) (con (.int 1))) (op2 ixM (var 3) (con (.int 1)))) argN))) argN)))))
    (ret (var 1))))
def f_places_of_names : List Dt → Mm Dt := fnM 4 m_places_of_names
/-- is_plain(steps, first, second): slots steps, first, second -/
def m_is_plain : En → Mm Fl := (seq (ifS (orT (tst (op2 opNe (op2 ixM (var 0) (op2 opSub (var 1) (con (.int 1)))) (op2 ixM (var 0) (var 1)))) (tst (op2 opNe (op2 ixM (var 0) (op2 opSub (var 2) (con (.int 1)))) (op2 ixM (var 0) (var 2))))) (ret (con (.bl false))) nxt)
    (ret (op2 opNe (callM 1 f_is_level (argC (op2 ixM (var 0) (var 1)) argN)) (callM 1 f_is_level (argC (op2 ixM (var 0) (var 2)) argN)))))
def f_is_plain : List Dt → Mm Dt := fnM 3 m_is_plain
/-- first_touch(steps): slots steps, seen, k, place, before -/
def m_first_touch : En → Mm Fl := (seq (sto 1 (fun _ => mkO (.dt [] [])))
    (seq (forM (itEL (argC (slc slD (callM 1 f_places_of_names (argC (var 0) argN)) opN (opS (op1 unNeg (con (.int 1))))) argN)) (.tp [(.nm 2), (.nm 3)]) (seq (sto 4 (setdM (var 1) (var 3) (lstO argN)))
    (seq (ifS (orT (tst (op2 opGt (bi bLen (argC (var 4) argN)) (con (.int 1)))) (andT (tst (op2 opEq (bi bLen (argC (var 4) argN)) (con (.int 1)))) (notT (tst (callM 3 f_is_plain (argC (var 0) (argC (op2 ixM (var 4) (con (.int 0))) (argC (var 2) argN)))))))) (ret (var 3)) nxt)
    (drp (bm isL mApp (var 4) (argC (var 2) argN))))))
    (ret (con .non))))
def f_first_touch : List Dt → Mm Dt := fnM 5 m_first_touch
/-- turned_left(way): slots way -/
def m_turned_left : En → Mm Fl := (ret (op2 ixM (con (.str "enws")) (op2 opMod (op2 opAdd (bm isSt mSIndex (con (.str "enws")) (argC (var 0) argN)) (con (.int 1))) (con (.int 4)))))
def f_turned_left : List Dt → Mm Dt := fnM 1 m_turned_left
/-- quarters_of(steps): slots steps, found, k, way -/
def m_quarters_of : En → Mm Fl := (seq (sto 1 (con (.int 0)))
    (seq (forM (itES (argC (var 0) argN)) (.tp [(.nm 2), (.nm 3)]) (ifS (tst (op2 opNe (op2 ixM (var 0) (op2 opSub (var 2) (con (.int 1)))) (var 3))) (sto 1 (op2 opAdd (var 1) (ifE (tst (op2 opEq (callM 1 f_turned_left (argC (op2 ixM (var 0) (op2 opSub (var 2) (con (.int 1)))) argN)) (var 3))) (con (.int 1)) (op1 unNeg (con (.int 1)))))) nxt))
    (ret (var 1))))
def f_quarters_of : List Dt → Mm Dt := fnM 4 m_quarters_of
/-- Line___init__(self, text): slots self, text, ways, spots, touch -/
def m_LineX___init__ : En → Mm Fl := (seq (fun env => noX ((sto 2 (callM 1 f_steps_of (argC (var 1) argN))) env))
    (seq (ifS (fun env => noX ((tst (op2 opIsN (var 2) (con .non))) env)) (rai "InvalidText" ["given"] (fun env => noX ((argC (var 1) argN) env))) nxt)
    (seq (fun env => noX ((sto 3 (callM 1 f_places_of_names (argC (var 2) argN))) env))
    (seq (ifS (fun env => noX ((tst (op2 opNe (op2 ixM (var 3) (op1 unNeg (con (.int 1)))) (tupE (argC (con (.int 0)) (argC (con (.int 0)) argN))))) env)) (rai "NotClosed" ["place"] (fun env => noX ((argC (op2 ixM (var 3) (op1 unNeg (con (.int 1)))) argN) env))) nxt)
    (seq (fun env => noX ((sto 4 (callM 1 f_first_touch (argC (var 2) argN))) env))
    (seq (ifS (fun env => noX ((tst (op2 opNotN (var 4) (con .non))) env)) (rai "Touches" ["place"] (fun env => noX ((argC (var 4) argN) env))) nxt)
    (seq (fun env => noX ((asg (tupE (argC (var 1) (argC (var 2) (argC (slc slD (var 3) opN (opS (op1 unNeg (con (.int 1))))) argN)))) (gT 3 (gsC (gF "Line" "written" (var 0)) (gsC (gF "Line" "ways" (var 0)) (gsC (gF "Line" "spots" (var 0)) gsN))))) env))
    (fun env => noX ((asg (op2 opFdiv (callM 1 f_quarters_of (argC (var 2) argN)) (con (.int 4))) (gF "Line" "rounds" (var 0))) env)))))))))
def f_LineX___init__ : List Dt → Mm Dt := fnM 5 m_LineX___init__
/-- _law_is_word(_law_x): slots _law_x, _law_letter -/
def m__lwp_is_word : En → Mm Fl := (seq (ifS (orT (tst (op2 opLt (bi bLen (argC (var 0) argN)) (con (.int 2)))) (orT (tst (op2 opNotIn (op2 ixM (var 0) (con (.int 0))) (con (.str "enws")))) (tst (op2 opEq (op2 ixM (var 0) (con (.int 1))) (con (.str "0")))))) (ret (con (.bl false))) nxt)
    (ret (op2 opEq (lcM (itS (slc slD (var 0) (opS (con (.int 1))) opN)) (.nm 1) (tst (op2 opNotIn (var 1) (con (.str "0123456789")))) (var 1) [1]) (lstE argN))))
def f__lwp_is_word : List Dt → Mm Dt := fnM 2 m__lwp_is_word
/-- _law_due(_law_said): slots _law_said, _law_words, _law_x, _law_k, _law_steps, _law_spot -/
def m__lwp_due : En → Mm Fl := (seq (sto 1 (ifE (tst (bi bIsi (argC (var 0) (argC (con (.ty "str")) argN)))) (bm isSt mSplit (var 0) (argC (con (.str " ")) argN)) (lstE argN)))
    (seq (ifS (orT (tst (op2 opLt (bi bLen (argC (var 1) argN)) (con (.int 4)))) (tst (op2 opNeL (lcM (itL (var 1)) (.nm 2) (notT (tst (callM 1 f__lwp_is_word (argC (var 2) argN)))) (var 2) [2]) (lstE argN)))) (ret (tupE (argC (con (.str "InvalidText")) (argC (bi bReprA (argC (var 0) argN)) argN)))) nxt)
    (seq (ifS (tst (op2 opGt (bi bSum (argC (lcM (itL (var 1)) (.nm 2) yes (bi bInt (argC (slc slD (var 2) (opS (con (.int 1))) opN) argN)) [2]) argN)) (con (.int 120)))) (ret (tupE (argC (con (.str "InvalidText")) (argC (bi bReprA (argC (var 0) argN)) argN)))) nxt)
    (seq (ifS (tst (op2 opNeL (lcM (itR1 (argC (bi bLen (argC (var 1) argN)) argN)) (.nm 3) (tst (op2 opEq (callM 1 f__lwp_level (argC (op2 ixM (op2 ixM (var 1) (var 3)) (con (.int 0))) argN)) (callM 1 f__lwp_level (argC (op2 ixM (op2 ixM (var 1) (op2 opSub (var 3) (con (.int 1)))) (con (.int 0))) argN)))) (var 3) [3]) (lstE argN))) (ret (tupE (argC (con (.str "InvalidText")) (argC (bi bReprA (argC (var 0) argN)) argN)))) nxt)
    (seq (sto 4 (lstE argN))
    (seq (forM (itL (var 1)) (.nm 2) (sto 4 (op2 opAdd (var 4) (op2 opMul (lstE (argC (op2 ixM (var 2) (con (.int 0))) argN)) (bi bInt (argC (slc slD (var 2) (opS (con (.int 1))) opN) argN))))))
    (seq (ifS (tst (op2 opNe (op2 ixM (callM 1 f__lwp_spots (argC (var 4) argN)) (op1 unNeg (con (.int 1)))) (tupE (argC (con (.int 0)) (argC (con (.int 0)) argN))))) (ret (tupE (argC (con (.str "NotClosed")) (argC (bi bReprA (argC (op2 ixM (callM 1 f__lwp_spots (argC (var 4) argN)) (op1 unNeg (con (.int 1)))) argN)) argN)))) nxt)
    (seq (sto 5 (callM 1 f__lwp_touch (argC (var 4) argN)))
    (ret (ifE (tst (op2 opIsN (var 5) (con .non))) (tupE (argC (con (.str "returned")) (argC (var 0) argN))) (tupE (argC (con (.str "Touches")) (argC (bi bReprA (argC (var 5) argN)) argN)))))))))))))
def f__lwp_due : List Dt → Mm Dt := fnM 6 m__lwp_due
/-- _law_sort(_law_e): slots _law_e, _law_words, _law_flags, _law_bases, _law_at -/
def m__lwp_sort (a0 : Addr) (d0 : Option Addr) (c0 : Str) : En → Mm Fl := (seq (sto 1 (lstE (argC (con (.str "InvalidText")) (argC (con (.str "InvalidNumber")) (argC (con (.str "InvalidName")) (argC (con (.str "InvalidIndex")) (argC (con (.str "InvalidClaim")) (argC (con (.str "InvalidCell")) (argC (con (.str "InvalidBar")) argN)))))))))
    (seq (sto 1 (op2 opAdd (var 1) (lstE (argC (con (.str "UnknownName")) (argC (con (.str "NotALine")) (argC (con (.str "NotABoard")) (argC (con (.str "InvalidBars")) (argC (con (.str "InvalidCells")) (argC (con (.str "NotClosed")) (argC (con (.str "Touches")) argN))))))))))
    (seq (sto 1 (op2 opAdd (var 1) (lstE (argC (con (.str "NotTurned")) (argC (con (.str "NotFacing")) (argC (con (.str "NotOneRim")) (argC (con (.str "TooMany")) (argC (con (.str "Broken")) (argC (con (.str "InUse")) (argC (con (.str "NothingToUndo")) argN))))))))))
    (seq (sto 2 (lstE (argC (bi (bIsH a0 d0 c0 xbs xtb) (argC (var 0) (argC (con (.cl "InvalidText")) argN))) (argC (bi (bIsH a0 d0 c0 xbs xtb) (argC (var 0) (argC (con (.cl "InvalidNumber")) argN))) (argC (bi (bIsH a0 d0 c0 xbs xtb) (argC (var 0) (argC (con (.cl "InvalidName")) argN))) argN)))))
    (seq (sto 2 (op2 opAdd (var 2) (lstE (argC (bi (bIsH a0 d0 c0 xbs xtb) (argC (var 0) (argC (con (.cl "InvalidIndex")) argN))) (argC (bi (bIsH a0 d0 c0 xbs xtb) (argC (var 0) (argC (con (.cl "InvalidClaim")) argN))) (argC (bi (bIsH a0 d0 c0 xbs xtb) (argC (var 0) (argC (con (.cl "InvalidCell")) argN))) argN))))))
    (seq (sto 2 (op2 opAdd (var 2) (lstE (argC (bi (bIsH a0 d0 c0 xbs xtb) (argC (var 0) (argC (con (.cl "InvalidBar")) argN))) (argC (bi (bIsH a0 d0 c0 xbs xtb) (argC (var 0) (argC (con (.cl "UnknownName")) argN))) (argC (bi (bIsH a0 d0 c0 xbs xtb) (argC (var 0) (argC (con (.cl "NotALine")) argN))) argN))))))
    (seq (sto 2 (op2 opAdd (var 2) (lstE (argC (bi (bIsH a0 d0 c0 xbs xtb) (argC (var 0) (argC (con (.cl "NotABoard")) argN))) (argC (bi (bIsH a0 d0 c0 xbs xtb) (argC (var 0) (argC (con (.cl "InvalidBars")) argN))) (argC (bi (bIsH a0 d0 c0 xbs xtb) (argC (var 0) (argC (con (.cl "InvalidCells")) argN))) argN))))))
    (seq (sto 2 (op2 opAdd (var 2) (lstE (argC (bi (bIsH a0 d0 c0 xbs xtb) (argC (var 0) (argC (con (.cl "NotClosed")) argN))) (argC (bi (bIsH a0 d0 c0 xbs xtb) (argC (var 0) (argC (con (.cl "Touches")) argN))) (argC (bi (bIsH a0 d0 c0 xbs xtb) (argC (var 0) (argC (con (.cl "NotTurned")) argN))) argN))))))
    (seq (sto 2 (op2 opAdd (var 2) (lstE (argC (bi (bIsH a0 d0 c0 xbs xtb) (argC (var 0) (argC (con (.cl "NotFacing")) argN))) (argC (bi (bIsH a0 d0 c0 xbs xtb) (argC (var 0) (argC (con (.cl "NotOneRim")) argN))) (argC (bi (bIsH a0 d0 c0 xbs xtb) (argC (var 0) (argC (con (.cl "TooMany")) argN))) argN))))))
    (seq (sto 2 (op2 opAdd (var 2) (lstE (argC (bi (bIsH a0 d0 c0 xbs xtb) (argC (var 0) (argC (con (.cl "Broken")) argN))) (argC (bi (bIsH a0 d0 c0 xbs xtb) (argC (var 0) (argC (con (.cl "InUse")) argN))) (argC (bi (bIsH a0 d0 c0 xbs xtb) (argC (var 0) (argC (con (.cl "NothingToUndo")) argN))) argN))))))
    (seq (sto 3 (lstE (argC (bi (bIsH a0 d0 c0 xbs xtb) (argC (var 0) (argC (con (.cl "WrongValue")) argN))) (argC (bi (bIsH a0 d0 c0 xbs xtb) (argC (var 0) (argC (con (.cl "NoAnswer")) argN))) argN))))
    (seq (ifS (orT (tst (op2 opNe (bm isL mLCountB (var 2) (argC (con (.bl true)) argN)) (con (.int 1)))) (tst (op2 opNe (bm isL mLCountB (var 3) (argC (con (.bl true)) argN)) (con (.int 1))))) (ret (con (.str "other"))) nxt)
    (seq (sto 4 (bm isL mLIndexB (var 2) (argC (con (.bl true)) argN)))
    (ret (ifE (tst (op2 opEq (bm isL mLIndexB (var 3) (argC (con (.bl true)) argN)) (ifE (tst (op2 opLt (var 4) (con (.int 12)))) (con (.int 0)) (con (.int 1))))) (op2 ixM (var 1) (var 4)) (con (.str "other")))))))))))))))))
def f__lwp_sort (a0 : Addr) (d0 : Option Addr) (c0 : Str) : List Dt → Mm Dt := fnM 5 (m__lwp_sort a0 d0 c0)
/-- _law_attribute(_law_e, _law_word_here): slots _law_e, _law_word_here -/
def m__lwp_attribute (a0 : Addr) (d0 : Option Addr) (c0 : Str) : En → Mm Fl := (seq (ifS (tst (op2 opIn (var 1) (lstE (argC (con (.str "other")) (argC (con (.str "NothingToUndo")) (argC (con (.str "NotFacing")) (argC (con (.str "NotOneRim")) argN))))))) (ret (con (.str ""))) nxt)
    (seq (ifS (tst (op2 opEq (var 1) (con (.str "Broken")))) (ret (bi bReprA (argC (tupE (argC (hfld a0 d0 c0 cs_index "index" (var 0)) (argC (hfld a0 d0 c0 cs_told "told" (var 0)) argN))) argN))) nxt)
    (seq (ifS (tst (op2 opEq (var 1) (con (.str "TooMany")))) (ret (bi bReprA (argC (hfld a0 d0 c0 cs_number "number" (var 0)) argN))) nxt)
    (seq (ifS (tst (op2 opIn (var 1) (lstE (argC (con (.str "NotClosed")) (argC (con (.str "Touches")) argN))))) (ret (bi bReprA (argC (hfld a0 d0 c0 cs_place "place" (var 0)) argN))) nxt)
    (ret (ifE (tst (op2 opIn (var 1) (lstE (argC (con (.str "InvalidBars")) (argC (con (.str "InvalidCells")) (argC (con (.str "InUse")) argN)))))) (bi bReprA (argC (hfld a0 d0 c0 cs_index "index" (var 0)) argN)) (bi bReprA (argC (hfld a0 d0 c0 cs_given "given" (var 0)) argN))))))))
def f__lwp_attribute (a0 : Addr) (d0 : Option Addr) (c0 : Str) : List Dt → Mm Dt := fnM 2 (m__lwp_attribute a0 d0 c0)
/-- told -/
def su__lwp_told (a0 : Addr) (d0 : Option Addr) (c0 : Str) : En → Mm Fl := (seq (sto 3 (callM 1 (f__lwp_sort a0 d0 c0) (argC (var 2) argN)))
    (ret (tupE (argC (var 3) (argC (callM 2 (f__lwp_attribute a0 d0 c0) (argC (var 2) (argC (var 3) argN))) argN)))))
def rt__lwp_told : En → Mm Dt := (tupE (argC (con (.str "returned")) (argC (var 1) argN)))
def tft : List (Str × Str) := [("InvalidText", "given"), ("NotClosed", "place"), ("Touches", "place")]
def tf0 : List Str := []
def tf__lwp_told (z : Xv) : Mm Dt := fun h => match z.ns, z.ds with
  | [n], [x] => if (z.cls, n) ∈ tft then (match bReprA [x] h with
    | .ok r h' => .ok (.tup [.str z.cls, r]) h'
    | _ => .no) else .no
  | [], [] => if z.cls ∈ tf0 then .ok (.tup [.str z.cls, .str (Str.ofString "")]) h else .no
  | _, _ => .no
/-- _law_right(_law_purse_here): slots _law_purse_here, _law_turn, _law_good, _law_lines, _law_again, _law_said -/
def m__lwp_right : En → Mm Fl := (seq (forM (itR1 (argC (con (.int 2)) argN)) (.nm 1) (seq (sto 2 (callM 1 f__lwp_text (argC (callM 2 f__lwp_drawn (argC (var 0) (argC (con (.int 9)) argN))) argN)))
    (seq (sto 3 (op2 opAdd (lcM (itR1 (argC (con (.int 5)) argN)) (.nm 4) yes (callM 2 f__lwp_bent (argC (var 0) (argC (var 2) argN))) [4]) (lstE (argC (var 2) (argC (op2 opAdd (var 2) (con (.str " "))) (argC (op2 opAdd (con (.str " ")) (var 2)) (argC (rpl2 " " "  " (var 2)) argN)))))))
    (seq (sto 3 (op2 opAdd (var 3) (lcM (itR1 (argC (con (.int 8)) argN)) (.nm 4) yes (callM 2 f__lwp_shuffled (argC (var 0) (argC (var 2) argN))) [4])))
    (seq (sto 3 (op2 opAdd (var 3) (lstE (argC (bm0 isSt mUpper (var 2)) (argC (rpl2 " " "," (var 2)) (argC (rpl2 "1" "01" (var 2)) argN))))))
    (seq (sto 3 (op2 opAdd (var 3) (lstE (argC (rpl2 "1" "0" (var 2)) (argC (op2 opAdd (op2 opAdd (var 2) (con (.str " "))) (var 2)) argN)))))
    (seq (sto 3 (op2 opAdd (var 3) (lstE (argC (con (.str "")) (argC (con (.str " ")) (argC (con (.str "e1")) (argC (con (.str "e1 n1 w1")) (argC (con (.str "e1 n1 w1 s1")) (argC (con (.str "e1 n1 e1 n1 w1 s1 w1 s1")) argN)))))))))
    (seq (sto 3 (op2 opAdd (var 3) (lstE (argC (con (.str "e1 w1 e1 w1")) (argC (con (.str "e1 n1 w1 s2")) argN)))))
    (seq (sto 3 (op2 opAdd (var 3) (lstE (argC (con (.str "e59 n1 w59 s1")) (argC (con (.str "e60 n1 w60 s1")) (argC (con (.str "e1 n59 w1 s59")) (argC (con (.str "e1 n60 w1 s60")) argN)))))))
    (seq (sto 3 (op2 opAdd (var 3) (lstE (argC (op2 opAdd (con (.str "e1 n1 w1 s")) (op2 opMul (con (.str "9")) (con (.int 300)))) (argC (con (.str "e n w s")) argN)))))
    (seq (sto 3 (op2 opAdd (var 3) (lstE (argC (con (.str "e1 n1 w1 s1\n")) (argC (con (.str "e+1 n1 w1 s1")) (argC (con (.str "e2 n2 w1 s2 w1 n1 w1 s1")) argN))))))
    (seq (sto 3 (op2 opAdd (var 3) (lstE (argC (con (.str "e3 n1 w1 s2 w1 n2 w1 s1")) (argC (con (.str "1e 1n 1w 1s")) argN)))))
    (seq (forM (itL (op2 opAdd (var 3) (lstE (argC (callM 1 f__lwp_odd (argC (var 0) argN)) (argC (lstE (argC (var 2) argN)) (argC (con (.int 0)) (argC (tupE (argC (var 2) argN)) argN))))))) (.nm 5) (ifS (tst (op2 opNe (toldM tf__lwp_told (fun d => rt__lwp_told (slotE 4 1 d)) (bi (nx (strO "Line" f_Line___str__)) (argC (make "Line" 2 f_LineX___init__ (argC (noXE (var 5)) argN)) argN))) (callM 1 f__lwp_due (argC (var 5) argN)))) (ret (con (.bl false))) nxt))
    (ifS (tst (op2 opNe (toldM tf__lwp_told (fun d => rt__lwp_told (slotE 4 1 d)) (bi (nx (strO "Line" f_Line___str__)) (argC (makeK "Line" 2 [0] f_LineX___init__ (argC (noXE (var 2)) argN)) argN))) (tupE (argC (con (.str "returned")) (argC (var 2) argN))))) (ret (con (.bl false))) nxt))))))))))))))
    (ret (con (.bl true))))
def f__lwp_right : List Dt → Mm Dt := fnM 6 m__lwp_right
/-- law(_law_script): slots _law_script, _law_spot -/
def m_law : En → Mm Fl := (ret (bi bAll (argC (lcM (itR1 (argC (bi bMax2 (argC (con (.int 2)) (argC (bi bMin2 (argC (bi bLen (argC (var 0) argN)) (argC (con (.int 6)) argN))) argN))) argN)) (.nm 1) yes (callM 1 f__lwp_right (argC (callM 2 f__lwp_purse (argC (var 0) (argC (var 1) argN))) argN)) [1]) argN)))
def f_law : List Dt → Mm Dt := fnM 2 m_law
end K51
set_option Elab.async false
set_option linter.all false
set_option maxRecDepth 100000
set_option maxHeartbeats 4000000
namespace K51
open PySem PySem.Spec PyProof.Rows L2 Mo
def top (i : Nat) : Stmt := PySem.Challenge.pw_rimsheets_k03_line_texts_bent.main.body.getD i (.Pass ⟨0, 0, 0, 0⟩)
abbrev st__lwp_told : Stmt := top 44
abbrev st_InvalidText___init__ : Stmt := (clsBody (top 4)).getD 0 (.Pass ⟨0, 0, 0, 0⟩)
abbrev st_NotClosed___init__ : Stmt := (clsBody (top 16)).getD 0 (.Pass ⟨0, 0, 0, 0⟩)
abbrev st_Touches___init__ : Stmt := (clsBody (top 17)).getD 0 (.Pass ⟨0, 0, 0, 0⟩)
abbrev st_Line___str__ : Stmt := (clsBody (top 39)).getD 10 (.Pass ⟨0, 0, 0, 0⟩)
abbrev st__lwp_purse : Stmt := top 41
abbrev st__lwp_draw : Stmt := top 42
abbrev st__lwp_shift : Stmt := top 50
abbrev st__lwp_spots : Stmt := top 51
abbrev st__lwp_level : Stmt := top 52
abbrev st__lwp_touch : Stmt := top 53
abbrev st__lwp_begun : Stmt := top 55
abbrev st__lwp_cells : Stmt := top 57
abbrev st__lwp_mixed : Stmt := top 58
abbrev st__lwp_woven : Stmt := top 59
abbrev st__lwp_two : Stmt := top 60
abbrev st__lwp_round : Stmt := top 56
abbrev st__lwp_drawn : Stmt := top 61
abbrev st__lwp_text : Stmt := top 54
abbrev st__lwp_sign_of_text : Stmt := top 46
abbrev st__lwp_bent : Stmt := top 47
abbrev st__lwp_pick : Stmt := top 43
abbrev st__lwp_shuffled : Stmt := top 64
abbrev st__lwp_odd : Stmt := top 45
abbrev st_stretch_of : Stmt := top 29
abbrev st_stretches_of : Stmt := top 32
abbrev st_is_level : Stmt := top 30
abbrev st_steps_of : Stmt := top 33
abbrev st_places_of_names : Stmt := top 34
abbrev st_is_plain : Stmt := top 36
abbrev st_first_touch : Stmt := top 37
abbrev st_turned_left : Stmt := top 31
abbrev st_quarters_of : Stmt := top 35
abbrev st_LineX___init__ : Stmt := (clsBody (top 39)).getD 0 (.Pass ⟨0, 0, 0, 0⟩)
abbrev st__lwp_is_word : Stmt := top 62
abbrev st__lwp_due : Stmt := top 63
abbrev st__lwp_sort : Stmt := top 48
abbrev st__lwp_attribute : Stmt := top 49
abbrev st__lwp_right : Stmt := top 65
abbrev st_law : Stmt := top 66
end K51
set_option Elab.async false
set_option linter.all false
set_option maxRecDepth 100000
set_option maxHeartbeats 0
namespace K51
open PySem PySem.Spec PyProof.Rows L2 Mo
def dd__lwp_purse : He.DefD := ⟨("_law_purse", none), "_law_purse", "_law_purse", defArgs st__lwp_purse, defBody st__lwp_purse, defScope st__lwp_purse, [], []⟩
def dd__lwp_draw : He.DefD := ⟨("_law_draw", none), "_law_draw", "_law_draw", defArgs st__lwp_draw, defBody st__lwp_draw, defScope st__lwp_draw, [], []⟩
def dd__lwp_shift : He.DefD := ⟨("_law_shift", none), "_law_shift", "_law_shift", defArgs st__lwp_shift, defBody st__lwp_shift, defScope st__lwp_shift, [], []⟩
def dd__lwp_spots : He.DefD := ⟨("_law_spots", none), "_law_spots", "_law_spots", defArgs st__lwp_spots, defBody st__lwp_spots, defScope st__lwp_spots, [], []⟩
def dd__lwp_level : He.DefD := ⟨("_law_level", none), "_law_level", "_law_level", defArgs st__lwp_level, defBody st__lwp_level, defScope st__lwp_level, [], []⟩
def dd__lwp_touch : He.DefD := ⟨("_law_touch", none), "_law_touch", "_law_touch", defArgs st__lwp_touch, defBody st__lwp_touch, defScope st__lwp_touch, [], []⟩
def dd__lwp_begun : He.DefD := ⟨("_law_begun", none), "_law_begun", "_law_begun", defArgs st__lwp_begun, defBody st__lwp_begun, defScope st__lwp_begun, [], []⟩
def dd__lwp_cells : He.DefD := ⟨("_law_cells", none), "_law_cells", "_law_cells", defArgs st__lwp_cells, defBody st__lwp_cells, defScope st__lwp_cells, [], []⟩
def dd__lwp_mixed : He.DefD := ⟨("_law_mixed", none), "_law_mixed", "_law_mixed", defArgs st__lwp_mixed, defBody st__lwp_mixed, defScope st__lwp_mixed, [], []⟩
def dd__lwp_woven : He.DefD := ⟨("_law_woven", none), "_law_woven", "_law_woven", defArgs st__lwp_woven, defBody st__lwp_woven, defScope st__lwp_woven, [], []⟩
def dd__lwp_two : He.DefD := ⟨("_law_two", none), "_law_two", "_law_two", defArgs st__lwp_two, defBody st__lwp_two, defScope st__lwp_two, [], []⟩
def dd__lwp_round : He.DefD := ⟨("_law_round", none), "_law_round", "_law_round", defArgs st__lwp_round, defBody st__lwp_round, defScope st__lwp_round, [], []⟩
def dd__lwp_drawn : He.DefD := ⟨("_law_drawn", none), "_law_drawn", "_law_drawn", defArgs st__lwp_drawn, defBody st__lwp_drawn, defScope st__lwp_drawn, [], []⟩
def dd__lwp_text : He.DefD := ⟨("_law_text", none), "_law_text", "_law_text", defArgs st__lwp_text, defBody st__lwp_text, defScope st__lwp_text, [], []⟩
def dd__lwp_sign_of_text : He.DefD := ⟨("_law_sign_of_text", none), "_law_sign_of_text", "_law_sign_of_text", defArgs st__lwp_sign_of_text, defBody st__lwp_sign_of_text, defScope st__lwp_sign_of_text, [], []⟩
def dd__lwp_bent : He.DefD := ⟨("_law_bent", none), "_law_bent", "_law_bent", defArgs st__lwp_bent, defBody st__lwp_bent, defScope st__lwp_bent, [], []⟩
def dd__lwp_pick : He.DefD := ⟨("_law_pick", none), "_law_pick", "_law_pick", defArgs st__lwp_pick, defBody st__lwp_pick, defScope st__lwp_pick, [], []⟩
def dd__lwp_shuffled : He.DefD := ⟨("_law_shuffled", none), "_law_shuffled", "_law_shuffled", defArgs st__lwp_shuffled, defBody st__lwp_shuffled, defScope st__lwp_shuffled, [], []⟩
def dd__lwp_odd : He.DefD := ⟨("_law_odd", none), "_law_odd", "_law_odd", defArgs st__lwp_odd, defBody st__lwp_odd, defScope st__lwp_odd, [], []⟩
def dd_stretch_of : He.DefD := ⟨("stretch_of", none), "stretch_of", "stretch_of", defArgs st_stretch_of, defBody st_stretch_of, defScope st_stretch_of, [], []⟩
def dd_stretches_of : He.DefD := ⟨("stretches_of", none), "stretches_of", "stretches_of", defArgs st_stretches_of, defBody st_stretches_of, defScope st_stretches_of, [], []⟩
def dd_is_level : He.DefD := ⟨("is_level", none), "is_level", "is_level", defArgs st_is_level, defBody st_is_level, defScope st_is_level, [], []⟩
def dd_steps_of : He.DefD := ⟨("steps_of", none), "steps_of", "steps_of", defArgs st_steps_of, defBody st_steps_of, defScope st_steps_of, [], []⟩
def dd_places_of_names : He.DefD := ⟨("places_of", none), "places_of", "places_of", defArgs st_places_of_names, defBody st_places_of_names, defScope st_places_of_names, [], []⟩
def dd_is_plain : He.DefD := ⟨("is_plain", none), "is_plain", "is_plain", defArgs st_is_plain, defBody st_is_plain, defScope st_is_plain, [], []⟩
def dd_first_touch : He.DefD := ⟨("first_touch", none), "first_touch", "first_touch", defArgs st_first_touch, defBody st_first_touch, defScope st_first_touch, [], []⟩
def dd_turned_left : He.DefD := ⟨("turned_left", none), "turned_left", "turned_left", defArgs st_turned_left, defBody st_turned_left, defScope st_turned_left, [], []⟩
def dd_quarters_of : He.DefD := ⟨("quarters_of", none), "quarters_of", "quarters_of", defArgs st_quarters_of, defBody st_quarters_of, defScope st_quarters_of, [], []⟩
def dd__lwp_is_word : He.DefD := ⟨("_law_is_word", none), "_law_is_word", "_law_is_word", defArgs st__lwp_is_word, defBody st__lwp_is_word, defScope st__lwp_is_word, [], []⟩
def dd__lwp_due : He.DefD := ⟨("_law_due", none), "_law_due", "_law_due", defArgs st__lwp_due, defBody st__lwp_due, defScope st__lwp_due, [], []⟩
def dd__lwp_sort : He.DefD := ⟨("_law_sort", none), "_law_sort", "_law_sort", defArgs st__lwp_sort, defBody st__lwp_sort, defScope st__lwp_sort, [], []⟩
def dd__lwp_attribute : He.DefD := ⟨("_law_attribute", none), "_law_attribute", "_law_attribute", defArgs st__lwp_attribute, defBody st__lwp_attribute, defScope st__lwp_attribute, [], []⟩
def dd__lwp_right : He.DefD := ⟨("_law_right", none), "_law_right", "_law_right", defArgs st__lwp_right, defBody st__lwp_right, defScope st__lwp_right, [], []⟩
def dd_law : He.DefD := ⟨("law", none), "law", "law", defArgs st_law, defBody st_law, defScope st_law, [], []⟩
def dd__lwp_told : He.DefD := ⟨("_law_told", none), "_law_told", "_law_told", defArgs st__lwp_told, defBody st__lwp_told, defScope st__lwp_told, [], []⟩
def dd_InvalidText___init__ : He.DefD := ⟨("InvalidText", some "__init__"), "__init__", "InvalidText.__init__", defArgs st_InvalidText___init__, defBody st_InvalidText___init__, defScope st_InvalidText___init__, [], []⟩
def dd_NotClosed___init__ : He.DefD := ⟨("NotClosed", some "__init__"), "__init__", "NotClosed.__init__", defArgs st_NotClosed___init__, defBody st_NotClosed___init__, defScope st_NotClosed___init__, [], []⟩
def dd_Touches___init__ : He.DefD := ⟨("Touches", some "__init__"), "__init__", "Touches.__init__", defArgs st_Touches___init__, defBody st_Touches___init__, defScope st_Touches___init__, [], []⟩
def dd_LineX___init__ : He.DefD := ⟨("Line", some "__init__"), "__init__", "Line.__init__", defArgs st_LineX___init__, defBody st_LineX___init__, defScope st_LineX___init__, [], []⟩
def dd_Line___str__ : He.DefD := ⟨("Line", some "__str__"), "__str__", "Line.__str__", defArgs st_Line___str__, defBody st_Line___str__, defScope st_Line___str__, [], []⟩
def hfn0 : List He.DefD := [dd__lwp_purse, dd__lwp_draw, dd__lwp_shift, dd__lwp_spots, dd__lwp_level, dd__lwp_touch, dd__lwp_begun, dd__lwp_cells, dd__lwp_mixed, dd__lwp_woven, dd__lwp_two, dd__lwp_round, dd__lwp_drawn, dd__lwp_text, dd__lwp_sign_of_text, dd__lwp_bent, dd__lwp_pick, dd__lwp_shuffled, dd__lwp_odd, dd_stretch_of, dd_stretches_of, dd_is_level, dd_steps_of, dd_places_of_names, dd_is_plain]
def hfn1 : List He.DefD := [dd_first_touch, dd_turned_left, dd_quarters_of, dd__lwp_is_word, dd__lwp_due, dd__lwp_sort, dd__lwp_attribute, dd__lwp_right, dd_law, dd__lwp_told, dd_InvalidText___init__, dd_NotClosed___init__, dd_Touches___init__, dd_LineX___init__, dd_Line___str__]
def hfn : List He.DefD := hfn0 ++ hfn1
def hfa0 : List He.Fa := [.glo "_law_purse", .glo "_law_draw", .glo "_law_shift", .glo "_law_spots", .glo "_law_level", .glo "_law_touch", .glo "_law_begun", .glo "_law_cells", .glo "_law_mixed", .glo "_law_woven", .glo "_law_two", .glo "_law_round", .glo "_law_drawn", .glo "_law_text", .glo "_law_sign_of_text", .glo "_law_bent", .glo "_law_pick", .glo "_law_shuffled", .glo "_law_odd", .glo "stretch_of", .glo "stretches_of", .glo "is_level", .glo "steps_of", .glo "places_of", .glo "is_plain"]
def hfa1 : List He.Fa := [.glo "first_touch", .glo "turned_left", .glo "quarters_of", .glo "_law_is_word", .glo "_law_due", .glo "_law_sort", .glo "_law_attribute", .glo "_law_right", .glo "law", .glo "_law_told", .glo "SHIFTS", .glo "Line", .glo "Broken", .glo "InUse", .glo "InvalidBar", .glo "InvalidBars", .glo "InvalidCell", .glo "InvalidCells", .glo "InvalidClaim", .glo "InvalidIndex", .glo "InvalidName", .glo "InvalidNumber", .glo "InvalidText", .glo "NoAnswer", .glo "NotABoard"]
def hfa2 : List He.Fa := [.glo "NotALine", .glo "NotClosed", .glo "NotFacing", .glo "NotOneRim", .glo "NotTurned", .glo "NothingToUndo", .glo "TooMany", .glo "Touches", .glo "UnknownName", .glo "WrongValue", .free "abs", .free "all", .free "any", .free "divmod", .free "enumerate", .free "int", .free "isinstance", .free "len", .free "list", .free "max", .free "min", .free "range", .free "repr", .free "str", .free "sum"]
def hfa3 : List He.Fa := [.int "MOST_STEPS" 120, .str "WAYS" "enws", .cls "Line", .noat "InvalidText" "given", .noat "Line" "rounds", .noat "Line" "spots", .noat "Line" "ways", .noat "Line" "written", .noat "NotClosed" "place", .noat "Touches" "place", .mkr "Line"]
def hfa : List He.Fa := hfa0 ++ hfa1 ++ hfa2 ++ hfa3
def hlo0 : List Str := ["_wall", "__name__", "WrongValue", "NoAnswer", "InvalidText", "InvalidNumber", "InvalidName", "InvalidIndex", "InvalidClaim", "InvalidCell", "InvalidBar", "UnknownName", "NotALine", "NotABoard", "InvalidBars", "InvalidCells", "NotClosed", "Touches", "NotTurned", "NotFacing", "NotOneRim", "TooMany", "Broken", "InUse", "NothingToUndo"]
def hlo1 : List Str := ["MOST_STEPS", "WAYS", "SHIFTS", "stretch_of", "is_level", "turned_left", "stretches_of", "steps_of", "places_of", "quarters_of", "is_plain", "first_touch", "Line", "_law_purse", "_law_draw", "_law_pick", "_law_told", "_law_odd", "_law_sign_of_text", "_law_bent", "_law_sort", "_law_attribute", "_law_shift", "_law_spots", "_law_level"]
def hlo2 : List Str := ["_law_touch", "_law_text", "_law_begun", "_law_round", "_law_cells", "_law_mixed", "_law_woven", "_law_two", "_law_drawn", "_law_is_word", "_law_due", "_law_shuffled", "_law_right"]
def hlo : List Str := hlo0 ++ hlo1 ++ hlo2
def hpr0 : List PrD := []
def hpr : List PrD := hpr0
def hnm0 : List Str := ["Broken", "InUse", "InvalidBar", "InvalidBars", "InvalidCell", "InvalidCells", "InvalidClaim", "InvalidIndex", "InvalidName", "InvalidNumber", "InvalidText", "Line", "NoAnswer", "NotABoard", "NotALine", "NotClosed", "NotFacing", "NotOneRim", "NotTurned", "NothingToUndo", "SHIFTS", "TooMany", "Touches", "UnknownName", "WrongValue"]
def hnm1 : List Str := ["_law_attribute", "_law_begun", "_law_bent", "_law_cells", "_law_draw", "_law_drawn", "_law_due", "_law_is_word", "_law_level", "_law_mixed", "_law_odd", "_law_pick", "_law_purse", "_law_right", "_law_round", "_law_shift", "_law_shuffled", "_law_sign_of_text", "_law_sort", "_law_spots", "_law_text", "_law_told", "_law_touch", "_law_two", "_law_woven"]
def hnm2 : List Str := ["first_touch", "is_level", "is_plain", "law", "places_of", "quarters_of", "steps_of", "stretch_of", "stretches_of", "turned_left"]
def hnm : List Str := hnm0 ++ hnm1 ++ hnm2
def hts : List He.Tab := [(fun K => He.ga K "SHIFTS", ["e", "n", "w", "s"])]
def hlam : List He.Defn := [("_law_right", none)]
def hbs (K : PySem.W.Frag) : Bool := tabB K (He.ga K "SHIFTS") tb_SHIFTS && raB K "InvalidText" && raB K "NotClosed" && raB K "Touches" && decide (PySem.W.exmAny K (.ref (He.ga K "InvalidText")) [.ref (He.ga K "WrongValue"), .ref (He.ga K "NoAnswer")] = some true) && decide (PySem.W.exmAny K (.ref (He.ga K "NotClosed")) [.ref (He.ga K "WrongValue"), .ref (He.ga K "NoAnswer")] = some true) && decide (PySem.W.exmAny K (.ref (He.ga K "Touches")) [.ref (He.ga K "WrongValue"), .ref (He.ga K "NoAnswer")] = some true) && spB K "Line" "__str__" && xcB K (He.ga K "InvalidText") "ValueError.__new__" tlV && xiB K "InvalidText" && xcB K (He.ga K "NotClosed") "ArithmeticError.__new__" tlA && xiB K "NotClosed" && xcB K (He.ga K "Touches") "ArithmeticError.__new__" tlA && xiB K "Touches" && isXsB K xbs xtb && xfsB K cs_given "given" && xfsB K cs_index "index" && xfsB K cs_number "number" && xfsB K cs_place "place" && xfsB K cs_told "told" && (K.lookup sysModules).isSome
abbrev RR : PySem.W.OpenRow := PySem.W.OpenLaw.row PySem.Challenge.rw_rimsheets_k03_line_texts_bent
abbrev hk : PySem.W.Hook := hookZ hnm 4 hfa hfn hts hlam hbs hpr
def hob (s : PySem.W.SharedT) : AlY := obsZ hnm 4 hfa hfn hts hlam hbs hpr (HandSHeadRun.getT s)
theorem hob_eq (s : PySem.W.SharedT) : hob s = hk.obs s.abs := obsZ_eq (HandSHeadRun.getT_eq s)
end K51
namespace K51
open PySem PySem.W PySem.Calls PyProof.Rows HandSHeadRun Mo
noncomputable abbrev RUN (w : World) (os : OsState) : Option SharedT := endF (stepQ (denQ tabQ) RR.prog w) 14000 RR.prog w os
theorem join3 {S α β γ : Type} {x : Option S} {f : S → α} {g : S → β} {k : S → γ} {a : α} {b : β} {c : γ} (p : x.map f = some a) (q : x.map g = some b) (r : x.map k = some c) : x.map (fun s => (f s, g s, k s)) = some (a, b, c) := by
  cases x with
  | none => cases p
  | some s => cases p; cases q; cases r; rfl
theorem hA0 (w : World) (os : OsState) : (RUN (w.withFollow "special-get-raises" false) os).map (fun s => looksF RR.prog (PySem.W.boot_heap (w.withFollow "special-get-raises" false).params) s.abs) = some true := by
  kernel_rfl
theorem hB0 (w : World) (os : OsState) : (RUN (w.withFollow "special-get-raises" false) os).map (fun s => seenQ (view RR.prog [66]) hlo (importedModules RR.prog.main.body) (fun s => xlAt (view RR.prog [66]) [] s && recOk RR.toRowW.records s) s.abs) = some (openGood (view RR.prog [66]) hlo) := by
  kernel_rfl
theorem hC0 (w : World) (os : OsState) : (RUN (w.withFollow "special-get-raises" false) os).map hob = some (valY hfn hts hpr (w.withFollow "special-get-raises" false)) := by
  kernel_rfl
theorem hA1 (w : World) (os : OsState) : (RUN (w.withFollow "special-get-raises" true) os).map (fun s => looksF RR.prog (PySem.W.boot_heap (w.withFollow "special-get-raises" true).params) s.abs) = some true := by
  kernel_rfl
theorem hB1 (w : World) (os : OsState) : (RUN (w.withFollow "special-get-raises" true) os).map (fun s => seenQ (view RR.prog [66]) hlo (importedModules RR.prog.main.body) (fun s => xlAt (view RR.prog [66]) [] s && recOk RR.toRowW.records s) s.abs) = some (openGood (view RR.prog [66]) hlo) := by
  kernel_rfl
theorem hC1 (w : World) (os : OsState) : (RUN (w.withFollow "special-get-raises" true) os).map hob = some (valY hfn hts hpr (w.withFollow "special-get-raises" true)) := by
  kernel_rfl
theorem hrunf (w : World) : RunEq RR (view RR.prog [66]) hk hob 14000 hlo (w.withFollow "special-get-raises" false) := fun os => join3 (hA0 w os) (hB0 w os) (hC0 w os)
theorem hrunt (w : World) : RunEq RR (view RR.prog [66]) hk hob 14000 hlo (w.withFollow "special-get-raises" true) := fun os => join3 (hA1 w os) (hB1 w os) (hC1 w os)
theorem hrun (w : World) : RunEq RR (view RR.prog [66]) hk hob 14000 hlo w := PySem.W.byRow2 "special-get-raises" hrunf hrunt w
end K51
set_option Elab.async false
set_option linter.all false
set_option maxRecDepth 100000
set_option maxHeartbeats 4000000
namespace Mo
open PySem L2
def Ok {α : Type} (m : Mm α) (h : Ah) (Q : α → Ah → Prop) : Prop := match m h with
  | .ok a h' => Q a h'
  | _ => False
section
variable {α β : Type} {m : Mm α} {f : α → Mm β} {h : Ah} {Q Q' : α → Ah → Prop} {R : β → Ah → Prop}
theorem Ok.mono (o : Ok m h Q) (k : ∀ a h', Q a h' → Q' a h') : Ok m h Q' := by
  unfold Ok at *
  cases q : m h with
  | ok a h' => rw [q] at o; exact k a h' o
  | exn x h' => rw [q] at o; exact o
  | no => rw [q] at o; exact o
theorem ok_iff : Ok m h Q ↔ ∃ a h', m h = .ok a h' ∧ Q a h' := by
  unfold Ok
  cases q : m h with
  | ok a h' => exact ⟨fun o => ⟨a, h', rfl, o⟩, fun ⟨a', h'', e, o⟩ => by cases e; exact o⟩
  | exn x h' => exact ⟨fun o => o.elim, fun ⟨a', h'', e, o⟩ => by cases e⟩
  | no => exact ⟨fun o => o.elim, fun ⟨a', h'', e, o⟩ => by cases e⟩
@[simp] theorem ok_pure {a : α} : Ok (Mm.pure a) h Q ↔ Q a h := Iff.rfl
@[simp] theorem ok_no : Ok (Mm.no : Mm α) h Q ↔ False := Iff.rfl
@[simp] theorem ok_bind : Ok (m >>= f) h R ↔ Ok m h (fun a h' => Ok (f a) h' R) := by
  show Ok (Mm.bind m f) h R ↔ _
  unfold Ok Mm.bind
  cases q : m h <;> exact Iff.rfl
@[simp] theorem ok_ifno {c : Prop} [Decidable c] : Ok (if c then m else Mm.no) h Q ↔ c ∧ Ok m h Q := by
  by_cases q : c <;> simp [q]
theorem ok_of {a : α} {h' : Ah} (e : m h = .ok a h') (q : Q a h') : Ok m h Q := by unfold Ok; rw [e]; exact q
end
section
variable {h : Ah} {env : En} {Q : Dt → Ah → Prop} {F : Fl → Ah → Prop} {B : Bool → Ah → Prop} {L : List Dt → Ah → Prop} {ma mb mc : En → Mm Dt} {mt mu : En → Mm Bool} {mr : En → Mm (List Dt)} {m1 m2 : En → Mm Fl} {g g' : Dt → Dt → Mm Dt} {i j : Nat} {d : Dt}
@[simp] theorem ok_var : Ok (var i env) h Q ↔ ∃ d, env[i]? = some (some d) ∧ Q d h := by
  unfold var
  cases q : env[i]? with
  | none => simp
  | some o => cases o <;> simp
@[simp] theorem ok_con : Ok (con d env) h Q ↔ Q d h := Iff.rfl
@[simp] theorem ok_op2 : Ok (op2 g ma mb env) h Q ↔ Ok (ma env) h fun x h1 => Ok (mb env) h1 fun y h2 => Ok (g x y) h2 Q := by simp [op2]
@[simp] theorem ok_op1 {g : Dt → Mm Dt} : Ok (op1 g ma env) h Q ↔ Ok (ma env) h fun x h1 => Ok (g x) h1 Q := by simp [op1]
@[simp] theorem ok_op1' {g : Dt → Mm Dt} : Ok (op1' g ma env) h Q ↔ Ok (ma env) h fun x h1 => Ok (g x) h1 Q := by simp [op1']
@[simp] theorem ok_isB {b : Bool} : Ok (isB (.bl b)) h B ↔ B b h := Iff.rfl
@[simp] theorem ok_tst : Ok (tst ma env) h B ↔ Ok (ma env) h fun d h1 => Ok (isB d) h1 B := by simp [tst]
@[simp] theorem ok_andT : Ok (andT mt mu env) h B ↔ Ok (mt env) h fun c h1 => if c then Ok (mu env) h1 B else B false h1 := by
  simp only [andT, ok_bind]
  refine ⟨fun o => o.mono fun c h1 q => ?_, fun o => o.mono fun c h1 q => ?_⟩ <;> cases c <;> exact q
@[simp] theorem ok_orT : Ok (orT mt mu env) h B ↔ Ok (mt env) h fun c h1 => if c then B true h1 else Ok (mu env) h1 B := by
  simp only [orT, ok_bind]
  refine ⟨fun o => o.mono fun c h1 q => ?_, fun o => o.mono fun c h1 q => ?_⟩ <;> cases c <;> exact q
@[simp] theorem ok_notT : Ok (notT mt env) h B ↔ Ok (mt env) h fun c h1 => B (!c) h1 := by simp [notT]
@[simp] theorem ok_ifE : Ok (ifE mt ma mb env) h Q ↔ Ok (mt env) h fun c h1 => if c then Ok (ma env) h1 Q else Ok (mb env) h1 Q := by
  simp only [ifE, ok_bind]
  refine ⟨fun o => o.mono fun c h1 q => ?_, fun o => o.mono fun c h1 q => ?_⟩ <;> cases c <;> exact q
@[simp] theorem ok_argN : Ok (argN env) h L ↔ L [] h := Iff.rfl
@[simp] theorem ok_argC : Ok (argC ma mr env) h L ↔ Ok (ma env) h fun d h1 => Ok (mr env) h1 fun ds h2 => L (d :: ds) h2 := by simp [argC]
@[simp] theorem ok_tupE : Ok (tupE mr env) h Q ↔ Ok (mr env) h fun ds h1 => ds.length ≤ sizeLine ∧ Q (.tup ds) h1 := by simp [tupE]
@[simp] theorem ok_lstE : Ok (lstE mr env) h Q ↔ Ok (mr env) h fun ds h1 => ds.length ≤ sizeLine ∧ Q (.lv ds) h1 := by simp [lstE]
@[simp] theorem ok_lstO : Ok (lstO mr env) h Q ↔ Ok (mr env) h fun ds h1 => ds.length ≤ sizeLine ∧ Q (.obj h1.length) (h1 ++ [.lst ds]) := by
  simp only [lstO, ok_bind, ok_ifno]
  rfl
@[simp] theorem ok_bi {g : List Dt → Mm Dt} : Ok (bi g mr env) h Q ↔ Ok (mr env) h fun ds h1 => Ok (g ds) h1 Q := by simp [bi]
theorem ok_callM {n : Nat} {fm : List Dt → Mm Dt} : Ok (callM n fm mr env) h Q ↔ Ok (mr env) h fun ds h1 => ds.length = n ∧ Ok (fm ds) h1 Q := by
  simp only [callM, ok_bind]
  refine ⟨fun o => o.mono fun ds h1 q => ?_, fun o => o.mono fun ds h1 q => ?_⟩
  · by_cases e : ds.length = n
    · rw [if_pos e] at q; exact ⟨e, q⟩
    · rw [if_neg e] at q; exact q.elim
  · rw [if_pos q.1]; exact q.2
@[simp] theorem ok_nxt : Ok (nxt env) h F ↔ F (.nx env) h := Iff.rfl
@[simp] theorem ok_seq : Ok (seq m1 m2 env) h F ↔ Ok (m1 env) h fun f h1 => match f with | .nx e => Ok (m2 e) h1 F | f => F f h1 := by
  simp only [seq, ok_bind]
  refine ⟨fun o => o.mono fun f h1 q => ?_, fun o => o.mono fun f h1 q => ?_⟩ <;> cases f <;> exact q
@[simp] theorem ok_drp : Ok (drp ma env) h F ↔ Ok (ma env) h fun _ h1 => F (.nx env) h1 := by simp [drp]
@[simp] theorem ok_ret : Ok (ret ma env) h F ↔ Ok (ma env) h fun d h1 => F (.rt d) h1 := by simp [ret]
@[simp] theorem ok_ifS : Ok (ifS mt m1 m2 env) h F ↔ Ok (mt env) h fun c h1 => if c then Ok (m1 env) h1 F else Ok (m2 env) h1 F := by
  simp only [ifS, ok_bind]
  refine ⟨fun o => o.mono fun c h1 q => ?_, fun o => o.mono fun c h1 q => ?_⟩ <;> cases c <;> exact q
@[simp] theorem ok_sto : Ok (sto i ma env) h F ↔ Ok (ma env) h fun d h1 => F (.nx (env.set i (some d))) h1 := by simp [sto]
@[simp] theorem ok_asg {g : Dt → En → Mm En} : Ok (asg ma g env) h F ↔ Ok (ma env) h fun d h1 => Ok (g d env) h1 fun e h2 => F (.nx e) h2 := by simp [asg]
@[simp] theorem ok_gN {G : En → Ah → Prop} : Ok (gN i d env) h G ↔ G (env.set i (some d)) h := Iff.rfl
@[simp] theorem ok_gsN {G : En → Ah → Prop} : Ok (gsN [] env) h G ↔ G env h := Iff.rfl
@[simp] theorem ok_gsC {G : En → Ah → Prop} {g : Dt → En → Mm En} {gs : List Dt → En → Mm En} {ds : List Dt} : Ok (gsC g gs (d :: ds) env) h G ↔ Ok (g d env) h fun e h1 => Ok (gs ds e) h1 G := by simp [gsC]
@[simp] theorem ok_gT {G : En → Ah → Prop} {n : Nat} {gs : List Dt → En → Mm En} {ds : List Dt} : Ok (gT n gs (.tup ds) env) h G ↔ ds.length = n ∧ Ok (gs ds env) h G := by
  unfold gT
  by_cases e : ds.length = n
  · simp [e]
  · simp [e]
@[simp] theorem ok_gS {G : En → Ah → Prop} {g : Dt → Dt → Dt → Mm Unit} : Ok (gS ma mb g d env) h G ↔ Ok (ma env) h fun o h1 => Ok (mb env) h1 fun k h2 => Ok (g o k d) h2 fun _ h3 => G env h3 := by simp [gS]
@[simp] theorem ok_par : Ok (par i j mr env) h F ↔ Ok (mr env) h fun ds h1 => ∃ x y, ds = [x, y] ∧ F (.nx ((env.set i (some x)).set j (some y))) h1 := by
  simp only [par, ok_bind]
  refine ⟨fun o => o.mono fun ds h1 q => ?_, fun o => o.mono fun ds h1 q => ?_⟩
  · split at q
    · exact ⟨_, _, rfl, q⟩
    · exact q.elim
  · obtain ⟨x, y, rfl, q⟩ := q; exact q
@[simp] theorem ok_par3 {l : Nat} : Ok (par3 i j l mr env) h F ↔ Ok (mr env) h fun ds h1 => ∃ x y z, ds = [x, y, z] ∧ F (.nx (((env.set i (some x)).set j (some y)).set l (some z))) h1 := by
  simp only [par3, ok_bind]
  refine ⟨fun o => o.mono fun ds h1 q => ?_, fun o => o.mono fun ds h1 q => ?_⟩
  · split at q
    · exact ⟨_, _, _, rfl, q⟩
    · exact q.elim
  · obtain ⟨x, y, z, rfl, q⟩ := q; exact q
@[simp] theorem ok_aug : Ok (aug i ma g env) h F ↔ ∃ x, env[i]? = some (some x) ∧ Ok (ma env) h fun y h1 => Ok (g x y) h1 fun z h2 => F (.nx (env.set i (some z))) h2 := by
  unfold aug
  cases q : env[i]? with
  | none => simp
  | some o => cases o <;> simp
@[simp] theorem ok_forM {mi : En → Mm (List Dt)} {p : Pat} {mb : En → Mm Fl} : Ok (forM mi p mb env) h F ↔ Ok (mi env) h fun ds h1 => Ok (forL p mb ds env) h1 F := by simp [forM]
/-- a loop by an invariant of what is left -/
theorem forL_ind {p : Pat} {mb : En → Mm Fl} (I : List Dt → En → Ah → Prop)
    (step : ∀ x xs env h, I (x :: xs) env h → ∃ e1, p.bd x env = some e1 ∧ Ok (mb e1) h fun f h1 => match f with | .nx e => I xs e h1 | .ct e => I xs e h1 | .bk e => F (.nx e) h1 | .rt d => F (.rt d) h1)
    (done : ∀ env h, I [] env h → F (.nx env) h) : ∀ (ds : List Dt) (env : En) (h : Ah), I ds env h → Ok (forL p mb ds env) h F
  | [], env, h, q => done env h q
  | x :: xs, env, h, q => by
    obtain ⟨e1, hb, o⟩ := step x xs env h q
    simp only [forL, ok_bind, gP, hb, ok_pure]
    refine o.mono fun f h1 q1 => ?_
    cases f with
    | nx e => exact forL_ind I step done xs e h1 q1
    | ct e => exact forL_ind I step done xs e h1 q1
    | bk e => exact q1
    | rt d => exact q1
theorem ok_fnM {n : Nat} {ms : En → Mm Fl} {ds : List Dt} : Ok (fnM n ms ds) h Q ↔ Ok (ms (ds.map some ++ List.replicate (n - ds.length) none)) h fun f h1 => match f with | .rt d => Q d h1 | .nx _ => Q .non h1 | _ => False := by
  simp only [fnM, ok_bind]
  refine ⟨fun o => o.mono fun f h1 q => ?_, fun o => o.mono fun f h1 q => ?_⟩ <;> cases f <;> exact q
@[simp] theorem bd_nm : (Pat.nm i).bd d env = some (env.set i (some d)) := by simp [Pat.bd]
@[simp] theorem ok_addI {a b : Int} : Ok (opAdd (.int a) (.int b)) h Q ↔ Q (.int (a + b)) h := Iff.rfl
@[simp] theorem ok_subI {a b : Int} : Ok (opSub (.int a) (.int b)) h Q ↔ Q (.int (a - b)) h := Iff.rfl
@[simp] theorem ok_iaddI {a b : Int} : Ok (opIAdd (.int a) (.int b)) h Q ↔ Q (.int (a + b)) h := Iff.rfl
theorem ok_I2 {C : Int → Int → Bool} {k : Int → Int → Dt} {a b : Int} : Ok (opI2 C k (.int a) (.int b)) h Q ↔ C a b = true ∧ Q (k a b) h := by
  unfold opI2 Ok
  by_cases c : C a b = true <;> simp [c]
@[simp] theorem ok_modI {a b : Int} : Ok (opMod (.int a) (.int b)) h Q ↔ 0 < b ∧ Q (.int (a % b)) h := by simp [opMod, ok_I2]
@[simp] theorem ok_fdivI {a b : Int} : Ok (opFdiv (.int a) (.int b)) h Q ↔ (0 < b ∧ b < 1073741824) ∧ Q (.int (a / b)) h := by simp [opFdiv, ok_I2]
@[simp] theorem ok_powI {a b : Int} : Ok (opPow (.int a) (.int b)) h Q ↔ (0 ≤ b ∧ b ≤ 1000000 ∧ a.natAbs < 2 ^ 64) ∧ Q (.int (a ^ b.toNat)) h := by simp only [opPow, ok_I2, decide_eq_true_eq]
@[simp] theorem ok_ltI {a b : Int} : Ok (opLt (.int a) (.int b)) h Q ↔ Q (.bl (decide (a < b))) h := by simp [opLt, ok_I2]
@[simp] theorem ok_leI {a b : Int} : Ok (opLe (.int a) (.int b)) h Q ↔ Q (.bl (decide (a ≤ b))) h := by simp [opLe, ok_I2]
@[simp] theorem ok_gtI {a b : Int} : Ok (opGt (.int a) (.int b)) h Q ↔ Q (.bl (decide (b < a))) h := by simp [opGt, ok_I2]
@[simp] theorem ok_geI {a b : Int} : Ok (opGe (.int a) (.int b)) h Q ↔ Q (.bl (decide (b ≤ a))) h := by simp [opGe, ok_I2]
@[simp] theorem ok_mulI {a b : Int} : Ok (opMul (.int a) (.int b)) h Q ↔ a.natAbs.log2 + b.natAbs.log2 < 1000000 ∧ Q (.int (a * b)) h := by
  unfold opMul Ok
  by_cases c : a.natAbs.log2 + b.natAbs.log2 < 1000000 <;> simp [c]
@[simp] theorem ok_negI {a : Int} : Ok (unNeg (.int a)) h Q ↔ Q (.int (-a)) h := Iff.rfl
@[simp] theorem ok_eqI {a b : Int} : Ok (opEq (.int a) (.int b)) h Q ↔ Q (.bl (decide (a = b))) h := Iff.rfl
@[simp] theorem ok_neI {a b : Int} : Ok (opNe (.int a) (.int b)) h Q ↔ Q (.bl (!decide (a = b))) h := Iff.rfl
@[simp] theorem ok_eqS {a b : Str} : Ok (opEq (.str a) (.str b)) h Q ↔ Q (.bl (decide (a = b))) h := Iff.rfl
@[simp] theorem ok_neS {a b : Str} : Ok (opNe (.str a) (.str b)) h Q ↔ Q (.bl (!decide (a = b))) h := Iff.rfl
@[simp] theorem ok_eqB {a b : Bool} : Ok (opEq (.bl a) (.bl b)) h Q ↔ Q (.bl (decide (a = b))) h := Iff.rfl
@[simp] theorem ok_neB {a b : Bool} : Ok (opNe (.bl a) (.bl b)) h Q ↔ Q (.bl (!decide (a = b))) h := Iff.rfl
@[simp] theorem ok_intI {a : Int} : Ok (bInt [.int a]) h Q ↔ Q (.int a) h := Iff.rfl
@[simp] theorem ok_intB {k : Bool} : Ok (bInt [.bl k]) h Q ↔ Q (.int (if k then 1 else 0)) h := Iff.rfl
@[simp] theorem ok_absI {a : Int} : Ok (bAbs [.int a]) h Q ↔ Q (.int (if a < 0 then -a else a)) h := Iff.rfl
@[simp] theorem ok_maxI {a b : Int} : Ok (bMax2 [.int a, .int b]) h Q ↔ Q (.int (if b > a then b else a)) h := Iff.rfl
@[simp] theorem ok_minI {a b : Int} : Ok (bMin2 [.int a, .int b]) h Q ↔ Q (.int (if b < a then b else a)) h := Iff.rfl
@[simp] theorem ok_divmodI {a b : Int} : Ok (bDivmod [.int a, .int b]) h Q ↔ (0 < b ∧ b < 1073741824) ∧ Q (.tup [.int (a / b), .int (a % b)]) h := by
  unfold bDivmod Ok
  by_cases c : 0 < b ∧ b < 1073741824 <;> simp [c]
end
end Mo
set_option Elab.async false
set_option linter.all false
set_option maxRecDepth 100000
set_option maxHeartbeats 4000000
namespace Mo
open PySem L2
def lstAt (h : Ah) (r : Nat) : Option (List Dt) := match h[r]? with
  | some (.lst xs) => some xs
  | _ => none
theorem lstAt_lt {h : Ah} {r : Nat} {xs : List Dt} (e : lstAt h r = some xs) : r < h.length := by
  unfold lstAt at e
  cases q : h[r]? with
  | none => rw [q] at e; cases e
  | some o => exact (List.getElem?_eq_some_iff.mp q).1
theorem lstAt_app {h : Ah} {r : Nat} {xs : List Dt} (e : lstAt h r = some xs) (j : Ah) : lstAt (h ++ j) r = some xs := by
  have l := lstAt_lt e
  unfold lstAt at *
  rw [List.getElem?_append_left l]
  exact e
theorem lstAt_set {h : Ah} {r : Nat} {xs : List Dt} (l : r < h.length) : lstAt (h.set r (.lst xs)) r = some xs := by
  unfold lstAt
  rw [List.getElem?_set_self l]
theorem lstAt_new {h : Ah} {xs : List Dt} {j : Ah} : lstAt (h ++ .lst xs :: j) h.length = some xs := by
  unfold lstAt
  simp
section
variable {h : Ah} {r : Nat} {Q : Dt → Ah → Prop} {U : Unit → Ah → Prop}
@[simp] theorem ok_ixO {i : Int} : Ok (ixM (.obj r) (.int i)) h Q ↔ ∃ d, (lstAt h r).bind (fun xs => atI xs i) = some d ∧ Q d h := by
  unfold Ok ixM lstAt
  cases q : h[r]? with
  | none => simp [seqR, tupR, lstR, lstT, q]
  | some o =>
    cases o with
    | lst xs =>
      cases a : atI xs i <;> simp [seqR, tupR, lstR, lstT, q, a]
    | _ => simp [seqR, tupR, lstR, lstT, q]
@[simp] theorem ok_setO {i : Int} {y : Dt} : Ok (setL (.obj r) (.int i) y) h U ↔ ∃ xs j, lstAt h r = some xs ∧ ixN xs.length i = some j ∧ U () (h.set r (.lst (xs.set j y))) := by
  unfold Ok setL lstAt
  cases q : h[r]? with
  | none => simp [q]
  | some o =>
    cases o with
    | lst xs =>
      cases a : ixN xs.length i <;> simp [q, a]
    | _ => simp [q]
end
/-- at r a reel, n rolls at most behind it -/
structure Reel (h : Ah) (r : Nat) (n : Nat) : Prop where
  ex : ∃ g s c : Int, lstAt h r = some [.int g, .int s, .int c] ∧ 0 ≤ g ∧ 0 ≤ s ∧ s < 2147483249 ∧ 0 ≤ c ∧ c ≤ n
theorem Reel.mono {h : Ah} {r n m : Nat} (R : Reel h r n) (k : n ≤ m) : Reel h r m := by
  obtain ⟨g, s, c, h1, h2, h3, h4, h5, h6⟩ := R.ex
  exact ⟨g, s, c, h1, h2, h3, h4, h5, by omega⟩
theorem Reel.app {h : Ah} {r n : Nat} (R : Reel h r n) (j : Ah) : Reel (h ++ j) r n := by
  obtain ⟨g, s, c, h1, h2⟩ := R.ex
  exact ⟨g, s, c, lstAt_app h1 j, h2⟩
theorem log2_lt {n k : Nat} (h : n < 2 ^ k) (hk : 0 < k) : n.log2 < k := by
  by_cases z : n = 0
  · subst z; simpa using hk
  · exact (Nat.log2_lt z).mpr h
section
variable {h : Ah} {Q : Dt → Ah → Prop} {L : List Dt → Ah → Prop} {env : En} {ma : En → Mm Dt} {xs : List Dt}
@[simp] theorem ok_itL : Ok (itL ma env) h L ↔ Ok (ma env) h fun d h1 => Ok (itemsL d) h1 L := by simp [itL]
@[simp] theorem ok_itemsLv : Ok (itemsL (.lv xs)) h L ↔ L xs h := Iff.rfl
@[simp] theorem ok_itemsWl : Ok (itemsL (.wl xs)) h L ↔ L xs h := Iff.rfl
@[simp] theorem ok_opN {P : Option Int → Ah → Prop} : Ok (opN env) h P ↔ P none h := Iff.rfl
@[simp] theorem ok_opS {P : Option Int → Ah → Prop} : Ok (opS ma env) h P ↔ Ok (ma env) h fun d h1 => Ok (isI d) h1 P := by simp [opS]
@[simp] theorem ok_isI {i : Int} {P : Option Int → Ah → Prop} : Ok (isI (.int i)) h P ↔ P (some i) h := Iff.rfl
@[simp] theorem ok_slc {g : Dt → Option Int → Option Int → Mm Dt} {ml mh : En → Mm (Option Int)} : Ok (slc g ma ml mh env) h Q ↔ Ok (ma env) h fun x h1 => Ok (ml env) h1 fun lo h2 => Ok (mh env) h2 fun hi h3 => Ok (g x lo hi) h3 Q := by simp [slc]
@[simp] theorem ok_slWl {lo hi : Option Int} : Ok (slD (.wl xs) lo hi) h Q ↔ Q (.lv (cutD xs lo hi)) h := Iff.rfl
@[simp] theorem ok_slLv {lo hi : Option Int} : Ok (slD (.lv xs) lo hi) h Q ↔ Q (.lv (cutD xs lo hi)) h := Iff.rfl
@[simp] theorem ok_slTup {lo hi : Option Int} : Ok (slD (.tup xs) lo hi) h Q ↔ Q (.tup (cutD xs lo hi)) h := Iff.rfl
@[simp] theorem ok_lenWl : Ok (bLen [.wl xs]) h Q ↔ Q (.int xs.length) h := Iff.rfl
@[simp] theorem ok_lenLv : Ok (bLen [.lv xs]) h Q ↔ Q (.int xs.length) h := Iff.rfl
@[simp] theorem ok_lenTup : Ok (bLen [.tup xs]) h Q ↔ Q (.int xs.length) h := Iff.rfl
@[simp] theorem ok_ixWl {i : Int} : Ok (ixM (.wl xs) (.int i)) h Q ↔ ∃ d, atI xs i = some d ∧ Q d h := by
  unfold Ok ixM
  cases a : atI xs i <;> simp [seqR, tupR, lstR, lstT, a]
@[simp] theorem ok_ixLv {i : Int} : Ok (ixM (.lv xs) (.int i)) h Q ↔ ∃ d, atI xs i = some d ∧ Q d h := by
  unfold Ok ixM
  cases a : atI xs i <;> simp [seqR, tupR, lstR, lstT, a]
@[simp] theorem ok_ixTup {i : Int} : Ok (ixM (.tup xs) (.int i)) h Q ↔ ∃ d, atI xs i = some d ∧ Q d h := by
  unfold Ok ixM
  cases a : atI xs i <;> simp [seqR, tupR, a]
@[simp] theorem ok_ixWt {i : Int} : Ok (ixM (.wt xs) (.int i)) h Q ↔ ∃ d, atI xs i = some d ∧ Q d h := by
  unfold Ok ixM
  cases a : atI xs i <;> simp [seqR, tupR, a]
end
theorem atI_nat {α : Type} {xs : List α} {i : Nat} (h : i < xs.length) : atI xs (i : Int) = some xs[i] := by
  unfold atI ixN
  rw [if_pos (by omega), if_pos (by omega)]
  simp [h]
theorem atI_last {α : Type} {xs : List α} (h : xs ≠ []) : atI xs (-1) = some (xs.getLast h) := by
  have l : 0 < xs.length := List.length_pos_iff.mpr h
  unfold atI ixN
  rw [if_neg (by omega), if_pos (by omega)]
  simp only [Option.bind_some]
  rw [show (-1 + (xs.length : Int)).toNat = xs.length - 1 by omega, List.getLast_eq_getElem]
  simp [l]
theorem cutD_mem {xs : List Dt} {lo hi : Option Int} {d : Dt} (m : d ∈ cutD xs lo hi) : d ∈ xs := List.mem_of_mem_drop (List.mem_of_mem_take m)
end Mo
set_option Elab.async false
set_option linter.all false
set_option maxRecDepth 100000
set_option maxHeartbeats 4000000
namespace Mo
open PySem L2
def Tx (l : List Nat) : Str := ⟨l.toArray⟩
theorem tx_cps (l : List Nat) : (Tx l).cps.toList = l := rfl
@[simp] theorem tx_len (l : List Nat) : (Tx l).length = l.length := by simp [Tx, Str.length]
@[simp] theorem tx_inj {a b : List Nat} : Tx a = Tx b ↔ a = b := by
  refine ⟨fun e => ?_, fun e => by rw [e]⟩
  have := congrArg (fun z : Str => z.cps.toList) e
  simpa [Tx] using this
theorem tx_of (x : Str) : x = Tx x.cps.toList := by
  obtain ⟨a⟩ := x
  simp [Tx]
theorem tx_app (a b : List Nat) : Tx a ++ Tx b = Tx (a ++ b) := by
  show (⟨(Tx a).cps ++ (Tx b).cps⟩ : Str) = _
  simp [Tx]
def cutL {α : Type} (xs : List α) (lo hi : Option Int) : List α := (xs.drop (HT.sIx xs.length 0 lo)).take (HT.sIx xs.length xs.length hi - HT.sIx xs.length 0 lo)
section
variable {h : Ah} {Q : Dt → Ah → Prop} {L : List Dt → Ah → Prop} {env : En} {ma mb : En → Mm Dt} {l a b : List Nat} {c : Nat} {i : Int}
theorem tx_signs : signs (Tx l) = l.map fun c => .str (Tx [c]) := by
  unfold signs
  rw [tx_cps]
  rfl
@[simp] theorem ok_itS : Ok (itS ma env) h L ↔ Ok (ma env) h fun d h1 => Ok (itemsS d) h1 L := by simp [itS]
@[simp] theorem ok_itemsTx : Ok (itemsS (.str (Tx l))) h L ↔ L (l.map fun c => .str (Tx [c])) h := by
  rw [← tx_signs]
  exact Iff.rfl
@[simp] theorem ok_ixS : Ok (ixM (.str (Tx l)) (.int i)) h Q ↔ ∃ c, atI l i = some c ∧ l.length ≤ sizeLine ∧ Q (.str (Tx [c])) h := by
  unfold Ok ixM
  simp only [tx_cps, tx_len]
  cases q : atI l i with
  | none => simp
  | some c =>
    by_cases z : l.length ≤ sizeLine
    · simp only [z, if_true]; exact ⟨fun o => ⟨c, rfl, trivial, o⟩, fun ⟨_, e, _, o⟩ => by cases e; exact o⟩
    · simp [z]
@[simp] theorem ok_addS : Ok (opAdd (.str (Tx a)) (.str (Tx b))) h Q ↔ a.length + b.length ≤ sizeLine ∧ Q (.str (Tx (a ++ b))) h := by
  unfold Ok opAdd
  by_cases z : a.length + b.length ≤ sizeLine <;> simp [z, tx_app]
@[simp] theorem ok_slS {lo hi : Option Int} : Ok (slD (.str (Tx l)) lo hi) h Q ↔ l.length ≤ sizeLine ∧ Q (.str (Tx (cutL l lo hi))) h := by
  unfold Ok slD
  have e : cutS (Tx l) lo hi = Tx (cutL l lo hi) := by
    unfold cutS cutL
    simp only [tx_cps, tx_len]
    rfl
  by_cases z : l.length ≤ sizeLine <;> simp [z, e]
@[simp] theorem ok_lenS : Ok (bLen [.str (Tx l)]) h Q ↔ l.length ≤ sizeLine ∧ Q (.int l.length) h := by
  unfold Ok bLen
  by_cases z : l.length ≤ sizeLine <;> simp [z]
theorem sign_tx : sign? (Tx [c]) = some c := rfl
@[simp] theorem ok_inS : Ok (opIn (.str (Tx [c])) (.str (Tx l))) h Q ↔ Q (.bl (decide (c ∈ l))) h := by
  have e : inR h (.str (Tx [c])) (.str (Tx l)) = some (decide (c ∈ l)) := by
    unfold inR
    simp only [sign_tx, tx_cps]
    exact congrArg some (decide_eq_decide.mpr Iff.rfl)
  unfold Ok opIn
  simp only [e]
@[simp] theorem ok_notinS : Ok (opNotIn (.str (Tx [c])) (.str (Tx l))) h Q ↔ Q (.bl (!decide (c ∈ l))) h := by
  have e : inR h (.str (Tx [c])) (.str (Tx l)) = some (decide (c ∈ l)) := by
    unfold inR
    simp only [sign_tx, tx_cps]
    exact congrArg some (decide_eq_decide.mpr Iff.rfl)
  unfold Ok opNotIn
  simp only [e]
theorem ok_mulS {n : Int} : Ok (opMul (.str (Tx a)) (.int n)) h Q ↔ (-(2 ^ 63) ≤ n ∧ n < 2 ^ 63 ∧ a.length * n.toNat ≤ sizeLine) ∧ Q (.str (Tx (List.replicate n.toNat a).flatten)) h := by
  unfold Ok opMul
  simp only [tx_len]
  by_cases z : -(2 ^ 63) ≤ n ∧ n < 2 ^ 63 ∧ a.length * n.toNat ≤ sizeLine
  · rw [if_pos z]
    exact ⟨fun o => ⟨z, o⟩, fun o => o.2⟩
  · rw [if_neg z]
    exact ⟨fun o => o.elim, fun o => z o.1⟩
@[simp] theorem ok_revS : Ok (revS (.str (Tx l))) h Q ↔ l.length ≤ sizeLine ∧ Q (.str (Tx l.reverse)) h := by
  have e : (Tx l).cps.size = l.length := by simp [Tx]
  show Ok (if (Tx l).cps.size ≤ sizeLine then Mm.pure (Dt.str ⟨(Tx l).cps.toList.reverse.toArray⟩) else Mm.no) h Q ↔ _
  rw [ok_ifno, e]
  exact Iff.rfl
@[simp] theorem ok_bm {tk : Ah → Dt → Bool} {g : Dt → List Dt → Mm Dt} {mr : En → Mm (List Dt)} : Ok (bm tk g ma mr env) h Q ↔ Ok (ma env) h fun o h1 => tk h1 o = true ∧ Ok (mr env) h1 fun ds h2 => Ok (g o ds) h2 Q := by
  have key : ∀ (d : Dt) (h1 : Ah), Ok (Mm.bind (fun h => if tk h d then .ok () h else .no) fun _ => mr env >>= fun ds => g d ds) h1 Q ↔ tk h1 d = true ∧ Ok (mr env) h1 fun ds h2 => Ok (g d ds) h2 Q := by
    intro d h1
    by_cases c : tk h1 d = true
    · have e : Mm.bind (fun h => if tk h d then .ok () h else .no) (fun _ => mr env >>= fun ds => g d ds) h1 = (mr env >>= fun ds => g d ds) h1 := by simp only [Mm.bind, c, if_true]
      rw [← ok_bind]
      unfold Ok
      rw [e]
      simp [c]
    · have e : Mm.bind (fun h => if tk h d then .ok () h else .no) (fun _ => mr env >>= fun ds => g d ds) h1 = .no := by simp [Mm.bind, c]
      unfold Ok
      rw [e]
      simp [c]
  show Ok (Mm.bind (ma env) fun o => Mm.bind (fun h => if tk h o then .ok () h else .no) fun _ => mr env >>= fun ds => g o ds) h Q ↔ _
  refine Iff.trans (ok_bind (m := ma env)) ?_
  exact ⟨fun o => o.mono fun d h1 q => (key d h1).mp q, fun o => o.mono fun d h1 q => (key d h1).mpr q⟩
@[simp] theorem isSt_str {x : Str} : isSt h (.str x) = true := rfl
end
theorem lit_enws : (Str.ofString "enws") = Tx [101, 110, 119, 115] := by decide +kernel
theorem lit_ew : (Str.ofString "ew") = Tx [101, 119] := by decide +kernel
theorem lit_e : (Str.ofString "e") = Tx [101] := by decide +kernel
theorem lit_n : (Str.ofString "n") = Tx [110] := by decide +kernel
theorem lit_w : (Str.ofString "w") = Tx [119] := by decide +kernel
theorem lit_s : (Str.ofString "s") = Tx [115] := by decide +kernel
theorem lit_ : (Str.ofString "") = Tx [] := by decide +kernel
theorem lit_sp : (Str.ofString " ") = Tx [32] := by decide +kernel
theorem lit_0 : (Str.ofString "0") = Tx [48] := by decide +kernel
theorem lit_dg : (Str.ofString "0123456789") = Tx [48, 49, 50, 51, 52, 53, 54, 55, 56, 57] := by decide +kernel
def Ltr (c : Nat) : Prop := c = 101 ∨ c = 110 ∨ c = 119 ∨ c = 115
def idx (c : Nat) : Nat := if c = 101 then 0 else if c = 110 then 1 else if c = 119 then 2 else 3
section
variable {h : Ah} {Q : Dt → Ah → Prop} {c : Nat}
theorem ok_index (hc : Ltr c) : Ok (mSIndex (.str (Tx [101, 110, 119, 115])) [.str (Tx [c])]) h Q ↔ Q (.int (idx c)) h := by
  rcases hc with rfl | rfl | rfl | rfl
  · have e : Builtin.Str.occurrences (Tx [101, 110, 119, 115]) (Tx [101]) 0 (Tx [101, 110, 119, 115]).length 1 = [0] := by decide +kernel
    unfold Ok mSIndex; simp only [e]; rfl
  · have e : Builtin.Str.occurrences (Tx [101, 110, 119, 115]) (Tx [110]) 0 (Tx [101, 110, 119, 115]).length 1 = [1] := by decide +kernel
    unfold Ok mSIndex; simp only [e]; rfl
  · have e : Builtin.Str.occurrences (Tx [101, 110, 119, 115]) (Tx [119]) 0 (Tx [101, 110, 119, 115]).length 1 = [2] := by decide +kernel
    unfold Ok mSIndex; simp only [e]; rfl
  · have e : Builtin.Str.occurrences (Tx [101, 110, 119, 115]) (Tx [115]) 0 (Tx [101, 110, 119, 115]).length 1 = [3] := by decide +kernel
    unfold Ok mSIndex; simp only [e]; rfl
end
/-- whatever the heap, a; the heap grows at its end -/
def Gv {α : Type} (m : Mm α) (a : α) : Prop := ∀ h, ∃ j, m h = .ok a (h ++ j)
theorem Gv.ok {α : Type} {m : Mm α} {a : α} (g : Gv m a) {h : Ah} {Q : α → Ah → Prop} (q : ∀ j, Q a (h ++ j)) : Ok m h Q := by
  obtain ⟨j, e⟩ := g h
  exact ok_of e (q j)
theorem gv_of {α : Type} {m : Mm α} {a : α} (g : ∀ h, Ok m h fun b h' => b = a ∧ ∃ j, h' = h ++ j) : Gv m a := fun h => by
  obtain ⟨b, h', e, rfl, j, rfl⟩ := ok_iff.mp (g h)
  exact ⟨j, e⟩
theorem lcL_ok {γ : Type} {p : Pat} {mt : En → Mm Bool} {me : En → Mm Dt} {env : En} {t : γ → Bool} {g : γ → Dt} {e : γ → Dt} {h : Ah} : ∀ (ds : List γ) (acc : List Dt) (k : Ah), acc.length + ds.length ≤ sizeLine →
    (∀ d ∈ ds, ∃ e1, p.bd (e d) env = some e1 ∧ Gv (mt e1) (t d) ∧ (t d = true → Gv (me e1) (g d))) →
    ∃ k', lcL p mt me h.length (ds.map e) env (h ++ .lst acc :: k) = .ok () (h ++ .lst (acc ++ (ds.filter t).map g) :: k')
  | [], acc, k, _, _ => ⟨k, by simp [lcL, Mm.pure]⟩
  | d :: ds, acc, k, hl, hd => by
    obtain ⟨e1, hb, ht, he⟩ := hd d (by simp)
    obtain ⟨j1, q1⟩ := ht (h ++ .lst acc :: k)
    have hd' : ∀ d ∈ ds, ∃ e1, p.bd (e d) env = some e1 ∧ Gv (mt e1) (t d) ∧ (t d = true → Gv (me e1) (g d)) := fun d m => hd d (by simp [m])
    have hl' : acc.length + 1 + ds.length ≤ sizeLine := by simp at hl; omega
    cases c : t d with
    | true =>
      rw [c] at q1
      obtain ⟨j2, q2⟩ := he c (h ++ .lst acc :: k ++ j1)
      obtain ⟨k', q3⟩ := lcL_ok (p := p) (mt := mt) (me := me) (env := env) (t := t) (g := g) (e := e) (h := h) ds (acc ++ [g d]) (k ++ j1 ++ j2) (by simp; omega) hd'
      refine ⟨k', ?_⟩
      show Mm.bind (gP p (e d) env) _ _ = _
      simp only [gP, hb, Mm.bind, Mm.pure]
      show Mm.bind (mt e1) _ _ = _
      simp only [Mm.bind, q1]
      show Mm.bind (me e1) _ _ = _
      simp only [Mm.bind, q2]
      have pq : push h.length (g d) (h ++ .lst acc :: k ++ j1 ++ j2) = .ok () (h ++ .lst (acc ++ [g d]) :: (k ++ j1 ++ j2)) := by
        unfold push
        have z : acc.length < sizeLine := by omega
        simp [z]
      show Mm.bind (push h.length (g d)) _ _ = _
      simp only [Mm.bind, pq]
      rw [q3]
      simp [c]
    | false =>
      rw [c] at q1
      obtain ⟨k', q3⟩ := lcL_ok (p := p) (mt := mt) (me := me) (env := env) (t := t) (g := g) (e := e) (h := h) ds acc (k ++ j1) (by simp at hl; omega) hd'
      refine ⟨k', ?_⟩
      show Mm.bind (gP p (e d) env) _ _ = _
      simp only [gP, hb, Mm.bind, Mm.pure]
      show Mm.bind (mt e1) _ _ = _
      simp only [Mm.bind, q1]
      rw [show h ++ .lst acc :: k ++ j1 = h ++ .lst acc :: (k ++ j1) by simp]
      rw [q3]
      simp [c]
theorem ok_lcM {γ : Type} {mi : En → Mm (List Dt)} {p : Pat} {mt : En → Mm Bool} {me : En → Mm Dt} {vs : List Nat} {env : En} {h : Ah} {Q : Dt → Ah → Prop} (l : List γ) (e : γ → Dt) (t : γ → Bool) (g : γ → Dt)
    (hi : Ok (mi env) h fun ds h1 => ds = l.map e ∧ l.length ≤ sizeLine ∧ (∀ d ∈ l, ∃ e1, p.bd (e d) (wipeE env vs) = some e1 ∧ Gv (mt e1) (t d) ∧ (t d = true → Gv (me e1) (g d))) ∧ ∀ j, Q (.lv ((l.filter t).map g)) (h1 ++ j)) :
    Ok (lcM mi p mt me vs env) h Q := by
  simp only [lcM, ok_bind]
  refine hi.mono fun ds h1 ⟨e1, hl, hd, q⟩ => ?_
  subst e1
  refine ok_of (a := h1.length) (h' := h1 ++ [.lst []]) rfl ?_
  obtain ⟨k', e⟩ := lcL_ok (h := h1) l [] [] (by simpa using hl) hd
  refine ok_of e ?_
  refine ok_of (a := .lv ((l.filter t).map g)) (h' := h1 ++ .dead :: k') ?_ (q _)
  unfold takeL
  simp
/-- the plain case: no test -/
theorem ok_lcA {γ : Type} {mi : En → Mm (List Dt)} {i : Nat} {me : En → Mm Dt} {vs : List Nat} {env : En} {h : Ah} {Q : Dt → Ah → Prop} (l : List γ) (e : γ → Dt) (g : γ → Dt)
    (hi : Ok (mi env) h fun ds h1 => ds = l.map e ∧ l.length ≤ sizeLine ∧ (∀ d ∈ l, Gv (me ((wipeE env vs).set i (some (e d)))) (g d)) ∧ ∀ j, Q (.lv (l.map g)) (h1 ++ j)) :
    Ok (lcM mi (.nm i) yes me vs env) h Q :=
  ok_lcM l e (fun _ => true) g (hi.mono fun ds h1 ⟨h2, h3, h4, h5⟩ => ⟨h2, h3, fun d m => ⟨_, bd_nm, fun h => ⟨[], by simp [yes, Mm.pure]⟩, fun _ => h4 d m⟩, fun j => by
    rw [List.filter_eq_self.mpr (by simp)]
    exact h5 j⟩)
theorem gv_pure {α : Type} {a : α} : Gv (Mm.pure a) a := fun h => ⟨[], by simp [Mm.pure]⟩
theorem gv_yes {env : En} : Gv (yes env) true := gv_pure
end Mo
set_option Elab.async false
set_option linter.all false
set_option maxRecDepth 100000
set_option maxHeartbeats 4000000
namespace Mo
open PySem L2 TL
theorem tl_tx (l : List Nat) : tl (Tx l) = l := rfl
theorem join_tx (a : List Nat) (ls : List (List Nat)) : Txt.join (Tx a) (ls.map Tx) = Tx (joinL a ls) := by
  rw [join_eq]
  have e := tl_join (Tx a) (ls.map Tx)
  rw [tl_tx, List.map_map] at e
  rw [show (tl ∘ Tx) = id by funext l; rfl, List.map_id] at e
  rw [tx_of (Str.join (Tx a) (ls.map Tx))]
  exact congrArg Tx e
theorem join_nil : ∀ (ls : List (List Nat)), joinL [] ls = ls.flatten
  | [] => rfl
  | [p] => by simp [joinL]
  | p :: q :: r => by
    show p ++ ([] ++ joinL [] (q :: r)) = _
    rw [join_nil (q :: r)]
    simp
theorem strsD_tx {γ : Type} (f : γ → List Nat) : ∀ (l : List γ), strsD (l.map fun x => .str (Tx (f x))) = some (l.map fun x => Tx (f x))
  | [] => rfl
  | x :: l => by
    show (match strsD (l.map fun x => .str (Tx (f x))) with | some bs => some (Tx (f x) :: bs) | none => none) = _
    rw [strsD_tx f l]
    rfl
section
variable {h : Ah} {Q : Dt → Ah → Prop}
theorem ok_join {γ : Type} {a : List Nat} (f : γ → List Nat) {l : List γ} (hs : ((l.map fun x => (f x).length).sum + l.length * a.length ≤ 16777216)) : Ok (mJoin (.str (Tx a)) [.lv (l.map fun x => .str (Tx (f x)))]) h Q ↔ Q (.str (Tx (joinL a (l.map f)))) h := by
  have e : (seqR h (.lv (l.map fun x => .str (Tx (f x))))).bind strsD = some (l.map fun x => Tx (f x)) := by
    show strsD _ = _
    exact strsD_tx f l
  unfold Ok mJoin
  simp only [e]
  have e2 : ((l.map fun x => Tx (f x)).map (·.length)).sum + (l.map fun x => Tx (f x)).length * (Tx a).length ≤ 16777216 := by
    rw [List.map_map, List.length_map, tx_len]
    simpa [Function.comp_def] using hs
  rw [if_pos e2]
  have e3 : Txt.join (Tx a) (l.map fun x => Tx (f x)) = Tx (joinL a (l.map f)) := by
    rw [← join_tx, List.map_map]; rfl
  simp only [e3]
end
def turnC (c : Nat) : Nat := if c = 101 then 110 else if c = 110 then 119 else if c = 119 then 115 else 101
def oppC (c : Nat) : Nat := if c = 101 then 119 else if c = 110 then 115 else if c = 119 then 101 else 110
def Ltrs (l : List Nat) : Prop := ∀ c ∈ l, Ltr c
theorem ltr_opp {c : Nat} (h : Ltr c) : Ltr (oppC c) := by rcases h with rfl | rfl | rfl | rfl <;> simp [oppC, Ltr]
theorem szl {n : Nat} (h : n ≤ 1000) : n ≤ sizeLine := by rw [sizeLine_eq]; omega
end Mo
set_option Elab.async false
set_option linter.all false
set_option maxRecDepth 100000
set_option maxHeartbeats 4000000
namespace Mo
open PySem L2 TL
section
variable {α : Type} {xs : List α}
@[simp] theorem cut_all : cutL xs none none = xs := by simp [cutL, HT.sIx]
theorem cut_from {k : Nat} : cutL xs (some (k : Int)) none = xs.drop k := by
  unfold cutL
  rw [HT.sIx_nat, HT.sIx_none]
  by_cases h : k ≤ xs.length
  · rw [Nat.min_eq_left h, List.take_of_length_le (by simp)]
  · rw [Nat.min_eq_right (by omega), Nat.sub_self, List.take_zero, List.drop_eq_nil_of_le (by omega)]
theorem cut_to {k : Nat} : cutL xs none (some (k : Int)) = xs.take k := by
  unfold cutL
  rw [HT.sIx_nat, HT.sIx_none]
  simp
end
section
variable {h : Ah} {Q : Dt → Ah → Prop} {L : List Dt → Ah → Prop} {env : En} {mr : En → Mm (List Dt)} {a b : List Nat} {i j : Nat} {d e : Dt}
@[simp] theorem ok_itZS : Ok (itZS mr env) h L ↔ Ok (mr env) h fun ds h1 => ∃ x y, ds = [.str x, .str y] ∧ L (zipD (signs x) (signs y)) h1 := by
  simp only [itZS, ok_bind]
  refine ⟨fun o => o.mono fun ds h1 q => ?_, fun o => o.mono fun ds h1 q => ?_⟩
  · split at q
    · exact ⟨_, _, rfl, q⟩
    · exact q.elim
  · obtain ⟨x, y, rfl, q⟩ := q; exact q
@[simp] theorem bd_two : (Pat.tp [.nm i, .nm j]).bd (.tup [d, e]) env = some ((env.set i (some d)).set j (some e)) := by simp [Pat.bd, Pat.bds]
end
def bendI (a b : Nat) : Int := ((idx b : Int) - idx a) % 4
def sideS (acc : List Nat) (p : Nat × Nat) : List Nat := acc ++ (if bendI p.1 p.2 = 0 then [p.2] else if bendI p.1 p.2 = 3 then [] else [p.1, p.2])
def sideP (row : List Nat) : List Nat := (row.zip row.tail).foldl sideS [row.headD 0] ++ [row.getLastD 0]
theorem at0 {α : Type} {a : α} {l : List α} : atI (a :: l) 0 = some a := by simp [atI, ixN]
def rimP (row : List Nat) : List Nat := (sideP row ++ [turnC (row.getLastD 0)]) ++ sideP ((row.map oppC).reverse) ++ [turnC (((row.map oppC).reverse).getLastD 0)]
theorem gv_fn {h : Ah} {m : Mm Dt} {a : Dt} {Q : Dt → Ah → Prop} (g : Gv m a) (q : ∀ j, Q a (h ++ j)) : Ok m h Q := g.ok q
def wordP (p : Nat × List Nat) : List Nat := p.1 :: p.2
def longP (ps : List (Nat × List Nat)) : List Nat := (ps.map fun p => List.replicate (NumText.digitsVal p.2) p.1).flatten
theorem rep_flat (n c : Nat) : (List.replicate n [c]).flatten = List.replicate n c := by
  induction n with
  | zero => rfl
  | succ n ih => rw [List.replicate_succ, List.flatten_cons, ih]; rfl
def psA : List (Nat × List Nat) := [(101, [53]), (110, [51]), (119, [52]), (110, [49]), (101, [49]), (115, [53]), (101, [52]), (110, [55]), (119, [55]), (115, [52]), (101, [53]), (115, [49]), (119, [49]), (110, [52]), (119, [51]), (115, [53])]
theorem split_of {x : Str} (ps : List (Nat × List Nat)) (e : x = Tx (joinL [32] (ps.map wordP))) (h0 : ps ≠ []) (hp : ∀ p ∈ ps, 32 ∉ wordP p) : Txt.split x (Tx [32]) = ps.map fun p => Tx (wordP p) := by
  subst e
  rw [← join_tx]
  rw [List.map_map]
  exact split_join (y := Tx [32]) (s := 32) (S := []) rfl (by decide +kernel) (by simpa using h0) fun q m => by
    obtain ⟨p, hm, rfl⟩ := List.mem_map.mp m
    exact hp p hm
end Mo
set_option Elab.async false
set_option linter.all false
set_option maxRecDepth 100000
set_option maxHeartbeats 4000000
namespace Mo
open PySem L2 TL
@[simp] theorem ex_two {α β : Type} {a : α} {b : β} {P : α → β → Prop} : (∃ x y, (a = x ∧ b = y) ∧ P x y) ↔ P a b :=
  ⟨fun ⟨_, _, ⟨h1, h2⟩, h3⟩ => by subst h1 h2; exact h3, fun h => ⟨a, b, ⟨rfl, rfl⟩, h⟩⟩
@[simp] theorem ex_three {α β γ : Type} {a : α} {b : β} {c : γ} {P : α → β → γ → Prop} : (∃ x y z, (a = x ∧ b = y ∧ c = z) ∧ P x y z) ↔ P a b c :=
  ⟨fun ⟨_, _, _, ⟨h1, h2, h4⟩, h3⟩ => by subst h1 h2 h4; exact h3, fun h => ⟨a, b, c, ⟨rfl, rfl, rfl⟩, h⟩⟩
theorem ok_repS {h : Ah} {Q : Dt → Ah → Prop} {c n : Nat} (hn : n ≤ 1000) : Ok (opMul (.str (Tx [c])) (.int (n : Int))) h Q ↔ Q (.str (Tx (List.replicate n c))) h := by
  rw [ok_mulS]
  simp only [Int.toNat_natCast, rep_flat]
  exact ⟨fun o => o.2, fun o => ⟨⟨by omega, by omega, by simpa using szl hn⟩, o⟩⟩
def boxP (a b : Nat) : List Nat := List.replicate a 101 ++ List.replicate b 110 ++ List.replicate a 119 ++ List.replicate b 115
def rowP (a b c d : Nat) : List Nat := List.replicate a 101 ++ List.replicate b 110 ++ List.replicate c 119 ++ List.replicate d 115
def boxes : List (List Nat) := (List.range 4).flatMap fun a => (List.range 4).map fun b => boxP (a + 1) (b + 1)
def rims : List (List Nat) := (List.range 3).flatMap fun a => (List.range 2).flatMap fun b => (List.range (a + 1)).flatMap fun c => (List.range 2).map fun d => rimP (rowP (a + 3) (b + 2) (c + 2) (b + 3 + d))
def bases : List (List Nat) := boxes ++ (longP psA :: rims)
end Mo
set_option Elab.async false
set_option linter.all false
set_option maxRecDepth 100000
set_option maxHeartbeats 4000000
namespace Mo
abbrev Pt := Int × Int
def dx (c : Nat) : Pt := if c = 101 then (1, 0) else if c = 110 then (0, 1) else if c = 119 then (-1, 0) else (0, -1)
def lv (c : Nat) : Bool := decide (c = 101) || decide (c = 119)
/-- the place ahead of the i-th step -/
def pl (g : Nat → Nat) : Nat → Pt
  | 0 => (0, 0)
  | i + 1 => ((pl g i).1 + (dx (g i)).1, (pl g i).2 + (dx (g i)).2)
structure LineG (g : Nat → Nat) (n : Nat) : Prop where
  pos : 0 < n
  per : ∀ i, g (i + n) = g i
  ltr : ∀ i, Ltr (g i)
  end_ : pl g n = (0, 0)
  ok : ∀ i j, i % n ≠ j % n → pl g i = pl g j → g (i + n - 1) = g i ∧ g (j + n - 1) = g j ∧ lv (g i) ≠ lv (g j)
theorem mod_cancel {k i j n : Nat} (h : (k + i) % n = (k + j) % n) : i % n = j % n := by
  have half : ∀ i j, i ≤ j → (k + j) % n = (k + i) % n → i % n = j % n := fun i j hij h => by
    have z := Nat.sub_mod_eq_zero_of_mod_eq h
    rw [show k + j - (k + i) = j - i by omega] at z
    obtain ⟨q, e⟩ := Nat.dvd_of_mod_eq_zero z
    rw [show j = i + n * q by omega, Nat.add_mul_mod_self_left]
  rcases Nat.le_total i j with c | c
  · exact half i j c h.symm
  · exact (half j i c h).symm
section
variable {g : Nat → Nat} {n : Nat}
theorem pl_add (g : Nat → Nat) (k : Nat) : ∀ i, pl g (k + i) = ((pl g k).1 + (pl (fun j => g (k + j)) i).1, (pl g k).2 + (pl (fun j => g (k + j)) i).2)
  | 0 => by simp [pl]
  | i + 1 => by
    rw [← Nat.add_assoc]
    simp only [pl, pl_add g k i]
    ext <;> simp <;> omega
theorem per_mul (h : ∀ i, g (i + n) = g i) : ∀ (k i : Nat), g (i + n * k) = g i
  | 0, i => by simp
  | k + 1, i => by rw [Nat.mul_succ, ← Nat.add_assoc, h, per_mul h k i]
theorem pl_per (h : ∀ i, g (i + n) = g i) (e : pl g n = (0, 0)) (i : Nat) : pl g (n + i) = pl g i := by
  rw [pl_add g n i, e]
  have : (fun j => g (n + j)) = g := funext fun j => by rw [Nat.add_comm, h]
  rw [this]
  simp
theorem pl_mul (h : ∀ i, g (i + n) = g i) (e : pl g n = (0, 0)) (i : Nat) : ∀ k, pl g (n * k + i) = pl g i
  | 0 => by simp
  | k + 1 => by rw [Nat.mul_succ, Nat.add_comm (n * k) n, Nat.add_assoc, pl_per h e, pl_mul h e i k]
theorem pl_mod (h : ∀ i, g (i + n) = g i) (e : pl g n = (0, 0)) (i : Nat) : pl g (i % n) = pl g i := by
  have := pl_mul h e (i % n) (i / n)
  rw [Nat.div_add_mod] at this
  exact this.symm
/-- told from another step on -/
theorem LineG.rot (L : LineG g n) (k : Nat) : LineG (fun i => g (k + i)) n := by
  have e0 : pl g (k + n) = pl g k := by rw [Nat.add_comm]; exact pl_per L.per L.end_ k
  have key : ∀ i, (pl (fun j => g (k + j)) i).1 = (pl g (k + i)).1 - (pl g k).1 ∧ (pl (fun j => g (k + j)) i).2 = (pl g (k + i)).2 - (pl g k).2 := fun i => by
    rw [pl_add g k i]; constructor <;> simp <;> omega
  refine ⟨L.pos, fun i => by rw [← Nat.add_assoc]; exact L.per _, fun i => L.ltr _, ?_, fun i j hne e => ?_⟩
  · have := key n
    rw [e0] at this
    ext
    · rw [this.1]; simp
    · rw [this.2]; simp
  · have e1 : pl g (k + i) = pl g (k + j) := by
      have a := key i; have b := key j
      rw [e] at a
      ext <;> omega
    have hm : (k + i) % n ≠ (k + j) % n := fun z => hne (mod_cancel z)
    have := L.ok _ _ hm e1
    have p := L.pos
    rw [show k + i + n - 1 = k + (i + n - 1) by omega, show k + j + n - 1 = k + (j + n - 1) by omega] at this
    exact this
/-- run back, the letters by a map that is a linear map of the plane -/
theorem LineG.back (L : LineG g n) {f : Nat → Nat} {a b : Int} (ha : a = 1 ∨ a = -1) (hb : b = 1 ∨ b = -1) (hf : ∀ c, Ltr c → Ltr (f c) ∧ lv (f c) = lv c ∧ (dx (f c)).1 = a * (dx c).1 ∧ (dx (f c)).2 = b * (dx c).2) : LineG (fun i => f (g (n - 1 - i % n))) n := by
  have p := L.pos
  have step : ∀ i, i ≤ n → (pl (fun j => f (g (n - 1 - j % n))) i).1 = -(a * (pl g (n - i)).1) ∧ (pl (fun j => f (g (n - 1 - j % n))) i).2 = -(b * (pl g (n - i)).2) := by
    intro i
    induction i with
    | zero => intro _; rw [Nat.sub_zero, L.end_]; simp [pl]
    | succ i ih =>
      intro hi
      obtain ⟨h1, h2⟩ := ih (by omega)
      have e : n - i = (n - (i + 1)) + 1 := by omega
      have em : i % n = i := Nat.mod_eq_of_lt (by omega)
      have e2 : n - 1 - i = n - (i + 1) := by omega
      obtain ⟨-, -, f1, f2⟩ := hf _ (L.ltr (n - (i + 1)))
      rw [e] at h1 h2
      simp only [pl, em, e2, h1, h2, f1, f2]
      rcases ha with rfl | rfl <;> rcases hb with rfl | rfl <;> constructor <;> omega
  have per : ∀ i, f (g (n - 1 - (i + n) % n)) = f (g (n - 1 - i % n)) := fun i => by rw [Nat.add_mod_right]
  have endz : pl (fun j => f (g (n - 1 - j % n))) n = (0, 0) := by
    obtain ⟨h1, h2⟩ := step n (Nat.le_refl n)
    rw [Nat.sub_self] at h1 h2
    ext
    · rw [h1]; simp [pl]
    · rw [h2]; simp [pl]
  refine ⟨p, per, fun i => (hf _ (L.ltr _)).1, endz, fun i j hne e => ?_⟩
  have prev : ∀ k, (k + n - 1) % n = if k % n = 0 then n - 1 else k % n - 1 := fun k => by
    have hk : k % n < n := Nat.mod_lt _ p
    have e1 : (k + n - 1) % n = (k % n + n - 1) % n := by
      have := Nat.mod_add_div k n
      conv => lhs; rw [← this]
      rw [show k % n + n * (k / n) + n - 1 = k % n + n - 1 + n * (k / n) by omega, Nat.add_mul_mod_self_left]
    rw [e1]
    split
    · rename_i z; rw [z, Nat.zero_add]; exact Nat.mod_eq_of_lt (by omega)
    · rw [show k % n + n - 1 = k % n - 1 + n by omega, Nat.add_mod_right]; exact Nat.mod_eq_of_lt (by omega)
  have red : ∀ k, pl (fun j => f (g (n - 1 - j % n))) k = pl (fun j => f (g (n - 1 - j % n))) (k % n) := fun k => (pl_mod (g := fun j => f (g (n - 1 - j % n))) per endz k).symm
  rw [red i, red j] at e
  have hi : i % n < n := Nat.mod_lt _ p
  have hj : j % n < n := Nat.mod_lt _ p
  obtain ⟨a1, a2⟩ := step (i % n) (Nat.le_of_lt hi)
  obtain ⟨b1, b2⟩ := step (j % n) (Nat.le_of_lt hj)
  have e1 : pl g (n - i % n) = pl g (n - j % n) := by
    rw [e] at a1 a2
    ext
    · rcases ha with rfl | rfl <;> omega
    · rcases hb with rfl | rfl <;> omega
  have hm : (n - i % n) % n ≠ (n - j % n) % n := fun z => hne (by
    have q : ∀ k, k < n → (n - k) % n = if k = 0 then 0 else n - k := fun k hk => by
      split
      · rename_i w; subst w; simp
      · exact Nat.mod_eq_of_lt (by omega)
    rw [q _ hi, q _ hj] at z
    split at z <;> split at z <;> omega)
  obtain ⟨h1, h2, h3⟩ := L.ok _ _ hm e1
  have nb : ∀ k, k < n → g (n - k + n - 1) = g (n - 1 - k) := fun k hk => by
    rw [show n - k + n - 1 = n - 1 - k + n by omega]; exact L.per _
  have na : ∀ k, k < n → g (n - 1 - (if k = 0 then n - 1 else k - 1)) = g (n - k) := fun k hk => by
    split
    · rename_i z; subst z; rw [Nat.sub_self, Nat.sub_zero]
      have := L.per 0; rw [Nat.zero_add] at this; exact this.symm
    · rw [show n - 1 - (k - 1) = n - k by omega]
  rw [nb _ hi] at h1
  rw [nb _ hj] at h2
  refine ⟨?_, ?_, ?_⟩
  · simp only [prev, na _ hi, h1]
  · simp only [prev, na _ hj, h2]
  · simp only [(hf _ (L.ltr _)).2.1, h1, h2]; exact h3
end
end Mo
set_option Elab.async false
set_option linter.all false
set_option maxRecDepth 100000
set_option maxHeartbeats 4000000
namespace Mo
def cyc (W : List Nat) (i : Nat) : Nat := W.getD (i % W.length) 0
def Line (W : List Nat) : Prop := LineG (cyc W) W.length
theorem cyc_lt {W : List Nat} {i : Nat} (h : i < W.length) : cyc W i = W[i] := by
  unfold cyc
  rw [Nat.mod_eq_of_lt h]
  simp [h]
theorem cyc_per (W : List Nat) (i : Nat) : cyc W (i + W.length) = cyc W i := by unfold cyc; rw [Nat.add_mod_right]
theorem cyc_mem {W : List Nat} (h : 0 < W.length) (i : Nat) : cyc W i ∈ W := by
  unfold cyc
  have := Nat.mod_lt i h
  simp [this]
theorem cyc_mod (W : List Nat) (i : Nat) : cyc W (i % W.length) = cyc W i := by unfold cyc; rw [Nat.mod_mod]
theorem cyc_map {W : List Nat} (h : 0 < W.length) (f : Nat → Nat) : cyc (W.map f) = fun i => f (cyc W i) := by
  funext i
  unfold cyc
  have := Nat.mod_lt i h
  simp [this]
theorem cyc_rot {W : List Nat} (h : 0 < W.length) {k : Nat} (hk : k ≤ W.length) : cyc (W.drop k ++ W.take k) = fun i => cyc W (k + i) := by
  funext i
  have ln : (W.drop k ++ W.take k).length = W.length := by simp; omega
  unfold cyc
  rw [ln]
  have hm := Nat.mod_lt i h
  have e : (k + i) % W.length = (k + i % W.length) % W.length := by rw [Nat.add_mod, Nat.add_mod k (i % W.length), Nat.mod_mod]
  rw [e]
  generalize i % W.length = m at *
  by_cases c : m < W.length - k
  · rw [Nat.mod_eq_of_lt (by omega)]
    simp only [List.getD_eq_getElem?_getD]
    rw [List.getElem?_append_left (by simpa using c), List.getElem?_drop]
  · rw [Nat.mod_eq_sub_mod (by omega), Nat.mod_eq_of_lt (by omega)]
    simp only [List.getD_eq_getElem?_getD]
    rw [List.getElem?_append_right (by simp; omega), List.length_drop, List.getElem?_take_of_lt (by omega)]
    congr 2
    omega
theorem cyc_rev {W : List Nat} (h : 0 < W.length) : cyc W.reverse = fun i => cyc W (W.length - 1 - i % W.length) := by
  funext i
  unfold cyc
  have hm := Nat.mod_lt i h
  rw [List.length_reverse]
  have e : (W.length - 1 - i % W.length) % W.length = W.length - 1 - i % W.length := Nat.mod_eq_of_lt (by omega)
  rw [e]
  simp only [List.getD_eq_getElem?_getD]
  rw [List.getElem?_reverse hm]
theorem Line.pos {W : List Nat} (L : Line W) : 0 < W.length := LineG.pos L
theorem Line.ltrs {W : List Nat} (L : Line W) : Ltrs W := fun c m => by
  obtain ⟨i, hi, rfl⟩ := List.getElem_of_mem m
  have := LineG.ltr L i
  rwa [cyc_lt hi] at this
theorem Line.rot {W : List Nat} (L : Line W) {k : Nat} (hk : k ≤ W.length) : Line (W.drop k ++ W.take k) := by
  unfold Line
  rw [cyc_rot L.pos hk, show (W.drop k ++ W.take k).length = W.length by simp; omega]
  exact LineG.rot L k
theorem Line.opp {W : List Nat} (L : Line W) : Line (W.map oppC).reverse := by
  unfold Line
  rw [← List.map_reverse, cyc_map (by simpa using L.pos), cyc_rev L.pos, List.length_map, List.length_reverse]
  refine LineG.back L (a := -1) (b := -1) (by simp) (by simp) fun c hc => ⟨ltr_opp hc, ?_⟩
  rcases hc with rfl | rfl | rfl | rfl <;> decide
def addG (ms : List (Pt × List Nat)) (p : Pt) (i : Nat) : List (Pt × List Nat) := if p ∈ ms.map (·.1) then ms.map (fun q => if q.1 = p then (q.1, q.2 ++ [i]) else q) else ms ++ [(p, [i])]
def grpN (P : Nat → Pt) : Nat → List (Pt × List Nat)
  | 0 => []
  | m + 1 => addG (grpN P m) (P m) m
def stB (W : List Nat) (a : Nat) : Bool := decide (cyc W (a + W.length - 1) = cyc W a)
def cond (W : List Nat) : List Nat → Bool
  | [a, b] => stB W a && stB W b && (lv (cyc W a) != lv (cyc W b))
  | _ :: _ :: _ :: _ => false
  | _ => true
def lineB (W : List Nat) : Bool := decide (pl (cyc W) W.length = (0, 0)) && (grpN (pl (cyc W)) W.length).all fun q => cond W q.2
theorem grp_ok (P : Nat → Pt) : ∀ m, (∀ q ∈ grpN P m, q.2 = (List.range m).filter fun i => decide (P i = q.1)) ∧ ∀ i, i < m → ∃ q ∈ grpN P m, q.1 = P i
  | 0 => ⟨fun q h => by simp [grpN] at h, fun i h => by omega⟩
  | m + 1 => by
    obtain ⟨h1, h2⟩ := grp_ok P m
    unfold grpN addG
    split
    · rename_i hm
      refine ⟨fun q hq => ?_, fun i hi => ?_⟩
      · obtain ⟨q0, m0, e⟩ := List.mem_map.mp hq
        have b := h1 q0 m0
        rw [List.range_succ, List.filter_append]
        by_cases c : q0.1 = P m
        · rw [if_pos c] at e
          subst e
          simp only
          rw [b]
          simp [c]
        · rw [if_neg c] at e
          subst e
          rw [← b]
          have : ¬ P m = q0.1 := fun z => c z.symm
          simp [this]
      · have get : ∀ p, (∃ q ∈ grpN P m, q.1 = p) → ∃ q ∈ (grpN P m).map (fun q => if q.1 = P m then (q.1, q.2 ++ [m]) else q), q.1 = p := fun p ⟨q, hq, e⟩ => by
          refine ⟨_, List.mem_map_of_mem hq, ?_⟩
          split <;> exact e
        rcases Nat.lt_or_ge i m with c | c
        · exact get _ (h2 i c)
        · have : i = m := by omega
          subst this
          obtain ⟨q, hq, e⟩ := List.mem_map.mp hm
          exact get _ ⟨q, hq, e⟩
    · rename_i hm
      have no : ∀ i, i < m → ¬ P i = P m := fun i hi z => hm (by
        obtain ⟨q, hq, e⟩ := h2 i hi
        exact List.mem_map.mpr ⟨q, hq, by rw [e, z]⟩)
      refine ⟨fun q hq => ?_, fun i hi => ?_⟩
      · rw [List.range_succ, List.filter_append]
        rcases List.mem_append.mp hq with c | c
        · have b := h1 q c
          have : ¬ P m = q.1 := fun z => hm (List.mem_map.mpr ⟨q, c, z.symm⟩)
          rw [← b]
          simp [this]
        · have : q = (P m, [m]) := by simpa using c
          subst this
          have nil : (List.range m).filter (fun i => decide (P i = P m)) = [] := List.filter_eq_nil_iff.mpr fun i hi => by simpa using no i (List.mem_range.mp hi)
          simp [nil]
      · rcases Nat.lt_or_ge i m with c | c
        · obtain ⟨q, hq, e⟩ := h2 i c
          exact ⟨q, List.mem_append_left _ hq, e⟩
        · have : i = m := by omega
          subst this
          exact ⟨(P i, [i]), by simp, rfl⟩
theorem lineB_iff {W : List Nat} (h0 : W ≠ []) (hl : Ltrs W) : lineB W = true ↔ Line W := by
  have p : 0 < W.length := List.length_pos_iff.mpr h0
  obtain ⟨g1, g2⟩ := grp_ok (pl (cyc W)) W.length
  have srt : ∀ q : Pt, ((List.range W.length).filter fun i => decide (pl (cyc W) i = q)).Pairwise (· < ·) := fun q => List.Pairwise.filter _ List.pairwise_lt_range
  unfold lineB
  rw [Bool.and_eq_true, decide_eq_true_eq, List.all_eq_true]
  constructor
  · rintro ⟨e, hc⟩
    refine ⟨p, cyc_per W, fun i => hl _ (cyc_mem p i), e, ?_⟩
    have half : ∀ i j, i < j → j < W.length → pl (cyc W) i = pl (cyc W) j → cyc W (i + W.length - 1) = cyc W i ∧ cyc W (j + W.length - 1) = cyc W j ∧ lv (cyc W i) ≠ lv (cyc W j) := by
      intro i j hij hj he
      obtain ⟨q, hq, eq⟩ := g2 i (by omega)
      have b := g1 q hq
      have c := hc q hq
      have mi : i ∈ q.2 := by rw [b]; simp [eq]; omega
      have mj : j ∈ q.2 := by rw [b]; simp [eq, he, hj]
      have s := srt q.1
      rw [← b] at s
      match hq2 : q.2 with
      | [] => rw [hq2] at mi; simp at mi
      | [a] => rw [hq2] at mi mj; simp at mi mj; omega
      | [a, b'] =>
        rw [hq2] at mi mj s c
        simp at mi mj s
        have ea : a = i := by omega
        have eb : b' = j := by omega
        subst ea eb
        simp only [cond, stB, Bool.and_eq_true, decide_eq_true_eq, bne_iff_ne] at c
        exact ⟨c.1.1, c.1.2, c.2⟩
      | _ :: _ :: _ :: _ => rw [hq2] at c; simp [cond] at c
    intro i j hne he
    have pm := pl_mod (cyc_per W) e
    have hi := Nat.mod_lt i p
    have hj := Nat.mod_lt j p
    have shift : ∀ k, cyc W (k % W.length + W.length - 1) = cyc W (k + W.length - 1) := fun k => by
      have := Nat.mod_add_div k W.length
      conv => rhs; rw [← this]
      rw [show k % W.length + W.length * (k / W.length) + W.length - 1 = k % W.length + W.length - 1 + W.length * (k / W.length) by omega]
      exact (per_mul (cyc_per W) _ _).symm
    rcases Nat.lt_or_gt_of_ne hne with c | c
    · have := half _ _ c hj (by rw [pm, pm]; exact he)
      rw [shift, shift, cyc_mod, cyc_mod] at this
      exact this
    · have := half _ _ c hi (by rw [pm, pm]; exact he.symm)
      rw [shift, shift, cyc_mod, cyc_mod] at this
      exact ⟨this.2.1, this.1, this.2.2.symm⟩
  · intro L
    refine ⟨LineG.end_ L, fun q hq => ?_⟩
    have b := g1 q hq
    have s := srt q.1
    rw [← b] at s
    have mem : ∀ i ∈ q.2, i < W.length ∧ pl (cyc W) i = q.1 := fun i hi => by rw [b] at hi; simpa using hi
    have pr : ∀ i ∈ q.2, ∀ j ∈ q.2, i < j → cyc W (i + W.length - 1) = cyc W i ∧ cyc W (j + W.length - 1) = cyc W j ∧ lv (cyc W i) ≠ lv (cyc W j) := fun i hi j hj hij => by
      obtain ⟨a1, a2⟩ := mem i hi
      obtain ⟨b1, b2⟩ := mem j hj
      exact LineG.ok L i j (by rw [Nat.mod_eq_of_lt a1, Nat.mod_eq_of_lt b1]; omega) (a2.trans b2.symm)
    match hq2 : q.2 with
    | [] => rfl
    | [a] => rfl
    | [a, b'] =>
      rw [hq2] at pr s
      simp at s
      obtain ⟨h1, h2, h3⟩ := pr a (by simp) b' (by simp) s
      simp only [cond, stB, Bool.and_eq_true, decide_eq_true_eq, bne_iff_ne]
      exact ⟨⟨h1, h2⟩, h3⟩
    | a :: b' :: c :: r =>
      rw [hq2] at pr s
      simp at s
      have x1 := (pr a (by simp) b' (by simp) (by omega)).2.2
      have x2 := (pr a (by simp) c (by simp) (by omega)).2.2
      have x3 := (pr b' (by simp) c (by simp) (by omega)).2.2
      exfalso
      cases e1 : lv (cyc W a) <;> cases e2 : lv (cyc W b') <;> cases e3 : lv (cyc W c) <;> simp_all
def goodB (W : List Nat) : Bool := lineB W && (!W.isEmpty && (W.all (fun c => decide (c = 101) || (decide (c = 110) || (decide (c = 119) || decide (c = 115)))) && decide (W.length < 100)))
theorem good_ok {W : List Nat} (h : goodB W = true) : Line W ∧ W.length < 100 := by
  simp only [goodB, Bool.and_eq_true, List.all_eq_true, Bool.or_eq_true, decide_eq_true_eq, Bool.not_eq_true', List.isEmpty_eq_false_iff] at h
  obtain ⟨h1, h2, h3, h4⟩ := h
  exact ⟨(lineB_iff h2 h3).mp h1, h4⟩
theorem bases_len : ∀ W ∈ bases, 4 ≤ W.length := by
  have : (bases.all fun W => decide (4 ≤ W.length)) = true := by decide +kernel
  exact fun W m => of_decide_eq_true (List.all_eq_true.mp this W m)
end Mo
set_option Elab.async false
set_option linter.all false
set_option maxRecDepth 100000
set_option maxHeartbeats 4000000
namespace Mo
open PySem L2 TL
section
variable {h : Ah} {Q : Dt → Ah → Prop} {L : List Dt → Ah → Prop} {env : En} {ma mb mc : En → Mm Dt} {mr : En → Mm (List Dt)} {r : Nat} {xs : List Dt} {d : Dt}
theorem ok_newO {o : Ao} {P : Nat → Ah → Prop} : Ok (newO o) h P ↔ P h.length (h ++ [o]) := Iff.rfl
theorem ok_mkO {o : Ao} : Ok (mkO o) h Q ↔ Q (.obj h.length) (h ++ [o]) := Iff.rfl
theorem ok_pairs0 {P : List (Dt × Dt) → Ah → Prop} : Ok (pairsM [] env) h P ↔ P [] h := Iff.rfl
theorem ok_pairs {p : (En → Mm Dt) × (En → Mm Dt)} {l : List ((En → Mm Dt) × (En → Mm Dt))} {P : List (Dt × Dt) → Ah → Prop} : Ok (pairsM (p :: l) env) h P ↔ Ok (p.1 env) h fun x h1 => Ok (p.2 env) h1 fun y h2 => Ok (pairsM l env) h2 fun ps h3 => P ((x, y) :: ps) h3 := by
  simp [pairsM]
theorem ok_finD {ps : List (Dt × Dt)} {ks : List Key} (hk : keysD (ps.map (·.1)) = some ks) (hn : ks.Nodup) (hl : ps.length ≤ 15) : Ok (finD h.length ps) (h ++ [.dk [] []]) Q ↔ Q (.dk ks (ps.map (·.2))) (h ++ [.dead]) := by
  unfold Ok finD
  simp [hk, hn, hl]
@[simp] theorem ok_appO : Ok (mApp (.obj r) [d]) h Q ↔ ∃ xs, lstAt h r = some xs ∧ xs.length < sizeLine ∧ Q .non (h.set r (.lst (xs ++ [d]))) := by
  unfold Ok mApp lstAt
  cases q : h[r]? with
  | none => simp [q]
  | some o =>
    cases o with
    | lst xs =>
      by_cases c : xs.length < sizeLine <;> simp [q, c]
    | _ => simp [q]
theorem isL_obj (e : lstAt h r = some xs) : isL h (.obj r) = true := by
  unfold lstAt at e
  unfold isL lstR lstT
  cases q : h[r]? with
  | none => rw [q] at e; cases e
  | some o =>
    cases o with
    | lst xs => simp [q]
    | _ => rw [q] at e; cases e
theorem set_new {o o' : Ao} {j : Ah} : (h ++ o :: j).set h.length o' = h ++ o' :: j := by simp
@[simp] theorem ok_itR1 : Ok (itR1 mr env) h L ↔ Ok (mr env) h fun ds h1 => ∃ j : Int, ds = [.int j] ∧ (-(2 ^ 62) ≤ j ∧ j < 2 ^ 62) ∧ L (rng 0 j.toNat 1) h1 := by
  simp only [itR1, ok_bind]
  refine ⟨fun o => o.mono fun ds h1 q => ?_, fun o => o.mono fun ds h1 q => ?_⟩
  · split at q
    · rw [ok_ifno] at q; exact ⟨_, rfl, q⟩
    · exact q.elim
  · obtain ⟨j, rfl, q⟩ := q
    exact ok_ifno.mpr q
theorem rng_eq (n : Nat) : rng 0 n 1 = (List.range n).map fun i => .int ((i : Nat) : Int) := by
  unfold rng
  apply List.map_congr_left
  intro i _
  simp
end
def ptD (p : Pt) : Dt := .tup [.int p.1, .int p.2]
def ptsD (W : List Nat) (m : Nat) : List Dt := (List.range (m + 1)).map fun i => ptD (pl (cyc W) i)
end Mo
set_option Elab.async false
set_option linter.all false
set_option maxRecDepth 100000
set_option maxHeartbeats 4000000
namespace Mo
open PySem L2 TL
theorem ptsD_len (W : List Nat) (m : Nat) : (ptsD W m).length = m + 1 := by simp [ptsD]
theorem ptsD_succ (W : List Nat) (m : Nat) : ptsD W m ++ [ptD (pl (cyc W) (m + 1))] = ptsD W (m + 1) := by
  unfold ptsD
  rw [List.range_succ (n := m + 1), List.map_append]
  rfl
theorem ok_pick {h : Ah} {Q : Dt → Ah → Prop} {env : En} {i : Nat} {d : Dt} (e : env[i]? = some (some d)) : Ok (var i env) h Q ↔ Q d h := by
  rw [ok_var, e]
  exact ⟨fun ⟨_, e, q⟩ => by cases e; exact q, fun q => ⟨d, rfl, q⟩⟩
theorem ptsD_last (W : List Nat) (m : Nat) : atI (ptsD W m) (-1) = some (ptD (pl (cyc W) m)) := by
  have h0 : ptsD W m ≠ [] := fun e => by
    have := ptsD_len W m
    rw [e] at this
    simp at this
  rw [atI_last h0]
  simp [ptsD, List.range_succ]
end Mo
set_option Elab.async false
set_option linter.all false
set_option maxRecDepth 100000
set_option maxHeartbeats 4000000
namespace Mo
open PySem L2 TL
def kp (p : Pt) : List Key := [.inl p.1, .inl p.2]
theorem kp_inj {p q : Pt} : kp p = kp q ↔ p = q := by
  refine ⟨fun e => ?_, fun e => by rw [e]⟩
  simp only [kp, List.cons.injEq, Sum.inl.injEq, and_true] at e
  exact Prod.ext e.1 e.2
theorem keyT_pt (p : Pt) : keyT (ptD p) = some (kp p) := rfl
section
variable {V : List Nat → Dt} {F : Pt → List Nat} {p : Pt} {i : Nat}
theorem mem_kp {ms : List (Pt × List Nat)} : kp p ∈ ms.map (fun q => kp q.1) ↔ p ∈ ms.map (·.1) := by
  simp only [List.mem_map]
  exact ⟨fun ⟨q, m, e⟩ => ⟨q, m, kp_inj.mp e⟩, fun ⟨q, m, e⟩ => ⟨q, m, by rw [e]⟩⟩
end
def Vl (l : List Nat) : Dt := .lv (l.map fun i => .int ((i : Nat) : Int))
theorem grp_len (P : Nat → Pt) : ∀ m, (grpN P m).length ≤ m
  | 0 => by simp [grpN]
  | m + 1 => by
    have := grp_len P m
    unfold grpN addG
    split
    · simp; omega
    · simp; omega
theorem grp_F (P : Nat → Pt) (m : Nat) : ∀ q ∈ grpN P m, q.2 = (fun z => (List.range m).filter fun i => decide (P i = z)) q.1 := fun q hq => (grp_ok P m).1 q hq
theorem grp_none (P : Nat → Pt) {m : Nat} {p : Pt} (h : p ∉ (grpN P m).map (·.1)) : (List.range m).filter (fun i => decide (P i = p)) = [] := by
  refine List.filter_eq_nil_iff.mpr fun i hi z => h ?_
  obtain ⟨q, hq, e⟩ := (grp_ok P m).2 i (List.mem_range.mp hi)
  exact List.mem_map.mpr ⟨q, hq, by rw [e]; simpa using z⟩
theorem eq_pt {h : Ah} {p q : Pt} : eqR h (ptD p) (ptD q) = some (decide (p = q)) := by
  obtain ⟨a, b⟩ := p
  obtain ⟨c, d⟩ := q
  have e : eqR h (ptD (a, b)) (ptD (c, d)) = some (PyData.eqv (.tuple [.int a, .int b]) (.tuple [.int c, .int d])) := rfl
  rw [e]
  congr 1
  have : PyData.eqv (.tuple [.int a, .int b]) (.tuple [.int c, .int d]) = (decide (a = c) && decide (b = d)) := by
    simp only [PyData.eqv, PyData.eqvAll, Bool.and_true]
    rfl
  rw [this]
  by_cases h1 : a = c <;> by_cases h2 : b = d <;> simp [h1, h2]
/-- the i-th letter, and the one ahead of it -/
theorem at_cyc {W : List Nat} {i : Nat} (h : i < W.length) : atI W (i : Int) = some (cyc W i) := by
  rw [atI_nat h, cyc_lt h]
theorem at_prev {W : List Nat} {i : Nat} (h : i < W.length) : atI W ((i : Int) - 1) = some (cyc W (i + W.length - 1)) := by
  cases i with
  | zero =>
    have h0 : W ≠ [] := fun e => by subst e; simp at h
    rw [show ((0 : Nat) : Int) - 1 = -1 by omega, atI_last h0, List.getLast_eq_getElem, Nat.zero_add, cyc_lt (by omega)]
  | succ i =>
    rw [show ((i + 1 : Nat) : Int) - 1 = (i : Int) by omega, atI_nat (by omega), show i + 1 + W.length - 1 = i + W.length by omega, cyc_per, cyc_lt (by omega)]
theorem lv_mem {c : Nat} : decide (c ∈ [101, 119]) = lv c := by
  unfold lv
  by_cases h1 : c = 101 <;> by_cases h2 : c = 119 <;> simp [h1, h2]
theorem bAll_ok {h : Ah} {Q : Dt → Ah → Prop} {l : List Nat} {f : Nat → Bool} : Ok (bAll [.lv (l.map fun i => .bl (f i))]) h Q ↔ Q (.bl (l.all f)) h := by
  have e : blsD (l.map fun i => .bl (f i)) = some (l.map f) := by
    induction l with
    | nil => rfl
    | cons a l ih => simp [blsD, ih]
  have e2 : bAll [.lv (l.map fun i => .bl (f i))] h = .ok (.bl (l.all f)) h := by
    simp [bAll, bFold, seqR, tupR, lstR, lstT, e]
  unfold Ok
  rw [e2]
section
variable {h : Ah} {Q : Dt → Ah → Prop} {env : En}
theorem ok_nePt {p q : Pt} : Ok (opNe (ptD p) (ptD q)) h Q ↔ Q (.bl (!decide (p = q))) h := by
  unfold Ok opNe
  rw [eq_pt]
theorem ok_addLv {a b : List Dt} : Ok (opAdd (.lv a) (.lv b)) h Q ↔ a.length + b.length ≤ sizeLine ∧ Q (.lv (a ++ b)) h := by
  unfold Ok opAdd
  by_cases c : a.length + b.length ≤ sizeLine <;> simp [lstT, c]
end
theorem range_drop {n m : Nat} (h : m < n) : (List.range n).drop m = m :: (List.range n).drop (m + 1) := by
  rw [List.drop_eq_getElem_cons (by simpa using h)]
  simp
end Mo
set_option Elab.async false
set_option linter.all false
set_option maxRecDepth 100000
set_option maxHeartbeats 4000000
namespace Mo
open PySem L2 TL
section
variable {U : Pt → Dt} {p : Pt}
theorem val_ad : ∀ {ms : List (Pt × List Nat)}, valG ((ms.map fun q => kp q.1).zip (ms.map fun q => U q.1)) (kp p) = if p ∈ ms.map (·.1) then some (U p) else none
  | [] => by simp [valG]
  | q :: ms => by
    have ih := val_ad (ms := ms)
    by_cases c : q.1 = p
    · simp [valG, c]
    · have c' : ¬ kp q.1 = kp p := fun z => c (kp_inj.mp z)
      have c2 : ¬ p = q.1 := fun z => c z.symm
      have e1 : valG (((q :: ms).map fun q => kp q.1).zip ((q :: ms).map fun q => U q.1)) (kp p) = valG ((ms.map fun q => kp q.1).zip (ms.map fun q => U q.1)) (kp p) := by simp [valG, c']
      rw [e1, ih]
      by_cases z : p ∈ ms.map (·.1)
      · rw [if_pos z, if_pos (by rw [List.map_cons]; exact List.mem_cons_of_mem _ z)]
      · rw [if_neg z, if_neg (by rw [List.map_cons, List.mem_cons]; exact fun w => w.elim c2 z)]
end
section
variable {h : Ah} {Q : Dt → Ah → Prop} {env : En} {r : Nat} {ma mb mc : En → Mm Dt}
theorem ok_lenO {xs : List Dt} (e : lstAt h r = some xs) : Ok (bLen [.obj r]) h Q ↔ Q (.int xs.length) h := by
  unfold lstAt at e
  cases q : h[r]? with
  | none => rw [q] at e; cases e
  | some o =>
    cases o with
    | lst ys => rw [q] at e; cases e; unfold Ok bLen; simp [seqR, tupR, lstR, lstT, q]
    | _ => rw [q] at e; cases e
theorem ok_setdM : Ok (setdM ma mb mc env) h Q ↔ Ok (ma env) h fun o h1 => Ok (dtO o) h1 fun _ h2 => Ok (mb env) h2 fun k h3 => Ok (mc env) h3 fun x h4 => Ok (setdR o k x) h4 Q := by simp [setdM]
theorem ok_dtO {ks : List (List Key)} {vs : List Dt} {k : Ah} {P : Unit → Ah → Prop} : Ok (dtO (.obj h.length)) (h ++ .dt ks vs :: k) P ↔ P () (h ++ .dt ks vs :: k) := by
  unfold Ok dtO
  simp
theorem ok_setdR {ks : List (List Key)} {vs : List Dt} {k : Ah} {p : Pt} {y : Dt} (hl : vs.length < sizeLine) : Ok (setdR (.obj h.length) (ptD p) y) (h ++ .dt ks vs :: k) Q ↔ match valG (ks.zip vs) (kp p) with
    | some z => Q z (h ++ .dt ks vs :: k)
    | none => Q y (h ++ .dt (putG ks vs (kp p) y).1 (putG ks vs (kp p) y).2 :: k) := by
  unfold Ok setdR
  simp only [List.getElem?_append_right (Nat.le_refl _), Nat.sub_self, List.getElem?_cons_zero, keyT_pt, hl, if_true]
  cases valG (ks.zip vs) (kp p) <;> simp
theorem ok_itEL {mr : En → Mm (List Dt)} {L : List Dt → Ah → Prop} : Ok (itEL mr env) h L ↔ Ok (mr env) h fun ds h1 => ∃ d, ds = [d] ∧ Ok (itemsL d) h1 fun xs h2 => L (enumD 0 xs) h2 := by
  simp only [itEL, ok_bind]
  refine ⟨fun o => o.mono fun ds h1 q => ?_, fun o => o.mono fun ds h1 q => ?_⟩
  · split at q
    · rw [ok_bind] at q; exact ⟨_, rfl, q⟩
    · exact q.elim
  · obtain ⟨d, rfl, q⟩ := q
    rw [ok_bind]
    exact q
theorem ok_slO {xs : List Dt} {lo hi : Option Int} (e : lstAt h r = some xs) : Ok (slD (.obj r) lo hi) h Q ↔ Q (.lv (cutD xs lo hi)) h := by
  unfold lstAt at e
  cases q : h[r]? with
  | none => rw [q] at e; cases e
  | some o =>
    cases o with
    | lst ys => rw [q] at e; cases e; unfold Ok slD; simp [lstR, lstT, q]
    | _ => rw [q] at e; cases e
end
theorem enum_map : ∀ (xs : List Dt) (k : Nat), enumD k xs = (xs.zipIdx k).map fun q => .tup [.int (q.2 : Nat), q.1]
  | [], _ => rfl
  | x :: xs, k => by
    rw [enumD, enum_map xs (k + 1)]
    rfl
theorem cut_last (W : List Nat) (n : Nat) : enumD 0 (cutD (ptsD W n) none (some (-1))) = (List.range n).map fun i => .tup [.int (i : Nat), ptD (pl (cyc W) i)] := by
  have e : cutD (ptsD W n) none (some (-1)) = (List.range n).map fun i => ptD (pl (cyc W) i) := by
    unfold cutD HT.sIx
    simp only [ptsD_len]
    rw [if_pos (by omega), show (-1 + ((n + 1 : Nat) : Int)).toNat = n by omega]
    simp only [List.drop_zero, Nat.sub_zero]
    unfold ptsD
    rw [← List.map_take, List.take_range, Nat.min_eq_left (by omega)]
  rw [e, enum_map]
  apply List.ext_getElem
  · simp
  · intro i h1 h2
    simp
def nsD (l : List Nat) : List Dt := l.map fun i => .int ((i : Nat) : Int)
/-- the dict of places at H1.length, its lists behind it -/
structure Met (H1 : Ah) (ms : List (Pt × List Nat)) (h' : Ah) (ad : Pt → Nat) : Prop where
  hp : ∃ k, h' = H1 ++ .dt (ms.map fun q => kp q.1) (ms.map fun q => .obj (ad q.1)) :: k
  at_ : ∀ q ∈ ms, H1.length < ad q.1 ∧ lstAt h' (ad q.1) = some (nsD q.2)
  inj : ∀ q ∈ ms, ∀ q' ∈ ms, ad q.1 = ad q'.1 → q.1 = q'.1
theorem lstAt_ne {h : Ah} {r r' : Nat} {o : Ao} (ne : r' ≠ r) : lstAt (h.set r' o) r = lstAt h r := by
  unfold lstAt
  rw [List.getElem?_set_ne ne]
theorem set_behind {H k : List Ao} {o x : Ao} {r : Nat} (h : H.length < r) : (H ++ o :: k).set r x = H ++ o :: k.set (r - H.length - 1) x := by
  rw [List.set_append_right _ _ (by omega), show r - H.length = (r - H.length - 1) + 1 by omega, List.set_cons_succ]
  simp
end Mo
set_option Elab.async false
set_option linter.all false
set_option maxRecDepth 100000
set_option maxHeartbeats 4000000
namespace Mo
open PySem L2 TL
end Mo
set_option Elab.async false
set_option linter.all false
set_option maxRecDepth 100000
set_option maxHeartbeats 4000000
namespace Mo
open PySem L2 TL
theorem Line.bend {W : List Nat} (L : Line W) : ∃ i, i < W.length ∧ stB W i = false := by
  refine Classical.byContradiction fun no => ?_
  have all : ∀ i, i < W.length → cyc W (i + W.length - 1) = cyc W i := fun i hi => by
    refine Classical.byContradiction fun z => no ⟨i, hi, by simp [stB, z]⟩
  have p := L.pos
  have const : ∀ i, i < W.length → cyc W i = cyc W 0 := by
    intro i
    induction i with
    | zero => intro _; rfl
    | succ i ih =>
      intro hi
      have := all (i + 1) hi
      rw [show i + 1 + W.length - 1 = i + W.length by omega, cyc_per] at this
      rw [← this]
      exact ih (by omega)
  have run : ∀ i, i ≤ W.length → pl (cyc W) i = ((i : Int) * (dx (cyc W 0)).1, (i : Int) * (dx (cyc W 0)).2) := by
    intro i
    induction i with
    | zero => intro _; simp [pl]
    | succ i ih =>
      intro hi
      rw [pl, ih (by omega), const i (by omega)]
      ext
      · simp only; rw [show ((i + 1 : Nat) : Int) = (i : Int) + 1 by omega, Int.add_mul]; omega
      · simp only; rw [show ((i + 1 : Nat) : Int) = (i : Int) + 1 by omega, Int.add_mul]; omega
  have e := run W.length (Nat.le_refl _)
  rw [LineG.end_ L] at e
  have e1 := congrArg Prod.fst e
  have e2 := congrArg Prod.snd e
  rcases LineG.ltr L 0 with c | c | c | c <;> rw [c] at e1 e2 <;> simp [dx] at e1 e2 <;> omega
end Mo
set_option Elab.async false
set_option linter.all false
set_option maxRecDepth 100000
set_option maxHeartbeats 4000000
namespace Mo
open PySem L2 TL
end Mo
set_option Elab.async false
set_option linter.all false
set_option maxRecDepth 100000
set_option maxHeartbeats 4000000
namespace Mo
open PySem L2 TL
/-- what is walked comes about in the walk itself -/
theorem ok_lcE {γ : Type} {mi : En → Mm (List Dt)} {i : Nat} {me : En → Mm Dt} {vs : List Nat} {env : En} {h : Ah} {Q : Dt → Ah → Prop} (e : γ → Dt) (g : γ → Dt)
    (hi : Ok (mi env) h fun ds h1 => ∃ l : List γ, ds = l.map e ∧ l.length ≤ sizeLine ∧ (∀ d ∈ l, Gv (me ((wipeE env vs).set i (some (e d)))) (g d)) ∧ ∀ j, Q (.lv (l.map g)) (h1 ++ j)) :
    Ok (lcM mi (.nm i) yes me vs env) h Q := by
  simp only [lcM, ok_bind]
  refine hi.mono fun ds h1 ⟨l, e1, hl, hd, q⟩ => ?_
  subst e1
  refine ok_of (a := h1.length) (h' := h1 ++ [.lst []]) rfl ?_
  obtain ⟨k', e2⟩ := lcL_ok (p := .nm i) (mt := yes) (me := me) (env := wipeE env vs) (t := fun _ => true) (g := g) (e := e) (h := h1) l [] [] (by simpa using hl) fun d m => ⟨_, bd_nm, gv_yes, fun _ => hd d m⟩
  refine ok_of e2 ?_
  refine ok_of (a := .lv (l.map g)) (h' := h1 ++ .dead :: k') ?_ (q _)
  unfold takeL
  rw [List.filter_eq_self.mpr (by simp)]
  simp
end Mo
set_option Elab.async false
set_option linter.all false
set_option maxRecDepth 100000
set_option maxHeartbeats 4000000
namespace Mo
open PySem L2 TL
def bdg (W : List Nat) (i : Nat) : Int := ((idx (cyc W i) : Int) - idx (cyc W (i + W.length - 1))) % 4
def qv (b : Int) : Int := if b = 1 then 1 else if b = 3 then -1 else 0
def turnZ (W : List Nat) : Int := ((List.range W.length).map fun i => qv (bdg W i)).sum / 4
end Mo
set_option Elab.async false
set_option linter.all false
set_option maxRecDepth 100000
set_option maxHeartbeats 4000000
namespace Mo
open PySem L2 TL
def addR (rs : List (Nat × Nat)) (c : Nat) : List (Nat × Nat) := match rs.getLast? with
  | some q => if q.1 = c then rs.dropLast ++ [(c, q.2 + 1)] else rs ++ [(c, 1)]
  | none => [(c, 1)]
def runsF (W : List Nat) : List (Nat × Nat) := W.foldl addR []
def wordR (q : Nat × Nat) : List Nat := q.1 :: numL q.2
def expand (rs : List (Nat × Nat)) : List Nat := (rs.map fun q => List.replicate q.2 q.1).flatten
theorem add_snoc (rs : List (Nat × Nat)) (q : Nat × Nat) (c : Nat) : addR (rs ++ [q]) c = if q.1 = c then rs ++ [(c, q.2 + 1)] else rs ++ [q] ++ [(c, 1)] := by
  unfold addR
  simp
theorem snoc_cases (rs : List (Nat × Nat)) : rs = [] ∨ ∃ r q, rs = r ++ [q] := by
  rcases List.eq_nil_or_concat rs with h | ⟨r, q, h⟩
  · exact .inl h
  · exact .inr ⟨r, q, by simpa using h⟩
theorem expand_add (rs : List (Nat × Nat)) (c : Nat) : expand (addR rs c) = expand rs ++ [c] := by
  rcases snoc_cases rs with rfl | ⟨r, q, rfl⟩
  · rfl
  · rw [add_snoc]
    split
    · rename_i e
      unfold expand
      simp only [List.map_append, List.flatten_append, List.map_cons, List.map_nil, List.flatten_cons, List.flatten_nil, List.append_nil, List.append_assoc]
      rw [List.replicate_succ', e]
    · unfold expand
      simp
theorem expand_runs (W : List Nat) : expand (runsF W) = W := by
  have : ∀ (l : List Nat) (rs : List (Nat × Nat)), expand (l.foldl addR rs) = expand rs ++ l := by
    intro l
    induction l with
    | nil => intro rs; simp
    | cons c l ih => intro rs; rw [List.foldl_cons, ih, expand_add]; simp
  have := this W []
  simpa [runsF, expand] using this
end Mo
set_option Elab.async false
set_option linter.all false
set_option maxRecDepth 100000
set_option maxHeartbeats 4000000
namespace Mo
open PySem L2 TL
def wsD (rs : List (Nat × Nat)) : List Dt := rs.map fun q => .str (Tx (wordR q))
theorem strok {l : List Nat} (h : ∀ c ∈ l, c < 128) : PyData.strOk (Tx l) = true := by
  unfold PyData.strOk
  rw [Array.all_eq_true']
  intro c m
  have : c ∈ l := by simpa [Tx] using m
  have := h c this
  simp
  omega
theorem word_small {q : Nat × Nat} (h : Ltr q.1) : ∀ c ∈ wordR q, c < 128 := fun c m => by
  rcases List.mem_cons.mp m with e | m
  · rw [e]; rcases h with e | e | e | e <;> rw [e] <;> decide
  · have := numL_digits q.2 c m
    omega
theorem ok_strI {h : Ah} {Q : Dt → Ah → Prop} {k : Nat} (hk : k ≤ 1000) : Ok (bStr [.int (k : Int)]) h Q ↔ Q (.str (Tx (numL k))) h := by
  have l : (k : Int).natAbs.log2 < 1920 := log2_lt (by
    have : (1024 : Nat) ≤ 2 ^ 1920 := Nat.pow_le_pow_right (n := 2) (by decide) (show 10 ≤ 1920 by decide)
    omega) (by decide)
  have e : (Str.ofString (toString (k : Int))) = Tx (numL k) := by
    rw [tx_of (Str.ofString (toString (k : Int)))]
    exact congrArg Tx (tl_num k)
  unfold Ok bStr
  simp only [l, if_true]
  rw [show ((toString (k : Int) : String) : Str) = Tx (numL k) from e]
theorem ok_intN {h : Ah} {Q : Dt → Ah → Prop} {k : Nat} (hk : k ≤ 1000) : Ok (bInt [.str (Tx (numL k))]) h Q ↔ Q (.int (k : Int)) h := by
  have ln : (numL k).length ≤ 4 := numL_len (by decide) (by omega)
  have it : intText? (Tx (numL k)) = some ((k : Nat) : Int) := by
    have := intText_digits (x := Tx (numL k)) (numL_digits k) (numL_ne k) (by rw [tx_len]; omega)
    rw [this]
    show some ((NumText.digitsVal (numL k) : Nat) : Int) = _
    rw [numL_val]
  have e : bInt [.str (Tx (numL k))] h = .ok (.int (k : Int)) h := by
    simp [bInt, it]
    omega
  unfold Ok
  rw [e]
theorem runs_bound : ∀ (l : List Nat) (rs : List (Nat × Nat)), (∀ q ∈ rs, 1 ≤ q.2) → (∀ q ∈ l.foldl addR rs, 1 ≤ q.2)
  | [], rs, h => h
  | c :: l, rs, h => by
    refine runs_bound l (addR rs c) fun q hq => ?_
    rcases snoc_cases rs with rfl | ⟨r, p, rfl⟩
    · have : q = (c, 1) := by simpa [addR] using hq
      rw [this]
      exact Nat.le_refl 1
    · rw [add_snoc] at hq
      split at hq
      · rcases List.mem_append.mp hq with m | m
        · exact h q (by simp [m])
        · have : q = (c, p.2 + 1) := by simpa using m
          rw [this]
          simp
      · rcases List.mem_append.mp hq with m | m
        · exact h q m
        · have : q = (c, 1) := by simpa using m
          rw [this]
          exact Nat.le_refl 1
theorem run_le {rs : List (Nat × Nat)} {q : Nat × Nat} (m : q ∈ rs) : q.2 ≤ (expand rs).length := by
  induction rs with
  | nil => simp at m
  | cons p rs ih =>
    unfold expand
    simp only [List.map_cons, List.flatten_cons, List.length_append, List.length_replicate]
    rcases List.mem_cons.mp m with e | m
    · rw [e]; omega
    · have := ih m
      unfold expand at this
      omega
theorem runs_le {rs : List (Nat × Nat)} (h : ∀ q ∈ rs, 1 ≤ q.2) : rs.length ≤ (expand rs).length := by
  induction rs with
  | nil => simp
  | cons p rs ih =>
    have a := h p (by simp)
    have b := ih fun q m => h q (by simp [m])
    unfold expand at *
    simp only [List.map_cons, List.flatten_cons, List.length_append, List.length_replicate, List.length_cons]
    omega
theorem mem_runs {rs : List (Nat × Nat)} (h : ∀ q ∈ rs, 1 ≤ q.2) {q : Nat × Nat} (m : q ∈ rs) : q.1 ∈ expand rs := by
  unfold expand
  refine List.mem_flatten.mpr ⟨List.replicate q.2 q.1, List.mem_map_of_mem m, List.mem_replicate.mpr ⟨?_, rfl⟩⟩
  have := h q m
  omega
end Mo
set_option Elab.async false
set_option linter.all false
set_option maxRecDepth 100000
set_option maxHeartbeats 4000000
namespace Mo
open PySem L2 TL
theorem cut1 {c : Nat} {l : List Nat} : cutL (c :: l) (some 1) none = l := by
  have := cut_from (xs := c :: l) (k := 1)
  simpa using this
theorem runs_snoc (W : List Nat) {m : Nat} (h : m < W.length) : runsF (W.take (m + 1)) = addR (runsF (W.take m)) W[m] := by
  unfold runsF
  rw [List.take_succ_eq_append_getElem h, List.foldl_append]
  rfl
def textP (W : List Nat) : List Nat := joinL [32] ((runsF W).map wordR)
theorem seqR_at {h : Ah} {r : Nat} {xs : List Dt} (e : lstAt h r = some xs) : seqR h (.obj r) = some xs := by
  unfold lstAt at e
  cases q : h[r]? with
  | none => rw [q] at e; cases e
  | some o =>
    cases o with
    | lst ys => rw [q] at e; cases e; simp [seqR, tupR, lstR, lstT, q]
    | _ => rw [q] at e; cases e
theorem ok_joinO {h : Ah} {Q : Dt → Ah → Prop} {r : Nat} {γ : Type} {a : List Nat} (f : γ → List Nat) {l : List γ} (hs : ((l.map fun x => (f x).length).sum + l.length * a.length ≤ 16777216)) (e : lstAt h r = some (l.map fun x => .str (Tx (f x)))) : Ok (mJoin (.str (Tx a)) [.obj r]) h Q ↔ Q (.str (Tx (joinL a (l.map f)))) h := by
  refine Iff.trans ?_ (ok_join (h := h) (Q := Q) f hs)
  have e1 := seqR_at e
  have e2 : seqR h (.lv (l.map fun x => .str (Tx (f x)))) = some (l.map fun x => .str (Tx (f x))) := rfl
  have e3 : mJoin (.str (Tx a)) [.obj r] h = mJoin (.str (Tx a)) [.lv (l.map fun x => .str (Tx (f x)))] h := by
    unfold mJoin
    simp only [e1, e2]
  unfold Ok
  rw [e3]
theorem sum_le {γ : Type} (f : γ → Nat) (b : Nat) : ∀ (l : List γ), (∀ x ∈ l, f x ≤ b) → (l.map f).sum ≤ b * l.length
  | [], _ => by simp
  | x :: l, h => by
    have a := h x (by simp)
    have c := sum_le f b l fun y m => h y (by simp [m])
    simp only [List.map_cons, List.sum_cons, List.length_cons, Nat.mul_succ]
    omega
end Mo
set_option Elab.async false
set_option linter.all false
set_option maxRecDepth 100000
set_option maxHeartbeats 4000000
namespace Mo
open PySem L2 TL
theorem numL_head : ∀ (k : Nat), 1 ≤ k → ∃ d l, numL k = d :: l ∧ d ≠ 48 := by
  intro k
  induction k using Nat.strongRecOn with
  | ind k ih =>
    intro h1
    by_cases c : k < 10
    · exact ⟨48 + k, [], numL_lt c, by omega⟩
    · obtain ⟨d, l, e, hd⟩ := ih (k / 10) (by omega) (by omega)
      exact ⟨d, l ++ [48 + k % 10], by rw [numL_step (by omega), e]; rfl, hd⟩
end Mo
set_option Elab.async false
set_option linter.all false
set_option maxRecDepth 100000
set_option maxHeartbeats 4000000
namespace Mo
theorem LineG.bends {g : Nat → Nat} {n : Nat} (L : LineG g n) (h3 : 3 ≤ n) (i : Nat) (hb : g (i + n - 1) ≠ g i) : lv (g (i + n - 1)) ≠ lv (g i) := by
  intro same
  -- opposite letters: two steps lead back
  have e1 : g (i + n - 1 + 1) = g i := by rw [show i + n - 1 + 1 = i + n by omega]; exact L.per i
  have back : pl g (i + n - 1 + 2) = pl g (i + n - 1) := by
    rw [show i + n - 1 + 2 = (i + n - 1 + 1) + 1 by omega]
    simp only [pl, e1]
    rcases L.ltr (i + n - 1) with a | a | a | a <;> rcases L.ltr i with b | b | b | b <;> rw [a, b] at hb same ⊢ <;> simp [lv] at hb same <;> ext <;> simp [dx] <;> omega
  have hm : (i + n - 1) % n ≠ (i + n - 1 + 2) % n := fun z => by
    have z2 : (i + n - 1 + 0) % n = (i + n - 1 + 2) % n := by simpa using z
    have := mod_cancel z2
    rw [Nat.zero_mod, Nat.mod_eq_of_lt (by omega)] at this
    omega
  obtain ⟨h1, h2, h4⟩ := L.ok _ _ hm back.symm
  rw [show i + n - 1 + 2 + n - 1 = (i + n - 1 + 1) + n by omega, L.per, e1] at h2
  exact h4 (by rw [same, h2])
theorem Line.bends {W : List Nat} (L : Line W) (h4 : 4 ≤ W.length) {i : Nat} (hb : stB W i = false) : lv (cyc W (i + W.length - 1)) ≠ lv (cyc W i) :=
  LineG.bends L (by omega) i (by simpa [stB] using hb)
end Mo
set_option Elab.async false
set_option linter.all false
set_option maxRecDepth 100000
set_option maxHeartbeats 4000000
namespace Mo
open PySem L2 TL
/-- runs of a row whose neighbours, if unlike, are unlike in level -/
def AdjR (rs : List (Nat × Nat)) : Prop := ∀ i, i + 1 < rs.length → lv (rs.getD i (0, 0)).1 ≠ lv (rs.getD (i + 1) (0, 0)).1
theorem getD_snoc {α : Type} (l : List α) (x d : α) (i : Nat) : (l ++ [x]).getD i d = if i < l.length then l.getD i d else if i = l.length then x else d := by
  simp only [List.getD_eq_getElem?_getD]
  by_cases h : i < l.length
  · rw [if_pos h, List.getElem?_append_left h]
  · rw [if_neg h, List.getElem?_append_right (by omega)]
    by_cases e : i = l.length
    · subst e; simp
    · rw [if_neg e, List.getElem?_eq_none (by simp; omega)]
      rfl
/-- what is kept while the runs are made -/
structure RInv (P : List Nat) (rs : List (Nat × Nat)) : Prop where
  emp : P = [] ↔ rs = []
  lst : ∀ r q, rs = r ++ [q] → P.getLastD 0 = q.1
  fst : P.headD 0 = (rs.headD (0, 0)).1
  adj : AdjR rs
theorem rinv_step {P : List Nat} {rs : List (Nat × Nat)} {c : Nat} (I : RInv P rs) (hc : P ≠ [] → P.getLastD 0 ≠ c → lv (P.getLastD 0) ≠ lv c) : RInv (P ++ [c]) (addR rs c) := by
  rcases snoc_cases rs with rfl | ⟨r, q, rfl⟩
  · have e : P = [] := I.emp.mpr rfl
    subst e
    refine ⟨by simp [addR], fun r q h => ?_, by simp [addR], fun i hi => by simp [addR] at hi⟩
    have : [(c, 1)] = r ++ [q] := h
    cases r with
    | nil => simp at this; simp [← this]
    | cons a r => simp at this
  · have ne : P ≠ [] := fun z => by have := I.emp.mp z; simp at this
    have lq := I.lst r q rfl
    rw [add_snoc]
    by_cases s : q.1 = c
    · rw [if_pos s]
      refine ⟨by simp, fun r' q' h => ?_, ?_, fun i hi => ?_⟩
      · have := List.append_inj_right' h rfl
        simp at this
        simp [← this]
      · have := I.fst
        cases r with
        | nil => cases P with
          | nil => exact absurd rfl ne
          | cons a P => simp at this ⊢; rw [this, s]
        | cons a r => cases P with
          | nil => exact absurd rfl ne
          | cons b P => simp at this ⊢; exact this
      · have := I.adj i (by simpa using hi)
        rw [getD_snoc, getD_snoc] at this ⊢
        simp only [List.length_append, List.length_cons, List.length_nil] at hi
        by_cases z : i + 1 < r.length
        · rw [if_pos (by omega), if_pos z] at this ⊢; exact this
        · rw [if_pos (by omega), if_neg z, if_pos (by omega)] at this ⊢; rw [s] at this; exact this
    · rw [if_neg s]
      refine ⟨by simp, fun r' q' h => ?_, ?_, fun i hi => ?_⟩
      · have := List.append_inj_right' h rfl
        simp at this
        simp [← this]
      · have := I.fst
        cases r with
        | nil => cases P with
          | nil => exact absurd rfl ne
          | cons a P => simp at this ⊢; exact this
        | cons a r => cases P with
          | nil => exact absurd rfl ne
          | cons b P => simp at this ⊢; exact this
      · simp only [List.length_append, List.length_cons, List.length_nil] at hi
        rw [getD_snoc, getD_snoc (r ++ [q])]
        by_cases z : i + 1 < (r ++ [q]).length
        · rw [if_pos (by omega), if_pos z]
          exact I.adj i z
        · have ei : i = r.length := by simp at z; omega
          subst ei
          rw [if_pos (by simp), if_neg z, if_pos (by simp), getD_snoc, if_neg (by omega), if_pos rfl]
          have := hc ne (by rw [lq]; exact s)
          rw [lq] at this
          exact this
end Mo
set_option Elab.async false
set_option linter.all false
set_option maxRecDepth 100000
set_option maxHeartbeats 4000000
namespace Mo
open PySem L2 TL
theorem runs_inv {W : List Nat} (h : ∀ i, i + 1 < W.length → W.getD i 0 ≠ W.getD (i + 1) 0 → lv (W.getD i 0) ≠ lv (W.getD (i + 1) 0)) : ∀ m, m ≤ W.length → RInv (W.take m) (runsF (W.take m))
  | 0, _ => ⟨by simp [runsF], fun r q e => by simp [runsF] at e, by simp [runsF], fun i hi => by simp [runsF] at hi⟩
  | m + 1, hm => by
    have I := runs_inv h m (by omega)
    rw [runs_snoc W (by omega), List.take_succ_eq_append_getElem (by omega)]
    refine rinv_step I fun ne hne => ?_
    have mp : 0 < m := by
      rcases Nat.eq_zero_or_pos m with z | z
      · subst z; simp at ne
      · exact z
    have e : (W.take m).getLastD 0 = W.getD (m - 1) 0 := by
      rw [List.getLastD_eq_getLast?, List.getLast?_eq_getElem?, List.length_take, Nat.min_eq_left (by omega), List.getElem?_take_of_lt (by omega), List.getD_eq_getElem?_getD]
    have e2 : W[m] = W.getD (m - 1 + 1) 0 := by
      rw [show m - 1 + 1 = m by omega]
      simp [show m < W.length by omega]
    rw [e] at hne ⊢
    rw [e2] at hne ⊢
    exact h (m - 1) (by omega) hne
def sdx (W : List Nat) : Pt := ((W.map fun c => (dx c).1).sum, (W.map fun c => (dx c).2).sum)
theorem pl_sdx (W : List Nat) : ∀ m, m ≤ W.length → pl (cyc W) m = sdx (W.take m)
  | 0, _ => by simp [pl, sdx]
  | m + 1, hm => by
    rw [pl, pl_sdx W m (by omega), List.take_succ_eq_append_getElem (by omega), cyc_lt (by omega)]
    simp only [sdx, List.map_append, List.sum_append, List.map_cons, List.map_nil, List.sum_cons, List.sum_nil, Int.add_zero]
theorem sdx_rep (k c : Nat) : sdx (List.replicate k c) = ((k : Int) * (dx c).1, (k : Int) * (dx c).2) := by
  unfold sdx
  simp
theorem sdx_app (a b : List Nat) : sdx (a ++ b) = ((sdx a).1 + (sdx b).1, (sdx a).2 + (sdx b).2) := by
  unfold sdx
  simp
theorem two_open {a b i j : Nat} (ha : Ltr a) (hb : Ltr b) (hi : 1 ≤ i) (hj : 1 ≤ j) (hl : lv a ≠ lv b) : sdx (List.replicate i a ++ List.replicate j b) ≠ (0, 0) := by
  rw [sdx_app, sdx_rep, sdx_rep]
  intro e
  have e1 := congrArg Prod.fst e
  have e2 := congrArg Prod.snd e
  rcases ha with rfl | rfl | rfl | rfl <;> rcases hb with rfl | rfl | rfl | rfl <;> simp [lv] at hl <;> simp [dx] at e1 e2 <;> omega
theorem line_runs {W : List Nat} (L : Line W) (h4 : 4 ≤ W.length) (h0 : stB W 0 = false) : AdjR (runsF W) ∧ lv ((runsF W).getLastD (0, 0)).1 ≠ lv ((runsF W).headD (0, 0)).1 ∧ 4 ≤ (runsF W).length := by
  have p := L.pos
  have I := runs_inv (W := W) (fun i hi hne => by
    have b : stB W (i + 1) = false := by
      unfold stB
      rw [show i + 1 + W.length - 1 = i + W.length by omega, cyc_per, cyc_lt (by omega), cyc_lt hi]
      simp [show i < W.length by omega, hi] at hne ⊢
      exact hne
    have := L.bends h4 b
    rw [show i + 1 + W.length - 1 = i + W.length by omega, cyc_per, cyc_lt (by omega), cyc_lt hi] at this
    simp [show i < W.length by omega, hi]
    exact this) W.length (Nat.le_refl _)
  rw [List.take_length] at I
  have neW : W ≠ [] := List.length_pos_iff.mp p
  have wr : lv ((runsF W).getLastD (0, 0)).1 ≠ lv ((runsF W).headD (0, 0)).1 := by
    rcases snoc_cases (runsF W) with e | ⟨r, q, e⟩
    · exact absurd (I.emp.mpr e) neW
    · have l := I.lst r q e
      have f := I.fst
      have b := L.bends h4 h0
      rw [Nat.zero_add, cyc_lt (by omega), cyc_lt p] at b
      have l2 : W.getLastD 0 = W[W.length - 1] := by
        rw [List.getLastD_eq_getLast?, List.getLast?_eq_getElem?, List.getElem?_eq_getElem (by omega)]
        rfl
      have f2 : W.headD 0 = W[0] := by
        cases W with
        | nil => exact absurd rfl neW
        | cons a W => rfl
      rw [← f, f2]
      rw [show (runsF W).getLastD (0, 0) = q by rw [e]; simp, ← l, l2]
      exact b
  refine ⟨I.adj, wr, ?_⟩
  have one := runs_bound W [] (by simp)
  have ex := expand_runs W
  have adj := I.adj
  have cl := LineG.end_ L
  rw [pl_sdx W W.length (Nat.le_refl _), List.take_length] at cl
  have ltr : ∀ q ∈ runsF W, Ltr q.1 := fun q m => L.ltrs _ (by have := mem_runs one m; rw [show expand (List.foldl addR [] W) = W from ex] at this; exact this)
  match hr : runsF W with
  | [] => exact absurd (I.emp.mpr hr) neW
  | [a] => rw [hr] at wr; simp at wr
  | [a, b] =>
    have ab := adj 0 (by rw [hr]; simp)
    rw [hr] at ab
    simp at ab
    have o := two_open (ltr a (by rw [hr]; simp)) (ltr b (by rw [hr]; simp)) (one a (by rw [show List.foldl addR [] W = runsF W from rfl, hr]; simp)) (one b (by rw [show List.foldl addR [] W = runsF W from rfl, hr]; simp)) ab
    rw [← ex, hr] at cl
    simp [expand] at cl
    exact absurd cl o
  | [a, b, c] =>
    have ab := adj 0 (by rw [hr]; simp)
    have bc := adj 1 (by rw [hr]; simp)
    rw [hr] at ab bc wr
    simp at ab bc wr
    exfalso
    cases e1 : lv a.1 <;> cases e2 : lv b.1 <;> cases e3 : lv c.1 <;> simp_all
  | _ :: _ :: _ :: _ :: _ => simp
end Mo
set_option Elab.async false
set_option linter.all false
set_option maxRecDepth 100000
set_option maxHeartbeats 4000000
namespace Mo
open PySem L2 TL
theorem bAny_ok {h : Ah} {Q : Dt → Ah → Prop} {l : List Nat} {f : Nat → Bool} : Ok (bAny [.lv (l.map fun i => .bl (f i))]) h Q ↔ Q (.bl (l.any f)) h := by
  have e : blsD (l.map fun i => .bl (f i)) = some (l.map f) := by
    induction l with
    | nil => rfl
    | cons a l ih => simp [blsD, ih]
  have e2 : bAny [.lv (l.map fun i => .bl (f i))] h = .ok (.bl (l.any f)) h := by
    simp [bAny, bFold, lstR, lstT, e]
  unfold Ok
  rw [e2]
theorem isi_str {h : Ah} {Q : Dt → Ah → Prop} {x : Str} : Ok (bIsi [.str x, .ty "str"]) h Q ↔ Q (.bl true) h := by
  have e : bIsi [.str x, .ty "str"] h = .ok (.bl true) h := by rfl
  unfold Ok
  rw [e]
end Mo
set_option Elab.async false
set_option linter.all false
set_option maxRecDepth 100000
set_option maxHeartbeats 4000000
namespace Mo
open PySem L2 TL
def altB (rs : List (Nat × Nat)) (i : Nat) : Bool := decide (lv (if i = 0 then rs.getLastD (0, 0) else rs.getD (i - 1) (0, 0)).1 = lv (rs.getD i (0, 0)).1)
end Mo
set_option Elab.async false
set_option linter.all false
set_option maxRecDepth 100000
set_option maxHeartbeats 4000000
namespace Mo
open PySem L2 TL
/-- plain data of depth n at most -/
def Shp (n : Nat) (d : Dt) : Prop := ∃ p, toP d = some p ∧ PyData.canLay0 p = true ∧ PyData.depth p ≤ n
def Shps (n : Nat) (ds : List Dt) : Prop := ∃ ps, toPs ds = some ps ∧ PyData.canLayAll0 ps = true ∧ PyData.depthAll ps ≤ n
theorem shps_nil {n : Nat} : Shps n [] := ⟨[], rfl, rfl, Nat.zero_le _⟩
theorem shps_cons {n : Nat} {d : Dt} {ds : List Dt} (h : Shp n d) (k : Shps n ds) : Shps n (d :: ds) := by
  obtain ⟨p, e, c, l⟩ := h
  obtain ⟨ps, e2, c2, l2⟩ := k
  refine ⟨p :: ps, by simp only [toPs, e, e2], by simp only [PyData.canLayAll0, c, c2, Bool.and_self], ?_⟩
  simp only [PyData.depthAll]
  omega
theorem shp_tup {n : Nat} {ds : List Dt} (k : Shps n ds) : Shp (n + 1) (.tup ds) := by
  obtain ⟨ps, e2, c2, l2⟩ := k
  refine ⟨.tuple ps, by simp only [toP, e2], by simp only [PyData.canLay0, c2], ?_⟩
  simp only [PyData.depth]
  omega
theorem shp_int {n : Nat} {i : Int} : Shp n (.int i) := ⟨_, rfl, rfl, Nat.zero_le _⟩
theorem shp_non {n : Nat} : Shp n .non := ⟨_, rfl, rfl, Nat.zero_le _⟩
theorem shp_str {n : Nat} {l : List Nat} (h : ∀ c ∈ l, c < 128) : Shp n (.str (Tx l)) := ⟨_, rfl, strok h, Nat.zero_le _⟩
theorem Shp.mono {n m : Nat} {d : Dt} (h : Shp n d) (l : n ≤ m) : Shp m d := by
  obtain ⟨p, e, c, k⟩ := h
  exact ⟨p, e, c, by omega⟩
section
variable {h : Ah} {Q : Dt → Ah → Prop} {env : En} {mk mx : En → Mm Dt} {tb : Tb}
def isNon : Dt → Bool
  | .non => true
  | _ => false
theorem ok_notN {d : Dt} : Ok (opNotN d .non) h Q ↔ Q (.bl (!isNon d)) h := by
  cases d <;> rfl
end
end Mo
set_option Elab.async false
set_option linter.all false
set_option maxRecDepth 100000
set_option maxHeartbeats 4000000
namespace Mo
open PySem L2 TL
theorem ok_dnewV {h : Ah} {Q : Dt → Ah → Prop} {env : En} : Ok (dnewV env) h Q ↔ Q (.dk [] []) h := Iff.rfl
end Mo
set_option Elab.async false
set_option linter.all false
set_option maxRecDepth 100000
set_option maxHeartbeats 4000000
namespace Mo
open PySem L2 TL
def words (t : List Nat) : List (List Nat) := (Txt.split (Tx t) (Tx [32])).map fun z => z.cps.toList
theorem split_words (t : List Nat) : Txt.split (Tx t) (Tx [32]) = (words t).map Tx := by
  unfold words
  rw [List.map_map]
  conv => lhs; rw [← List.map_id (Txt.split (Tx t) (Tx [32]))]
  exact List.map_congr_left fun z _ => tx_of z
theorem words_len (t : List Nat) : (words t).length ≤ t.length + 2 := by
  have := PyProof.Rows.split_le (Tx t) (Tx [32])
  rw [tx_len] at this
  simpa [words] using this
theorem word_len {t w : List Nat} (m : w ∈ words t) : w.length ≤ t.length := by
  obtain ⟨z, mz, rfl⟩ := List.mem_map.mp m
  have := PyProof.Rows.part_short mz
  rw [tx_len] at this
  simpa [Str.length] using this
def ltB (c : Nat) : Bool := decide (c = 101) || (decide (c = 110) || (decide (c = 119) || decide (c = 115)))
theorem ltB_iff {c : Nat} : ltB c = true ↔ Ltr c := by simp [ltB, Ltr]
def dgB (c : Nat) : Bool := decide (c ∈ [48, 49, 50, 51, 52, 53, 54, 55, 56, 57])
theorem dgB_iff {c : Nat} : dgB c = true ↔ 48 ≤ c ∧ c ≤ 57 := by
  unfold dgB
  simp
  omega
theorem all_dig {f : List Nat} (h : f.all dgB = true) : NumText.AllDigits f := fun c m => by
  have := dgB_iff.mp (List.all_eq_true.mp h c m)
  exact this
end Mo
set_option Elab.async false
set_option linter.all false
set_option maxRecDepth 100000
set_option maxHeartbeats 4000000
namespace Mo
open PySem L2 TL
end Mo
set_option Elab.async false
set_option linter.all false
set_option maxRecDepth 100000
set_option maxHeartbeats 4000000
namespace Mo
open PySem L2 TL
end Mo
set_option Elab.async false
set_option linter.all false
set_option maxRecDepth 100000
set_option maxHeartbeats 4000000
namespace Mo
open PySem L2 TL
def mnI (a b : Int) : Int := if b < a then b else a
/-- the place of an upright step and its row -/
def rowPt (W : List Nat) (i : Nat) : Pt := ((pl (cyc W) i).1, mnI (pl (cyc W) i).2 (pl (cyc W) (i + 1)).2)
theorem at1 {α : Type} {a b : α} {l : List α} : atI (a :: b :: l) 1 = some b := atI_nat (i := 1) (by simp)
theorem ok_itES {h : Ah} {env : En} {mr : En → Mm (List Dt)} {L : List Dt → Ah → Prop} : Ok (itES mr env) h L ↔ Ok (mr env) h fun ds h1 => ∃ x, ds = [.str x] ∧ L (enumD 0 (signs x)) h1 := by
  unfold itES
  rw [ok_bind]
  refine ⟨fun o => o.mono fun ds h1 q => ?_, fun o => o.mono fun ds h1 q => ?_⟩
  · split at q
    · exact ⟨_, rfl, q⟩
    · exact q.elim
  · obtain ⟨x, rfl, q⟩ := q
    exact q
theorem enum_tx (W : List Nat) : enumD 0 (signs (Tx W)) = (List.range W.length).map fun i => .tup [.int (i : Nat), .str (Tx [cyc W i])] := by
  rw [enum_map, tx_signs]
  apply List.ext_getElem
  · simp
  · intro i h1 h2
    simp only [List.length_map, List.length_zipIdx] at h1
    simp only [List.getElem_map, List.getElem_zipIdx, List.getElem_range, Nat.zero_add]
    rw [cyc_lt h1]
end Mo
set_option Elab.async false
set_option linter.all false
set_option maxRecDepth 100000
set_option maxHeartbeats 4000000
namespace Mo
open PySem L2 TL
def hT (W : List Nat) (c : Pt) (i : Nat) : Int := if (rowPt W i).2 = c.2 ∧ c.1 < (rowPt W i).1 then (if cyc W i = 110 then 1 else -1) else 0
end Mo
set_option Elab.async false
set_option linter.all false
set_option maxRecDepth 100000
set_option maxHeartbeats 4000000
namespace Mo
open PySem L2 TL
end Mo
set_option Elab.async false
set_option linter.all false
set_option maxRecDepth 100000
set_option maxHeartbeats 4000000
namespace Mo
open PySem L2 TL
theorem level_ok {c : Nat} : Gv (K51.f_is_level [.str (Tx [c])]) (.bl (lv c)) := gv_of fun h => by
  rw [K51.f_is_level, ok_fnM]
  simp only [K51.m_is_level, List.map_cons, List.map_nil, List.length_cons, List.length_nil, List.replicate, List.cons_append, List.nil_append]
  rw [ok_ret, ok_op2, ok_pick (i := 0) (d := .str (Tx [c])) rfl, ok_con, lit_ew, ok_inS, lv_mem]
  exact ⟨rfl, [], by simp⟩
theorem plain_ok {W : List Nat} {i k : Nat} (hi : i < W.length) (hk : k < W.length) (hn : W.length ≤ 900) : Gv (K51.f_is_plain [.str (Tx W), .int (i : Nat), .int (k : Nat)]) (.bl (stB W i && stB W k && (lv (cyc W i) != lv (cyc W k)))) := gv_of fun h => by
  have sz := szl (show W.length ≤ 1000 by omega)
  have e1 : ∀ a, a < W.length → (decide (Tx [cyc W (a + W.length - 1)] = Tx [cyc W a])) = stB W a := fun a _ => by simp [stB]
  rw [K51.f_is_plain, ok_fnM]
  simp only [K51.m_is_plain, List.map_cons, List.map_nil, List.length_cons, List.length_nil, List.replicate, List.cons_append, List.nil_append]
  rw [ok_seq, ok_ifS, ok_orT, ok_tst, ok_op2, ok_op2, ok_pick (i := 0) (d := .str (Tx W)) rfl, ok_op2, ok_pick (i := 1) (d := .int (i : Nat)) rfl, ok_con, ok_subI, ok_ixS]
  refine ⟨_, at_prev hi, sz, ?_⟩
  rw [ok_op2, ok_pick (i := 0) (d := .str (Tx W)) rfl, ok_pick (i := 1) (d := .int (i : Nat)) rfl, ok_ixS]
  refine ⟨_, at_cyc hi, sz, ?_⟩
  rw [ok_neS, e1 i hi, ok_isB]
  by_cases si : stB W i = true
  · rw [if_neg (by simp [si]), ok_tst, ok_op2, ok_op2, ok_pick (i := 0) (d := .str (Tx W)) rfl, ok_op2, ok_pick (i := 2) (d := .int (k : Nat)) rfl, ok_con, ok_subI, ok_ixS]
    refine ⟨_, at_prev hk, sz, ?_⟩
    rw [ok_op2, ok_pick (i := 0) (d := .str (Tx W)) rfl, ok_pick (i := 2) (d := .int (k : Nat)) rfl, ok_ixS]
    refine ⟨_, at_cyc hk, sz, ?_⟩
    rw [ok_neS, e1 k hk, ok_isB]
    by_cases sk : stB W k = true
    · rw [if_neg (by simp [sk]), ok_nxt]
      dsimp only
      rw [ok_ret, ok_op2, ok_callM, ok_argC, ok_op2, ok_pick (i := 0) (d := .str (Tx W)) rfl, ok_pick (i := 1) (d := .int (i : Nat)) rfl, ok_ixS]
      refine ⟨_, at_cyc hi, sz, ?_⟩
      rw [ok_argN]
      refine ⟨rfl, gv_fn level_ok fun j => ?_⟩
      rw [ok_callM, ok_argC, ok_op2, ok_pick (i := 0) (d := .str (Tx W)) rfl, ok_pick (i := 2) (d := .int (k : Nat)) rfl, ok_ixS]
      refine ⟨_, at_cyc hk, sz, ?_⟩
      rw [ok_argN]
      refine ⟨rfl, gv_fn level_ok fun j2 => ?_⟩
      rw [ok_neB]
      refine ⟨?_, j ++ j2, by simp⟩
      rw [si, sk]
      cases lv (cyc W i) <;> cases lv (cyc W k) <;> rfl
    · rw [if_pos (by simp [sk]), ok_ret, ok_con]
      exact ⟨by simp [sk], [], by simp⟩
  · rw [if_pos (by simp [si]), if_pos rfl, ok_ret, ok_con]
    exact ⟨by simp [si], [], by simp⟩
end Mo
set_option Elab.async false
set_option linter.all false
set_option maxRecDepth 100000
set_option maxHeartbeats 4000000
namespace Mo
open PySem L2 TL
theorem ok_sh {h : Ah} {Q : Dt → Ah → Prop} {env : En} {i c : Nat} (e : env[i]? = some (some (.str (Tx [c])))) (hc : Ltr c) : Ok (kix K51.tb_SHIFTS (var i) env) h Q ↔ Q (.wt [.int (dx c).1, .int (dx c).2]) h := by
  have k : K51.tb_SHIFTS.lookup (Tx [c]) = some (some (.wt [.int (dx c).1, .int (dx c).2])) := by
    rcases hc with rfl | rfl | rfl | rfl <;> rfl
  show Ok (var i env >>= fun d => match d with | .str z => (match K51.tb_SHIFTS.lookup z with | some (some y) => Mm.pure y | _ => Mm.no) | _ => Mm.no) h Q ↔ _
  rw [ok_bind, ok_pick e]
  simp only [k]
  exact Iff.rfl
theorem placesN_ok {W : List Nat} (hl : Ltrs W) (hn : W.length ≤ 900) (h : Ah) : Ok (K51.f_places_of_names [.str (Tx W)]) h fun d h' => d = .obj h.length ∧ ∃ j, h' = h ++ .lst (ptsD W W.length) :: j := by
  rw [K51.f_places_of_names, ok_fnM]
  simp only [K51.m_places_of_names]
  simp [szl]
  refine forL_ind (fun ds env h' => ∃ (m : Nat) (j : Ah) (y z : Option Dt), m ≤ W.length ∧ ds = (W.drop m).map (fun c => .str (Tx [c])) ∧ h' = h ++ .lst (ptsD W m) :: j ∧ env = [some (.str (Tx W)), some (.obj h.length), y, z]) ?_ ?_ _ _ _ ⟨0, [], none, none, Nat.zero_le _, by simp, by simp [ptsD, ptD, pl], rfl⟩
  · rintro x xs env h' ⟨m, j, y, z, hm, e, rfl, rfl⟩
    have c : m < W.length := by
      rcases Nat.lt_or_ge m W.length with c | c
      · exact c
      · rw [List.drop_eq_nil_of_le c] at e; simp at e
    rw [List.drop_eq_getElem_cons c, List.map_cons] at e
    obtain ⟨rfl, rfl⟩ := List.cons.inj e
    have lt := hl _ (List.getElem_mem c)
    have step : pl (cyc W) (m + 1) = ((pl (cyc W) m).1 + (dx W[m]).1, (pl (cyc W) m).2 + (dx W[m]).2) := by
      simp only [pl]
      rw [cyc_lt c]
    refine ⟨[some (.str (Tx W)), some (.obj h.length), some (.str (Tx [W[m]])), z], by simp [Pat.bd], ?_⟩
    rw [ok_seq, ok_sto, ok_sh (i := 2) (c := W[m]) rfl lt]
    show Ok (drp _ [some (.str (Tx W)), some (.obj h.length), some (.str (Tx [W[m]])), some (.wt [.int (dx W[m]).1, .int (dx W[m]).2])]) _ _
    rw [ok_drp, ok_bm, ok_pick (i := 1) (d := .obj h.length) rfl, ok_argC, ok_tupE, ok_argC, ok_op2, ok_op2, ok_op2, ok_pick (i := 1) (d := .obj h.length) rfl, ok_op1, ok_con, ok_negI, ok_ixO, lstAt_new]
    refine ⟨isL_obj lstAt_new, ptD (pl (cyc W) m), ptsD_last W m, ?_⟩
    rw [ok_con]
    refine ok_ixTup.mpr ⟨.int (pl (cyc W) m).1, at0, ?_⟩
    rw [ok_op2, ok_pick (i := 3) (d := .wt [.int (dx W[m]).1, .int (dx W[m]).2]) rfl, ok_con, ok_ixWt]
    refine ⟨_, rfl, ?_⟩
    rw [ok_addI, ok_argC, ok_op2, ok_op2, ok_op2, ok_pick (i := 1) (d := .obj h.length) rfl, ok_op1, ok_con, ok_negI, ok_ixO, lstAt_new]
    refine ⟨ptD (pl (cyc W) m), ptsD_last W m, ?_⟩
    rw [ok_con]
    refine ok_ixTup.mpr ⟨.int (pl (cyc W) m).2, at1, ?_⟩
    rw [ok_op2, ok_pick (i := 3) (d := .wt [.int (dx W[m]).1, .int (dx W[m]).2]) rfl, ok_con, ok_ixWt]
    refine ⟨_, rfl, ?_⟩
    rw [ok_addI, ok_argN, ok_argN, ok_appO]
    refine ⟨szl (by simp), _, lstAt_new, ?_, m + 1, j, _, _, c, rfl, ?_, rfl⟩
    · rw [ptsD_len]
      have := szl (show m + 2 ≤ 1000 by omega)
      omega
    · rw [set_new, ← ptsD_succ, step]
      rfl
  · rintro env h' ⟨m, j, y, z, hm, e, rfl, rfl⟩
    have : m = W.length := by
      rcases Nat.lt_or_ge m W.length with c | c
      · rw [List.drop_eq_getElem_cons c] at e; simp at e; omega
      · omega
    subst this
    simp
end Mo
set_option Elab.async false
set_option linter.all false
set_option maxRecDepth 100000
set_option maxHeartbeats 4000000
namespace Mo
open PySem L2 TL
def oppB (a b : Nat) : Bool := decide ((dx a).1 + (dx b).1 = 0 ∧ (dx a).2 + (dx b).2 = 0)
theorem opp_lv {a b : Nat} (ha : Ltr a) (hb : Ltr b) (h : oppB a b = true) : lv a = lv b := by
  rcases ha with rfl | rfl | rfl | rfl <;> rcases hb with rfl | rfl | rfl | rfl <;> revert h <;> decide
theorem LineG.noback {g : Nat → Nat} {n : Nat} (L : LineG g n) (h3 : 3 ≤ n) (i : Nat) : oppB (g i) (g (i + 1)) = false := by
  cases q : oppB (g i) (g (i + 1)) with
  | false => rfl
  | true =>
    have hl := opp_lv (L.ltr i) (L.ltr (i + 1)) q
    have e : pl g (i + 2) = pl g i := by
      have z : (dx (g i)).1 + (dx (g (i + 1))).1 = 0 ∧ (dx (g i)).2 + (dx (g (i + 1))).2 = 0 := of_decide_eq_true q
      show ((pl g i).1 + (dx (g i)).1 + (dx (g (i + 1))).1, (pl g i).2 + (dx (g i)).2 + (dx (g (i + 1))).2) = pl g i
      ext <;> simp <;> omega
    have ne : (i + 2) % n ≠ i % n := fun z => by
      have := mod_cancel (k := i) (i := 2) (j := 0) (n := n) (by simpa using z)
      rw [Nat.mod_eq_of_lt (by omega), Nat.zero_mod] at this
      cases this
    obtain ⟨h1, _, h5⟩ := L.ok (i + 2) i ne e
    rw [show i + 2 + n - 1 = (i + 1) + n by omega, L.per] at h1
    exact (h5 (by rw [← h1, hl])).elim
end Mo
set_option Elab.async false
set_option linter.all false
set_option maxRecDepth 100000
set_option maxHeartbeats 4000000
namespace Mo
open PySem L2 TL
theorem left_ok {c : Nat} (hc : Ltr c) : Gv (K51.f_turned_left [.str (Tx [c])]) (.str (Tx [turnC c])) := gv_of fun h => by
  rw [K51.f_turned_left, ok_fnM]
  simp only [K51.m_turned_left, List.map_cons, List.map_nil, List.length_cons, List.length_nil, List.replicate, List.cons_append, List.nil_append]
  rw [ok_ret, ok_op2, ok_con, ok_op2, ok_op2, ok_bm, ok_con, lit_enws, ok_argC, ok_pick (i := 0) (d := .str (Tx [c])) rfl, ok_argN, ok_index hc, ok_con, ok_addI, ok_con, ok_modI]
  refine ⟨rfl, by decide, ?_⟩
  rw [ok_ixS]
  refine ⟨turnC c, ?_, szl (by simp), rfl, [], by simp⟩
  rcases hc with rfl | rfl | rfl | rfl <;> decide
/-- what a turning counts -/
def qn (a b : Nat) : Int := if a = b then 0 else if turnC a = b then 1 else -1
theorem qn_qv {a b : Nat} (ha : Ltr a) (hb : Ltr b) (h : oppB a b = false) : qn a b = qv (((idx b : Int) - idx a) % 4) := by
  rcases ha with rfl | rfl | rfl | rfl <;> rcases hb with rfl | rfl | rfl | rfl <;> revert h <;> decide
end Mo
set_option Elab.async false
set_option linter.all false
set_option maxRecDepth 100000
set_option maxHeartbeats 4000000
namespace Mo
open PySem L2 TL
def qs (W : List Nat) (i : Nat) : Int := qn (cyc W (i + W.length - 1)) (cyc W i)
theorem quarters_ok {W : List Nat} (hl : Ltrs W) (hn : W.length ≤ 900) : Gv (K51.f_quarters_of [.str (Tx W)]) (.int ((List.range W.length).map (qs W)).sum) := gv_of fun h => by
  have sz := szl (show W.length ≤ 1000 by omega)
  rw [K51.f_quarters_of, ok_fnM]
  simp only [K51.m_quarters_of, List.map_cons, List.map_nil, List.length_cons, List.length_nil, List.replicate, List.cons_append, List.nil_append]
  rw [ok_seq, ok_sto, ok_con]
  show Ok (seq _ _ [some (.str (Tx W)), some (.int 0), none, none]) _ _
  rw [ok_seq, ok_forM, ok_itES, ok_argC, ok_pick (i := 0) (d := .str (Tx W)) rfl, ok_argN]
  refine ⟨_, rfl, ?_⟩
  rw [enum_tx]
  refine forL_ind (fun ds env h' => ∃ (m : Nat) (j : Ah) (y z : Option Dt), m ≤ W.length ∧ ds = ((List.range W.length).drop m).map (fun i => .tup [.int (i : Nat), .str (Tx [cyc W i])]) ∧ h' = h ++ j ∧ env = [some (.str (Tx W)), some (.int ((List.range m).map (qs W)).sum), y, z]) ?_ ?_ _ _ _ ⟨0, [], none, none, Nat.zero_le _, by simp, by simp, rfl⟩
  · rintro x xs env h' ⟨m, j, y, z, hm, e, rfl, rfl⟩
    have c : m < W.length := by
      rcases Nat.lt_or_ge m W.length with c | c
      · exact c
      · rw [List.drop_eq_nil_of_le (by simpa using c)] at e; simp at e
    rw [range_drop c, List.map_cons] at e
    obtain ⟨rfl, rfl⟩ := List.cons.inj e
    have p : 0 < W.length := by omega
    have l2 := hl _ (cyc_mem p (m + W.length - 1))
    refine ⟨[some (.str (Tx W)), some (.int ((List.range m).map (qs W)).sum), some (.int (m : Nat)), some (.str (Tx [cyc W m]))], by simp [Pat.bd, Pat.bds], ?_⟩
    have fin : ∀ (t : Int) (jj : Ah), t = qs W m → ∃ (m' : Nat) (j' : Ah) (y z : Option Dt), m' ≤ W.length ∧ ((List.range W.length).drop (m + 1)).map (fun i => Dt.tup [.int (i : Nat), .str (Tx [cyc W i])]) = ((List.range W.length).drop m').map (fun i => .tup [.int (i : Nat), .str (Tx [cyc W i])]) ∧ h ++ j ++ jj = h ++ j' ∧ [some (.str (Tx W)), some (Dt.int (((List.range m).map (qs W)).sum + t)), some (.int (m : Nat)), some (.str (Tx [cyc W m]))] = [some (.str (Tx W)), some (.int ((List.range m').map (qs W)).sum), y, z] := by
      rintro t jj rfl
      refine ⟨m + 1, j ++ jj, some (.int (m : Nat)), some (.str (Tx [cyc W m])), c, rfl, by simp, ?_⟩
      rw [List.range_succ, List.map_append, List.sum_append]
      simp
    rw [ok_ifS, ok_tst, ok_op2, ok_op2, ok_pick (i := 0) (d := .str (Tx W)) rfl, ok_op2, ok_pick (i := 2) (d := .int (m : Nat)) rfl, ok_con, ok_subI, ok_ixS]
    refine ⟨_, at_prev c, sz, ?_⟩
    rw [ok_pick (i := 3) (d := .str (Tx [cyc W m])) rfl, ok_neS, ok_isB]
    by_cases e1 : cyc W (m + W.length - 1) = cyc W m
    · rw [if_neg (by simp [e1]), ok_nxt]
      have := fin 0 [] (by simp [qs, qn, e1])
      simpa using this
    · rw [if_pos (by simpa using e1), ok_sto, ok_op2, ok_pick (i := 1) (d := .int ((List.range m).map (qs W)).sum) rfl, ok_ifE, ok_tst, ok_op2, ok_callM, ok_argC, ok_op2, ok_pick (i := 0) (d := .str (Tx W)) rfl, ok_op2, ok_pick (i := 2) (d := .int (m : Nat)) rfl, ok_con, ok_subI, ok_ixS]
      refine ⟨_, at_prev c, sz, ?_⟩
      rw [ok_argN]
      refine ⟨rfl, gv_fn (left_ok l2) fun jj => ?_⟩
      rw [ok_pick (i := 3) (d := .str (Tx [cyc W m])) rfl, ok_eqS, ok_isB]
      by_cases e2 : turnC (cyc W (m + W.length - 1)) = cyc W m
      · rw [if_pos (by simpa using e2), ok_con, ok_addI]
        exact fin 1 jj (by simp [qs, qn, e1, e2])
      · rw [if_neg (by simpa using e2), ok_op1, ok_con, ok_negI, ok_addI]
        exact fin (-1) jj (by simp [qs, qn, e1, e2])
  · rintro env h' ⟨m, j, y, z, hm, e, rfl, rfl⟩
    have : m = W.length := by
      rcases Nat.lt_or_ge m W.length with c | c
      · rw [range_drop c] at e; simp at e
      · omega
    subst this
    dsimp only
    rw [ok_ret, ok_pick (i := 1) (d := .int ((List.range W.length).map (qs W)).sum) rfl]
    exact ⟨rfl, j, rfl⟩
end Mo
set_option Elab.async false
set_option linter.all false
set_option maxRecDepth 100000
set_option maxHeartbeats 4000000
namespace Mo
open PySem L2 TL
theorem qs_turn {W : List Nat} (L : LineG (cyc W) W.length) (h3 : 3 ≤ W.length) : ((List.range W.length).map (qs W)).sum / 4 = turnZ W := by
  unfold turnZ
  congr 2
  refine List.map_congr_left fun i hi => ?_
  have c := List.mem_range.mp hi
  have nb := L.noback h3 (i + W.length - 1)
  rw [show i + W.length - 1 + 1 = i + W.length by omega, L.per] at nb
  unfold qs bdg
  exact qn_qv (L.ltr _) (L.ltr _) nb
end Mo
set_option Elab.async false
set_option linter.all false
set_option maxRecDepth 100000
set_option maxHeartbeats 4000000
namespace Mo
open PySem L2 TL
/-- the earlier steps at the place of the m-th -/
def erl (W : List Nat) (m : Nat) : List Nat := (List.range m).filter fun i => decide (pl (cyc W) i = pl (cyc W) m)
/-- a line meets a place once more at most, and crosses there -/
theorem erl_line {W : List Nat} (L : Line W) {m : Nat} (hm : m < W.length) : erl W m = [] ∨ ∃ u, u < m ∧ erl W m = [u] ∧ (stB W u && stB W m && (lv (cyc W u) != lv (cyc W m))) = true := by
  have key : ∀ u, u ∈ erl W m → u < m ∧ stB W u = true ∧ stB W m = true ∧ lv (cyc W u) ≠ lv (cyc W m) := fun u hu => by
    obtain ⟨h1, h2⟩ := List.mem_filter.mp hu
    have c := List.mem_range.mp h1
    have ne : u % W.length ≠ m % W.length := by rw [Nat.mod_eq_of_lt (by omega), Nat.mod_eq_of_lt hm]; omega
    obtain ⟨a, b, d⟩ := LineG.ok L u m ne (of_decide_eq_true h2)
    exact ⟨c, decide_eq_true a, decide_eq_true b, d⟩
  match e : erl W m with
  | [] => exact .inl rfl
  | [u] =>
    obtain ⟨a, b, c, d⟩ := key u (by rw [e]; simp)
    exact .inr ⟨u, a, rfl, by rw [b, c]; simpa using d⟩
  | u :: v :: r =>
    exfalso
    obtain ⟨a, _, _, d⟩ := key u (by rw [e]; simp)
    obtain ⟨a', _, _, d'⟩ := key v (by rw [e]; simp)
    have nd : (erl W m).Nodup := List.Pairwise.filter _ List.nodup_range
    rw [e] at nd
    have uv : u ≠ v := fun z => by
      have := (List.nodup_cons.mp nd).1
      exact this (by rw [z]; simp)
    have pu : pl (cyc W) u = pl (cyc W) m := of_decide_eq_true (List.mem_filter.mp (show u ∈ erl W m by rw [e]; simp)).2
    have pv : pl (cyc W) v = pl (cyc W) m := of_decide_eq_true (List.mem_filter.mp (show v ∈ erl W m by rw [e]; simp)).2
    have ne : u % W.length ≠ v % W.length := by rw [Nat.mod_eq_of_lt (by omega), Nat.mod_eq_of_lt (by omega)]; exact uv
    obtain ⟨_, _, d''⟩ := LineG.ok L u v ne (pu.trans pv.symm)
    revert d d' d''
    cases lv (cyc W u) <;> cases lv (cyc W v) <;> cases lv (cyc W m) <;> simp
end Mo
set_option Elab.async false
set_option linter.all false
set_option maxRecDepth 100000
set_option maxHeartbeats 4000000
namespace Mo
open PySem L2 TL
theorem setd_ok {H1 h' : Ah} {W : List Nat} {m a b : Nat} {ad : Pt → Nat} {env : En} {Q : Dt → Ah → Prop} (M : Met H1 (grpN (pl (cyc W)) m) h' ad) (hm : m < 900)
    (e2 : env[a]? = some (some (.obj H1.length))) (e4 : env[b]? = some (some (ptD (pl (cyc W) m))))
    (q : ∀ h1 r, lstAt h1 r = some (nsD (erl W m)) → (∀ j, ∃ ad2, Met H1 (grpN (pl (cyc W)) (m + 1)) ((h1 ++ j).set r (.lst (nsD (erl W m ++ [m])))) ad2) → Q (.obj r) h1) :
    Ok (setdM (var a) (var b) (lstO argN) env) h' Q := by
  obtain ⟨k, rfl⟩ := M.hp
  have F := grp_F (pl (cyc W)) m
  have ln := grp_len (pl (cyc W)) m
  have g1 : grpN (pl (cyc W)) (m + 1) = addG (grpN (pl (cyc W)) m) (pl (cyc W) m) m := rfl
  have at_ := M.at_
  have inj := M.inj
  have gn := grp_none (pl (cyc W)) (m := m) (p := pl (cyc W) m)
  rw [g1] at q
  have er : erl W m = (List.range m).filter fun i => decide (pl (cyc W) i = pl (cyc W) m) := rfl
  generalize erl W m = E at *
  generalize hms : grpN (pl (cyc W)) m = ms at *
  generalize hp : pl (cyc W) m = p at *
  rw [ok_setdM, ok_pick e2, ok_dtO, ok_pick e4, ok_lstO, ok_argN]
  refine ⟨szl (by simp), ?_⟩
  rw [show H1 ++ Ao.dt (ms.map fun q => kp q.1) (ms.map fun q => .obj (ad q.1)) :: k ++ [.lst []] = H1 ++ Ao.dt (ms.map fun q => kp q.1) (ms.map fun q => .obj (ad q.1)) :: (k ++ [.lst []]) by simp]
  rw [ok_setdR (by simp; have := szl (show m + 2 ≤ 1000 by omega); omega), val_ad (U := fun z => .obj (ad z))]
  by_cases pin : p ∈ ms.map (·.1)
  · rw [if_pos pin]
    obtain ⟨q0, hq0, eq0⟩ := List.mem_map.mp pin
    have eq0 : q0.1 = p := eq0
    obtain ⟨a1, a2⟩ := at_ q0 hq0
    rw [eq0] at a1 a2
    have qE : q0.2 = E := by rw [F q0 hq0, er, eq0]
    rw [qE] at a2
    have a3 : ∀ j, lstAt (H1 ++ Ao.dt (ms.map fun q => kp q.1) (ms.map fun q => .obj (ad q.1)) :: (k ++ [.lst []]) ++ j) (ad p) = some (nsD E) := fun j => by
      have := lstAt_app a2 ([.lst []] ++ j)
      simpa using this
    refine q _ _ (by simpa using a3 []) fun j => ?_
    have same : ∀ q ∈ ms, q.1 = p → q.2 = E := fun q hq e => by rw [F q hq, er, e]
    refine ⟨ad, ⟨(k ++ [Ao.lst []] ++ j).set (ad p - H1.length - 1) (Ao.lst (nsD (E ++ [m]))), ?_⟩, fun q hq => ?_, fun q hq q' hq' e => ?_⟩
    · rw [show H1 ++ Ao.dt (ms.map fun q => kp q.1) (ms.map fun q => .obj (ad q.1)) :: (k ++ [.lst []]) ++ j = H1 ++ Ao.dt (ms.map fun q => kp q.1) (ms.map fun q => .obj (ad q.1)) :: (k ++ [.lst []] ++ j) by simp]
      refine (set_behind a1).trans ?_
      unfold addG
      rw [if_pos pin]
      congr 2
      congr 1
      · rw [List.map_map]
        apply List.map_congr_left
        intro q hq
        simp only [Function.comp]
        split <;> rfl
      · rw [List.map_map]
        apply List.map_congr_left
        intro q hq
        simp only [Function.comp]
        split <;> rfl
    · unfold addG at hq
      rw [if_pos pin] at hq
      obtain ⟨q1, h1, e1⟩ := List.mem_map.mp hq
      by_cases c : q1.1 = p
      · rw [if_pos c] at e1
        subst e1
        dsimp only
        rw [c]
        refine ⟨a1, ?_⟩
        rw [lstAt_set (lstAt_lt (a3 j)), same q1 h1 c]
      · rw [if_neg c] at e1
        subst e1
        obtain ⟨b1, b2⟩ := at_ q1 h1
        refine ⟨b1, ?_⟩
        rw [lstAt_ne (fun z => c (by have := inj q0 hq0 q1 h1 (by rw [eq0]; exact z); rw [← this, eq0]))]
        have := lstAt_app b2 ([.lst []] ++ j)
        simpa using this
    · have key : ∀ q, q ∈ addG ms p m → ∃ q1 ∈ ms, q1.1 = q.1 := fun q hq => by
        unfold addG at hq
        rw [if_pos pin] at hq
        obtain ⟨q1, h1, e1⟩ := List.mem_map.mp hq
        refine ⟨q1, h1, ?_⟩
        rw [← e1]
        split <;> rfl
      obtain ⟨q1, h1, e1⟩ := key q hq
      obtain ⟨q2, h2, e2⟩ := key q' hq'
      rw [← e1, ← e2]
      exact inj q1 h1 q2 h2 (by rw [e1, e2]; exact e)
  · rw [if_neg pin]
    have En : E = [] := by rw [er]; exact gn pin
    subst En
    have fl : (H1 ++ Ao.dt (ms.map fun q => kp q.1) (ms.map fun q => .obj (ad q.1)) :: k).length = H1.length + k.length + 1 := by simp; omega
    have pk : putG (ms.map fun q => kp q.1) (ms.map fun q => Dt.obj (ad q.1)) (kp p) (.obj (H1 ++ Ao.dt (ms.map fun q => kp q.1) (ms.map fun q => .obj (ad q.1)) :: k).length) = ((ms.map fun q => kp q.1) ++ [kp p], (ms.map fun q => Dt.obj (ad q.1)) ++ [.obj (H1.length + k.length + 1)]) := by
      unfold putG
      rw [if_neg (fun z => pin (mem_kp.mp z)), fl]
    dsimp only
    rw [pk, fl]
    dsimp only
    have r3 : ∀ j, lstAt (H1 ++ Ao.dt ((ms.map fun q => kp q.1) ++ [kp p]) ((ms.map fun q => Dt.obj (ad q.1)) ++ [.obj (H1.length + k.length + 1)]) :: (k ++ [.lst []]) ++ j) (H1.length + k.length + 1) = some [] := fun j => by
      have := lstAt_new (h := H1 ++ Ao.dt ((ms.map fun q => kp q.1) ++ [kp p]) ((ms.map fun q => Dt.obj (ad q.1)) ++ [.obj (H1.length + k.length + 1)]) :: k) (xs := []) (j := j)
      rw [show (H1 ++ Ao.dt ((ms.map fun q => kp q.1) ++ [kp p]) ((ms.map fun q => Dt.obj (ad q.1)) ++ [.obj (H1.length + k.length + 1)]) :: k).length = H1.length + k.length + 1 by simp; omega] at this
      simpa using this
    refine q _ _ (by have := r3 []; rw [List.append_nil] at this; exact this) fun j => ?_
    have old : ∀ q ∈ ms, ad q.1 < H1.length + k.length + 1 := fun q hq => by
      have := lstAt_lt (at_ q hq).2
      omega
    refine ⟨fun z => if z = p then H1.length + k.length + 1 else ad z, ⟨k ++ Ao.lst [Dt.int (m : Nat)] :: j, ?_⟩, fun q hq => ?_, fun q hq q' hq' e => ?_⟩
    · rw [show H1 ++ Ao.dt ((ms.map fun q => kp q.1) ++ [kp p]) ((ms.map fun q => Dt.obj (ad q.1)) ++ [.obj (H1.length + k.length + 1)]) :: (k ++ [.lst []]) ++ j = H1 ++ Ao.dt ((ms.map fun q => kp q.1) ++ [kp p]) ((ms.map fun q => Dt.obj (ad q.1)) ++ [.obj (H1.length + k.length + 1)]) :: (k ++ .lst [] :: j) by simp]
      refine (set_behind (by omega)).trans ?_
      rw [show H1.length + k.length + 1 - H1.length - 1 = k.length by omega]
      unfold addG
      rw [if_neg pin]
      congr 2
      · congr 1
        · simp
        · simp only [List.map_append, List.map_cons, List.map_nil, if_true]
          congr 1
          apply List.map_congr_left
          intro q hq
          rw [if_neg (fun z => pin (List.mem_map.mpr ⟨q, hq, z⟩))]
      · simp [nsD]
    · unfold addG at hq
      rw [if_neg pin] at hq
      rcases List.mem_append.mp hq with c | c
      · have ne : ¬ q.1 = p := fun z => pin (List.mem_map.mpr ⟨q, c, z⟩)
        obtain ⟨b1, b2⟩ := at_ q c
        have o := old q c
        rw [if_neg ne]
        refine ⟨b1, ?_⟩
        rw [lstAt_ne (by omega)]
        have b3 : lstAt (H1 ++ Ao.dt (ms.map fun q => kp q.1) (ms.map fun q => .obj (ad q.1)) :: (k ++ [.lst []]) ++ j) (ad q.1) = some (nsD q.2) := by
          have := lstAt_app b2 ([.lst []] ++ j)
          simpa using this
        rw [List.append_assoc, List.cons_append] at b3 ⊢
        unfold lstAt at b3 ⊢
        rw [List.getElem?_append_right (by omega), show ad q.1 - H1.length = (ad q.1 - H1.length - 1) + 1 by omega, List.getElem?_cons_succ] at b3 ⊢
        exact b3
      · have : q = (p, [m]) := by simpa using c
        subst this
        simp only [if_true]
        refine ⟨by omega, ?_⟩
        rw [lstAt_set (lstAt_lt (r3 j))]
        simp [nsD]
    · have key : ∀ q, q ∈ addG ms p m → q.1 = p ∨ (q.1 ≠ p ∧ ∃ q1 ∈ ms, q1.1 = q.1) := fun q hq => by
        unfold addG at hq
        rw [if_neg pin] at hq
        rcases List.mem_append.mp hq with c | c
        · exact .inr ⟨fun z => pin (List.mem_map.mpr ⟨q, c, z⟩), q, c, rfl⟩
        · have : q = (p, [m]) := by simpa using c
          exact .inl (by rw [this])
      rcases key q hq with c | ⟨c, q1, h1, e1⟩ <;> rcases key q' hq' with c' | ⟨c', q2, h2, e2⟩
      · rw [c, c']
      · simp only [c, if_true, if_neg c'] at e
        have := old q2 h2
        rw [e2] at this
        omega
      · simp only [c', if_true, if_neg c] at e
        have := old q1 h1
        rw [e1] at this
        omega
      · simp only [if_neg c, if_neg c'] at e
        rw [← e1, ← e2]
        exact inj q1 h1 q2 h2 (by rw [e1, e2]; exact e)
end Mo
set_option Elab.async false
set_option linter.all false
set_option maxRecDepth 100000
set_option maxHeartbeats 4000000
namespace Mo
open PySem L2 TL
end Mo
set_option Elab.async false
set_option linter.all false
set_option maxRecDepth 100000
set_option maxHeartbeats 4000000
namespace Mo
open PySem L2 TL
/-- a stretch -/
def strD (q : Nat × Nat) : Dt := .tup [.str (Tx [q.1]), .int (q.2 : Nat)]
/-- what is known of the text of a line -/
theorem text_facts {W : List Nat} (L : Line W) (h4 : 4 ≤ W.length) (hn : W.length ≤ 120) (h0 : stB W 0 = false) : (∀ q ∈ runsF W, 1 ≤ q.2 ∧ q.2 ≤ 120 ∧ Ltr q.1) ∧ (runsF W).length ≤ 120 ∧ (textP W).length ≤ 1000 ∧ Txt.split (Tx (textP W)) (Tx [32]) = (runsF W).map fun q => Tx (wordR q) := by
  obtain ⟨adj, wr, four⟩ := line_runs L h4 h0
  have ex := expand_runs W
  have one := runs_bound W [] (by simp)
  have qf : ∀ q ∈ runsF W, 1 ≤ q.2 ∧ q.2 ≤ 120 ∧ Ltr q.1 := fun q m => ⟨one q m, by have := run_le m; rw [ex] at this; omega, L.ltrs _ (by have := mem_runs one m; rw [show expand (List.foldl addR [] W) = W from ex] at this; exact this)⟩
  have rl : (runsF W).length ≤ 120 := by have := runs_le (rs := runsF W) one; rw [ex] at this; omega
  have sl := sum_le (fun q : Nat × Nat => (wordR q).length) 4 (runsF W) fun q m => by
    have : (numL q.2).length ≤ 3 := numL_len (by decide) (by have := (qf q m).2.1; omega)
    simp only [wordR, List.length_cons]
    omega
  refine ⟨qf, rl, ?_, ?_⟩
  · have : ∀ (ps : List (List Nat)), (joinL [32] ps).length ≤ (ps.map List.length).sum + ps.length := by
      intro ps
      induction ps with
      | nil => simp [joinL]
      | cons p ps ih =>
        cases ps with
        | nil => simp [joinL]
        | cons q r =>
          show (p ++ ([32] ++ joinL [32] (q :: r))).length ≤ _
          simp only [List.length_append, List.length_cons, List.length_nil, List.map_cons, List.sum_cons] at ih ⊢
          omega
    have := this ((runsF W).map wordR)
    rw [List.map_map, List.length_map] at this
    have e : (List.map (List.length ∘ wordR) (runsF W)).sum = ((runsF W).map fun q => (wordR q).length).sum := rfl
    unfold textP
    omega
  · have := split_of (x := Tx (textP W)) ((runsF W).map fun q => (q.1, numL q.2)) (by
      unfold textP
      rw [List.map_map]
      rfl) (fun e => by rw [List.map_eq_nil_iff] at e; rw [e] at four; simp at four) (fun p m => by
      obtain ⟨q, mq, rfl⟩ := List.mem_map.mp m
      intro z
      rcases List.mem_cons.mp z with z | z
      · have z : 32 = q.1 := z
        rcases (qf q mq).2.2 with e | e | e | e <;> omega
      · exact numL_free (by omega) z)
    rw [this, List.map_map]
    rfl
end Mo
set_option Elab.async false
set_option linter.all false
set_option maxRecDepth 100000
set_option maxHeartbeats 4000000
namespace Mo
open PySem L2 TL
theorem ok_lcP {γ : Type} {mi : En → Mm (List Dt)} {p : Pat} {me : En → Mm Dt} {vs : List Nat} {env : En} {h : Ah} {Q : Dt → Ah → Prop} (l : List γ) (e : γ → Dt) (g : γ → Dt)
    (hi : Ok (mi env) h fun ds h1 => ds = l.map e ∧ l.length ≤ sizeLine ∧ (∀ d ∈ l, ∃ e1, p.bd (e d) (wipeE env vs) = some e1 ∧ Gv (me e1) (g d)) ∧ ∀ j, Q (.lv (l.map g)) (h1 ++ j)) :
    Ok (lcM mi p yes me vs env) h Q :=
  ok_lcM l e (fun _ => true) g (hi.mono fun ds h1 ⟨h2, h3, h4, h5⟩ => ⟨h2, h3, fun d m => by
    obtain ⟨e1, b, g1⟩ := h4 d m
    exact ⟨e1, b, fun h => ⟨[], by simp [yes, Mm.pure]⟩, fun _ => g1⟩, fun j => by
    rw [List.filter_eq_self.mpr (by simp)]
    exact h5 j⟩)
theorem ok_sumLv {γ : Type} {h : Ah} {Q : Dt → Ah → Prop} {l : List γ} {f : γ → Int} : Ok (bSum [.lv (l.map fun i => .int (f i))]) h Q ↔ Q (.int (l.map f).sum) h := by
  have e : intsD (l.map fun i => .int (f i)) = some (l.map f) := by
    induction l with
    | nil => rfl
    | cons a l ih => simp [intsD, ih]
  have e2 : bSum [.lv (l.map fun i => .int (f i))] h = .ok (.int (l.map f).sum) h := by
    simp [bSum, bFold, lstR, lstT, e]
  unfold Ok
  rw [e2]
theorem str_prev {rs : List (Nat × Nat)} {i : Nat} (h : i < rs.length) : atI (rs.map strD) ((i : Int) - 1) = some (strD (if i = 0 then rs.getLastD (0, 0) else rs.getD (i - 1) (0, 0))) := by
  cases i with
  | zero =>
    have h0 : rs ≠ [] := fun e => by subst e; simp at h
    rw [show ((0 : Nat) : Int) - 1 = -1 by omega, atI_last (by simpa using h0), List.getLast_map]
    simp [List.getLastD_eq_getLast?, List.getLast?_eq_some_getLast h0]
  | succ i =>
    rw [show ((i + 1 : Nat) : Int) - 1 = (i : Int) by omega, atI_nat (by simp; omega)]
    simp [show i < rs.length by omega]
theorem enum_str (rs : List (Nat × Nat)) : enumD 0 (rs.map strD) = (List.range rs.length).map fun i => .tup [.int (i : Nat), strD (rs.getD i (0, 0))] := by
  rw [enum_map]
  apply List.ext_getElem
  · simp
  · intro i h1 h2
    simp at h1
    simp [h1]
def stpM : En → Mm Fl := (seq (ifS (orT (tst (op2 opIsN (var 1) (con .non))) (orT (tst (op2 opLt (bi bLen (argC (var 1) argN)) (con (.int 4)))) (tst (op2 opGt (bi bSum (argC (lcM (itL (var 1)) (.tp [(.nm 2), (.nm 3)]) yes (var 3) [2, 3]) argN)) (con (.int 120)))))) (ret (con .non)) nxt)
    (seq (ifS (tst (bi bAny (argC (lcM (itEL (argC (var 1) argN)) (.tp [(.nm 4), (.tp [(.nm 2), (.nm 3)])]) yes (op2 opEq (callM 1 K51.f_is_level (argC (op2 ixM (op2 ixM (var 1) (op2 opSub (var 4) (con (.int 1)))) (con (.int 0))) argN)) (callM 1 K51.f_is_level (argC (var 2) argN))) [4, 2, 3]) argN))) (ret (con .non)) nxt)
    (ret (bm isSt mJoin (con (.str (Str.ofString ""))) (argC (lcM (itL (var 1)) (.tp [(.nm 2), (.nm 3)]) yes (op2 opMul (var 2) (var 3)) [2, 3]) argN)))))
end Mo
set_option Elab.async false
set_option linter.all false
set_option maxRecDepth 100000
set_option maxHeartbeats 4000000
namespace Mo
open PySem L2 TL
section
variable {c f : Str} {mo : En → Mm Dt} {mr : En → Mm (List Dt)} {env : En} {h k : Ah} {Q : Dt → Ah → Prop} {fs : List (Str × Dt)} {d y : Dt} {n r : Nat} {fm : List Dt → Mm Dt}
theorem ok_fld : Ok (fld c f mo env) h Q ↔ Ok (mo env) h fun d h1 => Ok (fldR c f d) h1 Q := by simp [fld]
theorem ok_fldR (e : insR c h d = some fs) (l : fs.lookup f = some y) (q : Q y h) : Ok (fldR c f d) h Q := ok_of (by unfold fldR; rw [e]; simp only [Option.bind_some, l]) q
theorem ok_gF {G : En → Ah → Prop} : Ok (gF c f mo d env) h G ↔ Ok (mo env) h fun o h1 => Ok (setF c f o d) h1 fun _ h2 => G env h2 := by simp [gF]
theorem ok_setF {U : Unit → Ah → Prop} (hl : fs.length < 1000) (q : U () (h ++ .ins c (putD f y fs) :: k)) : Ok (setF c f (.obj h.length) y) (h ++ .ins c fs :: k) U := by
  refine ok_of (a := ()) (h' := h ++ .ins c (putD f y fs) :: k) ?_ q
  unfold setF insR
  simp [hl]
def insM (c : Str) (d : Dt) : Mm Unit := fun h => if (insR c h d).isSome then .ok () h else .no
theorem ok_insM {U : Unit → Ah → Prop} : Ok (insM c d) h U ↔ (insR c h d).isSome = true ∧ U () h := by
  unfold Ok insM
  by_cases s : (insR c h d).isSome = true <;> simp [s]
theorem insR_obj : insR c h (.obj r) = match h[r]? with
    | some (.ins c' fs) => if c' = c then some fs else none
    | _ => none := rfl
theorem insR_app (e : insR c h (.obj r) = some fs) (j : Ah) : insR c (h ++ j) (.obj r) = some fs := by
  rw [insR_obj] at e ⊢
  cases q : h[r]? with
  | none => rw [q] at e; cases e
  | some o =>
    have l : r < h.length := by
      rcases Nat.lt_or_ge r h.length with l | l
      · exact l
      · rw [List.getElem?_eq_none l] at q; cases q
    rw [List.getElem?_append_left l, q]
    rw [q] at e
    exact e
theorem insR_ne {o : Ao} {r' : Nat} (ne : r' ≠ r) : insR c (h.set r' o) (.obj r) = insR c h (.obj r) := by
  rw [insR_obj, insR_obj, List.getElem?_set_ne ne]
theorem insR_new : insR c (h ++ .ins c fs :: k) (.obj h.length) = some fs := by
  unfold insR
  simp
end
def spD (W : List Nat) : List Dt := (List.range W.length).map fun i => ptD (pl (cyc W) i)
def lineF (W : List Nat) : List (Str × Dt) := [(Str.ofString "written", .str (Tx (textP W))), (Str.ofString "ways", .str (Tx W)), (Str.ofString "spots", .lv (spD W)), (Str.ofString "rounds", .int (turnZ W))]
theorem cut_sp (W : List Nat) : cutD (ptsD W W.length) none (some (-1)) = spD W := by
  unfold cutD HT.sIx
  simp only [ptsD_len]
  rw [if_pos (by omega), show (-1 + ((W.length + 1 : Nat) : Int)).toNat = W.length by omega]
  simp only [List.drop_zero, Nat.sub_zero]
  unfold ptsD spD
  rw [← List.map_take, List.take_range, Nat.min_eq_left (by omega)]
theorem put_w {a : Dt} : putD (Str.ofString "written") a [] = [(Str.ofString "written", a)] := rfl
theorem put_y {a b : Dt} : putD (Str.ofString "ways") b [(Str.ofString "written", a)] = [(Str.ofString "written", a), (Str.ofString "ways", b)] := by
  have n1 : ¬ (Str.ofString "written" = Str.ofString "ways") := by decide +kernel
  simp only [putD, if_neg n1]
theorem put_s {a b c : Dt} : putD (Str.ofString "spots") c [(Str.ofString "written", a), (Str.ofString "ways", b)] = [(Str.ofString "written", a), (Str.ofString "ways", b), (Str.ofString "spots", c)] := by
  have n1 : ¬ (Str.ofString "written" = Str.ofString "spots") := by decide +kernel
  have n2 : ¬ (Str.ofString "ways" = Str.ofString "spots") := by decide +kernel
  simp only [putD, if_neg n1, if_neg n2]
theorem put_r {a b c d : Dt} : putD (Str.ofString "rounds") d [(Str.ofString "written", a), (Str.ofString "ways", b), (Str.ofString "spots", c)] = [(Str.ofString "written", a), (Str.ofString "ways", b), (Str.ofString "spots", c), (Str.ofString "rounds", d)] := by
  have n1 : ¬ (Str.ofString "written" = Str.ofString "rounds") := by decide +kernel
  have n2 : ¬ (Str.ofString "ways" = Str.ofString "rounds") := by decide +kernel
  have n3 : ¬ (Str.ofString "spots" = Str.ofString "rounds") := by decide +kernel
  simp only [putD, if_neg n1, if_neg n2, if_neg n3]
theorem look_w {W : List Nat} : (lineF W).lookup (Str.ofString "written") = some (.str (Tx (textP W))) := by
  have n1 : (Str.ofString "written" == Str.ofString "written") = true := by decide +kernel
  simp only [lineF, List.lookup, n1]
/-- the line at r -/
def LnAt (h : Ah) (r : Nat) (W : List Nat) : Prop := insR (Str.ofString "Line") h (.obj r) = some (lineF W)
section
variable {h : Ah} {r : Nat} {W : List Nat} {Q : Dt → Ah → Prop}
theorem LnAt.app (a : LnAt h r W) (j : Ah) : LnAt (h ++ j) r W := insR_app a j
theorem LnAt.ne (a : LnAt h r W) {r' : Nat} {o : Ao} (ne : r' ≠ r) : LnAt (h.set r' o) r W := (insR_ne ne).trans a
theorem LnAt.new {j : Ah} : LnAt (h ++ .ins (Str.ofString "Line") (lineF W) :: j) h.length W := insR_new
end
end Mo
set_option Elab.async false
set_option linter.all false
set_option maxRecDepth 100000
set_option maxHeartbeats 4000000
namespace Mo
open PySem L2 TL
section
variable {h : Ah} {r : Nat} {W : List Nat} {Q : Dt → Ah → Prop}
theorem sp_len : (spD W).length = W.length := by simp [spD]
theorem sp_at {i : Nat} (hi : i < W.length) : atI (spD W) (i : Int) = some (ptD (pl (cyc W) i)) := by
  rw [atI_nat (by rw [sp_len]; exact hi)]
  simp [spD]
end
end Mo
set_option Elab.async false
set_option linter.all false
set_option maxRecDepth 100000
set_option maxHeartbeats 4000000
namespace Mo
open PySem L2 TL
theorem show_ok {p : PyData} (hs : p.showable = true) (hd : p.hasDict = false) (dp : p.depth ≤ 60) (ls : p.leavesShort 1921 = true) (bk : p.bulk ≤ 8000) : showOk p = true := by
  have := PyData.shown_le_bulk 1921 (by decide) p ls
  unfold showOk
  rw [hs, hd]
  simp only [Bool.not_false, Bool.and_self, Bool.true_and, Bool.and_eq_true, decide_eq_true_eq]
  refine ⟨dp, ?_⟩
  rw [sizeLine_eq]
  have : (1921 + 2) * p.bulk ≤ (1921 + 2) * 8000 := Nat.mul_le_mul_left _ bk
  omega
theorem log_small {i : Int} (h1 : -(2 ^ 100) < i) (h2 : i < 2 ^ 100) : i.natAbs.log2 < 1920 := by
  have : i.natAbs.log2 < 100 := log2_lt (by omega) (by omega)
  omega
theorem leaf_int {i : Int} (h : i.natAbs.log2 < 1920) : PyData.leavesShort 1921 (.int i) = true := by
  have : (PyData.shown (.int i)).length ≤ 1921 := by
    simp only [PyData.shown]
    rw [PySem.ofString_length]
    exact PySem.int_text_length_le (k := 1920) (by decide) h
  simpa only [PyData.leavesShort, decide_eq_true_eq] using this
theorem leaf_tx {l : List Nat} (h : ∀ c ∈ l, c < 128) : PyData.leavesShort 1921 (.str (Tx l)) = true := by
  simp only [PyData.leavesShort, List.all_eq_true, decide_eq_true_eq]
  intro c m
  have := h c m
  omega
end Mo
set_option Elab.async false
set_option linter.all false
set_option maxRecDepth 100000
set_option maxHeartbeats 4000000
namespace Mo
open PySem L2
structure Pur (h : Ah) (r : Nat) : Prop where
  ex : ∃ g s : Int, lstAt h r = some [.int g, .int s] ∧ 0 ≤ g ∧ 0 ≤ s ∧ s < 2147483647
theorem Pur.app {h : Ah} {r : Nat} (R : Pur h r) (j : Ah) : Pur (h ++ j) r := by
  obtain ⟨g, s, h1, h2⟩ := R.ex
  exact ⟨g, s, lstAt_app h1 j, h2⟩
/-- a draw: some number below many; the purse alone is written -/
theorem draw_ok {h : Ah} {r : Nat} {many : Int} (R : Pur h r) (h1 : 0 < many) (h2 : many < 1073741824) :
    Ok (K51.f__lwp_draw [.obj r, .int many]) h fun d h' => ∃ k : Int, d = .int k ∧ 0 ≤ k ∧ k < many ∧ (∃ o, h' = h.set r o) ∧ Pur h' r := by
  obtain ⟨g, s, e, g0, s0, s1⟩ := R.ex
  have l := lstAt_lt e
  have q2 : s.natAbs.log2 < 32 := log2_lt (by omega) (by omega)
  have q3 : Nat.log2 48271 = 15 := by decide
  rw [K51.f__lwp_draw, ok_fnM]
  simp only [K51.m__lwp_draw]
  by_cases hg : 0 < g
  · simp [hg, e, atI, ixN, lstAt_set, l, h1, h2]
    exact ⟨Int.emod_nonneg _ (by omega), Int.emod_lt_of_pos _ h1, ⟨_, rfl⟩, _, s, lstAt_set l, Int.ediv_nonneg (by omega) (by omega), s0, s1⟩
  · simp [hg, e, atI, ixN, lstAt_set, l, h1, h2, q3]
    refine ⟨by omega, Int.emod_nonneg _ (by omega), Int.emod_lt_of_pos _ h1, ⟨_, rfl⟩, g, _, lstAt_set l, g0, Int.emod_nonneg _ (by decide), Int.emod_lt_of_pos _ (by decide)⟩
theorem cutD_len {xs : List Dt} {lo hi : Option Int} : (cutD xs lo hi).length ≤ xs.length := by
  unfold cutD
  simp only [List.length_take, List.length_drop]
  omega
def purM : En → Mm Fl := (seq (sto 3 (op2 opAdd (con (.int 619)) (var 1)))
    (seq (forM (itL (op2 opAdd (slc slD (var 0) opN (opS (con (.int 5)))) (lstE (argC (var 2) argN)))) (.nm 4) (sto 3 (op2 opMod (bi bInt (argC (op2 opAdd (op2 opAdd (op2 opMul (var 3) (con (.int 69621))) (op2 opMod (bi bInt (argC (var 4) argN)) (con (.int 2147483647)))) (con (.int 101))) argN)) (con (.int 2147483647)))))
    (ret (lstO (argC (ifE (tst (op2 opGe (bi bAbs (argC (var 2) argN)) (op2 opPow (con (.int 10)) (con (.int 18))))) (bi bAbs (argC (var 2) argN)) (con (.int 0))) (argC (var 3) argN))))))
theorem purM_ok {h : Ah} {ns : List Int} {t c : Int} (hn : ns.length ≤ 63) (h0 : 0 ≤ t) (h1 : t < 1000) : Ok (purM [some (.wl (ns.map Dt.int)), some (.int t), some (.int c), none, none]) h fun f h' => f = .rt (.obj h.length) ∧ ∃ o, h' = h ++ [o] ∧ Pur h' h.length := by
  unfold purM
  have hW : ∀ d ∈ cutD (ns.map Dt.int) none (some 5), ∃ i : Int, d = .int i := fun d hd => by
    obtain ⟨i, _, rfl⟩ := List.mem_map.mp (cutD_mem hd)
    exact ⟨i, rfl⟩
  have hc := cutD_len (xs := ns.map Dt.int) (lo := none) (hi := some 5)
  rw [List.length_map] at hc
  generalize hWW : ns.map Dt.int = W at *
  rw [ok_seq, ok_sto, ok_op2, ok_con, ok_pick (i := 1) (d := .int t) rfl, ok_addI]
  show Ok (seq _ _ [some (.wl W), some (.int t), some (.int c), some (.int (619 + t)), none]) _ _
  rw [ok_seq, ok_forM, ok_itL, ok_op2, ok_slc, ok_pick (i := 0) (d := .wl W) rfl, ok_opN, ok_opS, ok_con, ok_isI, ok_slWl, ok_lstE, ok_argC, ok_pick (i := 2) (d := .int c) rfl, ok_argN]
  refine ⟨szl (by simp), ?_⟩
  rw [ok_addLv]
  refine ⟨szl (by simp; omega), ?_⟩
  rw [ok_itemsLv]
  refine forL_ind (fun ds env h' => h' = h ∧ (∀ d ∈ ds, ∃ i : Int, d = .int i) ∧ ∃ (s : Int) (x : Option Dt), 0 ≤ s ∧ s < 2147483647 ∧ env = [some (.wl W), some (.int t), some (.int c), some (.int s), x]) ?_ ?_ _ _ _ ⟨rfl, fun d m => ?_, 619 + t, none, by omega, by omega, rfl⟩
  · rintro x xs env h' ⟨rfl, hm, s, y, s0, s1, rfl⟩
    obtain ⟨i, rfl⟩ := hm x (by simp)
    have q2 : s.natAbs.log2 < 32 := log2_lt (by omega) (by omega)
    have l2 : Nat.log2 69621 = 16 := by decide
    have m0 := Int.emod_nonneg (s * 69621 + i % 2147483647 + 101) (show (2147483647 : Int) ≠ 0 by decide)
    have m1 := Int.emod_lt_of_pos (s * 69621 + i % 2147483647 + 101) (show (0 : Int) < 2147483647 by decide)
    refine ⟨_, bd_nm, ?_⟩
    simp [l2]
    exact ⟨by omega, fun d m => hm d (by simp [m]), m0, m1⟩
  · rintro env h' ⟨rfl, -, s, y, s0, s1, rfl⟩
    dsimp only
    have len2 : ∀ g : Int, 0 ≤ g → Fl.rt (.obj h'.length) = .rt (.obj h'.length) ∧ ∃ o, h' ++ [Ao.lst [.int g, .int s]] = h' ++ [o] ∧ Pur (h' ++ [.lst [.int g, .int s]]) h'.length := fun g g0 => ⟨rfl, _, rfl, g, s, lstAt_new, g0, s0, s1⟩
    rw [ok_ret, ok_lstO, ok_argC, ok_ifE, ok_tst, ok_op2, ok_bi, ok_argC, ok_pick (i := 2) (d := .int c) rfl, ok_argN, ok_absI, ok_op2, ok_con, ok_con, ok_powI]
    refine ⟨by decide +kernel, ?_⟩
    generalize hg : (if c < 0 then -c else c) = g
    have g0 : 0 ≤ g := by rw [← hg]; split <;> omega
    rw [ok_geI, ok_isB]
    generalize decide (10 ^ Int.toNat 18 ≤ g) = b
    cases b
    · rw [if_neg (by simp), ok_con, ok_argC, ok_pick (i := 3) (d := .int s) rfl, ok_argN]
      exact ⟨szl (by simp), len2 0 (by omega)⟩
    · rw [if_pos rfl, ok_bi, ok_argC, ok_pick (i := 2) (d := .int c) rfl, ok_argN, ok_absI, hg, ok_argC, ok_pick (i := 3) (d := .int s) rfl, ok_argN]
      exact ⟨szl (by simp), len2 g g0⟩
  · rcases List.mem_append.mp m with m | m
    · exact hW d m
    · exact ⟨c, List.mem_singleton.mp m⟩
theorem purse_ok {h : Ah} {ns : List Int} {t : Int} (hn : ns.length ≤ 63) (h0 : 0 ≤ t) (h1 : t < 1000) : Ok (K51.f__lwp_purse [.wl (ns.map Dt.int), .int t]) h fun d h' => d = .obj h.length ∧ ∃ o, h' = h ++ [o] ∧ Pur h' h.length := by
  rw [K51.f__lwp_purse, ok_fnM]
  simp only [K51.m__lwp_purse, List.map_cons, List.map_nil, List.length_cons, List.length_nil, List.replicate, List.cons_append, List.nil_append]
  have main : ∀ c : Int, Ok (purM [some (.wl (ns.map Dt.int)), some (.int t), some (.int c), none, none]) h fun f h1 => match f with | .rt d => d = .obj h.length ∧ ∃ o, h1 = h ++ [o] ∧ Pur h1 h.length | .nx _ => Dt.non = .obj h.length ∧ ∃ o, h1 = h ++ [o] ∧ Pur h1 h.length | _ => False := fun c => (purM_ok hn h0 h1).mono fun f h2 ⟨e, q⟩ => by
    subst e
    exact ⟨rfl, q⟩
  unfold purM at main
  have at_ : t < ns.length → atI (ns.map Dt.int) t = some (.int (ns.getD t.toNat 0)) := fun c => by
    have := atI_nat (xs := ns.map Dt.int) (i := t.toNat) (by simp; omega)
    rw [show ((t.toNat : Nat) : Int) = t by omega] at this
    rw [this]
    simp [show t.toNat < ns.length by omega]
  have hl : (ns.map Dt.int).length = ns.length := by simp
  generalize ns.map Dt.int = W at *
  have q1 : (t + 5).natAbs.log2 < 32 := log2_lt (by omega) (by omega)
  have q2 : Nat.log2 6211 = 12 := by decide
  rw [ok_seq, ok_sto, ok_ifE, ok_tst, ok_op2, ok_pick (i := 1) (d := .int t) rfl, ok_bi, ok_argC, ok_pick (i := 0) (d := .wl W) rfl, ok_argN, ok_lenWl, ok_ltI, ok_isB, hl]
  by_cases c : t < ns.length
  · rw [if_pos (by simpa using c), ok_op2, ok_pick (i := 0) (d := .wl W) rfl, ok_pick (i := 1) (d := .int t) rfl, ok_ixWl]
    exact ⟨_, at_ c, main _⟩
  · rw [if_neg (by simpa using c), ok_op2, ok_con, ok_op2, ok_pick (i := 1) (d := .int t) rfl, ok_con, ok_addI, ok_mulI]
    exact ⟨by simp [q2]; omega, main _⟩
end Mo
set_option Elab.async false
set_option linter.all false
set_option maxRecDepth 100000
set_option maxHeartbeats 4000000
namespace Mo
open PySem L2 TL
def lt1 (c : Nat) : Dt := .str (Tx [c])
def Ls (W : List Nat) : List Dt := W.map lt1
theorem ls_len (W : List Nat) : (Ls W).length = W.length := by simp [Ls]
theorem atI_map {α β : Type} (f : α → β) (xs : List α) (i : Int) : atI (xs.map f) i = (atI xs i).map f := by
  unfold atI
  rw [List.length_map]
  cases ixN xs.length i with
  | none => rfl
  | some k => simp
theorem at_ls {W : List Nat} {i : Nat} (h : i < W.length) : atI (Ls W) (i : Int) = some (lt1 (cyc W i)) := by
  rw [Ls, atI_map, at_cyc h]
  rfl
theorem at_lsp {W : List Nat} {i : Nat} (h : i < W.length) : atI (Ls W) ((i : Int) - 1) = some (lt1 (cyc W (i + W.length - 1))) := by
  rw [Ls, atI_map, at_prev h]
  rfl
theorem ok_px {h : Ah} {Q : Dt → Ah → Prop} {p : Pt} : Ok (ixM (ptD p) (.int 0)) h Q ↔ Q (.int p.1) h := by
  unfold ptD
  rw [ok_ixTup]
  exact ⟨fun ⟨d, e, q⟩ => by cases e; exact q, fun q => ⟨_, rfl, q⟩⟩
theorem ok_py {h : Ah} {Q : Dt → Ah → Prop} {p : Pt} : Ok (ixM (ptD p) (.int 1)) h Q ↔ Q (.int p.2) h := by
  unfold ptD
  rw [ok_ixTup]
  exact ⟨fun ⟨d, e, q⟩ => by cases e; exact q, fun q => ⟨_, rfl, q⟩⟩
theorem ok_ixK {h : Ah} {Q : Dt → Ah → Prop} {d k y : Dt} (e : getR h d k = some (some y)) : Ok (ixD d k) h Q ↔ Q y h := by
  unfold Ok ixD
  rw [e]
theorem shift_ok {p : Pt} {c : Nat} (hc : Ltr c) : Gv (K51.f__lwp_shift [ptD p, lt1 c]) (ptD (p.1 + (dx c).1, p.2 + (dx c).2)) := gv_of fun h => by
  have s2 : (0 + 1 + 1 : Nat) ≤ sizeLine := szl (by simp)
  rw [K51.f__lwp_shift, ok_fnM]
  simp only [K51.m__lwp_shift]
  rw [ok_ret, ok_op2]
  show Ok (newO (.dk [] []) >>= fun n => pairsM _ _ >>= fun ps => finD n ps) h _
  simp only [ok_bind, ok_newO, ok_pairs, ok_pairs0, ok_con, ok_tupE, ok_argC, ok_argN, ok_op2, ok_var, List.map_cons, List.map_nil, List.length_cons, List.length_nil, List.cons_append, List.nil_append, List.getElem?_cons_zero, List.getElem?_cons_succ, Option.some.injEq, exists_eq_left', ok_px, ok_py, ok_addI, ok_subI, s2, true_and, lit_e, lit_n, lit_w, lit_s]
  rw [ok_finD (ks := [.inr (Tx [101]), .inr (Tx [110]), .inr (Tx [119]), .inr (Tx [115])]) rfl (by decide) (by simp)]
  simp only [List.map_cons, List.map_nil]
  have e : getR (h ++ [Ao.dead]) (.dk [.inr (Tx [101]), .inr (Tx [110]), .inr (Tx [119]), .inr (Tx [115])] [.tup [.int (p.1 + 1), .int p.2], .tup [.int p.1, .int (p.2 + 1)], .tup [.int (p.1 - 1), .int p.2], .tup [.int p.1, .int (p.2 - 1)]]) (lt1 c) = some (some (ptD (p.1 + (dx c).1, p.2 + (dx c).2))) := by
    have g : ∀ (y : Dt), y = ptD (p.1 + (dx c).1, p.2 + (dx c).2) → some (some y) = some (some (ptD (p.1 + (dx c).1, p.2 + (dx c).2))) := fun y e => by rw [e]
    rcases hc with rfl | rfl | rfl | rfl
    · exact g (.tup [.int (p.1 + 1), .int p.2]) (by simp [dx, ptD])
    · exact g (.tup [.int p.1, .int (p.2 + 1)]) (by simp [dx, ptD])
    · exact g (.tup [.int (p.1 - 1), .int p.2]) (by simp [dx, ptD, Int.sub_eq_add_neg])
    · exact g (.tup [.int p.1, .int (p.2 - 1)]) (by simp [dx, ptD, Int.sub_eq_add_neg])
  rw [ok_ixK e]
  exact ⟨rfl, _, rfl⟩
theorem lspots_ok {W : List Nat} (hl : Ltrs W) (hn : W.length ≤ 900) (h : Ah) : Ok (K51.f__lwp_spots [.lv (Ls W)]) h fun d h' => d = .obj h.length ∧ ∃ j, h' = h ++ .lst (ptsD W W.length) :: j := by
  rw [K51.f__lwp_spots, ok_fnM]
  simp only [K51.m__lwp_spots, List.map_cons, List.map_nil, List.length_cons, List.length_nil, List.replicate, List.cons_append, List.nil_append]
  rw [ok_seq, ok_sto, ok_lstO, ok_argC, ok_tupE, ok_argC, ok_con, ok_argC, ok_con, ok_argN, ok_argN]
  refine ⟨szl (by simp), szl (by simp), ?_⟩
  show Ok (seq _ _ [some (.lv (Ls W)), some (.obj h.length), none]) (h ++ [.lst [ptD (0, 0)]]) _
  rw [ok_seq, ok_forM, ok_itL, ok_pick (i := 0) (d := .lv (Ls W)) rfl, ok_itemsLv]
  refine forL_ind (fun ds env h' => ∃ (m : Nat) (j : Ah) (y : Option Dt), m ≤ W.length ∧ ds = (W.drop m).map lt1 ∧ h' = h ++ .lst (ptsD W m) :: j ∧ env = [some (.lv (Ls W)), some (.obj h.length), y]) ?_ ?_ _ _ _ ⟨0, [], none, Nat.zero_le _, by simp [Ls], by simp [ptsD, ptD, pl], rfl⟩
  · rintro x xs env h' ⟨m, j, y, hm, e, rfl, rfl⟩
    have c : m < W.length := by
      rcases Nat.lt_or_ge m W.length with c | c
      · exact c
      · rw [List.drop_eq_nil_of_le c] at e; simp at e
    rw [List.drop_eq_getElem_cons c, List.map_cons] at e
    obtain ⟨rfl, rfl⟩ := List.cons.inj e
    have lt := hl _ (List.getElem_mem c)
    have step : pl (cyc W) (m + 1) = ((pl (cyc W) m).1 + (dx W[m]).1, (pl (cyc W) m).2 + (dx W[m]).2) := by
      simp only [pl]
      rw [cyc_lt c]
    refine ⟨[some (.lv (Ls W)), some (.obj h.length), some (lt1 W[m])], by simp [Pat.bd], ?_⟩
    rw [ok_drp, ok_bm, ok_pick (i := 1) (d := .obj h.length) rfl, ok_argC, ok_callM, ok_argC, ok_op2, ok_pick (i := 1) (d := .obj h.length) rfl, ok_op1, ok_con, ok_negI, ok_ixO, lstAt_new]
    refine ⟨isL_obj lstAt_new, _, ptsD_last W m, ?_⟩
    rw [ok_argC, ok_pick (i := 2) (d := lt1 W[m]) rfl, ok_argN]
    refine ⟨rfl, gv_fn (shift_ok lt) fun jj => ?_⟩
    rw [ok_argN, ok_appO, show h ++ .lst (ptsD W m) :: j ++ jj = h ++ .lst (ptsD W m) :: (j ++ jj) by simp]
    refine ⟨_, lstAt_new, ?_, m + 1, j ++ jj, _, c, rfl, ?_, rfl⟩
    · rw [ptsD_len]
      have := szl (show m + 2 ≤ 1000 by omega)
      omega
    · rw [set_new, ← ptsD_succ, step]
  · rintro env h' ⟨m, j, y, hm, e, rfl, rfl⟩
    have : m = W.length := by
      rcases Nat.lt_or_ge m W.length with c | c
      · rw [List.drop_eq_getElem_cons c] at e; simp at e; omega
      · omega
    subst this
    dsimp only
    rw [ok_ret, ok_pick (i := 1) (d := .obj h.length) rfl]
    exact ⟨rfl, j, rfl⟩
theorem in_ew {h : Ah} {Q : Dt → Ah → Prop} {c : Nat} (hc : Ltr c) : Ok (opIn (lt1 c) (.lv [.str (Tx [101]), .str (Tx [119])])) h Q ↔ Q (.bl (lv c)) h := by
  have e : inR h (lt1 c) (.lv [.str (Tx [101]), .str (Tx [119])]) = some (lv c) := by rcases hc with rfl | rfl | rfl | rfl <;> rfl
  unfold Ok opIn
  rw [e]
theorem level1_ok {c : Nat} (hc : Ltr c) : Gv (K51.f__lwp_level [lt1 c]) (.bl (lv c)) := gv_of fun h => by
  rw [K51.f__lwp_level, ok_fnM]
  simp only [K51.m__lwp_level, List.map_cons, List.map_nil, List.length_cons, List.length_nil, List.replicate, List.cons_append, List.nil_append, lit_e, lit_w]
  rw [ok_ret, ok_op2, ok_pick (i := 0) (d := lt1 c) rfl, ok_lstE, ok_argC, ok_con, ok_argC, ok_con, ok_argN]
  refine ⟨szl (by simp), ?_⟩
  rw [in_ew hc]
  exact ⟨rfl, [], by simp⟩
def tB (W : List Nat) (k : Nat) : Bool := match erl W k with
  | [] => true
  | [u] => stB W u && stB W k && (lv (cyc W u) != lv (cyc W k))
  | _ => false
def touchD (W : List Nat) : Dt := match (List.range W.length).find? (fun k => !tB W k) with
  | some k => ptD (pl (cyc W) k)
  | none => .non
theorem touch_line {W : List Nat} (h0 : W ≠ []) (hl : Ltrs W) (e : pl (cyc W) W.length = (0, 0)) (h : isNon (touchD W) = true) : ∀ i j, i < j → j < W.length → pl (cyc W) i = pl (cyc W) j → stB W i = true ∧ stB W j = true ∧ lv (cyc W i) ≠ lv (cyc W j) := by
  intro i j hij hj he
  have all : ∀ k, k < W.length → tB W k = true := fun k hk => by
    unfold touchD at h
    cases q : (List.range W.length).find? (fun k => !tB W k) with
    | none =>
      have := List.find?_eq_none.mp q k (List.mem_range.mpr hk)
      simpa using this
    | some u => rw [q] at h; cases h
  have t := all j hj
  have mi : i ∈ erl W j := List.mem_filter.mpr ⟨List.mem_range.mpr hij, decide_eq_true he⟩
  unfold tB at t
  match q : erl W j with
  | [] => rw [q] at mi; simp at mi
  | [u] =>
    rw [q] at mi t
    have : i = u := by simpa using mi
    subst this
    simp only [Bool.and_eq_true, bne_iff_ne] at t
    exact ⟨t.1.1, t.1.2, t.2⟩
  | u :: v :: r => rw [q] at t; simp at t
end Mo
set_option Elab.async false
set_option linter.all false
set_option maxRecDepth 100000
set_option maxHeartbeats 4000000
namespace Mo
open PySem L2 TL
theorem line_of {W : List Nat} (h0 : W ≠ []) (hl : Ltrs W) (e : pl (cyc W) W.length = (0, 0)) (half : ∀ i j, i < j → j < W.length → pl (cyc W) i = pl (cyc W) j → stB W i = true ∧ stB W j = true ∧ lv (cyc W i) ≠ lv (cyc W j)) : Line W := by
  have p : 0 < W.length := List.length_pos_iff.mpr h0
  refine ⟨p, cyc_per W, fun i => hl _ (cyc_mem p i), e, ?_⟩
  intro i j hne he
  have pm := pl_mod (cyc_per W) e
  have hi := Nat.mod_lt i p
  have hj := Nat.mod_lt j p
  have shift : ∀ k, cyc W (k % W.length + W.length - 1) = cyc W (k + W.length - 1) := fun k => by
    have := Nat.mod_add_div k W.length
    conv => rhs; rw [← this]
    rw [show k % W.length + W.length * (k / W.length) + W.length - 1 = k % W.length + W.length - 1 + W.length * (k / W.length) by omega]
    exact (per_mul (cyc_per W) _ _).symm
  have st : ∀ k, stB W (k % W.length) = true → cyc W (k + W.length - 1) = cyc W k := fun k hk => by
    have := of_decide_eq_true hk
    rw [shift, cyc_mod] at this
    exact this
  rcases Nat.lt_or_gt_of_ne hne with c | c
  · obtain ⟨x, y, z⟩ := half _ _ c hj (by rw [pm, pm]; exact he)
    rw [cyc_mod, cyc_mod] at z
    exact ⟨st i x, st j y, z⟩
  · obtain ⟨x, y, z⟩ := half _ _ c hi (by rw [pm, pm]; exact he.symm)
    rw [cyc_mod, cyc_mod] at z
    exact ⟨st i y, st j x, z.symm⟩
theorem seg_at {A R W : List Nat} {n c o : Nat} (ho : o < n) (e : W = A ++ (List.replicate n c ++ R)) : A.length + o < W.length ∧ cyc W (A.length + o) = c ∧ W.take (A.length + o) = A ++ List.replicate o c := by
  have l : A.length + o < W.length := by rw [e]; simp; omega
  refine ⟨l, ?_, ?_⟩
  · rw [cyc_lt l]
    subst e
    rw [List.getElem_append_right (by omega)]
    rw [List.getElem_append_left (by simp; omega)]
    simp
  · subst e
    rw [List.take_append, List.take_of_length_le (by omega), Nat.add_sub_cancel_left, List.take_append_of_le_length (by simp; omega), List.take_replicate, Nat.min_eq_left (by omega)]
section
variable {a b : Nat → Int} {n : Nat}
def wst (a b : Nat → Int) (j : Nat) : Nat × Nat := if j % 2 = 0 then ((if 0 < a (j / 2 + 1) - a (j / 2) then 101 else 119), (a (j / 2 + 1) - a (j / 2)).natAbs) else ((if 0 < b (j / 2 + 1) - b (j / 2) then 110 else 115), (b (j / 2 + 1) - b (j / 2)).natAbs)
def wex (a b : Nat → Int) (m : Nat) : List Nat := expand ((List.range m).map (wst a b))
theorem wst_even (k : Nat) : wst a b (2 * k) = ((if 0 < a (k + 1) - a k then 101 else 119), (a (k + 1) - a k).natAbs) := by
  unfold wst
  rw [if_pos (by omega), show 2 * k / 2 = k by omega]
theorem wst_odd (k : Nat) : wst a b (2 * k + 1) = ((if 0 < b (k + 1) - b k then 110 else 115), (b (k + 1) - b k).natAbs) := by
  unfold wst
  rw [if_neg (by omega), show (2 * k + 1) / 2 = k by omega]
theorem wst_eP {k : Nat} (p : 0 < a (k + 1) - a k) : wst a b (2 * k) = (101, (a (k + 1) - a k).natAbs) := by rw [wst_even, if_pos p]
theorem wst_eN {k : Nat} (p : ¬ 0 < a (k + 1) - a k) : wst a b (2 * k) = (119, (a (k + 1) - a k).natAbs) := by rw [wst_even, if_neg p]
theorem wst_oP {k : Nat} (p : 0 < b (k + 1) - b k) : wst a b (2 * k + 1) = (110, (b (k + 1) - b k).natAbs) := by rw [wst_odd, if_pos p]
theorem wst_oN {k : Nat} (p : ¬ 0 < b (k + 1) - b k) : wst a b (2 * k + 1) = (115, (b (k + 1) - b k).natAbs) := by rw [wst_odd, if_neg p]
theorem dx_e : dx 101 = (1, 0) := rfl
theorem dx_n : dx 110 = (0, 1) := rfl
theorem dx_w : dx 119 = (-1, 0) := rfl
theorem dx_s : dx 115 = (0, -1) := rfl
theorem wex_succ (m : Nat) : wex a b (m + 1) = wex a b m ++ List.replicate (wst a b m).2 (wst a b m).1 := by
  unfold wex expand
  rw [List.range_succ]
  simp
theorem par_cases (m : Nat) : (∃ k, m = 2 * k) ∨ ∃ k, m = 2 * k + 1 := by
  rcases Nat.mod_two_eq_zero_or_one m with h | h
  · exact .inl ⟨m / 2, by omega⟩
  · exact .inr ⟨m / 2, by omega⟩
theorem wex_sdx : ∀ m, sdx (wex a b m) = (a ((m + 1) / 2) - a 0, b (m / 2) - b 0)
  | 0 => by simp [wex, expand, sdx]
  | m + 1 => by
    rw [wex_succ, sdx_app, sdx_rep, wex_sdx m]
    rcases par_cases m with ⟨k, rfl⟩ | ⟨k, rfl⟩
    · rw [show (2 * k + 1) / 2 = k by omega, show 2 * k / 2 = k by omega, show (2 * k + 1 + 1) / 2 = k + 1 by omega]
      by_cases p : 0 < a (k + 1) - a k
      · rw [wst_eP p]; simp only [dx_e, Prod.mk.injEq]; omega
      · rw [wst_eN p]; simp only [dx_w, Prod.mk.injEq]; omega
    · rw [show (2 * k + 1) / 2 = k by omega, show (2 * k + 1 + 1) / 2 = k + 1 by omega, show (2 * k + 1 + 1 + 1) / 2 = k + 1 by omega]
      by_cases p : 0 < b (k + 1) - b k
      · rw [wst_oP p]; simp only [dx_n, Prod.mk.injEq]; omega
      · rw [wst_oN p]; simp only [dx_s, Prod.mk.injEq]; omega
theorem wex_split : ∀ m i, i < (wex a b m).length → ∃ j o R, j < m ∧ o < (wst a b j).2 ∧ i = (wex a b j).length + o ∧ wex a b m = wex a b j ++ (List.replicate (wst a b j).2 (wst a b j).1 ++ R)
  | 0, i, h => by simp [wex, expand] at h
  | m + 1, i, h => by
    by_cases c : i < (wex a b m).length
    · obtain ⟨j, o, R, h1, h2, h3, h4⟩ := wex_split m i c
      refine ⟨j, o, R ++ List.replicate (wst a b m).2 (wst a b m).1, by omega, h2, h3, ?_⟩
      rw [wex_succ, h4]
      simp
    · refine ⟨m, i - (wex a b m).length, [], by omega, ?_, by omega, by rw [wex_succ]; simp⟩
      rw [wex_succ, List.length_append, List.length_replicate] at h
      omega
theorem wex_at {m i : Nat} (hi : i < (wex a b m).length) : ∃ j o, j < m ∧ o < (wst a b j).2 ∧ i = (wex a b j).length + o ∧ cyc (wex a b m) i = (wst a b j).1 ∧ pl (cyc (wex a b m)) i = (a ((j + 1) / 2) - a 0 + o * (dx (wst a b j).1).1, b (j / 2) - b 0 + o * (dx (wst a b j).1).2) ∧ (1 ≤ o → stB (wex a b m) i = true) := by
  obtain ⟨j, o, R, h1, h2, h3, h4⟩ := wex_split m i hi
  obtain ⟨s1, s2, s3⟩ := seg_at h2 h4
  refine ⟨j, o, h1, h2, h3, by rw [h3]; exact s2, ?_, fun ho => ?_⟩
  · rw [pl_sdx _ i (by omega), h3, s3, sdx_app, wex_sdx, sdx_rep]
  · obtain ⟨t1, t2, t3⟩ := seg_at (o := o - 1) (by omega) h4
    unfold stB
    rw [h3, show (wex a b j).length + o + (wex a b m).length - 1 = (wex a b j).length + (o - 1) + (wex a b m).length by omega, cyc_per, t2, s2]
    simp
theorem wst_ltr (j : Nat) : Ltr (wst a b j).1 := by
  rcases par_cases j with ⟨k, rfl⟩ | ⟨k, rfl⟩
  · rw [wst_even]; dsimp only; split <;> simp [Ltr]
  · rw [wst_odd]; dsimp only; split <;> simp [Ltr]
theorem wex_ltrs (m : Nat) : Ltrs (wex a b m) := fun c hc => by
  unfold wex expand at hc
  obtain ⟨l, h1, h2⟩ := List.mem_flatten.mp hc
  obtain ⟨q, h3, rfl⟩ := List.mem_map.mp h1
  obtain ⟨j, h4, rfl⟩ := List.mem_map.mp h3
  rw [(List.mem_replicate.mp h2).2]
  exact wst_ltr j
theorem woven_line (h2 : 2 ≤ n) (ai : ∀ i j, i < n → j < n → a i = a j → i = j) (an : a n = a 0) (bi : ∀ i j, i < n → j < n → b i = b j → i = j) (bn : b n = b 0) (hne : wex a b (2 * n) ≠ []) : Line (wex a b (2 * n)) := by
  have hl := wex_ltrs (a := a) (b := b) (2 * n)
  have ve : pl (cyc (wex a b (2 * n))) (wex a b (2 * n)).length = (0, 0) := by
    rw [pl_sdx _ _ (Nat.le_refl _), List.take_length, wex_sdx, show (2 * n + 1) / 2 = n by omega, show 2 * n / 2 = n by omega, an, bn]
    simp
  have ai' : ∀ k m, k < n → m < n → a k = a (m + 1) → b k = b (m + 1) := fun k m hk hm e => by
    by_cases c : m + 1 < n
    · rw [ai k (m + 1) hk c e]
    · have : m + 1 = n := by omega
      rw [this] at e ⊢
      rw [an] at e
      rw [ai k 0 hk (by omega) e, bn]
  -- one level, one upright
  have mix : ∀ k o m o' : Nat, k < n → m < n → o < (wst a b (2 * k)).2 → o' < (wst a b (2 * m + 1)).2 → a k - a 0 + o * (dx (wst a b (2 * k)).1).1 = a (m + 1) - a 0 + o' * (dx (wst a b (2 * m + 1)).1).1 → b k - b 0 + o * (dx (wst a b (2 * k)).1).2 = b m - b 0 + o' * (dx (wst a b (2 * m + 1)).1).2 → 1 ≤ o ∧ 1 ≤ o' := by
    intro k o m o' hk hm ho ho' e1 e2
    have key1 := ai' k m hk hm
    have key2 := bi k m hk hm
    refine ⟨?_, ?_⟩
    · refine Nat.one_le_iff_ne_zero.mpr fun z => ?_
      subst z
      by_cases q : 0 < b (m + 1) - b m
      · by_cases p : 0 < a (k + 1) - a k
        · rw [wst_eP p] at ho e1 e2
          rw [wst_oP q] at ho' e1 e2
          simp only [dx_e, dx_n] at ho ho' e1 e2
          have := key1 (by omega)
          omega
        · rw [wst_eN p] at ho e1 e2
          rw [wst_oP q] at ho' e1 e2
          simp only [dx_w, dx_n] at ho ho' e1 e2
          have := key1 (by omega)
          omega
      · by_cases p : 0 < a (k + 1) - a k
        · rw [wst_eP p] at ho e1 e2
          rw [wst_oN q] at ho' e1 e2
          simp only [dx_e, dx_s] at ho ho' e1 e2
          have := key1 (by omega)
          omega
        · rw [wst_eN p] at ho e1 e2
          rw [wst_oN q] at ho' e1 e2
          simp only [dx_w, dx_s] at ho ho' e1 e2
          have := key1 (by omega)
          omega
    · refine Nat.one_le_iff_ne_zero.mpr fun z => ?_
      subst z
      by_cases q : 0 < b (m + 1) - b m
      · by_cases p : 0 < a (k + 1) - a k
        · rw [wst_eP p] at ho e1 e2
          rw [wst_oP q] at ho' e1 e2
          simp only [dx_e, dx_n] at ho ho' e1 e2
          have := key2 (by omega)
          subst this
          omega
        · rw [wst_eN p] at ho e1 e2
          rw [wst_oP q] at ho' e1 e2
          simp only [dx_w, dx_n] at ho ho' e1 e2
          have := key2 (by omega)
          subst this
          omega
      · by_cases p : 0 < a (k + 1) - a k
        · rw [wst_eP p] at ho e1 e2
          rw [wst_oN q] at ho' e1 e2
          simp only [dx_e, dx_s] at ho ho' e1 e2
          have := key2 (by omega)
          subst this
          omega
        · rw [wst_eN p] at ho e1 e2
          rw [wst_oN q] at ho' e1 e2
          simp only [dx_w, dx_s] at ho ho' e1 e2
          have := key2 (by omega)
          subst this
          omega
  have lvE : ∀ k, lv (wst a b (2 * k)).1 = true := fun k => by rw [wst_even]; dsimp only; split <;> simp [lv]
  have lvO : ∀ k, lv (wst a b (2 * k + 1)).1 = false := fun k => by rw [wst_odd]; dsimp only; split <;> simp [lv]
  refine line_of hne hl ve fun i i' hii hi' he => ?_
  obtain ⟨j, o, j1, o1, rfl, c1, p1, st1⟩ := wex_at (Nat.lt_trans hii hi')
  obtain ⟨j', o', j2, o2, rfl, c2, p2, st2⟩ := wex_at hi'
  rw [p1, p2, Prod.mk.injEq] at he
  obtain ⟨e1, e2⟩ := he
  rw [c1, c2]
  rcases par_cases j with ⟨k, rfl⟩ | ⟨k, rfl⟩
  · rw [show (2 * k + 1) / 2 = k by omega] at e1
    rw [show 2 * k / 2 = k by omega] at e2
    rcases par_cases j' with ⟨m, rfl⟩ | ⟨m, rfl⟩
    · exfalso
      rw [show (2 * m + 1) / 2 = m by omega] at e1
      rw [show 2 * m / 2 = m by omega] at e2
      have : k = m := by
        refine bi k m (by omega) (by omega) ?_
        rw [wst_even, wst_even] at e2
        have d0 : ∀ c : Prop, [Decidable c] → (dx (if c then 101 else 119)).2 = 0 := fun c _ => by split <;> simp [dx]
        simp only [d0, Int.mul_zero] at e2
        omega
      subst this
      by_cases p : 0 < a (k + 1) - a k
      · rw [wst_eP p] at e1; simp only [dx_e] at e1; omega
      · rw [wst_eN p] at e1; simp only [dx_w] at e1; omega
    · rw [show (2 * m + 1 + 1) / 2 = m + 1 by omega] at e1
      rw [show (2 * m + 1) / 2 = m by omega] at e2
      obtain ⟨x, y⟩ := mix k o m o' (by omega) (by omega) o1 o2 e1 e2
      exact ⟨st1 x, st2 y, by rw [lvE, lvO]; simp⟩
  · rw [show (2 * k + 1 + 1) / 2 = k + 1 by omega] at e1
    rw [show (2 * k + 1) / 2 = k by omega] at e2
    rcases par_cases j' with ⟨m, rfl⟩ | ⟨m, rfl⟩
    · rw [show (2 * m + 1) / 2 = m by omega] at e1
      rw [show 2 * m / 2 = m by omega] at e2
      obtain ⟨x, y⟩ := mix m o' k o (by omega) (by omega) o2 o1 e1.symm e2.symm
      exact ⟨st1 y, st2 x, by rw [lvE, lvO]; simp⟩
    · exfalso
      rw [show (2 * m + 1 + 1) / 2 = m + 1 by omega] at e1
      rw [show (2 * m + 1) / 2 = m by omega] at e2
      have d0 : ∀ c : Prop, [Decidable c] → (dx (if c then 110 else 115)).1 = 0 := fun c _ => by split <;> simp [dx]
      have : k = m := by
        rw [wst_odd, wst_odd] at e1
        simp only [d0, Int.mul_zero] at e1
        have e3 : a (k + 1) = a (m + 1) := by omega
        by_cases ck : k + 1 < n
        · by_cases cm : m + 1 < n
          · have := ai _ _ ck cm e3; omega
          · rw [show m + 1 = n by omega, an] at e3
            have := ai _ _ ck (by omega) e3
            omega
        · by_cases cm : m + 1 < n
          · rw [show k + 1 = n by omega, an] at e3
            have := ai _ _ (by omega) cm e3
            omega
          · omega
      subst this
      by_cases p : 0 < b (k + 1) - b k
      · rw [wst_oP p] at e2; simp only [dx_n] at e2; omega
      · rw [wst_oN p] at e2; simp only [dx_s] at e2; omega
theorem wex_len {N : Nat} (ab : ∀ i, i ≤ n → 0 ≤ a i ∧ a i ≤ N) (bb : ∀ i, i ≤ n → 0 ≤ b i ∧ b i ≤ N) : ∀ m, m ≤ 2 * n → (wex a b m).length ≤ m * N
  | 0, _ => by simp [wex, expand]
  | m + 1, h => by
    have ih := wex_len ab bb m (by omega)
    rw [wex_succ, List.length_append, List.length_replicate, Nat.add_mul, Nat.one_mul]
    have : (wst a b m).2 ≤ N := by
      rcases par_cases m with ⟨k, rfl⟩ | ⟨k, rfl⟩
      · rw [wst_even]
        have := ab k (by omega)
        have := ab (k + 1) (by omega)
        dsimp only
        omega
      · rw [wst_odd]
        have := bb k (by omega)
        have := bb (k + 1) (by omega)
        dsimp only
        omega
    omega
theorem wst_pos (h2 : 2 ≤ n) (ai : ∀ i j, i < n → j < n → a i = a j → i = j) (an : a n = a 0) (bi : ∀ i j, i < n → j < n → b i = b j → i = j) (bn : b n = b 0) {j : Nat} (hj : j < 2 * n) : 1 ≤ (wst a b j).2 := by
  have gen : ∀ (f : Nat → Int), (∀ i j, i < n → j < n → f i = f j → i = j) → f n = f 0 → ∀ k, k < n → f (k + 1) ≠ f k := fun f fi fn k hk e => by
    by_cases c : k + 1 < n
    · have := fi _ _ c hk e; omega
    · rw [show k + 1 = n by omega, fn] at e
      have := fi _ _ (by omega) hk e
      omega
  rcases par_cases j with ⟨k, rfl⟩ | ⟨k, rfl⟩
  · rw [wst_even]
    have := gen a ai an k (by omega)
    dsimp only
    omega
  · rw [wst_odd]
    have := gen b bi bn k (by omega)
    dsimp only
    omega
theorem wex_low (pos : ∀ j, j < 2 * n → 1 ≤ (wst a b j).2) : ∀ m, m ≤ 2 * n → m ≤ (wex a b m).length
  | 0, _ => by simp
  | m + 1, h => by
    have ih := wex_low pos m (by omega)
    have := pos m (by omega)
    rw [wex_succ, List.length_append, List.length_replicate]
    omega
theorem woven_all (h2 : 2 ≤ n) (h7 : n ≤ 7) (ai : ∀ i j, i < n → j < n → a i = a j → i = j) (an : a n = a 0) (bi : ∀ i j, i < n → j < n → b i = b j → i = j) (bn : b n = b 0) (ab : ∀ i, i ≤ n → 0 ≤ a i ∧ a i ≤ 6) (bb : ∀ i, i ≤ n → 0 ≤ b i ∧ b i ≤ 6) : Line (wex a b (2 * n)) ∧ (4 ≤ (wex a b (2 * n)).length ∧ (wex a b (2 * n)).length ≤ 84) ∧ stB (wex a b (2 * n)) 0 = false := by
  have pos := fun j hj => wst_pos (j := j) h2 ai an bi bn hj
  have lo := wex_low pos (2 * n) (Nat.le_refl _)
  have up := wex_len (N := 6) ab bb (2 * n) (Nat.le_refl _)
  have L := woven_line h2 ai an bi bn (fun z => by rw [z] at lo; simp at lo; omega)
  refine ⟨L, ⟨by omega, by omega⟩, ?_⟩
  obtain ⟨m, rfl⟩ : ∃ m, n = m + 1 := ⟨n - 1, by omega⟩
  have p0 := pos 0 (by omega)
  have pl' := pos (2 * m + 1) (by omega)
  have first : ∀ M, 1 ≤ M → ∃ R, wex a b M = wex a b 0 ++ (List.replicate (wst a b 0).2 (wst a b 0).1 ++ R) := by
    intro M
    induction M with
    | zero => intro h; omega
    | succ M ih =>
      intro _
      by_cases z : M = 0
      · subst z; exact ⟨[], by rw [wex_succ]; simp⟩
      · obtain ⟨R, e⟩ := ih (by omega)
        exact ⟨R ++ List.replicate (wst a b M).2 (wst a b M).1, by rw [wex_succ, e]; simp⟩
  obtain ⟨R, e⟩ := first (2 * (m + 1)) (by omega)
  have s0 := (seg_at (o := 0) (by omega) e).2.1
  have e0 : (wex a b 0).length = 0 := by simp [wex, expand]
  have e' : wex a b (2 * (m + 1)) = wex a b (2 * m + 1) ++ (List.replicate (wst a b (2 * m + 1)).2 (wst a b (2 * m + 1)).1 ++ []) := by
    rw [show 2 * (m + 1) = 2 * m + 1 + 1 by omega, wex_succ]; simp
  have s1 := (seg_at (o := (wst a b (2 * m + 1)).2 - 1) (by omega) e').2.1
  rw [e0, Nat.zero_add] at s0
  have ll : (wex a b (2 * (m + 1))).length = (wex a b (2 * m + 1)).length + (wst a b (2 * m + 1)).2 := by rw [e']; simp
  unfold stB
  rw [Nat.zero_add, show (wex a b (2 * (m + 1))).length - 1 = (wex a b (2 * m + 1)).length + ((wst a b (2 * m + 1)).2 - 1) by omega, s1, s0]
  refine decide_eq_false fun z => ?_
  have l1 : lv (wst a b 0).1 = true := by rw [show (0 : Nat) = 2 * 0 by rfl, wst_even]; dsimp only; split <;> simp [lv]
  have l2 : lv (wst a b (2 * m + 1)).1 = false := by rw [wst_odd]; dsimp only; split <;> simp [lv]
  rw [z, l1] at l2
  cases l2
end
end Mo
set_option Elab.async false
set_option linter.all false
set_option maxRecDepth 100000
set_option maxHeartbeats 4000000
namespace Mo
open PySem L2 TL
theorem lit_ee : (Str.ofString "ee") = Tx [101, 101] := by decide +kernel
theorem lit_ww : (Str.ofString "ww") = Tx [119, 119] := by decide +kernel
theorem lit_nn : (Str.ofString "nn") = Tx [110, 110] := by decide +kernel
theorem lit_ss : (Str.ofString "ss") = Tx [115, 115] := by decide +kernel
theorem ok_eqPt {h : Ah} {Q : Dt → Ah → Prop} {p q : Pt} : Ok (opEq (ptD p) (ptD q)) h Q ↔ Q (.bl (decide (p = q))) h := by
  unfold Ok opEq
  rw [eq_pt]
theorem enum_sp (W : List Nat) : enumD 0 (spD W) = (List.range W.length).map fun i => .tup [.int (i : Nat), ptD (pl (cyc W) i)] := by
  rw [← cut_sp, cut_last]
theorem not_dbl {h : Ah} {Q : Dt → Ah → Prop} {a b : Nat} (ha : Ltr a) (hb : Ltr b) : Ok (opNotIn (.str (Tx [a, b])) (.lv [.str (Tx [101, 101]), .str (Tx [119, 119]), .str (Tx [110, 110]), .str (Tx [115, 115])])) h Q ↔ Q (.bl (!decide (a = b))) h := by
  have e : inR h (.str (Tx [a, b])) (.lv [.str (Tx [101, 101]), .str (Tx [119, 119]), .str (Tx [110, 110]), .str (Tx [115, 115])]) = some (decide (a = b)) := by
    rcases ha with rfl | rfl | rfl | rfl <;> rcases hb with rfl | rfl | rfl | rfl <;> rfl
  unfold Ok opNotIn
  rw [e]
def touchF (W : List Nat) (l : List Nat) : Dt := match l.find? (fun k => !tB W k) with
  | some k => ptD (pl (cyc W) k)
  | none => .non
theorem touchF_cons {W : List Nat} {k : Nat} {l : List Nat} : touchF W (k :: l) = if tB W k then touchF W l else ptD (pl (cyc W) k) := by
  unfold touchF
  rw [List.find?_cons]
  cases tB W k <;> simp
theorem ltouch_ok {W : List Nat} (hl : Ltrs W) (hn : W.length ≤ 900) : Gv (K51.f__lwp_touch [.lv (Ls W)]) (touchD W) := gv_of fun h => by
  rw [K51.f__lwp_touch, ok_fnM]
  simp only [K51.m__lwp_touch, List.map_cons, List.map_nil, List.length_cons, List.length_nil, List.replicate, List.cons_append, List.nil_append, lit_ee, lit_ww, lit_nn, lit_ss]
  rw [ok_seq, ok_sto, ok_slc, ok_callM, ok_argC, ok_pick (i := 0) (d := .lv (Ls W)) rfl, ok_argN]
  refine ⟨rfl, (lspots_ok hl hn h).mono fun d h1 ⟨e, j, e1⟩ => ?_⟩
  subst e e1
  rw [ok_opN, ok_opS, ok_op1, ok_con, ok_negI, ok_isI, ok_slO lstAt_new, cut_sp]
  show Ok (seq _ _ [some (.lv (Ls W)), some (.lv (spD W)), none, none, none, none, none]) _ _
  rw [ok_seq, ok_forM, ok_itEL, ok_argC, ok_pick (i := 1) (d := .lv (spD W)) rfl, ok_argN]
  refine ⟨_, rfl, ?_⟩
  rw [ok_itemsLv, enum_sp]
  have spA : ∀ i, i < W.length → atI (spD W) (i : Int) = some (ptD (pl (cyc W) i)) := fun i hi => sp_at hi
  have lsA : ∀ i, i < W.length → atI (Ls W) (i : Int) = some (lt1 (cyc W i)) := fun i hi => at_ls hi
  have lsP : ∀ i : Nat, i < W.length → atI (Ls W) ((i : Int) - 1) = some (lt1 (cyc W (i + W.length - 1))) := fun i hi => at_lsp hi
  generalize spD W = SP at *
  generalize Ls W = LW at *
  refine forL_ind (fun ds env h' => ∃ (m : Nat) (k : Ah) (y2 y3 y4 y5 y6 : Option Dt), m ≤ W.length ∧ ds = ((List.range W.length).drop m).map (fun i => .tup [.int (i : Nat), ptD (pl (cyc W) i)]) ∧ h' = h ++ k ∧ touchD W = touchF W ((List.range W.length).drop m) ∧ env = [some (.lv LW), some (.lv SP), y2, y3, y4, y5, y6]) ?_ ?_ _ _ _ ⟨0, _, none, none, none, none, none, Nat.zero_le _, by simp, rfl, rfl, rfl⟩
  · rintro x xs env h' ⟨m, k, y2, y3, y4, y5, y6, hm, e, rfl, ht, rfl⟩
    have c : m < W.length := by
      rcases Nat.lt_or_ge m W.length with c | c
      · exact c
      · rw [List.drop_eq_nil_of_le (by simpa using c)] at e; simp at e
    rw [range_drop c, List.map_cons] at e
    obtain ⟨rfl, rfl⟩ := List.cons.inj e
    rw [range_drop c, touchF_cons] at ht
    have le : (erl W m).length ≤ m := by
      have := List.length_filter_le (fun i => decide (pl (cyc W) i = pl (cyc W) m)) (List.range m)
      simpa [erl] using this
    have me : ∀ i ∈ erl W m, i < W.length := fun i hi => by
      have := List.mem_range.mp (List.mem_filter.mp hi).1
      omega
    have lm := hl _ (cyc_mem (by omega) m)
    have lmp := hl _ (cyc_mem (by omega) (m + W.length - 1))
    refine ⟨[some (.lv LW), some (.lv SP), some (.int (m : Nat)), some (ptD (pl (cyc W) m)), y4, y5, y6], by simp [Pat.bd, Pat.bds], ?_⟩
    have bad : ∀ (env : En) (kk : Ah) (P : Fl → Ah → Prop), tB W m = false → (P (.rt (touchD W)) (h ++ kk)) → env[3]? = some (some (ptD (pl (cyc W) m))) → Ok (ret (var 3) env) (h ++ kk) P := fun env kk P tb p e3 => by
      rw [ok_ret, ok_pick e3]
      rw [if_neg (by simp [tb])] at ht
      rw [← ht]
      exact p
    have hc : ∀ E : En, E = [some (.lv LW), some (.lv SP), some (.int (m : Nat)), some (ptD (pl (cyc W) m)), y4, y5, y6] → Ok (lcM (itR1 (argC (var 2) argN)) (.nm 5) (tst (op2 opEq (op2 ixM (var 1) (var 5)) (var 3))) (var 5) [5] E) (h ++ k) fun d h1 => d = Vl (erl W m) ∧ ∃ jj, h1 = h ++ k ++ jj := by
      intro E hE
      have e2 : E[2]? = some (some (.int (m : Nat))) := by rw [hE]; rfl
      have w1 : ∀ d, ((wipeE E [5]).set 5 d)[1]? = some (some (.lv SP)) := fun d => by rw [hE]; rfl
      have w3 : ∀ d, ((wipeE E [5]).set 5 d)[3]? = some (some (ptD (pl (cyc W) m))) := fun d => by rw [hE]; rfl
      have w5 : ∀ d, ((wipeE E [5]).set 5 d)[5]? = some d := fun d => by rw [hE]; rfl
      clear hE
      refine ok_lcM (List.range m) (fun i => .int ((i : Nat) : Int)) (fun i => decide (pl (cyc W) i = pl (cyc W) m)) (fun i => .int ((i : Nat) : Int)) ?_
      rw [ok_itR1, ok_argC, ok_pick e2, ok_argN]
      refine ⟨_, rfl, ⟨by omega, by omega⟩, by rw [Int.toNat_natCast, rng_eq], szl (by simp; omega), fun i hi => ?_, fun jj => ⟨rfl, jj, rfl⟩⟩
      have hi := List.mem_range.mp hi
      refine ⟨_, bd_nm, gv_of fun h => ?_, fun _ => gv_of fun h => ?_⟩
      · rw [ok_tst, ok_op2, ok_op2, ok_pick (w1 _), ok_pick (w5 _), ok_ixLv]
        refine ⟨_, spA i (by omega), ?_⟩
        rw [ok_pick (w3 _), ok_eqPt, ok_isB]
        exact ⟨rfl, [], by simp⟩
      · rw [ok_pick (w5 _)]
        exact ⟨rfl, [], by simp⟩
    rw [ok_seq, ok_sto]
    generalize hE : ([some (.lv LW), some (.lv SP), some (.int (m : Nat)), some (ptD (pl (cyc W) m)), y4, y5, y6] : En) = E
    refine (hc E hE.symm).mono fun d h1 ⟨ed, jj, eh⟩ => ?_
    · subst ed eh hE
      show Ok (seq _ _ [some (.lv LW), some (.lv SP), some (.int (m : Nat)), some (ptD (pl (cyc W) m)), some (Vl (erl W m)), y5, y6]) _ _
      rw [show h ++ k ++ jj = h ++ (k ++ jj) by simp, ok_seq, ok_ifS, ok_tst, ok_op2, ok_bi, ok_argC, ok_pick (i := 4) (d := Vl (erl W m)) rfl, ok_argN]
      show Ok (bLen [.lv ((erl W m).map fun i => .int ((i : Nat) : Int))]) _ _
      rw [ok_lenLv, ok_con, ok_gtI, ok_isB, List.length_map]
      have fin : ∀ y6 : Option Dt, tB W m = true → ∃ (m' : Nat) (k' : Ah) (z2 z3 z4 z5 z6 : Option Dt), m' ≤ W.length ∧ ((List.range W.length).drop (m + 1)).map (fun i => Dt.tup [.int (i : Nat), ptD (pl (cyc W) i)]) = ((List.range W.length).drop m').map (fun i => .tup [.int (i : Nat), ptD (pl (cyc W) i)]) ∧ h ++ (k ++ jj) = h ++ k' ∧ touchD W = touchF W ((List.range W.length).drop m') ∧ [some (.lv LW), some (.lv SP), some (.int (m : Nat)), some (ptD (pl (cyc W) m)), some (Vl (erl W m)), y5, y6] = [some (.lv LW), some (.lv SP), z2, z3, z4, z5, z6] := fun y6 tb =>
        ⟨m + 1, k ++ jj, _, _, _, _, _, c, rfl, rfl, by rw [ht, if_pos tb], rfl⟩
      match q : erl W m with
      | [] =>
        rw [q] at fin
        rw [if_neg (by simp), ok_nxt]
        dsimp only
        rw [ok_ifS, ok_tst, ok_op2, ok_bi, ok_argC, ok_pick (i := 4) (d := Vl []) rfl, ok_argN]
        show Ok (bLen [.lv []]) _ _
        rw [ok_lenLv, ok_con, ok_eqI, ok_isB, if_neg (by simp), ok_nxt]
        exact fin y6 (by simp [tB, q])
      | [u] =>
        rw [q] at fin
        have hu := me u (by rw [q]; simp)
        have lu := hl _ (cyc_mem (by omega) u)
        have lup := hl _ (cyc_mem (by omega) (u + W.length - 1))
        have tb : tB W m = (stB W u && stB W m && (lv (cyc W u) != lv (cyc W m))) := by simp [tB, q]
        have v0 : atI ([u].map fun i => Dt.int ((i : Nat) : Int)) 0 = some (.int (u : Nat)) := rfl
        rw [if_neg (by simp), ok_nxt]
        dsimp only
        rw [ok_ifS, ok_tst, ok_op2, ok_bi, ok_argC, ok_pick (i := 4) (d := Vl [u]) rfl, ok_argN]
        show Ok (bLen [.lv ([u].map fun i => .int ((i : Nat) : Int))]) _ _
        rw [ok_lenLv, ok_con, ok_eqI, ok_isB, if_pos (by simp), ok_seq, ok_sto, ok_lstE, ok_argC, ok_op2, ok_op2, ok_pick (i := 0) (d := .lv LW) rfl, ok_op2, ok_pick (i := 2) (d := .int (m : Nat)) rfl, ok_con, ok_subI, ok_ixLv]
        refine ⟨_, lsP m c, ?_⟩
        rw [ok_op2, ok_pick (i := 0) (d := .lv LW) rfl, ok_pick (i := 2) (d := .int (m : Nat)) rfl, ok_ixLv]
        refine ⟨_, lsA m c, ?_⟩
        unfold lt1
        rw [ok_addS]
        refine ⟨szl (by simp), ?_⟩
        rw [ok_argC, ok_op2, ok_op2, ok_pick (i := 0) (d := .lv LW) rfl, ok_op2, ok_op2, ok_pick (i := 4) (d := Vl [u]) rfl, ok_con]
        show Ok (ixM (.lv ([u].map fun i => Dt.int ((i : Nat) : Int))) (.int 0)) _ _
        rw [ok_ixLv]
        refine ⟨_, v0, ?_⟩
        rw [ok_con, ok_subI, ok_ixLv]
        refine ⟨_, lsP u hu, ?_⟩
        rw [ok_op2, ok_pick (i := 0) (d := .lv LW) rfl, ok_op2, ok_pick (i := 4) (d := Vl [u]) rfl, ok_con]
        show Ok (ixM (.lv ([u].map fun i => Dt.int ((i : Nat) : Int))) (.int 0)) _ _
        rw [ok_ixLv]
        refine ⟨_, v0, ?_⟩
        rw [ok_ixLv]
        refine ⟨_, lsA u hu, ?_⟩
        unfold lt1
        rw [ok_addS]
        refine ⟨szl (by simp), ?_⟩
        rw [ok_argN]
        refine ⟨szl (by simp), ?_⟩
        dsimp only [List.cons_append, List.nil_append]
        generalize hp : Dt.lv [.str (Tx [cyc W (m + W.length - 1), cyc W m]), .str (Tx [cyc W (u + W.length - 1), cyc W u])] = P6
        have a0 : ∀ {h : Ah} {Q : Dt → Ah → Prop}, Ok (ixM P6 (.int 0)) h Q ↔ Q (.str (Tx [cyc W (m + W.length - 1), cyc W m])) h := fun {h Q} => by
          rw [← hp, ok_ixLv]
          exact ⟨fun ⟨d, e, q⟩ => by cases e; exact q, fun q => ⟨_, rfl, q⟩⟩
        have a1 : ∀ {h : Ah} {Q : Dt → Ah → Prop}, Ok (ixM P6 (.int 1)) h Q ↔ Q (.str (Tx [cyc W (u + W.length - 1), cyc W u])) h := fun {h Q} => by
          rw [← hp, ok_ixLv]
          exact ⟨fun ⟨d, e, q⟩ => by cases e; exact q, fun q => ⟨_, rfl, q⟩⟩
        show Ok (seq _ _ [some (.lv LW), some (.lv SP), some (.int (m : Nat)), some (ptD (pl (cyc W) m)), some (Vl [u]), y5, some P6]) _ _
        rw [ok_seq, ok_ifS, ok_orT, ok_tst, ok_op2, ok_op2, ok_pick (i := 6) (d := P6) rfl, ok_con, a0, ok_lstE, ok_argC, ok_con, ok_argC, ok_con, ok_argC, ok_con, ok_argC, ok_con, ok_argN]
        refine ⟨szl (by simp), ?_⟩
        rw [not_dbl lmp lm, ok_isB]
        by_cases sm : stB W m = true
        · rw [if_neg (by simpa [stB] using sm), ok_tst, ok_op2, ok_op2, ok_pick (i := 6) (d := P6) rfl, ok_con, a1, ok_lstE, ok_argC, ok_con, ok_argC, ok_con, ok_argC, ok_con, ok_argC, ok_con, ok_argN]
          refine ⟨szl (by simp), ?_⟩
          rw [not_dbl lup lu, ok_isB]
          by_cases su : stB W u = true
          · rw [if_neg (by simpa [stB] using su), ok_nxt]
            dsimp only
            rw [ok_ifS, ok_tst, ok_op2, ok_callM, ok_argC, ok_op2, ok_pick (i := 0) (d := .lv LW) rfl, ok_pick (i := 2) (d := .int (m : Nat)) rfl, ok_ixLv]
            refine ⟨_, lsA m c, ?_⟩
            rw [ok_argN]
            refine ⟨rfl, gv_fn (level1_ok lm) fun j1 => ?_⟩
            rw [ok_callM, ok_argC, ok_op2, ok_pick (i := 0) (d := .lv LW) rfl, ok_op2, ok_pick (i := 4) (d := Vl [u]) rfl, ok_con]
            show Ok (ixM (.lv ([u].map fun i => Dt.int ((i : Nat) : Int))) (.int 0)) _ _
            rw [ok_ixLv]
            refine ⟨_, v0, ?_⟩
            rw [ok_ixLv]
            refine ⟨_, lsA u hu, ?_⟩
            rw [ok_argN]
            refine ⟨rfl, gv_fn (level1_ok lu) fun j2 => ?_⟩
            rw [ok_eqB, ok_isB, show h ++ (k ++ jj) ++ j1 ++ j2 = h ++ (k ++ jj ++ j1 ++ j2) by simp]
            by_cases ne : lv (cyc W m) = lv (cyc W u)
            · rw [if_pos (by simpa using ne)]
              exact bad _ _ _ (by rw [tb, ne]; simp) ⟨rfl, _, rfl⟩ rfl
            · rw [if_neg (by simpa using ne), ok_nxt]
              exact ⟨m + 1, _, _, _, _, _, _, c, rfl, rfl, by rw [ht, if_pos (by rw [tb, sm, su]; simpa using fun z => ne z.symm)], rfl⟩
          · rw [if_pos (by simpa [stB] using su)]
            exact bad _ _ _ (by rw [tb]; simp at su; simp [su]) ⟨rfl, _, rfl⟩ rfl
        · rw [if_pos (by simpa [stB] using sm), if_pos rfl]
          exact bad _ _ _ (by rw [tb]; simp at sm; simp [sm]) ⟨rfl, _, rfl⟩ rfl
      | u :: v :: r =>
        rw [if_pos (by simp; omega)]
        exact bad _ _ _ (by simp [tB, q]) ⟨rfl, _, rfl⟩ rfl
  · rintro env h' ⟨m, k, y2, y3, y4, y5, y6, hm, e, rfl, ht, rfl⟩
    have : m = W.length := by
      rcases Nat.lt_or_ge m W.length with c | c
      · rw [range_drop c] at e; simp at e
      · omega
    subst this
    dsimp only
    rw [ok_ret, ok_con, ht]
    refine ⟨?_, k, rfl⟩
    rw [List.drop_eq_nil_of_le (by simp)]
    rfl
end Mo
set_option Elab.async false
set_option linter.all false
set_option maxRecDepth 100000
set_option maxHeartbeats 4000000
namespace Mo
open PySem L2 TL
theorem enum_ls (W : List Nat) : enumD 0 (Ls W) = (List.range W.length).map fun i => .tup [.int (i : Nat), lt1 (cyc W i)] := by
  rw [enum_map]
  apply List.ext_getElem
  · simp [Ls]
  · intro i h1 h2
    simp [Ls] at h1
    simp [Ls, cyc_lt h1]
theorem cutD_from {xs : List Dt} {k : Nat} : cutD xs (some (k : Int)) none = xs.drop k := cut_from
theorem cutD_to {xs : List Dt} {k : Nat} : cutD xs none (some (k : Int)) = xs.take k := cut_to
theorem ls_drop (W : List Nat) (k : Nat) : (Ls W).drop k = Ls (W.drop k) := by simp [Ls]
theorem ls_take (W : List Nat) (k : Nat) : (Ls W).take k = Ls (W.take k) := by simp [Ls]
theorem ls_app (V W : List Nat) : Ls V ++ Ls W = Ls (V ++ W) := by simp [Ls]
theorem ltext_ok {W : List Nat} (hl : Ltrs W) (hn : W.length ≤ 900) : Gv (K51.f__lwp_text [.lv (Ls W)]) (.str (Tx (textP W))) := gv_of fun h => by
  have fact : ∀ m, m ≤ W.length → (∀ q ∈ runsF (W.take m), 1 ≤ q.2 ∧ q.2 ≤ 900 ∧ Ltr q.1) ∧ (runsF (W.take m)).length ≤ 900 := fun m hm => by
    have one := runs_bound (W.take m) [] (by simp)
    have ex := expand_runs (W.take m)
    have le : (W.take m).length ≤ 900 := by simp; omega
    refine ⟨fun q mq => ⟨one q mq, ?_, ?_⟩, ?_⟩
    · have := run_le mq
      rw [ex] at this
      omega
    · have := mem_runs one mq
      rw [show expand (List.foldl addR [] (W.take m)) = W.take m from ex] at this
      exact hl _ (List.mem_of_mem_take this)
    · have := runs_le (rs := runsF (W.take m)) one
      rw [ex] at this
      omega
  rw [K51.f__lwp_text, ok_fnM]
  simp only [K51.m__lwp_text, List.map_cons, List.map_nil, List.length_cons, List.length_nil, List.replicate, List.cons_append, List.nil_append]
  rw [ok_seq, ok_par, ok_argC, ok_lstO, ok_argN]
  refine ⟨szl (by simp), ?_⟩
  rw [ok_argC, ok_con, ok_argN]
  refine ⟨_, _, rfl, ?_⟩
  show Ok (seq _ _ [some (.lv (Ls W)), some (.obj h.length), some (.int 0), none, none]) _ _
  rw [ok_seq, ok_forM, ok_itEL, ok_argC, ok_pick (i := 0) (d := .lv (Ls W)) rfl, ok_argN]
  refine ⟨_, rfl, ?_⟩
  rw [ok_itemsLv, enum_ls]
  refine forL_ind (fun ds env h' => ∃ (m : Nat) (rs : List (Nat × Nat)) (k : Nat) (y z : Option Dt), m ≤ W.length ∧ ds = ((List.range W.length).drop m).map (fun i => .tup [.int (i : Nat), lt1 (cyc W i)]) ∧ h' = h ++ [.lst (wsD rs)] ∧ (k = 0 → runsF (W.take m) = rs ∧ ∀ c : m < W.length, addR rs W[m] = rs ++ [(W[m], 1)]) ∧ (k ≠ 0 → ∃ c : m < W.length, runsF (W.take m) = rs ++ [(W[m], k)]) ∧ env = [some (.lv (Ls W)), some (.obj h.length), some (.int (k : Nat)), y, z]) ?_ ?_ _ _ _ ⟨0, [], 0, none, none, Nat.zero_le _, by simp, by simp [wsD], fun _ => ⟨by simp [runsF], fun c => by simp [addR]⟩, fun z => absurd rfl z, rfl⟩
  · rintro x xs env h' ⟨m, rs, k, y, z, hm, e, rfl, k0, k1, rfl⟩
    have c : m < W.length := by
      rcases Nat.lt_or_ge m W.length with c | c
      · exact c
      · rw [List.drop_eq_nil_of_le (by simpa using c)] at e; simp at e
    rw [range_drop c, List.map_cons] at e
    obtain ⟨rfl, rfl⟩ := List.cons.inj e
    obtain ⟨f1, f2⟩ := fact (m + 1) c
    have sn := runs_snoc W c
    have nxt_ : runsF (W.take (m + 1)) = rs ++ [(W[m], k + 1)] := by
      rw [sn]
      by_cases z : k = 0
      · obtain ⟨a, b⟩ := k0 z
        rw [a, b c, z]
      · obtain ⟨_, a⟩ := k1 z
        rw [a, add_snoc, if_pos rfl]
    rw [nxt_] at f1 f2
    have kb := (f1 (W[m], k + 1) (by simp)).2.1
    dsimp only at kb
    have at_ : lstAt (h ++ [.lst (wsD rs)]) h.length = some (wsD rs) := lstAt_new
    refine ⟨[some (.lv (Ls W)), some (.obj h.length), some (.int (k : Nat)), some (.int (m : Nat)), some (lt1 (cyc W m))], by simp [Pat.bd, Pat.bds], ?_⟩
    rw [ok_seq, ok_sto, ok_op2, ok_pick (i := 2) (d := .int (k : Nat)) rfl, ok_con, ok_addI]
    rw [show ((k : Nat) : Int) + 1 = ((k + 1 : Nat) : Int) by omega]
    show Ok (ifS _ _ _ [some (.lv (Ls W)), some (.obj h.length), some (.int ((k + 1 : Nat) : Int)), some (.int (m : Nat)), some (lt1 (cyc W m))]) _ _
    have cw : cyc W m = W[m] := cyc_lt c
    have yes_ : (m + 1 = W.length ∨ ∃ c2 : m + 1 < W.length, W[m + 1] ≠ W[m]) → Ok (seq (drp (bm isL mApp (var 1) (argC (op2 opAdd (var 4) (bi bStr (argC (var 2) argN))) argN))) (sto 2 (con (.int 0))) [some (.lv (Ls W)), some (.obj h.length), some (.int ((k + 1 : Nat) : Int)), some (.int (m : Nat)), some (lt1 (cyc W m))]) (h ++ [.lst (wsD rs)]) fun f h1 => match f with
        | .nx e => ∃ (m' : Nat) (rs : List (Nat × Nat)) (k : Nat) (y z : Option Dt), m' ≤ W.length ∧ ((List.range W.length).drop (m + 1)).map (fun i => Dt.tup [.int (i : Nat), lt1 (cyc W i)]) = ((List.range W.length).drop m').map (fun i => .tup [.int (i : Nat), lt1 (cyc W i)]) ∧ h1 = h ++ [.lst (wsD rs)] ∧ (k = 0 → runsF (W.take m') = rs ∧ ∀ c : m' < W.length, addR rs W[m'] = rs ++ [(W[m'], 1)]) ∧ (k ≠ 0 → ∃ c : m' < W.length, runsF (W.take m') = rs ++ [(W[m'], k)]) ∧ e = [some (.lv (Ls W)), some (.obj h.length), some (.int (k : Nat)), y, z]
        | .ct e => ∃ (m' : Nat) (rs : List (Nat × Nat)) (k : Nat) (y z : Option Dt), m' ≤ W.length ∧ ((List.range W.length).drop (m + 1)).map (fun i => Dt.tup [.int (i : Nat), lt1 (cyc W i)]) = ((List.range W.length).drop m').map (fun i => .tup [.int (i : Nat), lt1 (cyc W i)]) ∧ h1 = h ++ [.lst (wsD rs)] ∧ (k = 0 → runsF (W.take m') = rs ∧ ∀ c : m' < W.length, addR rs W[m'] = rs ++ [(W[m'], 1)]) ∧ (k ≠ 0 → ∃ c : m' < W.length, runsF (W.take m') = rs ++ [(W[m'], k)]) ∧ e = [some (.lv (Ls W)), some (.obj h.length), some (.int (k : Nat)), y, z]
        | .bk e => False
        | .rt d => False := fun hw => by
      unfold lt1
      rw [ok_seq, ok_drp, ok_bm, ok_pick (i := 1) (d := .obj h.length) rfl, ok_argC, ok_op2, ok_pick (i := 4) (d := .str (Tx [cyc W m])) rfl, ok_bi, ok_argC, ok_pick (i := 2) (d := .int ((k + 1 : Nat) : Int)) rfl, ok_argN, ok_strI (by omega), ok_addS]
      have nl2 : (numL (k + 1)).length ≤ 3 := numL_len (by decide) (by omega)
      refine ⟨isL_obj at_, szl (by simp; omega), ?_⟩
      rw [ok_argN, ok_appO]
      refine ⟨_, at_, ?_, ?_⟩
      · simp only [wsD, List.length_map]
        have := szl (show 901 ≤ 1000 by omega)
        simp at f2
        omega
      · dsimp only
        rw [ok_sto, ok_con]
        refine ⟨m + 1, rs ++ [(W[m], k + 1)], 0, some (.int (m : Nat)), some (.str (Tx [cyc W m])), c, rfl, ?_, fun _ => ⟨nxt_, fun c2 => ?_⟩, fun z => absurd rfl z, rfl⟩
        · rw [set_new, cw]
          simp [wsD, wordR]
        · rw [add_snoc, if_neg]
          rcases hw with hw | ⟨_, hw⟩
          · omega
          · exact fun z => hw z.symm
    rw [ok_ifS, ok_orT, ok_tst, ok_op2, ok_pick (i := 3) (d := .int (m : Nat)) rfl, ok_op2, ok_bi, ok_argC, ok_pick (i := 0) (d := .lv (Ls W)) rfl, ok_argN, ok_lenLv, ok_con, ok_subI, ok_eqI, ok_isB, ls_len]
    by_cases last : m + 1 = W.length
    · rw [if_pos (by simp; omega), if_pos rfl]
      exact (yes_ (.inl last)).mono fun f h1 q => by cases f <;> first | exact q | exact q.elim
    · have c2 : m + 1 < W.length := by omega
      rw [if_neg (by simp; omega), ok_tst, ok_op2, ok_op2, ok_pick (i := 0) (d := .lv (Ls W)) rfl, ok_op2, ok_pick (i := 3) (d := .int (m : Nat)) rfl, ok_con, ok_addI, ok_ixLv]
      refine ⟨lt1 (cyc W (m + 1)), by rw [show ((m : Nat) : Int) + 1 = ((m + 1 : Nat) : Int) by omega]; exact at_ls c2, ?_⟩
      rw [ok_pick (i := 4) (d := lt1 (cyc W m)) rfl]
      unfold lt1
      rw [ok_neS, ok_isB]
      by_cases same : cyc W (m + 1) = cyc W m
      · rw [if_neg (by simp [same]), ok_nxt]
        refine ⟨m + 1, rs, k + 1, _, _, c, rfl, rfl, fun z => by omega, fun _ => ⟨c2, ?_⟩, rfl⟩
        rw [nxt_, ← cyc_lt c2, same, cw]
      · rw [if_pos (by simpa using same)]
        exact (yes_ (.inr ⟨c2, by rw [← cyc_lt c2, ← cw]; exact same⟩)).mono fun f h1 q => by cases f <;> first | exact q | exact q.elim
  · rintro env h' ⟨m, rs, k, y, z, hm, e, rfl, k0, k1, rfl⟩
    have : m = W.length := by
      rcases Nat.lt_or_ge m W.length with c | c
      · rw [range_drop c] at e; simp at e
      · omega
    subst this
    have kz : k = 0 := by
      refine Classical.byContradiction fun z => ?_
      obtain ⟨c, _⟩ := k1 z
      omega
    obtain ⟨er, _⟩ := k0 kz
    obtain ⟨f1, f2⟩ := fact W.length (Nat.le_refl _)
    rw [List.take_length] at f1 f2 er
    subst er
    dsimp only
    rw [ok_ret, ok_bm, ok_con, lit_sp, ok_argC, ok_pick (i := 1) (d := .obj h.length) rfl, ok_argN]
    refine ⟨rfl, ?_⟩
    have sl := sum_le (fun q : Nat × Nat => (wordR q).length) 4 (runsF W) fun q m => by
      have : (numL q.2).length ≤ 3 := numL_len (by decide) (by have := (f1 q m).2.1; omega)
      simp only [wordR, List.length_cons]
      omega
    refine (ok_joinO (l := runsF W) (a := [32]) wordR (by simp only [List.length_cons, List.length_nil]; omega) (by rw [lstAt_new]; rfl)).mpr ?_
    exact ⟨rfl, _, rfl⟩
theorem lit_en : (Str.ofString "en") = Tx [101, 110] := by decide +kernel
theorem lit_nw : (Str.ofString "nw") = Tx [110, 119] := by decide +kernel
theorem lit_ws : (Str.ofString "ws") = Tx [119, 115] := by decide +kernel
theorem lit_se : (Str.ofString "se") = Tx [115, 101] := by decide +kernel
theorem lit_es : (Str.ofString "es") = Tx [101, 115] := by decide +kernel
theorem lit_sw : (Str.ofString "sw") = Tx [115, 119] := by decide +kernel
theorem lit_wn : (Str.ofString "wn") = Tx [119, 110] := by decide +kernel
theorem lit_ne : (Str.ofString "ne") = Tx [110, 101] := by decide +kernel
theorem in_left {h : Ah} {Q : Dt → Ah → Prop} {a b : Nat} (ha : Ltr a) (hb : Ltr b) : Ok (opIn (.str (Tx [a, b])) (.lv [.str (Tx [101, 110]), .str (Tx [110, 119]), .str (Tx [119, 115]), .str (Tx [115, 101])])) h Q ↔ Q (.bl (decide (((idx b : Int) - idx a) % 4 = 1))) h := by
  have e : inR h (.str (Tx [a, b])) (.lv [.str (Tx [101, 110]), .str (Tx [110, 119]), .str (Tx [119, 115]), .str (Tx [115, 101])]) = some (decide (((idx b : Int) - idx a) % 4 = 1)) := by
    rcases ha with rfl | rfl | rfl | rfl <;> rcases hb with rfl | rfl | rfl | rfl <;> rfl
  unfold Ok opIn
  rw [e]
theorem in_right {h : Ah} {Q : Dt → Ah → Prop} {a b : Nat} (ha : Ltr a) (hb : Ltr b) : Ok (opIn (.str (Tx [a, b])) (.lv [.str (Tx [101, 115]), .str (Tx [115, 119]), .str (Tx [119, 110]), .str (Tx [110, 101])])) h Q ↔ Q (.bl (decide (((idx b : Int) - idx a) % 4 = 3))) h := by
  have e : inR h (.str (Tx [a, b])) (.lv [.str (Tx [101, 115]), .str (Tx [115, 119]), .str (Tx [119, 110]), .str (Tx [110, 101])]) = some (decide (((idx b : Int) - idx a) % 4 = 3)) := by
    rcases ha with rfl | rfl | rfl | rfl <;> rcases hb with rfl | rfl | rfl | rfl <;> rfl
  unfold Ok opIn
  rw [e]
def roundZ (W : List Nat) : Int := ((List.range W.length).map fun i => qv (bdg W i)).sum
theorem lround_ok {W : List Nat} (hl : Ltrs W) (hn : W.length ≤ 900) : Gv (K51.f__lwp_round [.lv (Ls W)]) (.int (roundZ W)) := gv_of fun h => by
  rw [K51.f__lwp_round, ok_fnM]
  simp only [K51.m__lwp_round, List.map_cons, List.map_nil, List.length_cons, List.length_nil, List.replicate, List.cons_append, List.nil_append, lit_en, lit_nw, lit_ws, lit_se, lit_es, lit_sw, lit_wn, lit_ne]
  rw [ok_seq, ok_sto, ok_con]
  show Ok (seq _ _ [some (.lv (Ls W)), some (.int 0), none, none, none]) _ _
  rw [ok_seq, ok_forM, ok_itEL, ok_argC, ok_pick (i := 0) (d := .lv (Ls W)) rfl, ok_argN]
  refine ⟨_, rfl, ?_⟩
  rw [ok_itemsLv, enum_ls]
  refine forL_ind (fun ds env h' => ∃ (m : Nat) (y z w : Option Dt), m ≤ W.length ∧ ds = ((List.range W.length).drop m).map (fun i => .tup [.int (i : Nat), lt1 (cyc W i)]) ∧ h' = h ∧ env = [some (.lv (Ls W)), some (.int ((List.range m).map fun i => qv (bdg W i)).sum), y, z, w]) ?_ ?_ _ _ _ ⟨0, none, none, none, Nat.zero_le _, by simp, rfl, rfl⟩
  · rintro x xs env h' ⟨m, y, z, w, hm, e, rfl, rfl⟩
    have c : m < W.length := by
      rcases Nat.lt_or_ge m W.length with c | c
      · exact c
      · rw [List.drop_eq_nil_of_le (by simpa using c)] at e; simp at e
    rw [range_drop c, List.map_cons] at e
    obtain ⟨rfl, rfl⟩ := List.cons.inj e
    have p : 0 < W.length := by omega
    have l1 := hl _ (cyc_mem p m)
    have l2 := hl _ (cyc_mem p (m + W.length - 1))
    generalize hS : ((List.range m).map fun i => qv (bdg W i)).sum = S
    refine ⟨[some (.lv (Ls W)), some (.int S), some (.int (m : Nat)), some (lt1 (cyc W m)), w], by simp [Pat.bd, Pat.bds], ?_⟩
    rw [ok_seq, ok_sto, ok_op2, ok_op2, ok_pick (i := 0) (d := .lv (Ls W)) rfl, ok_op2, ok_pick (i := 2) (d := .int (m : Nat)) rfl, ok_con, ok_subI, ok_ixLv]
    refine ⟨_, at_lsp c, ?_⟩
    rw [ok_pick (i := 3) (d := lt1 (cyc W m)) rfl]
    unfold lt1
    rw [ok_addS]
    refine ⟨szl (by simp), ?_⟩
    show Ok (sto _ _ [some (.lv (Ls W)), some (.int S), some (.int (m : Nat)), some (lt1 (cyc W m)), some (.str (Tx [cyc W (m + W.length - 1), cyc W m]))]) _ _
    rw [ok_sto, ok_op2, ok_op2, ok_pick (i := 1) (d := .int S) rfl, ok_bi, ok_argC, ok_op2, ok_pick (i := 4) (d := .str (Tx [cyc W (m + W.length - 1), cyc W m])) rfl, ok_lstE, ok_argC, ok_con, ok_argC, ok_con, ok_argC, ok_con, ok_argC, ok_con, ok_argN]
    refine ⟨szl (by simp), ?_⟩
    rw [in_left l2 l1, ok_argN, ok_intB, ok_addI, ok_bi, ok_argC, ok_op2, ok_pick (i := 4) (d := .str (Tx [cyc W (m + W.length - 1), cyc W m])) rfl, ok_lstE, ok_argC, ok_con, ok_argC, ok_con, ok_argC, ok_con, ok_argC, ok_con, ok_argN]
    refine ⟨szl (by simp), ?_⟩
    rw [in_right l2 l1, ok_argN, ok_intB, ok_subI]
    refine ⟨m + 1, some (.int (m : Nat)), some (lt1 (cyc W m)), some (.str (Tx [cyc W (m + W.length - 1), cyc W m])), c, rfl, rfl, ?_⟩
    have e2 : ((List.range (m + 1)).map fun i => qv (bdg W i)).sum = S + qv (bdg W m) := by
      rw [List.range_succ, List.map_append, List.sum_append, hS]
      simp
    rw [e2]
    have e3 : qv (bdg W m) = (if decide (((idx (cyc W m) : Int) - idx (cyc W (m + W.length - 1))) % 4 = 1) = true then 1 else 0) - (if decide (((idx (cyc W m) : Int) - idx (cyc W (m + W.length - 1))) % 4 = 3) = true then 1 else 0) := by
      unfold qv bdg
      simp only [decide_eq_true_eq]
      by_cases h1 : ((idx (cyc W m) : Int) - idx (cyc W (m + W.length - 1))) % 4 = 1
      · rw [if_pos h1, if_pos h1, if_neg (by omega)]; rfl
      · rw [if_neg h1, if_neg h1]
        by_cases h3 : ((idx (cyc W m) : Int) - idx (cyc W (m + W.length - 1))) % 4 = 3
        · rw [if_pos h3, if_pos h3]; rfl
        · rw [if_neg h3, if_neg h3]; rfl
    rw [e3]
    show [some (.lv (Ls W)), some (Dt.int _), _, _, _] = _
    rw [← Int.add_sub_assoc]
  · rintro env h' ⟨m, y, z, w, hm, e, rfl, rfl⟩
    have : m = W.length := by
      rcases Nat.lt_or_ge m W.length with c | c
      · rw [range_drop c] at e; simp at e
      · omega
    subst this
    dsimp only
    rw [ok_ret, ok_pick (i := 1) (d := .int ((List.range W.length).map fun i => qv (bdg W i)).sum) rfl]
    exact ⟨rfl, [], by simp⟩
theorem lbegun_ok {W : List Nat} (L : Line W) (hn : W.length ≤ 900) : ∃ W', Line W' ∧ W'.length = W.length ∧ stB W' 0 = false ∧ Gv (K51.f__lwp_begun [.lv (Ls W)]) (.lv (Ls W')) := by
  have sz := szl (show W.length ≤ 1000 by omega)
  have p := L.pos
  generalize hs : (List.range W.length).filter (fun i => !stB W i) = sp
  have ms : ∀ i ∈ sp, i < W.length ∧ stB W i = false := fun i hi => by rw [← hs] at hi; simpa using hi
  have pos : 0 < sp.length := by
    obtain ⟨i, hi, hb⟩ := L.bend
    have : i ∈ sp := by rw [← hs]; simp [hi, hb]
    exact List.length_pos_of_mem this
  obtain ⟨ha, hb⟩ := ms (sp[0]) (List.getElem_mem pos)
  generalize hat : sp[0] = at_ at *
  have Lr := L.rot (k := at_) (Nat.le_of_lt ha)
  have ln : (W.drop at_ ++ W.take at_).length = W.length := by simp; omega
  refine ⟨W.drop at_ ++ W.take at_, Lr, ln, ?_, gv_of fun h => ?_⟩
  · unfold stB at hb ⊢
    rw [ln, cyc_rot p (Nat.le_of_lt ha)]
    simp only [Nat.zero_add, Nat.add_zero]
    rw [show at_ + (W.length - 1) = at_ + W.length - 1 by omega]
    exact hb
  · rw [K51.f__lwp_begun, ok_fnM]
    simp only [K51.m__lwp_begun, List.map_cons, List.map_nil, List.length_cons, List.length_nil, List.replicate, List.cons_append, List.nil_append]
    have lsA : ∀ i, i < W.length → atI (Ls W) (i : Int) = some (lt1 (cyc W i)) := fun i hi => at_ls hi
    have lsP : ∀ i : Nat, i < W.length → atI (Ls W) ((i : Int) - 1) = some (lt1 (cyc W (i + W.length - 1))) := fun i hi => at_lsp hi
    have hc : ∀ E : En, E = [some (.lv (Ls W)), none, none] → Ok (lcM (itR1 (argC (bi bLen (argC (var 0) argN)) argN)) (.nm 2) (tst (op2 opNe (op2 ixM (var 0) (op2 opSub (var 2) (con (.int 1)))) (op2 ixM (var 0) (var 2)))) (var 2) [2] E) h fun d h1 => d = Vl sp ∧ ∃ jj, h1 = h ++ jj := by
      intro E hE
      have e0 : E[0]? = some (some (.lv (Ls W))) := by rw [hE]; rfl
      have w0 : ∀ d, ((wipeE E [2]).set 2 d)[0]? = some (some (.lv (Ls W))) := fun d => by rw [hE]; rfl
      have w2 : ∀ d, ((wipeE E [2]).set 2 d)[2]? = some d := fun d => by rw [hE]; rfl
      clear hE
      refine ok_lcM (List.range W.length) (fun i => .int ((i : Nat) : Int)) (fun i => !stB W i) (fun i => .int ((i : Nat) : Int)) ?_
      rw [ok_itR1, ok_argC, ok_bi, ok_argC, ok_pick e0, ok_argN, ok_lenLv, ok_argN, ls_len]
      refine ⟨_, rfl, ⟨by omega, by omega⟩, by rw [Int.toNat_natCast, rng_eq], by simpa using sz, fun i hi => ?_, fun jj => ⟨by rw [hs]; rfl, jj, rfl⟩⟩
      have hi := List.mem_range.mp hi
      refine ⟨_, bd_nm, gv_of fun h => ?_, fun _ => gv_of fun h => ?_⟩
      · rw [ok_tst, ok_op2, ok_op2, ok_pick (w0 _), ok_op2, ok_pick (w2 _), ok_con, ok_subI, ok_ixLv]
        refine ⟨_, lsP i hi, ?_⟩
        rw [ok_op2, ok_pick (w0 _), ok_pick (w2 _), ok_ixLv]
        refine ⟨_, lsA i hi, ?_⟩
        unfold lt1
        rw [ok_neS, ok_isB]
        exact ⟨by simp [stB], [], by simp⟩
      · rw [ok_pick (w2 _)]
        exact ⟨rfl, [], by simp⟩
    rw [ok_seq, ok_sto, ok_op2]
    generalize hE : ([some (.lv (Ls W)), none, none] : En) = E
    refine (hc E hE.symm).mono fun d h1 ⟨ed, jj, eh⟩ => ?_
    · subst ed eh hE
      rw [ok_con]
      show Ok (ixM (.lv (sp.map fun i => .int ((i : Nat) : Int))) (.int 0)) _ _
      rw [ok_ixLv]
      refine ⟨.int (at_ : Nat), ?_, ?_⟩
      · rw [show (0 : Int) = ((0 : Nat) : Int) by rfl, atI_nat (by simpa using pos)]
        simp [hat]
      · show Ok (ret _ [some (.lv (Ls W)), some (.int (at_ : Nat)), none]) _ _
        rw [ok_ret, ok_op2, ok_slc, ok_pick (i := 0) (d := .lv (Ls W)) rfl, ok_opS, ok_pick (i := 1) (d := .int (at_ : Nat)) rfl, ok_isI, ok_opN, ok_slLv, ok_slc, ok_pick (i := 0) (d := .lv (Ls W)) rfl, ok_opN, ok_opS, ok_pick (i := 1) (d := .int (at_ : Nat)) rfl, ok_isI, ok_slLv, ok_addLv, cutD_from, cutD_to, ls_drop, ls_take, ls_app]
        exact ⟨szl (by rw [ls_len, ls_len, ← List.length_append, ln]; omega), rfl, jj, rfl⟩
end Mo
set_option Elab.async false
set_option linter.all false
set_option maxRecDepth 100000
set_option maxHeartbeats 4000000
namespace Mo
open PySem L2 TL
theorem call_draw {h : Ah} {r : Nat} {many : Int} {Q : Dt → Ah → Prop} (R : Pur h r) (h1 : 0 < many) (h2 : many < 1073741824) (q : ∀ (k : Nat) o, (k : Int) < many → Pur (h.set r o) r → Q (.int (k : Int)) (h.set r o)) :
    Ok (K51.f__lwp_draw [.obj r, .int many]) h Q := (draw_ok R h1 h2).mono fun d h' ⟨k, e, k0, k1, ⟨o, eo⟩, R'⟩ => by
  subst e eo
  have := q k.toNat o (by omega) R'
  rw [show ((k.toNat : Nat) : Int) = k by omega] at this
  exact this
/-- what stood ahead stands yet, but at r -/
def Kp (r : Nat) (h h' : Ah) : Prop := h.length ≤ h'.length ∧ ∀ i, i < h.length → i ≠ r → h'[i]? = h[i]?
section
variable {r : Nat} {h h' h'' : Ah}
theorem Kp.refl : Kp r h h := ⟨Nat.le_refl _, fun _ _ _ => rfl⟩
theorem Kp.trans (a : Kp r h h') (b : Kp r h' h'') : Kp r h h'' := ⟨Nat.le_trans a.1 b.1, fun i hi ne => (b.2 i (Nat.lt_of_lt_of_le hi a.1) ne).trans (a.2 i hi ne)⟩
theorem Kp.app (j : Ah) : Kp r h (h ++ j) := ⟨by simp, fun i hi _ => List.getElem?_append_left hi⟩
theorem Kp.set (o : Ao) : Kp r h (h.set r o) := ⟨by simp, fun i _ ne => List.getElem?_set_ne (Ne.symm ne)⟩
theorem Kp.new (a : Kp r h h') {i : Nat} (hi : h.length ≤ i) (o : Ao) : Kp r h (h'.set i o) := ⟨by simpa using a.1, fun k hk ne => by rw [List.getElem?_set_ne (by omega)]; exact a.2 k hk ne⟩
theorem lstAt_kp (K : Kp r h h') {i : Nat} (ne : i ≠ r) {xs : List Dt} (e : lstAt h i = some xs) : lstAt h' i = some xs := by
  have l := lstAt_lt e
  unfold lstAt at *
  rw [K.2 i l ne]
  exact e
theorem Pur.lt (R : Pur h r) : r < h.length := by
  obtain ⟨g, s, e, _⟩ := R.ex
  exact lstAt_lt e
theorem Pur.ne (R : Pur h r) {i : Nat} {o : Ao} (ne : i ≠ r) : Pur (h.set i o) r := by
  obtain ⟨g, s, e, q⟩ := R.ex
  exact ⟨g, s, by unfold lstAt at *; rw [List.getElem?_set_ne ne]; exact e, q⟩
end
theorem lstAt_ne' {h : Ah} {i j : Nat} {o : Ao} (ne : i ≠ j) {xs : List Dt} (e : lstAt h j = some xs) : lstAt (h.set i o) j = some xs := by
  unfold lstAt at *
  rw [List.getElem?_set_ne ne]
  exact e
structure PK (r : Nat) (h0 h : Ah) : Prop where
  pu : Pur h r
  kp : Kp r h0 h
theorem PK.start {r : Nat} {h : Ah} (R : Pur h r) : PK r h h := ⟨R, Kp.refl⟩
theorem PK.app {r : Nat} {h0 h : Ah} (R : PK r h0 h) (j : Ah) : PK r h0 (h ++ j) := ⟨R.pu.app j, R.kp.trans (Kp.app j)⟩
theorem PK.ne {r : Nat} {h0 h : Ah} (R : PK r h0 h) {i : Nat} {o : Ao} (ne : i ≠ r) (hi : h0.length ≤ i) : PK r h0 (h.set i o) := ⟨R.pu.ne ne, R.kp.new hi o⟩
theorem PK.lt {r : Nat} {h0 h : Ah} (R : PK r h0 h) : r < h.length := R.pu.lt
theorem call_drawK {h0 h : Ah} {r : Nat} {many : Int} {Q : Dt → Ah → Prop} (R : PK r h0 h) (h1 : 0 < many) (h2 : many < 1073741824) (q : ∀ (k : Nat) o, (k : Int) < many → PK r h0 (h.set r o) → Q (.int (k : Int)) (h.set r o)) :
    Ok (K51.f__lwp_draw [.obj r, .int many]) h Q := call_draw R.pu h1 h2 fun k o k1 R' => q k o k1 ⟨R', R.kp.trans (Kp.set o)⟩
theorem ok_isN {h : Ah} {Q : Dt → Ah → Prop} {d : Dt} : Ok (opIsN d .non) h Q ↔ Q (.bl (isNon d)) h := by
  cases d <;> exact Iff.rfl
def besC (c : Nat) : Nat := if c = 101 then 115 else if c = 110 then 101 else if c = 119 then 110 else 119
def othC (c : Nat) : Nat := if c = 101 then 110 else if c = 110 then 119 else if c = 119 then 115 else 101
theorem ltr_bes {c : Nat} (h : Ltr c) : Ltr (besC c) := by rcases h with rfl | rfl | rfl | rfl <;> simp [besC, Ltr]
theorem ltr_oth {c : Nat} (h : Ltr c) : Ltr (othC c) := by rcases h with rfl | rfl | rfl | rfl <;> simp [othC, Ltr]
def d4 (a b c d : Nat) : Dt := .dk [.inr (Tx [101]), .inr (Tx [110]), .inr (Tx [119]), .inr (Tx [115])] [.str (Tx [a]), .str (Tx [b]), .str (Tx [c]), .str (Tx [d])]
theorem ok_disp4 {h : Ah} {Q : Dt → Ah → Prop} {env : En} {a b c d : Nat} : Ok (dispM [((con (.str (Tx [101]))), (con (.str (Tx [a])))), ((con (.str (Tx [110]))), (con (.str (Tx [b])))), ((con (.str (Tx [119]))), (con (.str (Tx [c])))), ((con (.str (Tx [115]))), (con (.str (Tx [d]))))] env) h Q ↔ Q (d4 a b c d) (h ++ [.dead]) := by
  show Ok (newO (.dk [] []) >>= fun n => pairsM _ env >>= fun ps => finD n ps) h Q ↔ _
  simp only [ok_bind, ok_newO, ok_pairs, ok_pairs0, ok_con]
  exact ok_finD (ks := [.inr (Tx [101]), .inr (Tx [110]), .inr (Tx [119]), .inr (Tx [115])]) rfl (by decide) (by simp)
theorem ok_ix4 {h : Ah} {Q : Dt → Ah → Prop} {a b c d x : Nat} (hx : Ltr x) : Ok (ixD (d4 a b c d) (lt1 x)) h Q ↔ Q (lt1 (if x = 101 then a else if x = 110 then b else if x = 119 then c else d)) h := by
  have e : getR h (d4 a b c d) (lt1 x) = some (some (lt1 (if x = 101 then a else if x = 110 then b else if x = 119 then c else d))) := by rcases hx with rfl | rfl | rfl | rfl <;> rfl
  unfold Ok ixD
  rw [e]
theorem bes_sdx {c : Nat} (h : Ltr c) : sdx [besC c, c, othC c] = dx c := by rcases h with rfl | rfl | rfl | rfl <;> decide
theorem laid_line {W : List Nat} (L : Line W) {a : Nat} (ha : a < W.length) (ht : isNon (touchD (W.take a ++ [besC W[a], W[a], othC W[a]] ++ W.drop (a + 1))) = true) : Line (W.take a ++ [besC W[a], W[a], othC W[a]] ++ W.drop (a + 1)) := by
  have lt := L.ltrs _ (List.getElem_mem ha)
  have hl : Ltrs (W.take a ++ [besC W[a], W[a], othC W[a]] ++ W.drop (a + 1)) := fun c m => by
    rcases List.mem_append.mp m with m | m
    · rcases List.mem_append.mp m with m | m
      · exact L.ltrs c (List.mem_of_mem_take m)
      · simp at m
        rcases m with rfl | rfl | rfl
        · exact ltr_bes lt
        · exact lt
        · exact ltr_oth lt
    · exact L.ltrs c (List.mem_of_mem_drop m)
  have e : pl (cyc (W.take a ++ [besC W[a], W[a], othC W[a]] ++ W.drop (a + 1))) (W.take a ++ [besC W[a], W[a], othC W[a]] ++ W.drop (a + 1)).length = (0, 0) := by
    have e0 := LineG.end_ L
    rw [pl_sdx _ _ (Nat.le_refl _), List.take_length] at e0 ⊢
    have e1 : W = W.take a ++ [W[a]] ++ W.drop (a + 1) := by
      rw [← List.take_succ_eq_append_getElem ha, List.take_append_drop]
    rw [e1] at e0
    rw [sdx_app, sdx_app] at e0 ⊢
    rw [bes_sdx lt]
    have e2 : sdx [W[a]] = dx W[a] := by simp [sdx]
    rw [e2] at e0
    exact e0
  have h0 : W.take a ++ [besC W[a], W[a], othC W[a]] ++ W.drop (a + 1) ≠ [] := fun z => by
    have := congrArg List.length z
    simp at this
  exact line_of h0 hl e (touch_line h0 hl e ht)
theorem square_line : Line [101, 110, 119, 115] := (good_ok (W := [101, 110, 119, 115]) (by decide +kernel)).1
theorem cells_ok {h0 h : Ah} {r : Nat} {t : Int} (R : PK r h0 h) (t1 : 0 ≤ t) (t2 : t < 1000) : Ok (K51.f__lwp_cells [.obj r, .int t, .int 60]) h fun d h' => ∃ W, d = .lv (Ls W) ∧ Line W ∧ (4 ≤ W.length ∧ W.length ≤ 60) ∧ stB W 0 = false ∧ PK r h0 h' := by
  rw [K51.f__lwp_cells, ok_fnM]
  simp only [K51.m__lwp_cells, List.map_cons, List.map_nil, List.length_cons, List.length_nil, List.replicate, List.cons_append, List.nil_append, lit_e, lit_n, lit_w, lit_s]
  rw [ok_seq, ok_par, ok_argC, ok_lstE, ok_argC, ok_con, ok_argC, ok_con, ok_argC, ok_con, ok_argC, ok_con, ok_argN]
  refine ⟨szl (by simp), ?_⟩
  rw [ok_argC, ok_con, ok_argN]
  refine ⟨_, _, rfl, ?_⟩
  show Ok (seq _ _ [some (.obj r), some (.int t), some (.int 60), some (.lv (Ls [101, 110, 119, 115])), some (.int 0), none, none, none, none, none, none, none]) _ _
  rw [ok_seq, ok_forM, ok_itR1, ok_argC, ok_pick (i := 1) (d := .int t) rfl, ok_argN]
  refine ⟨_, rfl, ⟨by omega, by omega⟩, ?_⟩
  refine forL_ind (fun ds env h' => ∃ (W : List Nat) (at_ : Int) (y5 y6 y7 y8 y9 ya yb : Option Dt), Line W ∧ (4 ≤ W.length ∧ W.length ≤ 60) ∧ PK r h0 h' ∧ env = [some (.obj r), some (.int t), some (.int 60), some (.lv (Ls W)), some (.int at_), y5, y6, y7, y8, y9, ya, yb]) ?_ ?_ _ _ _ ⟨[101, 110, 119, 115], 0, none, none, none, none, none, none, none, square_line, by simp, R, rfl⟩
  · rintro x xs env h' ⟨W, at_, y5, y6, y7, y8, y9, ya, yb, L, hW, R, rfl⟩
    refine ⟨[some (.obj r), some (.int t), some (.int 60), some (.lv (Ls W)), some (.int at_), some x, y6, y7, y8, y9, ya, yb], by simp [Pat.bd], ?_⟩
    have rest : ∀ (v : Int) (h' : Ah), PK r h0 h' → Ok (seq (sto 7 (op2 opMod (bi bInt (argC (var 6) argN)) (bi bLen (argC (var 3) argN))))
        (seq (sto 8 (op2 ixM (var 3) (var 7)))
        (seq (sto 9 (op2 ixD (dispM [((con (.str (Tx [101]))), (con (.str (Tx [115])))), ((con (.str (Tx [110]))), (con (.str (Tx [101])))), ((con (.str (Tx [119]))), (con (.str (Tx [110])))), ((con (.str (Tx [115]))), (con (.str (Tx [119]))))]) (var 8)))
        (seq (sto 10 (op2 ixD (dispM [((con (.str (Tx [101]))), (con (.str (Tx [110])))), ((con (.str (Tx [110]))), (con (.str (Tx [119])))), ((con (.str (Tx [119]))), (con (.str (Tx [115])))), ((con (.str (Tx [115]))), (con (.str (Tx [101]))))]) (var 8)))
        (seq (sto 11 (op2 opAdd (op2 opAdd (slc slD (var 3) opN (opS (var 7))) (lstE (argC (var 9) (argC (var 8) (argC (var 10) argN))))) (slc slD (var 3) (opS (op2 opAdd (var 7) (con (.int 1)))) opN)))
        (ifS (andT (tst (op2 opLe (bi bLen (argC (var 11) argN)) (var 2))) (tst (op2 opIsN (callM 1 K51.f__lwp_touch (argC (var 11) argN)) (con .non)))) (par 3 4 (argC (var 11) (argC (op2 opAdd (var 7) (con (.int 1))) argN))) nxt)))))
        [some (.obj r), some (.int t), some (.int 60), some (.lv (Ls W)), some (.int at_), some x, some (.int v), y7, y8, y9, ya, yb]) h' fun f h1 => ∃ e, f = .nx e ∧ ∃ (W : List Nat) (at_ : Int) (y5 y6 y7 y8 y9 ya yb : Option Dt), Line W ∧ (4 ≤ W.length ∧ W.length ≤ 60) ∧ PK r h0 h1 ∧ e = [some (.obj r), some (.int t), some (.int 60), some (.lv (Ls W)), some (.int at_), y5, y6, y7, y8, y9, ya, yb] := by
      intro v h' R
      have lsA : ∀ i, i < W.length → atI (Ls W) (i : Int) = some (lt1 (cyc W i)) := fun i hi => at_ls hi
      have sl : ∀ a : Nat, cutD (Ls W) none (some (a : Int)) = Ls (W.take a) := fun a => by rw [cutD_to, ls_take]
      have sr : ∀ a : Nat, cutD (Ls W) (some (a : Int)) none = Ls (W.drop a) := fun a => by rw [cutD_from, ls_drop]
      have ll := ls_len W
      generalize hLW : Ls W = LW at *
      rw [ok_seq, ok_sto, ok_op2, ok_bi, ok_argC, ok_pick (i := 6) (d := .int v) rfl, ok_argN, ok_intI, ok_bi, ok_argC, ok_pick (i := 3) (d := .lv LW) rfl, ok_argN, ok_lenLv, ok_modI, ll]
      refine ⟨by omega, ?_⟩
      obtain ⟨a, ea⟩ : ∃ a : Nat, v % (W.length : Int) = (a : Int) := ⟨(v % (W.length : Int)).toNat, by have := Int.emod_nonneg v (show (W.length : Int) ≠ 0 by omega); omega⟩
      have ha : a < W.length := by have := Int.emod_lt_of_pos v (show (0 : Int) < W.length by omega); omega
      rw [ea]
      have lc := L.ltrs _ (cyc_mem (by omega) a)
      show Ok (seq _ _ [some (.obj r), some (.int t), some (.int 60), some (.lv LW), some (.int at_), some x, some (.int v), some (.int (a : Nat)), y8, y9, ya, yb]) _ _
      rw [ok_seq, ok_sto, ok_op2, ok_pick (i := 3) (d := .lv LW) rfl, ok_pick (i := 7) (d := .int (a : Nat)) rfl, ok_ixLv]
      refine ⟨_, lsA a ha, ?_⟩
      show Ok (seq _ _ [some (.obj r), some (.int t), some (.int 60), some (.lv LW), some (.int at_), some x, some (.int v), some (.int (a : Nat)), some (lt1 (cyc W a)), y9, ya, yb]) _ _
      rw [ok_seq, ok_sto, ok_op2, ok_disp4, ok_pick (i := 8) (d := lt1 (cyc W a)) rfl, ok_ix4 lc]
      show Ok (seq _ _ [some (.obj r), some (.int t), some (.int 60), some (.lv LW), some (.int at_), some x, some (.int v), some (.int (a : Nat)), some (lt1 (cyc W a)), some (lt1 (besC (cyc W a))), ya, yb]) _ _
      rw [ok_seq, ok_sto, ok_op2, ok_disp4, ok_pick (i := 8) (d := lt1 (cyc W a)) rfl, ok_ix4 lc]
      show Ok (seq _ _ [some (.obj r), some (.int t), some (.int 60), some (.lv LW), some (.int at_), some x, some (.int v), some (.int (a : Nat)), some (lt1 (cyc W a)), some (lt1 (besC (cyc W a))), some (lt1 (othC (cyc W a))), yb]) _ _
      rw [ok_seq, ok_sto, ok_op2, ok_op2, ok_slc, ok_pick (i := 3) (d := .lv LW) rfl, ok_opN, ok_opS, ok_pick (i := 7) (d := .int (a : Nat)) rfl, ok_isI, ok_slLv, sl, ok_lstE, ok_argC, ok_pick (i := 9) (d := lt1 (besC (cyc W a))) rfl, ok_argC, ok_pick (i := 8) (d := lt1 (cyc W a)) rfl, ok_argC, ok_pick (i := 10) (d := lt1 (othC (cyc W a))) rfl, ok_argN]
      refine ⟨szl (by simp), ?_⟩
      rw [show [lt1 (besC (cyc W a)), lt1 (cyc W a), lt1 (othC (cyc W a))] = Ls [besC (cyc W a), cyc W a, othC (cyc W a)] from rfl, ok_addLv, ls_app, ls_len, ls_len]
      refine ⟨szl (by simp; omega), ?_⟩
      rw [ok_slc, ok_pick (i := 3) (d := .lv LW) rfl, ok_opS, ok_op2, ok_pick (i := 7) (d := .int (a : Nat)) rfl, ok_con, ok_addI, show ((a : Nat) : Int) + 1 = ((a + 1 : Nat) : Int) by omega, ok_isI, ok_opN, ok_slLv, sr, ok_addLv, ls_app, ls_len, ls_len]
      have ca : cyc W a = W[a] := cyc_lt ha
      have LV := fun ht => laid_line L ha ht
      rw [← ca] at LV
      generalize hV : W.take a ++ [besC (cyc W a), cyc W a, othC (cyc W a)] ++ W.drop (a + 1) = V at *
      have lV : V.length = W.length + 2 := by rw [← hV]; simp; omega
      have ltV : Ltrs V := fun c m => by
        rw [← hV] at m
        rcases List.mem_append.mp m with m | m
        · rcases List.mem_append.mp m with m | m
          · exact L.ltrs c (List.mem_of_mem_take m)
          · simp at m
            rcases m with rfl | rfl | rfl
            · exact ltr_bes lc
            · exact lc
            · exact ltr_oth lc
        · exact L.ltrs c (List.mem_of_mem_drop m)
      refine ⟨szl (by simp; omega), ?_⟩
      show Ok (ifS _ _ _ [some (.obj r), some (.int t), some (.int 60), some (.lv LW), some (.int at_), some x, some (.int v), some (.int (a : Nat)), some (lt1 (cyc W a)), some (lt1 (besC (cyc W a))), some (lt1 (othC (cyc W a))), some (.lv (Ls V))]) _ _
      have no : ∀ h1, PK r h0 h1 → Ok (nxt [some (.obj r), some (.int t), some (.int 60), some (.lv LW), some (.int at_), some x, some (.int v), some (.int (a : Nat)), some (lt1 (cyc W a)), some (lt1 (besC (cyc W a))), some (lt1 (othC (cyc W a))), some (.lv (Ls V))]) h1 fun f h1 => ∃ e, f = .nx e ∧ ∃ (W : List Nat) (at_ : Int) (y5 y6 y7 y8 y9 ya yb : Option Dt), Line W ∧ (4 ≤ W.length ∧ W.length ≤ 60) ∧ PK r h0 h1 ∧ e = [some (.obj r), some (.int t), some (.int 60), some (.lv (Ls W)), some (.int at_), y5, y6, y7, y8, y9, ya, yb] := fun h1 R1 => by
        rw [ok_nxt]
        exact ⟨_, rfl, W, at_, _, _, _, _, _, _, _, L, hW, R1, by rw [hLW]⟩
      have lsV := ls_len V
      have tc := ltouch_ok ltV (by omega)
      rw [ok_ifS, ok_andT, ok_tst, ok_op2, ok_bi, ok_argC, ok_pick (i := 11) (d := .lv (Ls V)) rfl, ok_argN, ok_lenLv, lsV, ok_pick (i := 2) (d := .int 60) rfl, ok_leI, ok_isB]
      by_cases c6 : (V.length : Int) ≤ 60
      · rw [if_pos (by simpa using c6), ok_tst, ok_op2, ok_callM, ok_argC, ok_pick (i := 11) (d := .lv (Ls V)) rfl, ok_argN]
        refine ⟨rfl, gv_fn tc fun jj => ?_⟩
        rw [ok_con, ok_isN, ok_isB]
        by_cases tn : isNon (touchD V) = true
        · rw [if_pos tn, ok_par, ok_argC, ok_pick (i := 11) (d := .lv (Ls V)) rfl, ok_argC, ok_op2, ok_pick (i := 7) (d := .int (a : Nat)) rfl, ok_con, ok_addI, ok_argN]
          exact ⟨_, _, rfl, _, rfl, V, _, _, _, _, _, _, _, _, LV tn, ⟨by omega, by omega⟩, ((R.app _).app _).app _, rfl⟩
        · rw [if_neg tn]
          exact no _ (((R.app _).app _).app _)
      · rw [if_neg (by simpa using c6), if_neg (by simp)]
        exact no _ ((R.app _).app _)
    have ll := ls_len W
    rw [ok_seq, ok_sto, ok_ifE, ok_tst, ok_op2, ok_callM, ok_argC, ok_pick (i := 0) (d := .obj r) rfl, ok_argC, ok_con, ok_argN]
    refine ⟨rfl, call_drawK R (by decide) (by decide) fun k o k1 R1 => ?_⟩
    rw [ok_con, ok_gtI, ok_isB]
    by_cases c : (0 : Int) < (k : Int)
    · rw [if_pos (by simpa using c), ok_op2, ok_op2, ok_pick (i := 4) (d := .int at_) rfl, ok_con, ok_addI, ok_callM, ok_argC, ok_pick (i := 0) (d := .obj r) rfl, ok_argC, ok_con, ok_argN]
      refine ⟨rfl, call_drawK R1 (by decide) (by decide) fun k2 o2 k3 R2 => ?_⟩
      rw [ok_subI]
      exact (rest _ _ R2).mono fun f h1 ⟨e, ef, q⟩ => by subst ef; exact q
    · rw [if_neg (by simpa using c), ok_callM, ok_argC, ok_pick (i := 0) (d := .obj r) rfl, ok_argC, ok_bi, ok_argC, ok_pick (i := 3) (d := .lv (Ls W)) rfl, ok_argN, ok_lenLv, ok_argN, ll]
      refine ⟨rfl, call_drawK R1 (by omega) (by omega) fun k2 o2 k3 R2 => ?_⟩
      exact (rest _ _ R2).mono fun f h1 ⟨e, ef, q⟩ => by subst ef; exact q
  · rintro env h' ⟨W, at_, y5, y6, y7, y8, y9, ya, yb, L, hW, R, rfl⟩
    have b900 : W.length ≤ 900 := by omega
    dsimp only
    rw [ok_ret, ok_callM, ok_argC, ok_pick (i := 3) (d := .lv (Ls W)) rfl, ok_argN]
    refine ⟨rfl, ?_⟩
    have hb := lbegun_ok L b900
    generalize K51.f__lwp_begun [.lv (Ls W)] = M at *
    obtain ⟨W', L', l', b', g'⟩ := hb
    exact gv_fn g' fun j => ⟨W', rfl, L', ⟨by omega, by omega⟩, b', R.app j⟩
end Mo
set_option Elab.async false
set_option linter.all false
set_option maxRecDepth 100000
set_option maxHeartbeats 4000000
namespace Mo
open PySem L2 TL
theorem ok_popAt {h : Ah} {Q : Dt → Ah → Prop} {a k : Nat} {xs : List Dt} {y : Dt} (e : lstAt h a = some xs) (hk : k < 1000) (hy : xs[k]? = some y) (q : Q y (h.set a (.lst (xs.eraseIdx k)))) : Ok (mPopAt (.obj a) [.int (k : Nat)]) h Q := by
  unfold lstAt at e
  cases w : h[a]? with
  | none => rw [w] at e; cases e
  | some o =>
    rw [w] at e
    cases o with
    | lst ys =>
      cases e
      have c : 0 ≤ ((k : Nat) : Int) ∧ ((k : Nat) : Int) < 2 ^ 62 := ⟨by omega, by omega⟩
      refine ok_of (a := y) (h' := h.set a (.lst (xs.eraseIdx k))) ?_ q
      simp only [mPopAt, w, if_pos c, Int.toNat_natCast, hy]
    | _ => cases e
def iDs (l : List Nat) : List Dt := l.map fun i => .int ((i : Nat) : Int)
theorem erase_map {α β : Type} (f : α → β) : ∀ (l : List α) (k : Nat), (l.map f).eraseIdx k = (l.eraseIdx k).map f
  | [], _ => by simp
  | a :: l, 0 => rfl
  | a :: l, k + 1 => by simp [erase_map f l k]
theorem erase_perm {α : Type} : ∀ (l : List α) (k : Nat) (h : k < l.length), (l[k] :: l.eraseIdx k).Perm l
  | [], _, h => by simp at h
  | a :: l, 0, _ => List.Perm.refl _
  | a :: l, k + 1, h => by
    have ih := erase_perm l k (by simpa using h)
    simp only [List.getElem_cons_succ, List.eraseIdx_cons_succ]
    exact (List.Perm.swap _ _ _).trans (List.Perm.cons a ih)
theorem mixed_ok {h : Ah} {r n : Nat} (R : Pur h r) (hn : n ≤ 20) : Ok (K51.f__lwp_mixed [.obj r, .int (n : Nat)]) h fun d h' => ∃ (p : List Nat) (q : Nat), p.Perm (List.range n) ∧ d = .obj q ∧ h.length ≤ q ∧ lstAt h' q = some (iDs p) ∧ Pur h' r ∧ Kp r h h' := by
  have lr := R.lt
  rw [K51.f__lwp_mixed, ok_fnM]
  simp only [K51.m__lwp_mixed, List.map_cons, List.map_nil, List.length_cons, List.length_nil, List.replicate, List.cons_append, List.nil_append]
  rw [ok_seq, ok_par, ok_argC]
  show Ok (var 1 _ >>= fun d => match d with | .int n => if 0 ≤ n ∧ n ≤ 16777216 then mkO (.lst ((List.range n.toNat).map fun (i : Nat) => Dt.int i)) else Mm.no | _ => Mm.no) h _
  rw [ok_bind, ok_pick (i := 1) (d := .int (n : Nat)) rfl]
  dsimp only
  rw [if_pos ⟨by omega, by omega⟩, ok_mkO, ok_argC, ok_lstO, ok_argN]
  refine ⟨szl (by simp), ?_⟩
  rw [ok_argN]
  refine ⟨_, _, rfl, ?_⟩
  rw [Int.toNat_natCast]
  have la : lstAt (h ++ [Ao.lst (iDs (List.range n))] ++ [Ao.lst []]) h.length = some (iDs (List.range n)) := lstAt_app lstAt_new _
  have lb : lstAt (h ++ [Ao.lst (iDs (List.range n))] ++ [Ao.lst []]) (h ++ [Ao.lst (iDs (List.range n))]).length = some [] := lstAt_new
  have Rn : Pur (h ++ [Ao.lst (iDs (List.range n))] ++ [Ao.lst []]) r := (R.app _).app _
  have Kn : Kp r h (h ++ [Ao.lst (iDs (List.range n))] ++ [Ao.lst []]) := (Kp.app _).trans (Kp.app _)
  have eb : (h ++ [Ao.lst (iDs (List.range n))]).length = h.length + 1 := by simp
  show Ok (seq _ _ [some (.obj r), some (.int (n : Nat)), some (.obj h.length), some (.obj (h ++ [Ao.lst (iDs (List.range n))]).length), none]) (h ++ [Ao.lst (iDs (List.range n))] ++ [Ao.lst []]) _
  rw [eb] at lb ⊢
  generalize h ++ [Ao.lst (iDs (List.range n))] ++ [Ao.lst []] = H at *
  rw [ok_seq, ok_forM, ok_itR1, ok_argC, ok_pick (i := 1) (d := .int (n : Nat)) rfl, ok_argN]
  refine ⟨_, rfl, ⟨by omega, by omega⟩, ?_⟩
  rw [Int.toNat_natCast, rng_eq]
  refine forL_ind (fun ds env h' => ∃ (l p : List Nat) (y : Option Dt), lstAt h' h.length = some (iDs l) ∧ lstAt h' (h.length + 1) = some (iDs p) ∧ (p ++ l).Perm (List.range n) ∧ l.length = ds.length ∧ Pur h' r ∧ Kp r h h' ∧ env = [some (.obj r), some (.int (n : Nat)), some (.obj h.length), some (.obj (h.length + 1)), y]) ?_ ?_ _ _ _ ⟨List.range n, [], none, la, lb, by simp, by simp, Rn, Kn, rfl⟩
  · rintro x xs env h' ⟨l, p, y, la, lb, hp, hl, R1, K1, rfl⟩
    have ln : p.length + l.length = n := by have := hp.length_eq; simpa using this
    simp only [List.length_cons] at hl
    refine ⟨[some (.obj r), some (.int (n : Nat)), some (.obj h.length), some (.obj (h.length + 1)), some x], by simp [Pat.bd], ?_⟩
    rw [ok_drp, ok_bm, ok_pick (i := 3) (d := .obj (h.length + 1)) rfl]
    refine ⟨isL_obj lb, ?_⟩
    rw [ok_argC, ok_bm, ok_pick (i := 2) (d := .obj h.length) rfl]
    refine ⟨isL_obj la, ?_⟩
    rw [ok_argC, ok_callM, ok_argC, ok_pick (i := 0) (d := .obj r) rfl, ok_argC, ok_bi, ok_argC, ok_pick (i := 2) (d := .obj h.length) rfl, ok_argN, ok_lenO la, ok_argN]
    have il : (iDs l).length = l.length := by simp [iDs]
    rw [il]
    refine ⟨rfl, call_draw R1 (by omega) (by omega) fun k o k1 R2 => ?_⟩
    have la2 := lstAt_ne' (i := r) (o := o) (by omega) la
    have lb2 := lstAt_ne' (i := r) (o := o) (by omega) lb
    have K2 := K1.trans (Kp.set (r := r) o)
    have hk : k < l.length := by omega
    rw [ok_argN]
    have ee : (iDs l).eraseIdx k = iDs (l.eraseIdx k) := erase_map _ l k
    refine ok_popAt (y := .int (l[k] : Nat)) la2 (by omega) (by simp [iDs, hk]) ?_
    rw [ee]
    have lb3 := lstAt_ne' (i := h.length) (o := .lst (iDs (l.eraseIdx k))) (by omega) lb2
    have K3 := K2.new (i := h.length) (Nat.le_refl _) (.lst (iDs (l.eraseIdx k)))
    have R3 := R2.ne (i := h.length) (o := .lst (iDs (l.eraseIdx k))) (by omega)
    have la3 : lstAt ((h'.set r o).set h.length (.lst (iDs (l.eraseIdx k)))) h.length = some (iDs (l.eraseIdx k)) := lstAt_set (lstAt_lt la2)
    generalize (h'.set r o).set h.length (.lst (iDs (l.eraseIdx k))) = H3 at *
    rw [ok_argN, ok_appO]
    refine ⟨_, lb3, by have := szl (show p.length + 1 ≤ 1000 by omega); simp [iDs]; omega, l.eraseIdx k, p ++ [l[k]], _, lstAt_ne' (by omega) la3, ?_, ?_, by rw [List.length_eraseIdx]; simp [hk]; omega, R3.ne (by omega), K3.new (by omega) _, rfl⟩
    · rw [lstAt_set (lstAt_lt lb3)]
      simp [iDs]
    · refine List.Perm.trans ?_ hp
      rw [List.append_assoc]
      exact List.Perm.append_left p (erase_perm l k hk)
  · rintro env h' ⟨l, p, y, la, lb, hp, hl, R1, K1, rfl⟩
    have : l = [] := List.length_eq_zero_iff.mp (by simpa using hl)
    subst this
    dsimp only
    rw [ok_ret, ok_pick (i := 3) (d := .obj (h.length + 1)) rfl]
    exact ⟨p, h.length + 1, by simpa using hp, rfl, by omega, lb, R1, K1⟩
theorem ok_mulLv {h : Ah} {Q : Dt → Ah → Prop} {xs : List Dt} {n : Int} : Ok (opMul (.lv xs) (.int n)) h Q ↔ (-(2 ^ 63) ≤ n ∧ n < 2 ^ 63 ∧ xs.length * n.toNat ≤ sizeLine) ∧ Q (.lv (List.replicate n.toNat xs).flatten) h := by
  unfold Ok opMul
  simp only [lstT]
  by_cases z : -(2 ^ 63) ≤ n ∧ n < 2 ^ 63 ∧ xs.length * n.toNat ≤ sizeLine
  · rw [if_pos z]
    exact ⟨fun o => ⟨z, o⟩, fun o => o.2⟩
  · rw [if_neg z]
    exact ⟨fun o => o.elim, fun o => z o.1⟩
theorem rep_ls (m c : Nat) : (List.replicate m [lt1 c]).flatten = Ls (List.replicate m c) := by
  unfold Ls
  induction m with
  | zero => rfl
  | succ m ih => rw [List.replicate_succ, List.flatten_cons, ih, List.replicate_succ, List.map_cons]; rfl
theorem ok_mulLs {h : Ah} {Q : Dt → Ah → Prop} {c m : Nat} (hm : m ≤ 1000) : Ok (opMul (.lv [lt1 c]) (.int (m : Nat))) h Q ↔ Q (.lv (Ls (List.replicate m c))) h := by
  rw [ok_mulLv]
  simp only [Int.toNat_natCast, rep_ls]
  exact ⟨fun o => o.2, fun o => ⟨⟨by omega, by omega, by simpa using szl hm⟩, o⟩⟩
theorem perm_fun {p : List Nat} {n : Nat} (hp : p.Perm (List.range n)) (h2 : 2 ≤ n) (h7 : n ≤ 7) : p.length = n ∧ (∀ i j, i < n → j < n → ((p.getD (i % n) 0 : Nat) : Int) = ((p.getD (j % n) 0 : Nat) : Int) → i = j) ∧ ((p.getD (n % n) 0 : Nat) : Int) = ((p.getD (0 % n) 0 : Nat) : Int) ∧ ∀ i, i ≤ n → 0 ≤ ((p.getD (i % n) 0 : Nat) : Int) ∧ ((p.getD (i % n) 0 : Nat) : Int) ≤ 6 := by
  have len : p.length = n := by have := hp.length_eq; simpa using this
  have nd : p.Nodup := hp.nodup_iff.mpr List.nodup_range
  refine ⟨len, fun i j hi hj e => ?_, by simp, fun i _ => ⟨by omega, ?_⟩⟩
  · rw [Nat.mod_eq_of_lt hi, Nat.mod_eq_of_lt hj] at e
    have e' : p[i]'(by omega) = p[j]'(by omega) := by
      have : p.getD i 0 = p.getD j 0 := by omega
      simpa [List.getD_eq_getElem?_getD, len, hi, hj] using this
    have pw := List.pairwise_iff_getElem.mp nd
    rcases Nat.lt_trichotomy i j with x | x | x
    · exact absurd e' (pw i j (by omega) (by omega) x)
    · exact x
    · exact absurd e'.symm (pw j i (by omega) (by omega) x)
  · have lt : i % n < n := Nat.mod_lt _ (by omega)
    have m : p.getD (i % n) 0 ∈ p := by
      rw [List.getD_eq_getElem?_getD, List.getElem?_eq_getElem (by omega)]
      exact List.getElem_mem _
    have := List.mem_range.mp (hp.mem_iff.mp m)
    omega
theorem woven_ok {h : Ah} {r n : Nat} (R : Pur h r) (h2 : 2 ≤ n) (h7 : n ≤ 7) : Ok (K51.f__lwp_woven [.obj r, .int (n : Nat)]) h fun d h' => ∃ W, d = .lv (Ls W) ∧ Line W ∧ (4 ≤ W.length ∧ W.length ≤ 84) ∧ stB W 0 = false ∧ Pur h' r ∧ Kp r h h' := by
  have lr := R.lt
  rw [K51.f__lwp_woven, ok_fnM]
  simp only [K51.m__lwp_woven, List.map_cons, List.map_nil, List.length_cons, List.length_nil, List.replicate, List.cons_append, List.nil_append, lit_e, lit_n, lit_w, lit_s]
  rw [ok_seq, ok_par3, ok_argC, ok_callM, ok_argC, ok_pick (i := 0) (d := .obj r) rfl, ok_argC, ok_pick (i := 1) (d := .int (n : Nat)) rfl, ok_argN]
  refine ⟨rfl, (mixed_ok R (by omega)).mono fun d1 h1 ⟨pa, qa, hpa, e1, l1, at1, R1, K1⟩ => ?_⟩
  subst e1
  rw [ok_argC, ok_callM, ok_argC, ok_pick (i := 0) (d := .obj r) rfl, ok_argC, ok_pick (i := 1) (d := .int (n : Nat)) rfl, ok_argN]
  refine ⟨rfl, (mixed_ok R1 (by omega)).mono fun d2 h2' ⟨pb, qb, hpb, e2, l2, at2, R2, K2⟩ => ?_⟩
  subst e2
  rw [ok_argC, ok_lstE, ok_argN]
  refine ⟨szl (by simp), ?_⟩
  rw [ok_argN]
  refine ⟨_, _, _, rfl, ?_⟩
  have at1' := lstAt_kp K2 (by omega) at1
  have pfa := perm_fun hpa h2 h7
  have lpa := pfa.1
  have ai := pfa.2.1
  have an := pfa.2.2.1
  have ab := pfa.2.2.2
  clear pfa
  have pfb := perm_fun hpb h2 h7
  have lpb := pfb.1
  have bi_ := pfb.2.1
  have bn := pfb.2.2.1
  have bb := pfb.2.2.2
  clear pfb
  have atA : ∀ i : Nat, i < n → (lstAt h2' qa).bind (fun xs => atI xs (i : Int)) = some (.int ((pa.getD i 0 : Nat) : Int)) := fun i hi => by
    rw [at1']
    simp only [Option.bind_some, iDs]
    rw [atI_nat (by simp; omega)]
    simp [List.getD_eq_getElem?_getD, lpa, hi]
  have atB : ∀ i : Nat, i < n → (lstAt h2' qb).bind (fun xs => atI xs (i : Int)) = some (.int ((pb.getD i 0 : Nat) : Int)) := fun i hi => by
    rw [at2]
    simp only [Option.bind_some, iDs]
    rw [atI_nat (by simp; omega)]
    simp [List.getD_eq_getElem?_getD, lpb, hi]
  have KK := K1.trans K2
  generalize ha : (fun i => ((pa.getD (i % n) 0 : Nat) : Int)) = a at *
  generalize hb : (fun i => ((pb.getD (i % n) 0 : Nat) : Int)) = b at *
  have ga : ∀ i, ((pa.getD (i % n) 0 : Nat) : Int) = a i := fun i => by rw [← ha]
  have gb : ∀ i, ((pb.getD (i % n) 0 : Nat) : Int) = b i := fun i => by rw [← hb]
  simp only [ga] at ai an ab
  simp only [gb] at bi_ bn bb
  have all := woven_all (a := a) (b := b) h2 h7 ai an bi_ bn ab bb
  have wl := fun m hm => wex_len (a := a) (b := b) (N := 6) ab bb m hm
  show Ok (seq _ _ [some (.obj r), some (.int (n : Nat)), some (.obj qa), some (.obj qb), some (.lv (Ls [])), none, none]) _ _
  rw [ok_seq, ok_forM, ok_itR1, ok_argC, ok_pick (i := 1) (d := .int (n : Nat)) rfl, ok_argN]
  refine ⟨_, rfl, ⟨by omega, by omega⟩, ?_⟩
  rw [Int.toNat_natCast, rng_eq]
  refine forL_ind (fun ds env h' => ∃ (m : Nat) (y z : Option Dt), m ≤ n ∧ ds = ((List.range n).drop m).map (fun i => .int ((i : Nat) : Int)) ∧ h' = h2' ∧ env = [some (.obj r), some (.int (n : Nat)), some (.obj qa), some (.obj qb), some (.lv (Ls (wex a b (2 * m)))), y, z]) ?_ ?_ _ _ _ ⟨0, none, none, Nat.zero_le _, by simp, rfl, by simp [wex, expand]⟩
  · rintro x xs env h' ⟨m, y, z, hm, e, rfl, rfl⟩
    have c : m < n := by
      rcases Nat.lt_or_ge m n with c | c
      · exact c
      · rw [List.drop_eq_nil_of_le (by simpa using c)] at e; simp at e
    rw [range_drop c, List.map_cons] at e
    obtain ⟨rfl, rfl⟩ := List.cons.inj e
    have w0 := wl (2 * m) (by omega)
    have w1 := wl (2 * m + 1) (by omega)
    have w2 := wl (2 * m + 2) (by omega)
    have s1 : wex a b (2 * m + 1) = wex a b (2 * m) ++ List.replicate (a (m + 1) - a m).natAbs (if 0 < a (m + 1) - a m then 101 else 119) := by rw [wex_succ, wst_even]
    have s2 : wex a b (2 * (m + 1)) = wex a b (2 * m + 1) ++ List.replicate (b (m + 1) - b m).natAbs (if 0 < b (m + 1) - b m then 110 else 115) := by rw [show 2 * (m + 1) = 2 * m + 1 + 1 by omega, wex_succ, wst_odd]
    rw [show 2 * m + 2 = 2 * (m + 1) by omega] at w2
    have pa1 : (pa.getD ((m + 1) % n) 0 : Int) = a (m + 1) := ga (m + 1)
    have pa0 : (pa.getD m 0 : Int) = a m := by rw [← ga m, Nat.mod_eq_of_lt c]
    have pb1 : (pb.getD ((m + 1) % n) 0 : Int) = b (m + 1) := gb (m + 1)
    have pb0 : (pb.getD m 0 : Int) = b m := by rw [← gb m, Nat.mod_eq_of_lt c]
    have a1 := atA ((m + 1) % n) (Nat.mod_lt _ (by omega))
    have a0 := atA m c
    have b1 := atB ((m + 1) % n) (Nat.mod_lt _ (by omega))
    have b0 := atB m c
    rw [pa1] at a1
    rw [pa0] at a0
    rw [pb1] at b1
    rw [pb0] at b0
    have md : ((m : Nat) + 1 : Int) % (n : Int) = (((m + 1) % n : Nat) : Int) := (Int.natCast_emod (m + 1) n).symm
    have absE : ∀ d : Int, (if d < 0 then -d else d) = ((d.natAbs : Nat) : Int) := fun d => by split <;> omega
    have aB := ab (m + 1) (by omega)
    have aB0 := ab m (by omega)
    have bB := bb (m + 1) (by omega)
    have bB0 := bb m (by omega)
    generalize hV0 : wex a b (2 * m) = V0 at *
    generalize hV1 : wex a b (2 * m + 1) = V1 at *
    generalize hV2 : wex a b (2 * (m + 1)) = V2 at *
    refine ⟨[some (.obj r), some (.int (n : Nat)), some (.obj qa), some (.obj qb), some (.lv (Ls V0)), some (.int (m : Nat)), z], by simp [Pat.bd], ?_⟩
    rw [ok_seq, ok_sto, ok_op2, ok_op2, ok_pick (i := 2) (d := .obj qa) rfl, ok_op2, ok_bi, ok_argC, ok_op2, ok_pick (i := 5) (d := .int (m : Nat)) rfl, ok_con, ok_addI, ok_argN, ok_intI, ok_pick (i := 1) (d := .int (n : Nat)) rfl, ok_modI]
    refine ⟨by omega, ?_⟩
    rw [md, ok_ixO]
    refine ⟨_, a1, ?_⟩
    rw [ok_op2, ok_pick (i := 2) (d := .obj qa) rfl, ok_pick (i := 5) (d := .int (m : Nat)) rfl, ok_ixO]
    refine ⟨_, a0, ?_⟩
    rw [ok_subI]
    show Ok (seq _ _ [some (.obj r), some (.int (n : Nat)), some (.obj qa), some (.obj qb), some (.lv (Ls V0)), some (.int (m : Nat)), some (.int (a (m + 1) - a m))]) _ _
    have step1 : ∀ (F : Fl → Ah → Prop), F (.nx [some (.obj r), some (.int (n : Nat)), some (.obj qa), some (.obj qb), some (.lv (Ls V1)), some (.int (m : Nat)), some (.int (a (m + 1) - a m))]) h' → Ok (sto 4 (op2 opAdd (var 4) (op2 opMul (lstE (argC (ifE (tst (op2 opGt (var 6) (con (.int 0)))) (con (.str (Tx [101]))) (con (.str (Tx [119])))) argN)) (bi bAbs (argC (var 6) argN)))) [some (.obj r), some (.int (n : Nat)), some (.obj qa), some (.obj qb), some (.lv (Ls V0)), some (.int (m : Nat)), some (.int (a (m + 1) - a m))]) h' F := by
      intro F hF
      have lv0 := ls_len V0
      rw [ok_sto, ok_op2, ok_pick (i := 4) (d := .lv (Ls V0)) rfl, ok_op2, ok_lstE, ok_argC, ok_ifE, ok_tst, ok_op2, ok_pick (i := 6) (d := .int (a (m + 1) - a m)) rfl, ok_con, ok_gtI, ok_isB]
      by_cases p : 0 < a (m + 1) - a m
      · rw [if_pos (by simpa using p), ok_con, ok_argN]
        refine ⟨szl (by simp), ?_⟩
        rw [ok_bi, ok_argC, ok_pick (i := 6) (d := .int (a (m + 1) - a m)) rfl, ok_argN, ok_absI, absE, show Dt.str (Tx [101]) = lt1 101 from rfl, ok_mulLs (by omega), ok_addLv, ls_app, lv0, ls_len]
        rw [if_pos p] at s1
        rw [← s1]
        exact ⟨szl (by simp; omega), hF⟩
      · rw [if_neg (by simpa using p), ok_con, ok_argN]
        refine ⟨szl (by simp), ?_⟩
        rw [ok_bi, ok_argC, ok_pick (i := 6) (d := .int (a (m + 1) - a m)) rfl, ok_argN, ok_absI, absE, show Dt.str (Tx [119]) = lt1 119 from rfl, ok_mulLs (by omega), ok_addLv, ls_app, lv0, ls_len]
        rw [if_neg p] at s1
        rw [← s1]
        exact ⟨szl (by simp; omega), hF⟩
    rw [ok_seq]
    refine step1 _ ?_
    dsimp only
    rw [ok_seq, ok_sto, ok_op2, ok_op2, ok_pick (i := 3) (d := .obj qb) rfl, ok_op2, ok_bi, ok_argC, ok_op2, ok_pick (i := 5) (d := .int (m : Nat)) rfl, ok_con, ok_addI, ok_argN, ok_intI, ok_pick (i := 1) (d := .int (n : Nat)) rfl, ok_modI]
    refine ⟨by omega, ?_⟩
    rw [md, ok_ixO]
    refine ⟨_, b1, ?_⟩
    rw [ok_op2, ok_pick (i := 3) (d := .obj qb) rfl, ok_pick (i := 5) (d := .int (m : Nat)) rfl, ok_ixO]
    refine ⟨_, b0, ?_⟩
    rw [ok_subI]
    show Ok (sto _ _ [some (.obj r), some (.int (n : Nat)), some (.obj qa), some (.obj qb), some (.lv (Ls V1)), some (.int (m : Nat)), some (.int (b (m + 1) - b m))]) _ _
    have lv1 := ls_len V1
    have fin : ∃ (m' : Nat) (y z : Option Dt), m' ≤ n ∧ ((List.range n).drop (m + 1)).map (fun i => Dt.int ((i : Nat) : Int)) = ((List.range n).drop m').map (fun i => .int ((i : Nat) : Int)) ∧ h' = h' ∧ [some (.obj r), some (.int (n : Nat)), some (.obj qa), some (.obj qb), some (.lv (Ls V2)), some (.int (m : Nat)), some (.int (b (m + 1) - b m))] = [some (.obj r), some (.int (n : Nat)), some (.obj qa), some (.obj qb), some (.lv (Ls (wex a b (2 * m')))), y, z] := ⟨m + 1, _, _, c, rfl, rfl, by rw [hV2]⟩
    rw [ok_sto, ok_op2, ok_pick (i := 4) (d := .lv (Ls V1)) rfl, ok_op2, ok_lstE, ok_argC, ok_ifE, ok_tst, ok_op2, ok_pick (i := 6) (d := .int (b (m + 1) - b m)) rfl, ok_con, ok_gtI, ok_isB]
    by_cases p : 0 < b (m + 1) - b m
    · rw [if_pos (by simpa using p), ok_con, ok_argN]
      refine ⟨szl (by simp), ?_⟩
      rw [ok_bi, ok_argC, ok_pick (i := 6) (d := .int (b (m + 1) - b m)) rfl, ok_argN, ok_absI, absE, show Dt.str (Tx [110]) = lt1 110 from rfl, ok_mulLs (by omega), ok_addLv, ls_app, lv1, ls_len]
      rw [if_pos p] at s2
      rw [← s2]
      exact ⟨szl (by simp; omega), fin⟩
    · rw [if_neg (by simpa using p), ok_con, ok_argN]
      refine ⟨szl (by simp), ?_⟩
      rw [ok_bi, ok_argC, ok_pick (i := 6) (d := .int (b (m + 1) - b m)) rfl, ok_argN, ok_absI, absE, show Dt.str (Tx [115]) = lt1 115 from rfl, ok_mulLs (by omega), ok_addLv, ls_app, lv1, ls_len]
      rw [if_neg p] at s2
      rw [← s2]
      exact ⟨szl (by simp; omega), fin⟩
  · rintro env h' ⟨m, y, z, hm, e, rfl, rfl⟩
    have : m = n := by
      rcases Nat.lt_or_ge m n with c | c
      · rw [range_drop c] at e; simp at e
      · omega
    subst this
    dsimp only
    rw [ok_ret, ok_pick (i := 4) (d := .lv (Ls (wex a b (2 * m)))) rfl]
    exact ⟨_, rfl, all.1, all.2.1, all.2.2, R2, KK⟩
theorem wovenK {h0 h : Ah} {r n : Nat} (R : PK r h0 h) (h2 : 2 ≤ n) (h7 : n ≤ 7) : Ok (K51.f__lwp_woven [.obj r, .int (n : Nat)]) h fun d h' => ∃ W, d = .lv (Ls W) ∧ Line W ∧ (4 ≤ W.length ∧ W.length ≤ 84) ∧ stB W 0 = false ∧ PK r h0 h' ∧ Kp r h h' :=
  (woven_ok R.pu h2 h7).mono fun d h' ⟨W, a, b, c, e, R', K'⟩ => ⟨W, a, b, c, e, ⟨R', R.kp.trans K'⟩, K'⟩
end Mo
set_option Elab.async false
set_option linter.all false
set_option maxRecDepth 100000
set_option maxHeartbeats 4000000
namespace Mo
open PySem L2 TL
theorem lcL_inv {p : Pat} {me : En → Mm Dt} {env : En} {n : Nat} (J : List Dt → List Dt → Ah → Prop)
    (step : ∀ d rest acc H, J (d :: rest) acc H → lstAt H n = some acc → ∃ e1, p.bd d env = some e1 ∧ Ok (me e1) H fun v H2 => lstAt H2 n = some acc ∧ J rest (acc ++ [v]) (H2.set n (.lst (acc ++ [v])))) :
    ∀ (ds acc : List Dt) (H : Ah), acc.length + ds.length ≤ sizeLine → J ds acc H → lstAt H n = some acc → Ok (lcL p yes me n ds env) H fun _ H' => ∃ acc', lstAt H' n = some acc' ∧ J [] acc' H'
  | [], acc, H, _, j, e => by
    show Ok (Mm.pure ()) H _
    rw [ok_pure]
    exact ⟨acc, e, j⟩
  | d :: ds, acc, H, hl, j, e => by
    obtain ⟨e1, hb, o⟩ := step d ds acc H j e
    show Ok (gP p d env >>= fun e1 => yes e1 >>= fun c => match c with
      | true => me e1 >>= fun y => push n y >>= fun _ => lcL p yes me n ds env
      | false => lcL p yes me n ds env) H _
    rw [ok_bind]
    refine ok_of (a := e1) (h' := H) (by simp [gP, hb, Mm.pure]) ?_
    rw [ok_bind]
    show Ok (Mm.pure true) H _
    rw [ok_pure]
    dsimp only
    rw [ok_bind]
    refine o.mono fun v H2 ⟨e2, j2⟩ => ?_
    rw [ok_bind]
    have sz : acc.length < sizeLine := by simp at hl; omega
    have pq : push n v H2 = .ok () (H2.set n (.lst (acc ++ [v]))) := by
      unfold push
      unfold lstAt at e2
      cases w : H2[n]? with
      | none => rw [w] at e2; cases e2
      | some o =>
        rw [w] at e2
        cases o with
        | lst ys => cases e2; simp [sz]
        | _ => cases e2
    refine ok_of pq ?_
    exact lcL_inv J step ds (acc ++ [v]) _ (by simp at hl ⊢; omega) j2 (lstAt_set (lstAt_lt e2))
theorem ok_lcI {mi : En → Mm (List Dt)} {p : Pat} {me : En → Mm Dt} {vs : List Nat} {env : En} {h : Ah} {Q : Dt → Ah → Prop}
    (hi : Ok (mi env) h fun ds h1 => ds.length ≤ sizeLine ∧ ∃ J : List Dt → List Dt → Ah → Prop, J ds [] (h1 ++ [.lst []]) ∧
      (∀ d rest acc H, J (d :: rest) acc H → lstAt H h1.length = some acc → ∃ e1, p.bd d (wipeE env vs) = some e1 ∧ Ok (me e1) H fun v H2 => lstAt H2 h1.length = some acc ∧ J rest (acc ++ [v]) (H2.set h1.length (.lst (acc ++ [v])))) ∧
      (∀ acc H, J [] acc H → lstAt H h1.length = some acc → Q (.lv acc) (H.set h1.length .dead))) :
    Ok (lcM mi p yes me vs env) h Q := by
  simp only [lcM, ok_bind]
  refine hi.mono fun ds h1 ⟨hl, J, j0, st, dn⟩ => ?_
  refine ok_of (a := h1.length) (h' := h1 ++ [.lst []]) rfl ?_
  refine (lcL_inv J st ds [] _ (by simpa using hl) j0 lstAt_new).mono fun _ H' ⟨acc, ea, ja⟩ => ?_
  have q := dn acc H' ja ea
  refine ok_of (a := .lv acc) (h' := H'.set h1.length .dead) ?_ q
  unfold takeL
  unfold lstAt at ea
  cases w : H'[h1.length]? with
  | none => rw [w] at ea; cases ea
  | some o =>
    rw [w] at ea
    cases o with
    | lst ys => cases ea; rfl
    | _ => cases ea
theorem int1 {h : Ah} {Q : Dt → Ah → Prop} {d : Nat} (h1 : 48 ≤ d ∧ d ≤ 57) : Ok (bInt [.str (Tx [d])]) h Q ↔ Q (.int (NumText.digitsVal [d] : Nat)) h := by
  have ad : NumText.AllDigits (Tx [d]).cps.toList := by
    show ∀ c ∈ [d], 48 ≤ c ∧ c ≤ 57
    intro c hc
    have : c = d := by simpa using hc
    subst this
    exact h1
  have ne : (Tx [d]).cps.toList ≠ [] := by show [d] ≠ []; simp
  have it : intText? (Tx [d]) = some ((NumText.digitsVal [d] : Nat) : Int) := intText_digits (x := Tx [d]) ad ne (by rw [tx_len]; simp)
  have sm : (NumText.digitsVal [d] : Nat) ≤ 9 := by
    have : NumText.digitsVal [d] = d - 48 := by simp [NumText.digitsVal]
    omega
  have bi : bInt [.str (Tx [d])] h = .ok (.int (NumText.digitsVal [d] : Nat)) h := by
    simp [bInt, it]
  unfold Ok
  rw [bi]
def psC : List (Nat × Nat) := psA.map fun p => (p.1, p.2.headD 0)
theorem psC_eq : psA = psC.map fun q => (q.1, [q.2]) := by decide +kernel
theorem psC_ok : ∀ q ∈ psC, 48 ≤ q.2 ∧ q.2 ≤ 57 := by decide +kernel
def lnC (l : List (Nat × Nat)) : List Nat := longP (l.map fun q => (q.1, [q.2]))
theorem lnC_app (l : List (Nat × Nat)) (q : Nat × Nat) : lnC (l ++ [q]) = lnC l ++ List.replicate (NumText.digitsVal [q.2]) q.1 := by
  unfold lnC longP
  simp
theorem dv1 (d : Nat) : NumText.digitsVal [d] = d - 48 := by simp [NumText.digitsVal]
theorem lnC_len : ∀ (l : List (Nat × Nat)), (∀ q ∈ l, 48 ≤ q.2 ∧ q.2 ≤ 57) → (lnC l).length ≤ 9 * l.length
  | [], _ => by simp [lnC, longP]
  | q :: l, h => by
    have a := h q (by simp)
    have b := lnC_len l fun x m => h x (by simp [m])
    unfold lnC longP at *
    simp only [List.map_cons, List.flatten_cons, List.length_append, List.length_replicate, dv1, List.length_cons]
    omega
theorem two_ok : Gv (K51.f__lwp_two []) (.lv (Ls (longP psA))) := gv_of fun h => by
  rw [K51.f__lwp_two, ok_fnM]
  simp only [K51.m__lwp_two, List.map_nil, List.length_nil, List.replicate, List.nil_append, lit_sp]
  have hs : Txt.split (Str.ofString "e5 n3 w4 n1 e1 s5 e4 n7 w7 s4 e5 s1 w1 n4 w3 s5") (Tx [32]) = psC.map fun q => Tx (wordP (q.1, [q.2])) := by
    have := split_of (x := Str.ofString "e5 n3 w4 n1 e1 s5 e4 n7 w7 s4 e5 s1 w1 n4 w3 s5") psA (by decide +kernel) (by decide) (by decide +kernel)
    rw [this, psC_eq, List.map_map]
    rfl
  have hx : (Str.ofString "e5 n3 w4 n1 e1 s5 e4 n7 w7 s4 e5 s1 w1 n4 w3 s5").length + 2 ≤ sizeLine := by decide +kernel
  have e56 : longP psA = lnC psC := by unfold lnC; rw [← psC_eq]
  generalize Str.ofString "e5 n3 w4 n1 e1 s5 e4 n7 w7 s4 e5 s1 w1 n4 w3 s5" = X at *
  have lC : psC.length = 16 := rfl
  have okC := psC_ok
  rw [e56]
  generalize psC = ps at *
  rw [ok_seq, ok_sto, ok_lstE, ok_argN]
  refine ⟨szl (by simp), ?_⟩
  show Ok (seq _ _ [some (.lv (Ls [])), none]) _ _
  have sp : mSplit (.str X) [.str (Tx [32])] h = .ok (.lv (ps.map fun q => .str (Tx (wordP (q.1, [q.2]))))) h := by
    simp [mSplit, hs, hx]
  rw [ok_seq, ok_forM, ok_itL, ok_bm, ok_con]
  refine ⟨rfl, ?_⟩
  rw [ok_argC, ok_con, ok_argN]
  refine ok_of sp ?_
  rw [ok_itemsLv]
  refine forL_ind (fun ds env h' => ∃ (m : Nat) (y : Option Dt), m ≤ ps.length ∧ ds = (ps.drop m).map (fun q => .str (Tx (wordP (q.1, [q.2])))) ∧ h' = h ∧ env = [some (.lv (Ls (lnC (ps.take m)))), y]) ?_ ?_ _ _ _ ⟨0, none, Nat.zero_le _, by simp, rfl, by simp [lnC, longP]⟩
  · rintro x xs env h' ⟨m, y, hm, e, rfl, rfl⟩
    have c : m < ps.length := by
      rcases Nat.lt_or_ge m ps.length with c | c
      · exact c
      · rw [List.drop_eq_nil_of_le (by simpa using c)] at e; simp at e
    rw [List.drop_eq_getElem_cons c, List.map_cons] at e
    obtain ⟨rfl, rfl⟩ := List.cons.inj e
    have dg := okC _ (List.getElem_mem c)
    have b1 := lnC_len (ps.take m) fun q mq => okC q (List.mem_of_mem_take mq)
    have b2 : (ps.take m).length ≤ 16 := by simp; omega
    have st : lnC (ps.take (m + 1)) = lnC (ps.take m) ++ List.replicate (NumText.digitsVal [ps[m].2]) ps[m].1 := by
      rw [List.take_succ_eq_append_getElem c, lnC_app]
    have dv := dv1 ps[m].2
    generalize lnC (ps.take m) = V at *
    generalize hw : ps[m] = w at *
    refine ⟨[some (.lv (Ls V)), some (.str (Tx (wordP (w.1, [w.2]))))], by simp [Pat.bd], ?_⟩
    rw [ok_sto, ok_op2, ok_pick (i := 0) (d := .lv (Ls V)) rfl, ok_op2, ok_lstE, ok_argC, ok_op2, ok_pick (i := 1) (d := .str (Tx (wordP (w.1, [w.2])))) rfl, ok_con, ok_ixS]
    refine ⟨w.1, rfl, szl (by simp [wordP]), ?_⟩
    rw [ok_argN]
    refine ⟨szl (by simp), ?_⟩
    rw [ok_bi, ok_argC, ok_op2, ok_pick (i := 1) (d := .str (Tx (wordP (w.1, [w.2])))) rfl, ok_con, ok_ixS]
    refine ⟨w.2, rfl, szl (by simp [wordP]), ?_⟩
    rw [ok_argN, int1 dg, show Dt.str (Tx [w.1]) = lt1 w.1 from rfl, ok_mulLs (by omega), ok_addLv, ls_app, ls_len, ls_len, ← st]
    exact ⟨szl (by simp; omega), m + 1, _, c, rfl, rfl, rfl⟩
  · rintro env h' ⟨m, y, hm, e, rfl, rfl⟩
    have : m = ps.length := by
      rcases Nat.lt_or_ge m ps.length with c | c
      · rw [List.drop_eq_getElem_cons c] at e; simp at e; omega
      · omega
    subst this
    dsimp only
    rw [ok_ret, ok_pick (i := 0) (d := .lv (Ls (lnC (ps.take ps.length)))) rfl, List.take_length]
    exact ⟨rfl, [], by simp⟩
def Gd (W : List Nat) : Prop := Line W ∧ (4 ≤ W.length ∧ W.length ≤ 100) ∧ stB W 0 = false
theorem two_line : Line (longP psA) ∧ (longP psA).length < 100 := good_ok (by decide +kernel)
theorem begun_gd {W : List Nat} (L : Line W) (b : 4 ≤ W.length ∧ W.length ≤ 100) : ∃ W', Gd W' ∧ Gv (K51.f__lwp_begun [.lv (Ls W)]) (.lv (Ls W')) := by
  have hb := lbegun_ok L (by omega)
  generalize K51.f__lwp_begun [.lv (Ls W)] = M at *
  obtain ⟨W', L', l', b', g'⟩ := hb
  exact ⟨W', ⟨L', ⟨by omega, by omega⟩, b'⟩, g'⟩
end Mo
set_option Elab.async false
set_option linter.all false
set_option maxRecDepth 100000
set_option maxHeartbeats 4000000
namespace Mo
open PySem L2 TL
def dkE : Dt := .dk [.inr (Tx [101]), .inr (Tx [119]), .inr (Tx [110]), .inr (Tx [115])] [.str (Tx [119]), .str (Tx [101]), .str (Tx [115]), .str (Tx [110])]
theorem ok_dispE {h : Ah} {Q : Dt → Ah → Prop} {env : En} : Ok (dispM [((con (.str (Tx [101]))), (con (.str (Tx [119])))), ((con (.str (Tx [119]))), (con (.str (Tx [101])))), ((con (.str (Tx [110]))), (con (.str (Tx [115])))), ((con (.str (Tx [115]))), (con (.str (Tx [110]))))] env) h Q ↔ Q dkE (h ++ [.dead]) := by
  show Ok (newO (.dk [] []) >>= fun n => pairsM _ env >>= fun ps => finD n ps) h Q ↔ _
  simp only [ok_bind, ok_newO, ok_pairs, ok_pairs0, ok_con]
  exact ok_finD (ks := [.inr (Tx [101]), .inr (Tx [119]), .inr (Tx [110]), .inr (Tx [115])]) rfl (by decide) (by simp)
theorem ok_ixE {h : Ah} {Q : Dt → Ah → Prop} {x : Nat} (hx : Ltr x) : Ok (ixD dkE (lt1 x)) h Q ↔ Q (lt1 (oppC x)) h := by
  have e : getR h dkE (lt1 x) = some (some (lt1 (oppC x))) := by rcases hx with rfl | rfl | rfl | rfl <;> rfl
  unfold Ok ixD
  rw [e]
theorem ok_revL {h : Ah} {Q : Dt → Ah → Prop} {xs : List Dt} : Ok (revL (.lv xs)) h Q ↔ Q (.lv xs.reverse) h := Iff.rfl
theorem ok_neL {h : Ah} {Q : Dt → Ah → Prop} {xs : List Dt} : Ok (opNeL (.lv xs) (.lv [])) h Q ↔ Q (.bl (!xs.isEmpty)) h := Iff.rfl
theorem seven_ok {h0 h : Ah} {r : Nat} {E : En} {Q : Dt → Ah → Prop} (R : PK r h0 h) (e0 : ∀ d, ((wipeE E [6]).set 6 d)[0]? = some (some (.obj r)))
    (q : ∀ (Ws : List (List Nat)) h', Ws.length = 6 → (∀ W ∈ Ws, Gd W) → PK r h0 h' → Q (.lv (Ws.map fun W => .lv (Ls W))) h') :
    Ok (lcM (itR1 (argC (con (.int 6)) argN)) (.nm 6) yes (callM 2 K51.f__lwp_woven (argC (var 0) (argC (op2 opAdd (con (.int 3)) (callM 2 K51.f__lwp_draw (argC (var 0) (argC (con (.int 5)) argN)))) argN))) [6] E) h Q := by
  refine ok_lcI ?_
  rw [ok_itR1, ok_argC, ok_con, ok_argN]
  refine ⟨_, rfl, ⟨by decide, by decide⟩, ?_⟩
  have lr := R.lt
  have k0 := R.kp.1
  refine ⟨szl (by simp [rng_eq]), fun rest acc H => ∃ Ws : List (List Nat), acc = Ws.map (fun W => .lv (Ls W)) ∧ Ws.length + rest.length = 6 ∧ (∀ W ∈ Ws, Gd W) ∧ PK r h0 H, ⟨[], rfl, by simp [rng_eq], by simp, R.app _⟩, fun d rest acc H j ea => ?_, fun acc H j ea => ?_⟩
  · obtain ⟨Ws, eW, lW, gW, RH⟩ := j
    refine ⟨_, bd_nm, ?_⟩
    rw [ok_callM, ok_argC, ok_pick (e0 _), ok_argC, ok_op2, ok_con, ok_callM, ok_argC, ok_pick (e0 _), ok_argC, ok_con, ok_argN]
    refine ⟨rfl, call_drawK RH (by decide) (by decide) fun k o k1 R2 => ?_⟩
    rw [ok_addI, ok_argN, show (3 : Int) + (k : Int) = ((3 + k : Nat) : Int) by omega]
    refine ⟨rfl, (wovenK R2 (by omega) (by omega)).mono fun v H2 ⟨W, ev, L, b, s, R3, K3⟩ => ?_⟩
    have K4 := (Kp.set (r := r) (h := H) o).trans K3
    refine ⟨lstAt_kp K4 (by omega) ea, Ws ++ [W], by simp [eW, ev], by simp at lW ⊢; omega, fun V hV => ?_, R3.ne (by omega) (by omega)⟩
    rcases List.mem_append.mp hV with m | m
    · exact gW V m
    · have : V = W := by simpa using m
      subst this
      exact ⟨L, ⟨b.1, by omega⟩, s⟩
  · obtain ⟨Ws, eW, lW, gW, RH⟩ := j
    rw [eW]
    exact q Ws _ (by simpa using lW) gW (RH.ne (by omega) (by omega))
def sevM : En → Mm Fl := (seq (sto 7 (lcM (itL (var 5)) (.nm 3) (tst (op2 opEq (callM 1 K51.f__lwp_round (argC (var 3) argN)) (con (.int 4)))) (var 3) [3]))
    (ret (ifE (tst (op2 opNeL (var 7) (lstE argN))) (op2 ixM (var 7) (con (.int 0))) (op2 ixM (var 5) (con (.int 0))))))
theorem sev_ok {h0 h : Ah} {r : Nat} {Ws : List (List Nat)} {V : Dt} {a b c d e f g i k : Option Dt} (eV : V = .lv (Ws.map fun W => .lv (Ls W))) (l6 : Ws.length = 6) (gW : ∀ W ∈ Ws, Gd W) (R : PK r h0 h) : Ok (sevM [a, b, c, d, e, some V, f, g, i, k]) h fun x h1 => ∃ W, x = .rt (.lv (Ls W)) ∧ Gd W ∧ PK r h0 h1 := by
  unfold sevM
  have itV : ∀ {L : List Dt → Ah → Prop} {h : Ah}, Ok (itemsL V) h L ↔ L (Ws.map fun W => .lv (Ls W)) h := by intro L h; rw [eV, ok_itemsLv]
  have ixV : ∀ {Q : Dt → Ah → Prop} {h : Ah}, Ok (ixM V (.int 0)) h Q ↔ ∃ y, atI (Ws.map fun W => Dt.lv (Ls W)) 0 = some y ∧ Q y h := by intro Q h; rw [eV, ok_ixLv]
  have neW : Ws ≠ [] := fun z => by rw [z] at l6; simp at l6
  have hc : ∀ E : En, E[5]? = some (some V) → (∀ d, ((wipeE E [3]).set 3 (some d))[3]? = some (some d)) → Ok (lcM (itL (var 5)) (.nm 3) (tst (op2 opEq (callM 1 K51.f__lwp_round (argC (var 3) argN)) (con (.int 4)))) (var 3) [3] E) h fun d h1 => d = .lv ((Ws.filter fun W => decide (roundZ W = 4)).map fun W => .lv (Ls W)) ∧ ∃ j, h1 = h ++ j := by
    intro E e5 e3
    refine ok_lcM Ws (fun W => .lv (Ls W)) (fun W => decide (roundZ W = 4)) (fun W => .lv (Ls W)) ?_
    rw [ok_itL, ok_pick e5, itV]
    refine ⟨rfl, szl (by omega), fun W mW => ?_, fun j => ⟨rfl, j, rfl⟩⟩
    have G := gW W mW
    have ro := lround_ok G.1.ltrs (by have := G.2.1; omega)
    refine ⟨_, bd_nm, gv_of fun h => ?_, fun _ => gv_of fun h => ?_⟩
    · rw [ok_tst, ok_op2, ok_callM, ok_argC, ok_pick (e3 _), ok_argN]
      refine ⟨rfl, gv_fn ro fun j => ?_⟩
      rw [ok_con, ok_eqI, ok_isB]
      exact ⟨rfl, j, rfl⟩
    · rw [ok_pick (e3 _)]
      exact ⟨rfl, [], by simp⟩
  rw [ok_seq, ok_sto]
  generalize hE : ([a, b, c, d, e, some V, f, g, i, k] : En) = E
  refine (hc E (by rw [← hE]; rfl) (fun d => by rw [← hE]; rfl)).mono fun d h1 ⟨ed, j, eh⟩ => ?_
  subst ed eh hE
  have sub : ∀ W ∈ Ws.filter (fun W => decide (roundZ W = 4)), Gd W := fun W m => gW W (List.mem_filter.mp m).1
  generalize Ws.filter (fun W => decide (roundZ W = 4)) = Vs at *
  generalize hP : Dt.lv (Vs.map fun W => .lv (Ls W)) = P
  have ixP : ∀ (Q : Dt → Ah → Prop) (h : Ah), Ok (ixM P (.int 0)) h Q ↔ ∃ y, atI (Vs.map fun W => Dt.lv (Ls W)) 0 = some y ∧ Q y h := by intro Q h; rw [← hP, ok_ixLv]
  have neP : ∀ {Q : Dt → Ah → Prop} {h : Ah}, Ok (opNeL P (.lv [])) h Q ↔ Q (.bl (!Vs.isEmpty)) h := by intro Q h; rw [← hP, ok_neL]; simp
  show Ok (ret _ [a, b, c, d, e, some V, f, some P, i, k]) _ _
  rw [ok_ret, ok_ifE, ok_tst, ok_op2, ok_pick (i := 7) (d := P) rfl, ok_lstE, ok_argN]
  refine ⟨szl (by simp), ?_⟩
  rw [neP, ok_isB]
  match Vs, sub, ixP with
  | [], _, _ =>
    rw [if_neg (by simp), ok_op2, ok_pick (i := 5) (d := V) rfl, ok_con, ixV]
    match Ws, neW, gW with
    | [], z, _ => exact absurd rfl z
    | W :: Ws, _, gW => exact ⟨.lv (Ls W), at0, W, rfl, gW W (by simp), R.app j⟩
  | W :: Vs, sub, ixP =>
    rw [if_pos (by simp), ok_op2, ok_pick (i := 7) (d := P) rfl, ok_con, ixP]
    exact ⟨.lv (Ls W), at0, W, rfl, sub W (by simp), R.app j⟩
theorem opp_gd {W : List Nat} (L : Line W) : Line (W.reverse.map oppC) := by rw [List.map_reverse]; exact L.opp
theorem drawnT_ok {h0 h : Ah} {r : Nat} {t : Int} (t1 : 0 ≤ t) (t2 : t < 1000) (R : PK r h0 h) : Ok (K51.f__lwp_drawn [.obj r, .int t]) h fun d h' => ∃ W, d = .lv (Ls W) ∧ Gd W ∧ PK r h0 h' := by
  rw [K51.f__lwp_drawn, ok_fnM]
  simp only [K51.m__lwp_drawn, List.map_cons, List.map_nil, List.length_cons, List.length_nil, List.replicate, List.cons_append, List.nil_append, lit_e, lit_n, lit_w, lit_s]
  rw [ok_seq, ok_sto, ok_callM, ok_argC, ok_pick (i := 0) (d := .obj r) rfl, ok_argC, ok_con, ok_argN]
  refine ⟨rfl, call_drawK R (by decide) (by decide) fun k o k1 R1 => ?_⟩
  generalize h.set r o = h1 at *
  show Ok (seq _ _ [some (.obj r), some (.int t), some (.int (k : Nat)), none, none, none, none, none, none, none]) _ _
  rw [ok_seq, ok_ifS, ok_tst, ok_op2, ok_pick (i := 2) (d := .int (k : Nat)) rfl, ok_con, ok_ltI, ok_isB]
  by_cases c4 : ((k : Nat) : Int) < 4
  · rw [if_pos (by simpa using c4), ok_ret, ok_callM, ok_argC, ok_pick (i := 0) (d := .obj r) rfl, ok_argC, ok_pick (i := 1) (d := .int t) rfl, ok_argC, ok_con, ok_argN]
    refine ⟨rfl, (cells_ok R1 t1 t2).mono fun d h2 ⟨W, e, L, b, s, R2⟩ => ?_⟩
    exact ⟨W, e, ⟨L, ⟨b.1, by omega⟩, s⟩, R2⟩
  · rw [if_neg (by simpa using c4), ok_nxt]
    dsimp only
    rw [ok_seq, ok_ifS, ok_tst, ok_op2, ok_pick (i := 2) (d := .int (k : Nat)) rfl, ok_con, ok_ltI, ok_isB]
    by_cases c6 : ((k : Nat) : Int) < 6
    · rw [if_pos (by simpa using c6), ok_ret, ok_callM, ok_argC, ok_pick (i := 0) (d := .obj r) rfl, ok_argC, ok_op2, ok_con, ok_callM, ok_argC, ok_pick (i := 0) (d := .obj r) rfl, ok_argC, ok_con, ok_argN]
      refine ⟨rfl, call_drawK R1 (by decide) (by decide) fun k2 o2 k3 R2 => ?_⟩
      rw [ok_addI, ok_argN, show (2 : Int) + (k2 : Int) = ((2 + k2 : Nat) : Int) by omega]
      refine ⟨rfl, (wovenK R2 (by omega) (by omega)).mono fun d h2 ⟨W, e, L, b, s, R3, _⟩ => ?_⟩
      exact ⟨W, e, ⟨L, ⟨b.1, by omega⟩, s⟩, R3⟩
    · rw [if_neg (by simpa using c6), ok_nxt]
      dsimp only
      rw [ok_seq, ok_ifS, ok_tst, ok_op2, ok_pick (i := 2) (d := .int (k : Nat)) rfl, ok_con, ok_eqI, ok_isB]
      by_cases e6 : ((k : Nat) : Int) = 6
      · rw [if_pos (by simpa using e6), ok_seq, ok_sto]
        refine gv_fn two_ok fun j => ?_
        have tl := two_line
        have t4 : 4 ≤ (longP psA).length := bases_len (longP psA) (by unfold bases; simp)
        generalize longP psA = W at *
        have lw := ls_len W
        have sl : ∀ a : Nat, cutD (Ls W) none (some (a : Int)) = Ls (W.take a) := fun a => by rw [cutD_to, ls_take]
        have sr : ∀ a : Nat, cutD (Ls W) (some (a : Int)) none = Ls (W.drop a) := fun a => by rw [cutD_from, ls_drop]
        generalize Ls W = LW at *
        show Ok (seq _ _ [some (.obj r), some (.int t), some (.int (k : Nat)), some (.lv LW), none, none, none, none, none, none]) _ _
        rw [ok_seq, ok_sto, ok_callM, ok_argC, ok_pick (i := 0) (d := .obj r) rfl, ok_argC, ok_bi, ok_argC, ok_pick (i := 3) (d := .lv LW) rfl, ok_argN, ok_lenLv, ok_argN, lw]
        refine ⟨rfl, call_drawK (R1.app j) (by omega) (by omega) fun a o2 a1 R2 => ?_⟩
        show Ok (ret _ [some (.obj r), some (.int t), some (.int (k : Nat)), some (.lv LW), some (.int (a : Nat)), none, none, none, none, none]) _ _
        rw [ok_ret, ok_callM, ok_argC, ok_op2, ok_slc, ok_pick (i := 3) (d := .lv LW) rfl, ok_opS, ok_pick (i := 4) (d := .int (a : Nat)) rfl, ok_isI, ok_opN, ok_slLv, sr, ok_slc, ok_pick (i := 3) (d := .lv LW) rfl, ok_opN, ok_opS, ok_pick (i := 4) (d := .int (a : Nat)) rfl, ok_isI, ok_slLv, sl, ok_addLv, ls_app, ls_len, ls_len]
        have lr := tl.1.rot (k := a) (by omega)
        have ll : (W.drop a ++ W.take a).length = W.length := by simp; omega
        refine ⟨szl (by simp; omega), ?_⟩
        rw [ok_argN]
        refine ⟨rfl, ?_⟩
        have hb := begun_gd lr ⟨by omega, by omega⟩
        generalize K51.f__lwp_begun [.lv (Ls (W.drop a ++ W.take a))] = M at *
        obtain ⟨W', G, g'⟩ := hb
        exact gv_fn g' fun j' => ⟨W', rfl, G, R2.app j'⟩
      · rw [if_neg (by simpa using e6), ok_nxt]
        dsimp only
        rw [ok_seq, ok_ifS, ok_tst, ok_op2, ok_pick (i := 2) (d := .int (k : Nat)) rfl, ok_con, ok_eqI, ok_isB]
        by_cases e7 : ((k : Nat) : Int) = 7
        · rw [if_pos (by simpa using e7), ok_seq, ok_sto]
          generalize hE : ([some (.obj r), some (.int t), some (.int (k : Nat)), none, none, none, none, none, none, none] : En) = E
          refine seven_ok R1 (fun d => by rw [← hE]; rfl) fun Ws h2 l6 gW R2 => ?_
          subst hE
          generalize hV : Dt.lv (Ws.map fun W => .lv (Ls W)) = V
          show Ok (sevM [some (.obj r), some (.int t), some (.int (k : Nat)), none, none, some V, none, none, none, none]) _ _
          refine (sev_ok hV.symm l6 gW R2).mono fun f h3 ⟨W, ef, G, R3⟩ => ?_
          subst ef
          exact ⟨W, rfl, G, R3⟩
        · rw [if_neg (by simpa using e7), ok_nxt]
          dsimp only
          rw [ok_seq, ok_sto, ok_dispE]
          show Ok (ret _ [some (.obj r), some (.int t), some (.int (k : Nat)), none, none, none, none, none, some dkE, none]) _ _
          rw [ok_ret, ok_callM, ok_argC]
          have hc : ∀ E : En, E[0]? = some (some (.obj r)) → E[1]? = some (some (.int t)) → (∀ d, ((wipeE E [9]).set 9 (some d))[8]? = some (some dkE)) → (∀ d, ((wipeE E [9]).set 9 (some d))[9]? = some (some d)) → Ok (lcM (itL (op1 revL (callM 3 K51.f__lwp_cells (argC (var 0) (argC (var 1) (argC (con (.int 60)) argN)))))) (.nm 9) yes (op2 ixD (var 8) (var 9)) [9] E) (h1 ++ [.dead]) fun d h2 => ∃ W, d = .lv (Ls W) ∧ Line W ∧ (4 ≤ W.length ∧ W.length ≤ 100) ∧ PK r h0 h2 := by
            intro E e0 e1 e8 e9
            refine ok_lcE lt1 (fun c => lt1 (oppC c)) ?_
            rw [ok_itL, ok_op1, ok_callM, ok_argC, ok_pick e0, ok_argC, ok_pick e1, ok_argC, ok_con, ok_argN]
            refine ⟨rfl, (cells_ok (R1.app _) t1 t2).mono fun d h2 ⟨W, e, L, b, s, R2⟩ => ?_⟩
            subst e
            rw [ok_revL, ok_itemsLv]
            refine ⟨W.reverse, by unfold Ls; rw [List.map_reverse], szl (by simp; omega), fun c m => gv_of fun h => ?_, fun j => ⟨W.reverse.map oppC, by unfold Ls; rw [List.map_map]; rfl, opp_gd L, ⟨by simp; omega, by simp; omega⟩, R2.app j⟩⟩
            rw [ok_op2, ok_pick (e8 _), ok_pick (e9 _), ok_ixE (L.ltrs c (List.mem_reverse.mp m))]
            exact ⟨rfl, [], by simp⟩
          generalize hE : ([some (.obj r), some (.int t), some (.int (k : Nat)), none, none, none, none, none, some dkE, none] : En) = E
          refine (hc E (by rw [← hE]; rfl) (by rw [← hE]; rfl) (fun d => by rw [← hE]; rfl) (fun d => by rw [← hE]; rfl)).mono fun d h2 ⟨W, e, L, b, R2⟩ => ?_
          subst e
          rw [ok_argN]
          refine ⟨rfl, ?_⟩
          have hb := begun_gd L b
          generalize K51.f__lwp_begun [.lv (Ls W)] = M at *
          obtain ⟨W', G, g'⟩ := hb
          exact gv_fn g' fun j' => ⟨W', rfl, G, R2.app j'⟩
end Mo
set_option Elab.async false
set_option linter.all false
set_option maxRecDepth 100000
set_option maxHeartbeats 4000000
namespace Mo
open PySem L2 TL
/-- small data: depth n, bulk b at most -/
structure SmP (n b : Nat) (p : PyData) : Prop where
  sh : p.showable = true
  nd : p.hasDict = false
  dp : p.depth ≤ n
  lf : p.leavesShort 1921 = true
  bk : p.bulk ≤ b
  ly : p.canLay0 = true
structure SmA (n b : Nat) (ps : List PyData) : Prop where
  sh : PyData.showableAll ps = true
  nd : PyData.hasDictAll ps = false
  dp : PyData.depthAll ps ≤ n
  lf : PyData.leavesShortAll 1921 ps = true
  bk : PyData.bulkAll ps ≤ b
  ly : PyData.canLayAll0 ps = true
def SmD (n b : Nat) (d : Dt) : Prop := ∃ p, toP d = some p ∧ SmP n b p
def SmDs (n b : Nat) (ds : List Dt) : Prop := ∃ ps, toPs ds = some ps ∧ SmA n b ps
theorem smds_nil {n b : Nat} : SmDs n b [] := ⟨[], rfl, rfl, rfl, Nat.zero_le _, rfl, Nat.zero_le _, rfl⟩
theorem smds_cons {n b c : Nat} {d : Dt} {ds : List Dt} (h : SmD n b d) (k : SmDs n c ds) : SmDs n (b + 1 + c) (d :: ds) := by
  obtain ⟨p, e, P⟩ := h
  obtain ⟨ps, e2, S⟩ := k
  refine ⟨p :: ps, by simp only [toPs, e, e2], ?_, ?_, ?_, ?_, ?_, ?_⟩
  · simp only [PyData.showableAll, P.sh, S.sh, Bool.and_self]
  · simp only [PyData.hasDictAll, P.nd, S.nd, Bool.or_self]
  · simp only [PyData.depthAll]
    have := P.dp
    have := S.dp
    omega
  · simp only [PyData.leavesShortAll, P.lf, S.lf, Bool.and_self]
  · simp only [PyData.bulkAll]
    have := P.bk
    have := S.bk
    omega
  · simp only [PyData.canLayAll0, P.ly, S.ly, Bool.and_self]
theorem smd_lv {n b : Nat} {ds : List Dt} (k : SmDs n b ds) : SmD (n + 1) b (.lv ds) := by
  obtain ⟨ps, e2, S⟩ := k
  refine ⟨.list ps, by simp only [toP, e2], ?_, ?_, ?_, ?_, ?_, ?_⟩
  · simp only [PyData.showable, S.sh]
  · simp only [PyData.hasDict, S.nd]
  · simp only [PyData.depth]
    have := S.dp
    omega
  · rw [PyData.leavesShort]; exact S.lf
  · simp only [PyData.bulk]; exact S.bk
  · simp only [PyData.canLay0, S.ly]
theorem smd_tup {n b : Nat} {ds : List Dt} (k : SmDs n b ds) : SmD (n + 1) b (.tup ds) := by
  obtain ⟨ps, e2, S⟩ := k
  refine ⟨.tuple ps, by simp only [toP, e2], ?_, ?_, ?_, ?_, ?_, ?_⟩
  · simp only [PyData.showable, S.sh]
  · simp only [PyData.hasDict, S.nd]
  · simp only [PyData.depth]
    have := S.dp
    omega
  · rw [PyData.leavesShort]; exact S.lf
  · simp only [PyData.bulk]; exact S.bk
  · simp only [PyData.canLay0, S.ly]
theorem smd_str {n b : Nat} {l : List Nat} (h : ∀ c ∈ l, c < 128) (hb : l.length ≤ b) : SmD n b (.str (Tx l)) := ⟨.str (Tx l), rfl, rfl, rfl, Nat.zero_le _, leaf_tx h, hb, strok h⟩
theorem smd_int {n b : Nat} {i : Int} (h : i.natAbs.log2 < 1920) : SmD n b (.int i) := ⟨.int i, rfl, by simp only [PyData.showable, h, decide_true], rfl, Nat.zero_le _, leaf_int h, Nat.zero_le _, rfl⟩
theorem SmDs.mono {n b m c : Nat} {ds : List Dt} (k : SmDs n b ds) (h1 : n ≤ m) (h2 : b ≤ c) : SmDs m c ds := by
  obtain ⟨ps, e, S⟩ := k
  exact ⟨ps, e, S.sh, S.nd, Nat.le_trans S.dp h1, S.lf, Nat.le_trans S.bk h2, S.ly⟩
theorem SmD.mono {n b m c : Nat} {d : Dt} (k : SmD n b d) (h1 : n ≤ m) (h2 : b ≤ c) : SmD m c d := by
  obtain ⟨p, e, S⟩ := k
  exact ⟨p, e, S.sh, S.nd, Nat.le_trans S.dp h1, S.lf, Nat.le_trans S.bk h2, S.ly⟩
end Mo
set_option Elab.async false
set_option linter.all false
set_option maxRecDepth 100000
set_option maxHeartbeats 4000000
namespace Mo
open PySem L2 TL
theorem lcL_invT {p : Pat} {mt : En → Mm Bool} {me : En → Mm Dt} {env : En} {n : Nat} (J : List Dt → List Dt → Ah → Prop)
    (step : ∀ d rest acc H, J (d :: rest) acc H → lstAt H n = some acc → ∃ e1, p.bd d env = some e1 ∧ Ok (mt e1) H fun b H1 => if b then Ok (me e1) H1 (fun v H2 => lstAt H2 n = some acc ∧ J rest (acc ++ [v]) (H2.set n (.lst (acc ++ [v])))) else lstAt H1 n = some acc ∧ J rest acc H1) :
    ∀ (ds acc : List Dt) (H : Ah), acc.length + ds.length ≤ sizeLine → J ds acc H → lstAt H n = some acc → Ok (lcL p mt me n ds env) H fun _ H' => ∃ acc', lstAt H' n = some acc' ∧ J [] acc' H'
  | [], acc, H, _, j, e => by
    show Ok (Mm.pure ()) H _
    rw [ok_pure]
    exact ⟨acc, e, j⟩
  | d :: ds, acc, H, hl, j, e => by
    obtain ⟨e1, hb, o⟩ := step d ds acc H j e
    show Ok (gP p d env >>= fun e1 => mt e1 >>= fun c => match c with
      | true => me e1 >>= fun y => push n y >>= fun _ => lcL p mt me n ds env
      | false => lcL p mt me n ds env) H _
    rw [ok_bind]
    refine ok_of (a := e1) (h' := H) (by simp [gP, hb, Mm.pure]) ?_
    rw [ok_bind]
    refine o.mono fun b H1 ob => ?_
    cases b with
    | false =>
      obtain ⟨e2, j2⟩ := ob
      exact lcL_invT J step ds acc H1 (by simp at hl; omega) j2 e2
    | true =>
      dsimp only
      rw [ok_bind]
      refine Ok.mono ob fun v H2 ⟨e2, j2⟩ => ?_
      rw [ok_bind]
      have sz : acc.length < sizeLine := by simp at hl; omega
      have pq : push n v H2 = .ok () (H2.set n (.lst (acc ++ [v]))) := by
        unfold push
        unfold lstAt at e2
        cases w : H2[n]? with
        | none => rw [w] at e2; cases e2
        | some o =>
          rw [w] at e2
          cases o with
          | lst ys => cases e2; simp [sz]
          | _ => cases e2
      refine ok_of pq ?_
      exact lcL_invT J step ds (acc ++ [v]) _ (by simp at hl ⊢; omega) j2 (lstAt_set (lstAt_lt e2))
theorem ok_lcT {mi : En → Mm (List Dt)} {p : Pat} {mt : En → Mm Bool} {me : En → Mm Dt} {vs : List Nat} {env : En} {h : Ah} {Q : Dt → Ah → Prop}
    (hi : Ok (mi env) h fun ds h1 => ds.length ≤ sizeLine ∧ ∃ J : List Dt → List Dt → Ah → Prop, J ds [] (h1 ++ [.lst []]) ∧
      (∀ d rest acc H, J (d :: rest) acc H → lstAt H h1.length = some acc → ∃ e1, p.bd d (wipeE env vs) = some e1 ∧ Ok (mt e1) H fun b H1 => if b then Ok (me e1) H1 (fun v H2 => lstAt H2 h1.length = some acc ∧ J rest (acc ++ [v]) (H2.set h1.length (.lst (acc ++ [v])))) else lstAt H1 h1.length = some acc ∧ J rest acc H1) ∧
      (∀ acc H, J [] acc H → lstAt H h1.length = some acc → Q (.lv acc) (H.set h1.length .dead))) :
    Ok (lcM mi p mt me vs env) h Q := by
  simp only [lcM, ok_bind]
  refine hi.mono fun ds h1 ⟨hl, J, j0, st, dn⟩ => ?_
  refine ok_of (a := h1.length) (h' := h1 ++ [.lst []]) rfl ?_
  refine (lcL_invT J st ds [] _ (by simpa using hl) j0 lstAt_new).mono fun _ H' ⟨acc, ea, ja⟩ => ?_
  have q := dn acc H' ja ea
  refine ok_of (a := .lv acc) (h' := H'.set h1.length .dead) ?_ q
  unfold takeL
  unfold lstAt at ea
  cases w : H'[h1.length]? with
  | none => rw [w] at ea; cases ea
  | some o =>
    rw [w] at ea
    cases o with
    | lst ys => cases ea; rfl
    | _ => cases ea
section
variable {h : Ah} {r : Nat} {W : List Nat} {Q : Dt → Ah → Prop}
theorem linestr_ok (a : LnAt h r W) (q : Q (.str (Tx (textP W))) h) : Ok (K51.f_Line___str__ [.obj r]) h Q := by
  rw [K51.f_Line___str__, ok_fnM]
  simp only [K51.m_Line___str__, List.map_cons, List.map_nil, List.length_cons, List.length_nil, List.replicate, List.cons_append, List.nil_append]
  rw [ok_ret, ok_bi, ok_argC, ok_fld, ok_pick (i := 0) (d := .obj r) rfl]
  refine ok_fldR a look_w ?_
  rw [ok_argN]
  exact ok_of (a := .str (Tx (textP W))) (h' := h) rfl q
end
end Mo
set_option Elab.async false
set_option linter.all false
set_option maxRecDepth 100000
set_option maxHeartbeats 4000000
namespace Mo
open PySem L2 TL
section
variable {h : Ah} {r q : Nat} {W V : List Nat} {Q : Dt → Ah → Prop}
theorem ln_some (a : LnAt h r W) : (insR (Str.ofString "Line") h (.obj r)).isSome = true := by
  unfold LnAt at a
  rw [a]
  rfl
theorem ok_strO {fm : List Dt → Mm Dt} {x : Str} (a : LnAt h r W) (o : Ok (fm [.obj r]) h fun z h1 => z = .str x ∧ Q (.str x) h1) : Ok (strO (Str.ofString "Line") fm [.obj r]) h Q := by
  show Ok (insM (Str.ofString "Line") (.obj r) >>= fun _ => fm [.obj r] >>= fun z => (match z with
    | .str x => Mm.pure (.str x)
    | _ => Mm.no)) h Q
  rw [ok_bind, ok_insM]
  refine ⟨ln_some a, ?_⟩
  rw [ok_bind]
  refine o.mono fun z h1 ⟨e, q⟩ => ?_
  subst e
  exact q
end
def Gq (W : List Nat) : Prop := Line W ∧ (4 ≤ W.length ∧ W.length ≤ 120) ∧ stB W 0 = false
end Mo
set_option Elab.async false
set_option linter.all false
set_option maxRecDepth 100000
set_option maxHeartbeats 4000000
namespace Mo
open PySem L2 TL
def Ex {α : Type} (m : Mm α) (h : Ah) (P : Xv → Ah → Prop) : Prop := match m h with
  | .exn x h' => P x h'
  | _ => False
section
variable {α β : Type} {m : Mm α} {f : α → Mm β} {h : Ah} {P P' : Xv → Ah → Prop} {env : En} {m1 m2 : En → Mm Fl} {mt : En → Mm Bool} {mr : En → Mm (List Dt)}
theorem Ex.mono (e : Ex m h P) (k : ∀ x h', P x h' → P' x h') : Ex m h P' := by
  unfold Ex at *
  cases q : m h with
  | ok a h' => rw [q] at e; exact e
  | exn x h' => rw [q] at e; exact k x h' e
  | no => rw [q] at e; exact e
theorem ex_iff : Ex m h P ↔ ∃ x h', m h = .exn x h' ∧ P x h' := by
  unfold Ex
  cases q : m h with
  | ok a h' => exact ⟨fun o => o.elim, fun ⟨_, _, e, _⟩ => by cases e⟩
  | exn x h' => exact ⟨fun o => ⟨x, h', rfl, o⟩, fun ⟨_, _, e, o⟩ => by cases e; exact o⟩
  | no => exact ⟨fun o => o.elim, fun ⟨_, _, e, _⟩ => by cases e⟩
theorem ex_of {x : Xv} {h' : Ah} (e : m h = .exn x h') (p : P x h') : Ex m h P := ex_iff.mpr ⟨x, h', e, p⟩
theorem ex_bO (o : Ok m h fun a h1 => Ex (f a) h1 P) : Ex (m >>= f) h P := by
  obtain ⟨a, h1, e, q⟩ := ok_iff.mp o
  obtain ⟨x, h2, e2, p⟩ := ex_iff.mp q
  refine ex_of (x := x) (h' := h2) ?_ p
  show Mm.bind m f h = _
  unfold Mm.bind
  rw [e]
  exact e2
theorem ex_rai {c : Str} {ns : List Str} (o : Ok (mr env) h fun ds h1 => ds.length = ns.length ∧ P ⟨c, ns.reverse, ds.reverse⟩ h1) : Ex (rai c ns mr env) h P := by
  unfold rai
  refine ex_bO (o.mono fun ds h1 ⟨e, q⟩ => ex_of (x := ⟨c, ns.reverse, ds.reverse⟩) (h' := h1) ?_ q)
  unfold rai1
  exact congrFun (if_pos e) h1
theorem ok_noXa {Q : α → Ah → Prop} : Ok (noX m) h Q ↔ Ok m h Q := by
  unfold Ok noX
  cases m h <;> exact Iff.rfl
end
section
variable {h : Ah} {r : Nat} {W : List Nat} {Q : Dt → Ah → Prop} {P : Xv → Ah → Prop} {env : En} {n : Nat}
theorem ok_noX {m : Mm Dt} : Ok (noX m) h Q ↔ Ok m h Q := by
  unfold Ok noX
  cases m h <;> exact Iff.rfl
theorem ok_nx {f : List Dt → Mm Dt} {ds : List Dt} : Ok (nx f ds) h Q ↔ Ok (f ds) h Q := ok_noX
theorem ok_toldO {tf : Xv → Mm Dt} {mr : Dt → Mm Dt} {mb : En → Mm Dt} (o : Ok (mb env) h fun d h1 => Ok (mr d) h1 Q) : Ok (toldM tf mr mb env) h Q := by
  obtain ⟨d, h1, e, q⟩ := ok_iff.mp o
  obtain ⟨z, h2, e2, q2⟩ := ok_iff.mp q
  refine ok_of (a := z) (h' := h2) ?_ q2
  unfold toldM
  rw [e]
  exact e2
theorem ok_toldE {tf : Xv → Mm Dt} {mr : Dt → Mm Dt} {mb : En → Mm Dt} (o : Ex (mb env) h fun x h1 => Ok (tf x) h1 Q) : Ok (toldM tf mr mb env) h Q := by
  obtain ⟨x, h1, e, q⟩ := ex_iff.mp o
  obtain ⟨z, h2, e2, q2⟩ := ok_iff.mp q
  refine ok_of (a := z) (h' := h2) ?_ q2
  unfold toldM
  rw [e]
  dsimp only
  unfold noX
  rw [e2]
end
def Oe {α : Type} (m : Mm α) (h : Ah) (Q : α → Ah → Prop) (P : Xv → Ah → Prop) : Prop := match m h with
  | .ok a h' => Q a h'
  | .exn x h' => P x h'
  | .no => False
section
variable {α β : Type} {m : Mm α} {f : α → Mm β} {h : Ah} {Q Q' : α → Ah → Prop} {R : β → Ah → Prop} {P : Xv → Ah → Prop}
theorem Oe.mono (o : Oe m h Q P) (k : ∀ a h', Q a h' → Q' a h') : Oe m h Q' P := by
  unfold Oe at *
  cases q : m h with
  | ok a h' => rw [q] at o; exact k a h' o
  | exn x h' => rw [q] at o; exact o
  | no => rw [q] at o; exact o
theorem Ok.oe (o : Ok m h Q) : Oe m h Q P := by
  unfold Ok at o
  unfold Oe
  cases q : m h with
  | ok a h' => rw [q] at o; exact o
  | exn x h' => rw [q] at o; exact o.elim
  | no => rw [q] at o; exact o.elim
theorem Ex.oe (o : Ex m h P) : Oe m h Q P := by
  unfold Ex at o
  unfold Oe
  cases q : m h with
  | ok a h' => rw [q] at o; exact o.elim
  | exn x h' => rw [q] at o; exact o
  | no => rw [q] at o; exact o.elim
theorem oe_bind (o : Oe m h (fun a h1 => Oe (f a) h1 R P) P) : Oe (m >>= f) h R P := by
  unfold Oe at o ⊢
  show (match Mm.bind m f h with | .ok a h' => R a h' | .exn x h' => P x h' | .no => False)
  unfold Mm.bind
  cases q : m h with
  | ok a h' => rw [q] at o; exact o
  | exn x h' => rw [q] at o; exact o
  | no => rw [q] at o; exact o
end
section
variable {h : Ah} {env : En} {m1 m2 : En → Mm Fl} {mt : En → Mm Bool} {mr : En → Mm (List Dt)} {F : Fl → Ah → Prop} {Q : Dt → Ah → Prop} {P : Xv → Ah → Prop}
theorem oe_seq (o : Oe (m1 env) h (fun f h1 => match f with
    | .nx e => Oe (m2 e) h1 F P
    | f => F f h1) P) : Oe (seq m1 m2 env) h F P := by
  unfold seq
  refine oe_bind (o.mono fun f h1 q => ?_)
  cases f with
  | nx e => exact q
  | _ => exact q
theorem oe_if (o : Ok (mt env) h fun b h1 => if b then Oe (m1 env) h1 F P else Oe (m2 env) h1 F P) : Oe (ifS mt m1 m2 env) h F P := by
  unfold ifS
  refine oe_bind (Ok.oe (o.mono fun b h1 q => ?_))
  cases b with
  | true => exact q
  | false => exact q
theorem oe_rai {c : Str} {ns : List Str} (o : Ok (mr env) h fun ds h1 => ds.length = ns.length ∧ P ⟨c, ns.reverse, ds.reverse⟩ h1) : Oe (rai c ns mr env) h F P := Ex.oe (ex_rai o)
theorem oe_fnM {n : Nat} {ms : En → Mm Fl} {ds : List Dt} (o : Oe (ms (ds.map some ++ List.replicate (n - ds.length) none)) h (fun f h1 => match f with
    | .rt d => Q d h1
    | .nx _ => Q .non h1
    | _ => False) P) : Oe (fnM n ms ds) h Q P := by
  unfold fnM
  refine oe_bind (o.mono fun f h1 q => ?_)
  cases f with
  | rt d => exact q
  | nx e => exact q
  | bk e => exact q.elim
  | ct e => exact q.elim
end
section
variable {h : Ah} {env : En} {F : Fl → Ah → Prop} {Q : Dt → Ah → Prop} {P : Xv → Ah → Prop} {G : List Dt → Ah → Prop} {mr : En → Mm (List Dt)}
theorem oe_argC {ma : En → Mm Dt} {mr : En → Mm (List Dt)} (o : Oe (ma env) h (fun d h1 => Oe (mr env) h1 (fun ds h2 => G (d :: ds) h2) P) P) : Oe (argC ma mr env) h G P := by
  unfold argC
  exact oe_bind (o.mono fun d h1 q => oe_bind (q.mono fun ds h2 q => q))
theorem ok_noXE2 {m : En → Mm Dt} : Ok (noXE m env) h Q ↔ Ok (m env) h Q := ok_noX
theorem oe_bi {g : List Dt → Mm Dt} {P : Xv → Ah → Prop} (o : Oe (mr env) h (fun ds h1 => Oe (g ds) h1 Q P) P) : Oe (bi g mr env) h Q P := by
  unfold bi
  exact oe_bind o
end
theorem told_oe {tf : Xv → Mm Dt} {mr : Dt → Mm Dt} {mb : En → Mm Dt} {env : En} {h : Ah} {Q : Dt → Ah → Prop} (o : Oe (mb env) h (fun d h1 => Ok (mr d) h1 Q) (fun x h1 => Ok (tf x) h1 Q)) : Ok (toldM tf mr mb env) h Q := by
  unfold Oe at o
  cases q : mb env h with
  | ok d h1 => rw [q] at o; exact ok_toldO (ok_of q o)
  | exn x h1 => rw [q] at o; exact ok_toldE (ex_of q o)
  | no => rw [q] at o; exact o.elim
theorem chr_lt (c : Char) : c.toNat < 0x110000 := by
  rcases c.valid with h | h
  · have : c.val.toNat < 0xd800 := h
    unfold Char.toNat
    omega
  · have := h.2
    unfold Char.toNat
    omega
theorem hex_lt {c : Nat} : ∀ x ∈ (Nat.toDigits 16 c).map Char.toNat, x < 0x110000 := fun x m => by
  obtain ⟨d, _, rfl⟩ := List.mem_map.mp m
  exact chr_lt d
theorem rc_lt {q c : Nat} (hc : c < 0x110000) : ∀ x ∈ Builtin.Str.reprChar q c, x < 0x110000 := fun x m => by
  have hx := hex_lt (c := c)
  unfold Builtin.Str.reprChar at m
  dsimp only at m
  repeat' split at m
  all_goals simp only [List.mem_append, List.mem_cons, List.mem_replicate, List.not_mem_nil, or_false] at m
  all_goals first
    | omega
    | (rcases m with m | m | m
       · omega
       · omega
       · exact hx x m)
    | (rcases m with (m | m) | (m | m)
       · omega
       · omega
       · omega
       · exact hx x m)
theorem rep_fold (q : Nat) : ∀ (l : List Nat) (acc : Array Nat), (∀ c ∈ l, c < 0x110000) → (∀ x ∈ acc, x < 0x110000) → ∀ x ∈ l.foldl (fun out c => out ++ (Builtin.Str.reprChar q c).toArray) acc, x < 0x110000
  | [], acc, _, ha => ha
  | c :: l, acc, hl, ha => by
    rw [List.foldl_cons]
    refine rep_fold q l _ (fun d m => hl d (List.mem_cons_of_mem _ m)) fun x m => ?_
    rcases Array.mem_append.mp m with m | m
    · exact ha x m
    · exact rc_lt (hl c (by simp)) x (by simpa using m)
theorem strok_iff {x : Str} : PyData.strOk x = true ↔ ∀ c ∈ x.cps, c < 0x110000 := by
  unfold PyData.strOk
  rw [Array.all_eq_true']
  simp
theorem strok_repr {x : Str} (h : PyData.strOk x = true) : PyData.strOk (reprText x) = true := by
  rw [strok_iff] at h ⊢
  have hq : reprQuote x < 0x110000 := by
    unfold reprQuote
    split <;> decide
  intro c m
  unfold reprText at m
  rw [Array.mem_push] at m
  rcases m with m | rfl
  · rw [← Array.foldl_toList] at m
    exact rep_fold _ _ _ (fun c m => h c (by simpa using m)) (fun x m => by
      have : x = reprQuote ‹Str› := by simpa using m
      rw [this]; exact hq) c m
  · exact hq
theorem rep_len {t : List Nat} (sm : ∀ c ∈ t, c < 128) (l : t.length ≤ 1000) : (reprText (Tx t)).length ≤ sizeLine := by
  have := StrLaws.reprText_len (Tx t) (fun c m => by
    have : c ∈ t := by simpa [Tx] using m
    have := sm c this
    omega)
  rw [tx_len] at this
  rw [sizeLine_eq]
  omega
def RepS (d : Dt) (r : Str) : Prop := PyData.strOk r = true ∧ ∀ h, bReprA [d] h = .ok (.str r) h
theorem reps_tx {t : List Nat} (sm : ∀ c ∈ t, c < 128) (l : t.length ≤ 1000) : RepS (.str (Tx t)) (reprText (Tx t)) := ⟨strok_repr (strok sm), fun h => by
  show (if (reprText (Tx t)).length ≤ sizeLine then Rs.ok (Dt.str (reprText (Tx t))) h else Rs.no) = _
  rw [if_pos (rep_len sm l)]⟩
theorem strok_app {a b : Str} (ha : PyData.strOk a = true) (hb : PyData.strOk b = true) : PyData.strOk (a ++ b) = true := by
  rw [strok_iff] at *
  intro c m
  have m : c ∈ a.cps ++ b.cps := m
  rcases Array.mem_append.mp m with m | m
  · exact ha c m
  · exact hb c m
theorem strok_of (s : String) : PyData.strOk (Str.ofString s) = true := by
  rw [strok_iff, Str.ofString_eq_toList]
  intro c m
  obtain ⟨d, _, rfl⟩ := List.mem_map.mp (by simpa using m)
  exact chr_lt d
theorem repA {d : Dt} (hq : toQ d = toP d) (hd : (∃ ds, d = .lv ds) ∨ ∃ ds, d = .tup ds) (k : SmD 60 8000 d) : ∃ p, toP d = some p ∧ ∀ h, bReprA [d] h = .ok (.str p.shown) h := by
  obtain ⟨p, e, S⟩ := k
  have so := show_ok S.sh S.nd S.dp S.lf S.bk
  have sq : showQ p = true := by
    unfold showOk at so
    unfold showQ
    simp only [Bool.and_eq_true] at so ⊢
    exact ⟨⟨so.1.1.1, so.1.2⟩, so.2⟩
  refine ⟨p, e, fun h => ?_⟩
  rw [e] at hq
  rcases hd with ⟨ds, rfl⟩ | ⟨ds, rfl⟩
  · show (match toQ (.lv ds) with
      | some p => if showQ p then Rs.ok (Dt.str p.shown) h else .no
      | none => .no) = _
    rw [hq]
    exact if_pos sq
  · show (match toQ (.tup ds) with
      | some p => if showQ p then Rs.ok (Dt.str p.shown) h else .no
      | none => .no) = _
    rw [hq]
    exact if_pos sq
theorem reps_pt {p : Pt} (h1 : p.1.natAbs ≤ 1000) (h2 : p.2.natAbs ≤ 1000) : ∃ r, RepS (ptD p) r := by
  have a1 : SmD 59 0 (.int p.1) := smd_int (log_small (by omega) (by omega))
  have a2 : SmD 59 0 (.int p.2) := smd_int (log_small (by omega) (by omega))
  obtain ⟨q, e, R⟩ := repA (d := ptD p) rfl (.inr ⟨_, rfl⟩) ((smd_tup (smds_cons a1 (smds_cons a2 (smds_nil (b := 0))))).mono (Nat.le_refl _) (by omega))
  refine ⟨_, ?_, R⟩
  have : q = .tuple [.int p.1, .int p.2] := (Option.some.inj e).symm
  subst this
  show PyData.strOk (("(" : Str) ++ Str.join ", " [(toString p.1 : Str), (toString p.2 : Str)] ++ (")" : String)) = true
  exact strok_app (strok_app (strok_of _) (strok_app (strok_app (strok_of _) (strok_of _)) (strok_of _))) (strok_of _)
theorem pl_small (g : Nat → Nat) : ∀ i, (pl g i).1.natAbs ≤ i ∧ (pl g i).2.natAbs ≤ i
  | 0 => by simp [pl]
  | i + 1 => by
    obtain ⟨a, b⟩ := pl_small g i
    have d : (dx (g i)).1.natAbs ≤ 1 ∧ (dx (g i)).2.natAbs ≤ 1 := by
      unfold dx
      repeat' split
      all_goals simp
    simp only [pl]
    omega
theorem Ok.and {α : Type} {m : Mm α} {h : Ah} {Q R : α → Ah → Prop} (a : Ok m h Q) (b : Ok m h R) : Ok m h fun x h' => Q x h' ∧ R x h' := by
  unfold Ok at *
  cases q : m h with
  | ok x h' => rw [q] at a b; exact ⟨a, b⟩
  | exn x h' => rw [q] at a; exact a.elim
  | no => rw [q] at a; exact a.elim
end Mo
set_option Elab.async false
set_option linter.all false
set_option maxRecDepth 100000
set_option maxHeartbeats 4000000
namespace Mo
open PySem L2 TL
theorem setd_app {H1 h' : Ah} {W : List Nat} {m a b : Nat} {ad : Pt → Nat} {env : En} (M : Met H1 (grpN (pl (cyc W)) m) h' ad) (hm : m < 900)
    (e2 : env[a]? = some (some (.obj H1.length))) (e4 : env[b]? = some (some (ptD (pl (cyc W) m)))) : Ok (setdM (var a) (var b) (lstO argN) env) h' fun d h1 => ∃ j, h1 = H1 ++ j := by
  obtain ⟨k, rfl⟩ := M.hp
  have ln := grp_len (pl (cyc W)) m
  generalize hms : grpN (pl (cyc W)) m = ms at *
  generalize hp : pl (cyc W) m = p at *
  rw [ok_setdM, ok_pick e2, ok_dtO, ok_pick e4, ok_lstO, ok_argN]
  refine ⟨szl (by simp), ?_⟩
  rw [show H1 ++ Ao.dt (ms.map fun q => kp q.1) (ms.map fun q => .obj (ad q.1)) :: k ++ [.lst []] = H1 ++ Ao.dt (ms.map fun q => kp q.1) (ms.map fun q => .obj (ad q.1)) :: (k ++ [.lst []]) by simp]
  rw [ok_setdR (by simp; have := szl (show m + 2 ≤ 1000 by omega); omega), val_ad (U := fun z => .obj (ad z))]
  by_cases pin : p ∈ ms.map (·.1)
  · rw [if_pos pin]
    exact ⟨_, rfl⟩
  · rw [if_neg pin]
    exact ⟨_, rfl⟩
theorem ftouch_any {W : List Nat} (hl : Ltrs W) (hn : W.length ≤ 899) : Gv (K51.f_first_touch [.str (Tx W)]) (touchD W) := gv_of fun h => by
  have sz := szl (show W.length ≤ 1000 by omega)
  rw [K51.f_first_touch, ok_fnM]
  simp only [K51.m_first_touch, List.map_cons, List.map_nil, List.length_cons, List.length_nil, List.replicate, List.cons_append, List.nil_append]
  rw [ok_seq, ok_sto]
  dsimp only
  rw [ok_mkO]
  show Ok (seq _ _ [some (.str (Tx W)), some (.obj h.length), none, none, none]) _ _
  rw [ok_seq, ok_forM, ok_itEL, ok_argC, ok_slc, ok_callM, ok_argC, ok_pick (i := 0) (d := .str (Tx W)) rfl, ok_argN]
  refine ⟨rfl, (placesN_ok hl (by omega) _).mono fun d h1 ⟨e, j, e1⟩ => ?_⟩
  subst e e1
  rw [ok_opN, ok_opS, ok_op1, ok_con, ok_negI, ok_isI, ok_slO lstAt_new, ok_argN]
  refine ⟨_, rfl, ?_⟩
  rw [ok_itemsLv, cut_last]
  refine forL_ind (fun ds env h' => ∃ (m : Nat) (ad : Pt → Nat) (y z w : Option Dt), m ≤ W.length ∧ ds = ((List.range W.length).drop m).map (fun i => .tup [.int ((i : Nat) : Int), ptD (pl (cyc W) i)]) ∧
      Met h (grpN (pl (cyc W)) m) h' ad ∧ touchD W = touchF W ((List.range W.length).drop m) ∧ env = [some (.str (Tx W)), some (.obj h.length), y, z, w]) ?_ ?_ _ _ _ ⟨0, fun _ => 0, none, none, none, Nat.zero_le _, by simp, ⟨⟨.lst (ptsD W W.length) :: j, by simp [grpN]⟩, by simp [grpN], by simp [grpN]⟩, rfl, rfl⟩
  · rintro x xs env h' ⟨m, ad, y, z, w, hm, e, M, ht, rfl⟩
    have c : m < W.length := by
      rcases Nat.lt_or_ge m W.length with c | c
      · exact c
      · rw [List.drop_eq_nil_of_le (by simpa using c)] at e; simp at e
    rw [range_drop c, List.map_cons] at e
    obtain ⟨rfl, rfl⟩ := List.cons.inj e
    rw [range_drop c, touchF_cons] at ht
    refine ⟨[some (.str (Tx W)), some (.obj h.length), some (.int (m : Nat)), some (ptD (pl (cyc W) m)), w], by simp [Pat.bd, Pat.bds], ?_⟩
    rw [ok_seq, ok_sto]
    have o1 := setd_ok (Q := fun d h1 => ∃ r, d = .obj r ∧ lstAt h1 r = some (nsD (erl W m)) ∧ ∀ j, ∃ ad2, Met h (grpN (pl (cyc W)) (m + 1)) ((h1 ++ j).set r (.lst (nsD (erl W m ++ [m])))) ad2) (env := [some (.str (Tx W)), some (.obj h.length), some (.int (m : Nat)), some (ptD (pl (cyc W) m)), w]) (a := 1) (b := 3) M (by omega) rfl rfl fun h1 r a1 a2 => ⟨r, rfl, a1, a2⟩
    have o2 := setd_app (env := [some (.str (Tx W)), some (.obj h.length), some (.int (m : Nat)), some (ptD (pl (cyc W) m)), w]) (a := 1) (b := 3) M (by omega) rfl rfl
    refine (o1.and o2).mono fun d h1 ⟨⟨r, e1, a1, a2⟩, jx, ex⟩ => ?_
    subst e1
    show Ok (seq _ _ [some (.str (Tx W)), some (.obj h.length), some (.int (m : Nat)), some (ptD (pl (cyc W) m)), some (.obj r)]) _ _
    have ln : (nsD (erl W m)).length = (erl W m).length := by simp [nsD]
    have fin : ∀ jj (F : Fl → Ah → Prop), (erl W m).length ≤ 1 → (∀ h2 ad2, Met h (grpN (pl (cyc W)) (m + 1)) h2 ad2 → F (.nx [some (.str (Tx W)), some (.obj h.length), some (.int (m : Nat)), some (ptD (pl (cyc W) m)), some (.obj r)]) h2) → Ok (drp (bm isL mApp (var 4) (argC (var 2) argN)) [some (.str (Tx W)), some (.obj h.length), some (.int (m : Nat)), some (ptD (pl (cyc W) m)), some (.obj r)]) (h1 ++ jj) F := fun jj F le q => by
      rw [ok_drp, ok_bm, ok_pick (i := 4) (d := .obj r) rfl, ok_argC, ok_pick (i := 2) (d := .int (m : Nat)) rfl, ok_argN, ok_appO]
      obtain ⟨ad2, M2⟩ := a2 jj
      refine ⟨isL_obj (lstAt_app a1 jj), _, lstAt_app a1 jj, by rw [ln]; have := szl (show 2 ≤ 1000 by omega); omega, q _ ad2 ?_⟩
      rw [show nsD (erl W m) ++ [Dt.int (m : Nat)] = nsD (erl W m ++ [m]) by simp [nsD]]
      exact M2
    have bad : ∀ (kk : Ah) (P : Fl → Ah → Prop), tB W m = false → P (.rt (touchD W)) (h1 ++ kk) → Ok (ret (var 3) [some (.str (Tx W)), some (.obj h.length), some (.int (m : Nat)), some (ptD (pl (cyc W) m)), some (.obj r)]) (h1 ++ kk) P := fun kk P tb p => by
      rw [ok_ret, ok_pick (i := 3) (d := ptD (pl (cyc W) m)) rfl]
      rw [if_neg (by simp [tb])] at ht
      rw [← ht]
      exact p
    have good : tB W m = true → touchD W = touchF W ((List.range W.length).drop (m + 1)) := fun tb => by rw [if_pos tb] at ht; exact ht
    have le : (erl W m).length ≤ m := by
      have := List.length_filter_le (fun i => decide (pl (cyc W) i = pl (cyc W) m)) (List.range m)
      simpa [erl] using this
    rw [ok_seq, ok_ifS, ok_orT, ok_tst, ok_op2, ok_bi, ok_argC, ok_pick (i := 4) (d := .obj r) rfl, ok_argN, ok_lenO a1, ok_con, ok_gtI, ok_isB, ln]
    match e0 : erl W m with
    | [] =>
      have tb : tB W m = true := by unfold tB; rw [e0]
      rw [if_neg (by simp), ok_andT, ok_tst, ok_op2, ok_bi, ok_argC, ok_pick (i := 4) (d := .obj r) rfl, ok_argN, ok_lenO a1, ok_con, ok_eqI, ok_isB, ln, e0, if_neg (by simp), if_neg (by simp), ok_nxt]
      have := fun F => fin [] F (by rw [e0]; simp)
      rw [List.append_nil] at this
      exact this _ fun h2 ad2 M2 => ⟨m + 1, ad2, _, _, _, c, rfl, M2, good tb, rfl⟩
    | [u] =>
      have hu : u < m := by
        have : u ∈ erl W m := by rw [e0]; simp
        exact List.mem_range.mp (List.mem_filter.mp this).1
      have a1' : lstAt h1 r = some [.int (u : Nat)] := by rw [a1, e0]; rfl
      have tb : tB W m = (stB W u && stB W m && (lv (cyc W u) != lv (cyc W m))) := by unfold tB; rw [e0]
      rw [if_neg (by simp), ok_andT, ok_tst, ok_op2, ok_bi, ok_argC, ok_pick (i := 4) (d := .obj r) rfl, ok_argN, ok_lenO a1, ok_con, ok_eqI, ok_isB, ln, e0, if_pos (by simp), ok_notT, ok_tst, ok_callM, ok_argC, ok_pick (i := 0) (d := .str (Tx W)) rfl, ok_argC, ok_op2, ok_pick (i := 4) (d := .obj r) rfl, ok_con, ok_ixO, a1']
      refine ⟨.int (u : Nat), (at0 : atI [Dt.int (u : Nat)] 0 = some (Dt.int (u : Nat))), ?_⟩
      rw [ok_argC, ok_pick (i := 2) (d := .int (m : Nat)) rfl, ok_argN]
      refine ⟨rfl, gv_fn (plain_ok (by omega) c (by omega)) fun jj => ?_⟩
      rw [ok_isB, ← tb]
      cases htb : tB W m with
      | true =>
        rw [if_neg (by simp), ok_nxt]
        exact fin jj _ (by rw [e0]; simp) fun h2 ad2 M2 => ⟨m + 1, ad2, _, _, _, c, rfl, M2, good htb, rfl⟩
      | false =>
        rw [if_pos (by simp)]
        refine bad jj _ htb ?_
        subst ex
        exact ⟨rfl, jx ++ jj, by simp⟩
    | u :: v :: us =>
      have tb : tB W m = false := by unfold tB; rw [e0]
      rw [if_pos (by simp; omega), if_pos rfl]
      have := fun P => bad [] P tb
      rw [List.append_nil] at this
      refine this _ ?_
      subst ex
      exact ⟨rfl, jx, rfl⟩
  · rintro env h' ⟨m, ad, y, z, w, hm, e, M, ht, rfl⟩
    obtain ⟨k, rfl⟩ := M.hp
    have : m = W.length := by
      rcases Nat.lt_or_ge m W.length with c | c
      · rw [range_drop c] at e; simp at e
      · omega
    subst this
    dsimp only
    rw [ok_ret, ok_con]
    have ht : touchD W = .non := by rw [ht, List.drop_eq_nil_of_le (by simp)]; rfl
    exact ⟨ht.symm, _, rfl⟩
end Mo
set_option Elab.async false
set_option linter.all false
set_option maxRecDepth 100000
set_option maxHeartbeats 4000000
namespace Mo
open PySem L2 TL
structure Nm (rs : List (Nat × Nat)) : Prop where
  one : ∀ q ∈ rs, 1 ≤ q.2
  ne : ∀ i (h : i + 1 < rs.length), (rs[i]'(by omega)).1 ≠ rs[i + 1].1
theorem Nm.tail {q : Nat × Nat} {t : List (Nat × Nat)} (N : Nm (q :: t)) : Nm t := ⟨fun x m => N.one x (List.mem_cons_of_mem _ m), fun i h => by
  have := N.ne (i + 1) (by simpa using h)
  simpa using this⟩
theorem fold_rep {rs : List (Nat × Nat)} {c : Nat} (h : ∀ q, rs.getLast? = some q → q.1 ≠ c) : ∀ k, (List.replicate (k + 1) c).foldl addR rs = rs ++ [(c, k + 1)]
  | 0 => by
    show addR rs c = _
    rcases snoc_cases rs with e | ⟨r, q, e⟩
    · subst e; rfl
    · subst e
      rw [add_snoc, if_neg (h q (by simp))]
  | k + 1 => by
    rw [List.replicate_succ', List.foldl_append, fold_rep h k]
    show addR _ c = _
    rw [add_snoc, if_pos rfl]
theorem expand_cons (q : Nat × Nat) (t : List (Nat × Nat)) : expand (q :: t) = List.replicate q.2 q.1 ++ expand t := rfl
theorem expand_app (a b : List (Nat × Nat)) : expand (a ++ b) = expand a ++ expand b := by simp [expand]
theorem fold_runs : ∀ (rs rs0 : List (Nat × Nat)), Nm rs → (∀ q r, rs0.getLast? = some q → rs.head? = some r → q.1 ≠ r.1) → (expand rs).foldl addR rs0 = rs0 ++ rs
  | [], rs0, _, _ => by simp [expand]
  | q :: t, rs0, N, h => by
    have q1 := N.one q (by simp)
    obtain ⟨c, k⟩ := q
    obtain ⟨k, rfl⟩ : ∃ j, k = j + 1 := ⟨k - 1, by simp at q1; omega⟩
    rw [expand_cons, List.foldl_append, fold_rep (fun x e => h x _ e rfl) k, fold_runs t _ N.tail fun x r e1 e2 => ?_]
    · simp
    · have : x = (c, k + 1) := by simpa using e1.symm
      subst this
      cases t with
      | nil => cases e2
      | cons y t =>
        cases e2
        exact N.ne 0 (by simp)
theorem runs_expand {rs : List (Nat × Nat)} (N : Nm rs) : runsF (expand rs) = rs := by
  have := fold_runs rs [] N (fun q r e => by cases e)
  simpa [runsF] using this
theorem Nm.map {rs : List (Nat × Nat)} (N : Nm rs) {f : Nat × Nat → Nat × Nat} (h1 : ∀ q ∈ rs, 1 ≤ (f q).2) (h2 : ∀ q ∈ rs, ∀ r ∈ rs, q.1 ≠ r.1 → (f q).1 ≠ (f r).1) : Nm (rs.map f) := ⟨fun q m => by
    obtain ⟨r, mr, rfl⟩ := List.mem_map.mp m
    exact h1 r mr, fun i h => by
    rw [List.length_map] at h
    rw [List.getElem_map, List.getElem_map]
    exact h2 _ (List.getElem_mem _) _ (List.getElem_mem _) (N.ne i h)⟩
theorem Nm.reverse {rs : List (Nat × Nat)} (N : Nm rs) : Nm rs.reverse := ⟨fun q m => N.one q (List.mem_reverse.mp m), fun i h => by
    rw [List.length_reverse] at h
    rw [List.getElem_reverse, List.getElem_reverse]
    have := N.ne (rs.length - 1 - (i + 1)) (by omega)
    intro z
    apply this
    rw [← z]
    congr 2
    omega⟩
theorem Nm.rot {rs : List (Nat × Nat)} (N : Nm rs) (w : ∀ (h : 0 < rs.length), (rs[rs.length - 1]'(by omega)).1 ≠ (rs[0]).1) {k : Nat} (hk : k ≤ rs.length) : Nm (rs.drop k ++ rs.take k) := ⟨fun q m => by
    rcases List.mem_append.mp m with m | m
    · exact N.one q (List.mem_of_mem_drop m)
    · exact N.one q (List.mem_of_mem_take m), fun i h => by
    simp only [List.length_append, List.length_drop, List.length_take] at h
    by_cases c1 : i + 1 < rs.length - k
    · rw [List.getElem_append_left (by simpa using (show i < rs.length - k by omega)), List.getElem_append_left (by simpa using c1), List.getElem_drop, List.getElem_drop]
      exact N.ne (k + i) (by omega)
    · by_cases c2 : i < rs.length - k
      · rw [List.getElem_append_left (by simpa using c2), List.getElem_append_right (by simpa using c1), List.getElem_drop, List.getElem_take]
        have := w (by omega)
        simp only [List.length_drop]
        intro z
        apply this
        have e1 : rs.length - 1 = k + i := by omega
        have e2 : i + 1 - (rs.length - k) = 0 := by omega
        simp only [e1, z, e2]
      · rw [List.getElem_append_right (by simpa using c2), List.getElem_append_right (by simpa using c1), List.getElem_take, List.getElem_take]
        simp only [List.length_drop]
        have := N.ne (i - (rs.length - k)) (by omega)
        intro z
        apply this
        rw [z]
        congr 2
        omega⟩
end Mo
set_option Elab.async false
set_option linter.all false
set_option maxRecDepth 100000
set_option maxHeartbeats 4000000
namespace Mo
open PySem L2 TL
theorem ok_intF9 {h : Ah} {Q : Dt → Ah → Prop} {f : List Nat} (hd : f.all dgB = true) (h0 : f ≠ []) (hl : f.length ≤ 640) : Ok (bInt [.str (Tx f)]) h Q ↔ Q (.int (NumText.digitsVal f : Nat)) h := by
  have it : intText? (Tx f) = some ((NumText.digitsVal f : Nat) : Int) := intText_digits (x := Tx f) (all_dig hd) h0 (by rw [tx_len]; omega)
  have e : bInt [.str (Tx f)] h = .ok (.int (NumText.digitsVal f : Nat)) h := by
    simp [bInt, it, hl]
  unfold Ok
  rw [e]
/-- a stretch: a way, figures of which the first is no 0 -/
def wdB : List Nat → Bool
  | c :: d :: f => ltB c && (!decide (d = 48) && (d :: f).all dgB)
  | _ => false
def wdV (w : List Nat) : Nat × Nat := (w.headD 0, NumText.digitsVal w.tail)
def wdD (w : List Nat) : Dt := if wdB w then strD (wdV w) else .non
theorem in_enws {h : Ah} {c : Nat} : inR h (.str (Tx [c])) (.str (Tx [101, 110, 119, 115])) = some (ltB c) := by
  unfold inR
  simp only [sign_tx, tx_cps]
  refine congrArg some ?_
  unfold ltB
  rw [Bool.eq_iff_iff]
  simp
section
variable {h : Ah} {Q : Bool → Ah → Prop} {w : List Nat} {env : En}
/-- the first three tests, the same in both -/
def hdT : En → Mm Bool := (orT (notT (tst (bi bIsi (argC (var 0) (argC (con (.ty "str")) argN))))) (orT (tst (op2 opLt (bi bLen (argC (var 0) argN)) (con (.int 2)))) (orT (tst (op2 opNotIn (op2 ixM (var 0) (con (.int 0))) (con (.str (Tx [101, 110, 119, 115]))))) (tst (op2 opEq (op2 ixM (var 0) (con (.int 1))) (con (.str (Tx [48]))))))))
def hdB : List Nat → Bool
  | c :: d :: _ => !(ltB c && !decide (d = 48))
  | _ => true
theorem hdT_ok (hw : w.length ≤ 900) (e0 : env[0]? = some (some (.str (Tx w)))) (q : Q (hdB w) h) : Ok (hdT env) h Q := by
  have wl : w.length ≤ sizeLine := szl (by omega)
  unfold hdT
  rw [ok_orT, ok_notT, ok_tst, ok_bi, ok_argC, ok_pick e0, ok_argC, ok_con, ok_argN, isi_str, ok_isB, if_neg (by simp), ok_orT, ok_tst, ok_op2, ok_bi, ok_argC, ok_pick e0, ok_argN, ok_lenS]
  refine ⟨wl, ?_⟩
  rw [ok_con, ok_ltI, ok_isB]
  match w, wl, e0, q with
  | [], _, _, q => rw [if_pos (by simp)]; exact q
  | [_], _, _, q => rw [if_pos (by simp)]; exact q
  | c :: d :: f, wl, e0, q =>
    rw [if_neg (by simp; omega), ok_orT, ok_tst, ok_op2, ok_op2, ok_pick e0, ok_con, ok_ixS]
    refine ⟨c, at0, wl, ?_⟩
    rw [ok_con]
    refine ok_of (a := .bl (!ltB c)) (h' := h) (by unfold opNotIn; rw [in_enws]) ?_
    rw [ok_isB]
    cases hc : ltB c with
    | false =>
      rw [if_pos (by simp)]
      simpa [hdB, hc] using q
    | true =>
      rw [if_neg (by simp), ok_tst, ok_op2, ok_op2, ok_pick e0, ok_con, ok_ixS]
      refine ⟨d, at1, wl, ?_⟩
      rw [ok_con, ok_eqS, ok_isB]
      have : hdB (c :: d :: f) = decide (Tx [d] = Tx [48]) := by
        show (!(ltB c && !decide (d = 48))) = _
        rw [hc]
        simp [tx_inj]
      rw [← this]
      exact q
end
theorem stretch_any {w : List Nat} (hw : w.length ≤ 640) : Gv (K51.f_stretch_of [.str (Tx w)]) (wdD w) := gv_of fun h => by
  have wl : w.length ≤ sizeLine := szl (by omega)
  rw [K51.f_stretch_of, ok_fnM]
  simp only [K51.m_stretch_of, List.map_cons, List.map_nil, List.length_cons, List.length_nil, List.replicate, List.cons_append, List.nil_append, lit_enws, lit_0]
  rw [ok_seq, ok_ifS]
  refine hdT_ok (by omega) rfl ?_
  cases hb : hdB w with
  | true =>
    rw [if_pos rfl, ok_ret, ok_con]
    have : wdB w = false := by
      match w, hb with
      | [], _ => rfl
      | [_], _ => rfl
      | c :: d :: f, hb =>
        unfold hdB at hb
        unfold wdB
        cases q1 : ltB c <;> cases q2 : decide (d = 48) <;> simp [q1, q2] at hb ⊢
    exact ⟨by unfold wdD; rw [this]; rfl, [], by simp⟩
  | false =>
    match w, hb, hw, wl with
    | [], hb, _, _ => cases hb
    | [_], hb, _, _ => cases hb
    | c :: d :: f, hb, hw, wl =>
      have hcd : ltB c = true ∧ decide (d = 48) = false := by
        unfold hdB at hb
        cases q1 : ltB c <;> cases q2 : decide (d = 48) <;> simp [q1, q2] at hb ⊢
      rw [if_neg (by simp), ok_nxt]
      dsimp only
      rw [ok_seq, ok_ifS, ok_notT, ok_tst, ok_bi, ok_argC]
      refine ok_lcA (d :: f) (fun c => .str (Tx [c])) (fun c => .bl (dgB c)) ?_
      rw [ok_itS, ok_slc, ok_pick (i := 0) (d := .str (Tx (c :: d :: f))) rfl, ok_opS, ok_con, ok_isI, ok_opN, ok_slS]
      refine ⟨wl, ?_⟩
      rw [cut1, ok_itemsTx]
      refine ⟨rfl, szl (by simp at hw ⊢; omega), fun c m => gv_of fun h => ?_, fun j => ?_⟩
      · rw [ok_op2, ok_pick (i := 1) (d := .str (Tx [c])) rfl, ok_con, lit_dg, ok_inS]
        exact ⟨rfl, [], by simp⟩
      · rw [ok_argN, bAll_ok, ok_isB]
        cases ha : (d :: f).all dgB with
        | false =>
          rw [if_pos (by simp), ok_ret, ok_con]
          have : wdB (c :: d :: f) = false := by
            show (ltB c && (!decide (d = 48) && (d :: f).all dgB)) = false
            rw [ha]; simp
          exact ⟨by unfold wdD; rw [this]; rfl, j, rfl⟩
        | true =>
          rw [if_neg (by simp), ok_nxt]
          dsimp only
          rw [ok_ret, ok_tupE, ok_argC, ok_op2, ok_pick (i := 0) (d := .str (Tx (c :: d :: f))) rfl, ok_con, ok_ixS]
          refine ⟨c, at0, wl, ?_⟩
          rw [ok_argC, ok_bi, ok_argC, ok_slc, ok_pick (i := 0) (d := .str (Tx (c :: d :: f))) rfl, ok_opS, ok_con, ok_isI, ok_opN, ok_slS]
          refine ⟨wl, ?_⟩
          rw [cut1, ok_argN, ok_intF9 ha (by simp) (by simp at hw ⊢; omega), ok_argN]
          refine ⟨szl (by simp), ?_, j, rfl⟩
          have : wdB (c :: d :: f) = true := by
            show (ltB c && (!decide (d = 48) && (d :: f).all dgB)) = true
            rw [ha, hcd.1, hcd.2]; rfl
          unfold wdD
          rw [this]
          rfl
theorem odd_ty {h : Ah} {d : Dt} {T : String} {Q : Dt → Ah → Prop} (ht : tyD h d = some T) (hk : T ∈ kindsT) (ne : T ≠ "str") (q : Q (.bl false) h) : Ok (bIsi [d, .ty "str"]) h Q := by
  refine ok_of (a := .bl false) (h' := h) ?_ q
  unfold bIsi
  dsimp only
  rw [ht]
  dsimp only
  have : (kindsT.contains T && kindsT.contains "str") = true := by
    rw [Bool.and_eq_true]
    exact ⟨by simpa using hk, by decide⟩
  rw [if_pos this]
  have : subTy T "str" = false := by
    unfold subTy
    simp only [kindsT, List.mem_cons, List.not_mem_nil, or_false] at hk
    rcases hk with rfl | rfl | rfl | rfl | rfl | rfl | rfl <;> first | rfl | exact (ne rfl).elim
  rw [this]
section
variable {h : Ah} {Q : Dt → Ah → Prop}
theorem eq_lvnil {ds : List Dt} (s : Shps 60 ds) : Ok (opEq (.lv ds) (.lv [])) h Q ↔ Q (.bl ds.isEmpty) h := by
  obtain ⟨ps, e2, c2, l2⟩ := s
  have t1 : toPH h (.lv ds) = some (.list ps) := by
    show toP (.lv ds) = _
    simp only [toP, e2]
  have iso : ps.isEmpty = ds.isEmpty := by
    cases ds with
    | nil => cases e2; rfl
    | cons d ds =>
      simp only [toPs] at e2
      split at e2
      · cases e2; rfl
      · cases e2
  have e : eqR h (.lv ds) (.lv []) = some ds.isEmpty := by
    have : eqR h (.lv ds) (.lv []) = match toPH h (.lv ds), toPH h (.lv []) with | some p, some q => if SeqAt.shaped p && SeqAt.shaped q then some (PyData.eqv p q) else none | _, _ => none := rfl
    rw [this, t1, show toPH h (.lv []) = some (.list []) from rfl]
    have s1 : SeqAt.shaped (.list ps) = true := by
      unfold SeqAt.shaped
      simp only [PyData.canLay0, c2, PyData.depth, Bool.true_and, decide_eq_true_eq]
      exact decide_eq_true (by omega)
    simp only [s1, show SeqAt.shaped (.list []) = true by decide, Bool.and_self, if_true]
    rw [← iso]
    cases ps with
    | nil => rfl
    | cons q qs => simp [PyData.eqv, PyData.eqvAll]
  unfold Ok opEq
  rw [e]
theorem shps_map {α : Type} {n : Nat} {f : α → Dt} : ∀ {l : List α}, (∀ x ∈ l, Shp n (f x)) → Shps n (l.map f)
  | [], _ => shps_nil
  | a :: l, h => by
    rw [List.map_cons]
    exact shps_cons (h a (by simp)) (shps_map fun x m => h x (List.mem_cons_of_mem _ m))
theorem shp_str3 {n : Nat} {q : Nat × Nat} (hq : q.1 < 128) : Shp (n + 1) (strD q) := shp_tup (shps_cons (shp_str fun c m => by rw [List.mem_singleton.mp m]; exact hq) (shps_cons shp_int shps_nil))
theorem wd_ltr {w : List Nat} (h : wdB w = true) : Ltr (wdV w).1 := by
  match w, h with
  | c :: d :: f, h =>
    unfold wdB at h
    rw [Bool.and_eq_true] at h
    exact ltB_iff.mp h.1
theorem shp_wd {n : Nat} (w : List Nat) : Shp (n + 1) (wdD w) := by
  unfold wdD
  cases h : wdB w with
  | true => exact shp_str3 ((show (wdV w).1 < 128 by rcases wd_ltr h with e | e | e | e <;> omega))
  | false => exact shp_non
theorem stretches_odd {h : Ah} {d : Dt} {T : String} {Q : Dt → Ah → Prop} (ht : ∀ h, tyD h d = some T) (hk : T ∈ kindsT) (ne : T ≠ "str") (q : Q .non h) : Ok (K51.f_stretches_of [d]) h Q := by
  rw [K51.f_stretches_of, ok_fnM]
  simp only [K51.m_stretches_of, List.map_cons, List.map_nil, List.length_cons, List.length_nil, List.replicate, List.cons_append, List.nil_append]
  rw [ok_seq, ok_ifS, ok_notT, ok_tst, ok_bi, ok_argC, ok_pick (i := 0) (d := d) rfl, ok_argC, ok_con, ok_argN]
  refine odd_ty (ht _) hk ne ?_
  rw [ok_isB, if_pos (by simp), ok_ret, ok_con]
  exact q
/-- None among what the words tell -/
theorem non_in {ws : List (List Nat)} : Ok (opIn .non (.lv (ws.map wdD))) h Q ↔ Q (.bl (ws.any fun w => !wdB w)) h := by
  obtain ⟨ps, e2, c2, l2⟩ := shps_map (n := 50) (f := wdD) (l := ws) fun w _ => shp_wd (n := 49) w
  have anyP : ∀ {ws : List (List Nat)} {ps : List PyData}, toPs (ws.map wdD) = some ps → (ps.any fun z => PyData.eqv z .none) = ws.any fun w => !wdB w := by
    intro ws
    induction ws with
    | nil => intro ps e; cases e; rfl
    | cons w ws ih =>
      intro ps e
      simp only [List.map_cons, toPs] at e
      cases hw : wdB w with
      | true =>
        have : toP (wdD w) = some (.tuple [.str (Tx [(wdV w).1]), .int ((wdV w).2 : Nat)]) := by unfold wdD; rw [hw]; rfl
        rw [this] at e
        cases q : toPs (ws.map wdD) with
        | none => rw [q] at e; cases e
        | some qs =>
          rw [q] at e; cases e
          rw [List.any_cons, List.any_cons, ih q, hw]
          simp [PyData.eqv]
      | false =>
        have : toP (wdD w) = some .none := by unfold wdD; rw [hw]; rfl
        rw [this] at e
        cases q : toPs (ws.map wdD) with
        | none => rw [q] at e; cases e
        | some qs =>
          rw [q] at e; cases e
          rw [List.any_cons, List.any_cons, ih q, hw]
          simp [PyData.eqv]
  have flat : ∀ {ws : List (List Nat)} {vs : List V}, flatDs (ws.map wdD) = some vs → inV .non vs = ws.any fun w => !wdB w := by
    intro ws
    induction ws with
    | nil => intro vs e; cases e; rfl
    | cons w ws ih =>
      intro vs e
      simp only [List.map_cons, flatDs] at e
      cases hw : wdB w with
      | true =>
        have : flatD (wdD w) = none := by unfold wdD; rw [hw]; rfl
        rw [this] at e
        simp at e
      | false =>
        have : flatD (wdD w) = some .non := by unfold wdD; rw [hw]; rfl
        rw [this] at e
        cases q : flatDs (ws.map wdD) with
        | none => rw [q] at e; cases e
        | some qs =>
          rw [q] at e; cases e
          have := ih q
          unfold inV at this ⊢
          rw [List.any_cons, List.any_cons, this, hw]
          rfl
  have e3 : inR h .non (.lv (ws.map wdD)) = some (ws.any fun w => !wdB w) := by
    have sq : seqR h (.lv (ws.map wdD)) = some (ws.map wdD) := rfl
    have tl : toPH h (.lv (ws.map wdD)) = some (.list ps) := by
      show toP (.lv (ws.map wdD)) = _
      simp only [toP, e2]
    have sh : SeqAt.shaped (.list ps) = true := by
      unfold SeqAt.shaped
      simp only [PyData.canLay0, c2, PyData.depth, Bool.true_and, decide_eq_true_eq]
      exact decide_eq_true (by omega)
    unfold inR
    simp only [sq, Option.bind_some, flatD, tl]
    cases q : flatDs (ws.map wdD) with
    | some vs => simp only [flat q]
    | none =>
      simp only [toPH, toP, sh, anyP e2]
      rfl
  unfold Ok opIn
  rw [e3]
/-- a text's stretches -/
def txB (t : List Nat) : Bool := (words t).all wdB
theorem stretches_any {t : List Nat} (ht : t.length ≤ 640) (q : ∀ j, Q (if txB t then .lv (((words t).map wdV).map strD) else .non) (h ++ j)) : Ok (K51.f_stretches_of [.str (Tx t)]) h Q := by
  have wl := words_len t
  have cond : ((words t).any fun w => !wdB w) = !txB t := by
    unfold txB
    rw [Bool.eq_iff_iff]
    simp
  have same : txB t = true → (words t).map wdD = ((words t).map wdV).map strD := fun hb => by
    rw [List.map_map]
    refine List.map_congr_left fun w m => ?_
    have := List.all_eq_true.mp hb w m
    unfold wdD
    rw [this]
    rfl
  rw [K51.f_stretches_of, ok_fnM]
  simp only [K51.m_stretches_of, List.map_cons, List.map_nil, List.length_cons, List.length_nil, List.replicate, List.cons_append, List.nil_append]
  rw [ok_seq, ok_ifS, ok_notT, ok_tst, ok_bi, ok_argC, ok_pick (i := 0) (d := .str (Tx t)) rfl, ok_argC, ok_con, ok_argN, isi_str, ok_isB, if_neg (by simp), ok_nxt]
  dsimp only
  rw [ok_seq, ok_sto]
  refine ok_lcA (words t) (fun w => .str (Tx w)) wdD ?_
  rw [ok_itL, ok_bm, ok_pick (i := 0) (d := .str (Tx t)) rfl, ok_argC, ok_con, lit_sp, ok_argN]
  refine ⟨rfl, ?_⟩
  refine ok_of (a := .lv ((words t).map fun w => .str (Tx w))) (h' := h) (by
    have : t.length + 2 ≤ sizeLine := szl (by omega)
    have sw := split_words t
    simp [mSplit, sw, this]) ?_
  rw [ok_itemsLv]
  refine ⟨rfl, szl (by omega), fun w m => gv_of fun h => ?_, fun j => ?_⟩
  · have := word_len m
    rw [ok_callM, ok_argC, ok_pick (i := 2) (d := .str (Tx w)) rfl, ok_argN]
    exact ⟨rfl, gv_fn (stretch_any (by omega)) fun j => ⟨rfl, j, rfl⟩⟩
  · dsimp only [List.set]
    generalize hV : Dt.lv ((words t).map wdD) = V
    rw [ok_ret, ok_ifE, ok_tst, ok_op2, ok_con, ok_pick (i := 1) (d := V) rfl, ← hV, non_in, ok_isB, cond]
    cases hb : txB t with
    | true =>
      rw [if_neg (by simp), ok_pick (i := 1) (d := .lv ((words t).map wdD)) rfl, same hb]
      have := q j
      rw [hb] at this
      exact this
    | false =>
      rw [if_pos (by simp), ok_con]
      have := q j
      rw [hb] at this
      exact this
end
section
variable {h : Ah} {Q : Dt → Ah → Prop} {d : Dt} {r c n : Str}
theorem tf_ok (m : (c, n) ∈ K51.tft) (R : RepS d r) (q : Q (.tup [.str c, .str r]) h) : Ok (K51.tf__lwp_told ⟨c, [n], [d]⟩) h Q := by
  refine ok_of (a := .tup [.str c, .str r]) (h' := h) ?_ q
  unfold K51.tf__lwp_told
  dsimp only
  rw [if_pos m, R.2]
theorem pair_eq {a b r s : Str} (ha : PyData.strOk a = true) (hb : PyData.strOk b = true) (hr : PyData.strOk r = true) (hs : PyData.strOk s = true) : Ok (opEq (.tup [.str a, .str r]) (.tup [.str b, .str s])) h Q ↔ Q (.bl (decide (a = b) && decide (r = s))) h := by
  have e : eqR h (.tup [.str a, .str r]) (.tup [.str b, .str s]) = some (decide (a = b) && decide (r = s)) := by
    show (if SeqAt.shaped (.tuple [.str a, .str r]) && SeqAt.shaped (.tuple [.str b, .str s]) then some (PyData.eqv (.tuple [.str a, .str r]) (.tuple [.str b, .str s])) else none) = _
    have s1 : SeqAt.shaped (.tuple [.str a, .str r]) = true := by
      unfold SeqAt.shaped
      simp only [PyData.canLay0, PyData.canLayAll0, ha, hr, Bool.true_and]
      rfl
    have s2 : SeqAt.shaped (.tuple [.str b, .str s]) = true := by
      unfold SeqAt.shaped
      simp only [PyData.canLay0, PyData.canLayAll0, hb, hs, Bool.true_and]
      rfl
    rw [s1, s2]
    simp [PyData.eqv, PyData.eqvAll, Bool.beq_eq_decide_eq]
  unfold Ok opEq
  rw [e]
end
theorem join_words (t : List Nat) : joinL [32] (words t) = t := by
  have e := StrLaws.join_split (Tx t) (Tx [32])
  rw [split_words] at e
  have e2 := join_tx [32] (words t)
  rw [join_eq, e] at e2
  exact (tx_inj.mp e2).symm
theorem mem_joinL {a : List Nat} {c : Nat} : ∀ {ls : List (List Nat)} {w : List Nat}, w ∈ ls → c ∈ w → c ∈ joinL a ls
  | [p], w, m, hc => by
    have : w = p := by simpa using m
    subst this
    simpa [joinL] using hc
  | p :: q :: r, w, m, hc => by
    show c ∈ p ++ (a ++ joinL a (q :: r))
    rcases List.mem_cons.mp m with rfl | m
    · exact List.mem_append_left _ hc
    · exact List.mem_append_right _ (List.mem_append_right _ (mem_joinL m hc))
theorem word_sub {t w : List Nat} (m : w ∈ words t) : ∀ c ∈ w, c ∈ t := fun c hc => by
  rw [← join_words t]
  exact mem_joinL m hc
end Mo
set_option Elab.async false
set_option linter.all false
set_option maxRecDepth 100000
set_option maxHeartbeats 4000000
namespace Mo
open PySem L2 TL
def sumN (N : List (Nat × Nat)) : Nat := (N.map (·.2)).sum
def btxL (N : List (Nat × Nat)) : List Nat := joinL [32] (N.map wordR)
theorem exp_len (N : List (Nat × Nat)) : (expand N).length = sumN N := by
  unfold expand sumN
  rw [List.length_flatten, List.map_map]
  congr 1
  exact List.map_congr_left fun q _ => by simp
theorem exp_ltr {N : List (Nat × Nat)} (hN : ∀ p ∈ N, Ltr p.1) : Ltrs (expand N) := fun c m => by
  unfold expand at m
  obtain ⟨l, ml, mc⟩ := List.mem_flatten.mp m
  obtain ⟨q, mq, rfl⟩ := List.mem_map.mp ml
  rw [(List.mem_replicate.mp mc).2]
  exact hN q mq
theorem sum_mem {q : Nat × Nat} : ∀ {N : List (Nat × Nat)}, q ∈ N → q.2 ≤ sumN N
  | p :: N, m => by
    have e : sumN (p :: N) = p.2 + sumN N := by simp [sumN]
    rcases List.mem_cons.mp m with rfl | m
    · omega
    · have := sum_mem m
      omega
theorem sum_cast : ∀ N : List (Nat × Nat), (N.map fun p => ((p.2 : Nat) : Int)).sum = ((sumN N : Nat) : Int)
  | [] => rfl
  | p :: N => by
    have := sum_cast N
    unfold sumN at *
    simp only [List.map_cons, List.sum_cons, this]
    omega
abbrev sRE : Str := Str.ofString "returned"
/-- stretches that a board may have -/
structure Gs (N : List (Nat × Nat)) : Prop where
  ltr : ∀ q ∈ N, Ltr q.1
  one : ∀ q ∈ N, 1 ≤ q.2
  adj : AdjR N
  sum : sumN N ≤ 120
theorem Gs.nil : Gs [] := ⟨by simp, by simp, fun i h => by simp at h, by decide⟩
theorem len_sum : ∀ {N : List (Nat × Nat)}, (∀ q ∈ N, 1 ≤ q.2) → N.length ≤ sumN N
  | [], _ => Nat.zero_le _
  | p :: N, h => by
    have e : sumN (p :: N) = p.2 + sumN N := by simp [sumN]
    have := len_sum (N := N) fun q m => h q (List.mem_cons_of_mem _ m)
    have := h p (by simp)
    rw [List.length_cons]
    omega
section
variable {N : List (Nat × Nat)}
theorem Gs.len (G : Gs N) : N.length ≤ 120 := Nat.le_trans (len_sum G.one) G.sum
theorem Gs.le (G : Gs N) {q : Nat × Nat} (m : q ∈ N) : q.2 ≤ 120 := Nat.le_trans (sum_mem m) G.sum
theorem Gs.nm (G : Gs N) : Nm N := ⟨G.one, fun i h z => by
  have := G.adj i h
  rw [List.getD_eq_getElem?_getD, List.getD_eq_getElem?_getD, List.getElem?_eq_getElem (by omega), List.getElem?_eq_getElem h] at this
  simp only [Option.getD_some] at this
  rw [z] at this
  exact this rfl⟩
theorem words_join {ps : List (Nat × Nat)} (h0 : ps ≠ []) (hl : ∀ q ∈ ps, Ltr q.1) : words (joinL [32] (ps.map wordR)) = ps.map wordR := by
  have e := split_of (x := Tx (joinL [32] (ps.map wordR))) (ps.map fun q => (q.1, numL q.2)) (by rw [List.map_map]; rfl) (fun e => h0 (by simpa using e)) (fun p m => by
    obtain ⟨q, mq, rfl⟩ := List.mem_map.mp m
    intro z
    rcases List.mem_cons.mp z with z | z
    · have z : 32 = q.1 := z
      rcases hl q mq with e | e | e | e <;> omega
    · exact numL_free (by omega) z)
  rw [split_words, List.map_map] at e
  have inj : ∀ {a b : List (List Nat)}, a.map Tx = b.map Tx → a = b := fun {a b} e => by
    have := congrArg (List.map fun z : Str => z.cps.toList) e
    simpa [Tx, Function.comp_def] using this
  refine inj (e.trans ?_)
  rw [List.map_map]
  rfl
theorem wordR_wd {q : Nat × Nat} (hl : Ltr q.1) (h1 : 1 ≤ q.2) : wdB (wordR q) = true ∧ wdV (wordR q) = q := by
  obtain ⟨d, l, e, hd⟩ := numL_head q.2 h1
  have dg : (numL q.2).all dgB = true := List.all_eq_true.mpr fun c m => dgB_iff.mpr (numL_digits q.2 c m)
  have ev : NumText.digitsVal (numL q.2) = q.2 := numL_val _
  refine ⟨?_, ?_⟩
  · show wdB (q.1 :: numL q.2) = true
    rw [e] at dg ⊢
    show (ltB q.1 && (!decide (d = 48) && (d :: l).all dgB)) = true
    rw [dg, ltB_iff.mpr hl, decide_eq_false hd]
    rfl
  · show (q.1, NumText.digitsVal (numL q.2)) = q
    rw [ev]
theorem txb_btx (h0 : N ≠ []) (hl : ∀ q ∈ N, Ltr q.1) (h1 : ∀ q ∈ N, 1 ≤ q.2) : txB (btxL N) = true ∧ (words (btxL N)).map wdV = N := by
  have e : words (btxL N) = N.map wordR := words_join h0 hl
  unfold txB
  rw [e]
  refine ⟨?_, ?_⟩
  · rw [List.all_map, List.all_eq_true]
    exact fun q m => (wordR_wd (hl q m) (h1 q m)).1
  · rw [List.map_map]
    conv => rhs; rw [← List.map_id N]
    exact List.map_congr_left fun q m => (wordR_wd (hl q m) (h1 q m)).2
theorem txb_nil : txB (btxL []) = false := by decide +kernel
theorem join_len : ∀ (ps : List (List Nat)), (joinL [32] ps).length ≤ (ps.map List.length).sum + ps.length
  | [] => by simp [joinL]
  | [p] => by simp [joinL]
  | p :: q :: r => by
    have ih := join_len (q :: r)
    show (p ++ ([32] ++ joinL [32] (q :: r))).length ≤ _
    simp only [List.length_append, List.length_cons, List.length_nil, List.map_cons, List.sum_cons] at ih ⊢
    omega
theorem numL_le {n : Nat} (h1 : 1 ≤ n) (h2 : n < 1000) : (numL n).length ≤ n := by
  by_cases a : n < 10
  · have : (numL n).length ≤ 1 := numL_len (by decide) (by omega)
    omega
  by_cases b : n < 100
  · have : (numL n).length ≤ 2 := numL_len (by decide) (by omega)
    omega
  · have : (numL n).length ≤ 3 := numL_len (by decide) (by omega)
    omega
theorem btx_len (h1 : ∀ q ∈ N, 1 ≤ q.2 ∧ q.2 < 1000) : (btxL N).length ≤ 2 * N.length + sumN N := by
  have := join_len (N.map wordR)
  rw [List.map_map, List.length_map] at this
  have s : ∀ {N : List (Nat × Nat)}, (∀ q ∈ N, 1 ≤ q.2 ∧ q.2 < 1000) → (N.map (List.length ∘ wordR)).sum ≤ N.length + sumN N := by
    intro N
    induction N with
    | nil => intro _; simp [sumN]
    | cons p N ih =>
      intro h
      have i := ih fun q m => h q (List.mem_cons_of_mem _ m)
      have e : sumN (p :: N) = p.2 + sumN N := by simp [sumN]
      obtain ⟨a, b⟩ := h p (by simp)
      have := numL_le a b
      simp only [List.map_cons, List.sum_cons, Function.comp, wordR, List.length_cons, e] at i ⊢
      omega
  have := s h1
  unfold btxL
  omega
theorem btx_sm (hl : ∀ q ∈ N, Ltr q.1) : ∀ c ∈ btxL N, c < 128 := by
  have w : ∀ q ∈ N, ∀ c ∈ wordR q, c < 128 := fun q m => word_small (hl q m)
  have gen : ∀ (ps : List (List Nat)), (∀ p ∈ ps, ∀ c ∈ p, c < 128) → ∀ c ∈ joinL [32] ps, c < 128 := by
    intro ps
    induction ps with
    | nil => intro _ c m; simp [joinL] at m
    | cons p ps ih =>
      intro h c m
      cases ps with
      | nil => exact h p (by simp) c (by simpa [joinL] using m)
      | cons q r =>
        have m : c ∈ p ++ ([32] ++ joinL [32] (q :: r)) := m
        rcases List.mem_append.mp m with m | m
        · exact h p (by simp) c m
        · rcases List.mem_append.mp m with m | m
          · rw [List.mem_singleton.mp m]; decide
          · exact ih (fun p m => h p (List.mem_cons_of_mem _ m)) c m
  exact gen _ fun p m => by
    obtain ⟨q, mq, rfl⟩ := List.mem_map.mp m
    exact w q mq
def stpB (rs : List (Nat × Nat)) : Bool := decide (4 ≤ rs.length) && !((List.range rs.length).any (altB rs))
theorem stp_any {rs : List (Nat × Nat)} {h : Ah} {a0 : Option Dt} {V : Dt} (eV : V = .lv (rs.map strD)) (hl : ∀ q ∈ rs, Ltr q.1) (hs : sumN rs ≤ 120) (rl : rs.length ≤ 120) :
    Ok (stpM [a0, some V, none, none, none]) h fun f h1 => f = .rt (if stpB rs then .str (Tx (expand rs)) else .non) ∧ ∃ j, h1 = h ++ j := by
  unfold stpM
  rw [ok_seq, ok_ifS, ok_orT, ok_tst, ok_op2, ok_pick (i := 1) (d := V) rfl, ok_con, eV]
  refine ok_of (a := .bl false) (h' := h) rfl ?_
  rw [ok_isB, if_neg (by simp), ok_orT, ok_tst, ok_op2, ok_bi, ok_argC, ok_pick (i := 1) (d := .lv (rs.map strD)) rfl, ok_argN, ok_lenLv, ok_con, ok_ltI, ok_isB, List.length_map]
  by_cases four : 4 ≤ rs.length
  · rw [if_neg (by simp; omega), ok_tst, ok_op2, ok_bi, ok_argC]
    refine ok_lcP rs strD (fun q => .int ((q.2 : Nat) : Int)) ?_
    rw [ok_itL, ok_pick (i := 1) (d := .lv (rs.map strD)) rfl, ok_itemsLv]
    refine ⟨rfl, szl (by omega), fun q m => ⟨[a0, some (.lv (rs.map strD)), some (.str (Tx [q.1])), some (.int (q.2 : Nat)), none], by simp [Pat.bd, Pat.bds, wipeE, strD], gv_of fun h => ?_⟩, fun j1 => ?_⟩
    · rw [ok_pick (i := 3) (d := .int (q.2 : Nat)) rfl]
      exact ⟨rfl, [], by simp⟩
    rw [ok_argN, ok_sumLv, ok_con, ok_gtI, ok_isB, sum_cast, if_neg (by simp; omega), ok_nxt]
    dsimp only
    rw [ok_seq, ok_ifS, ok_tst, ok_bi, ok_argC]
    refine ok_lcP (List.range rs.length) (fun i => .tup [.int (i : Nat), strD (rs.getD i (0, 0))]) (fun i => Dt.bl (altB rs i)) ?_
    rw [ok_itEL, ok_argC, ok_pick (i := 1) (d := .lv (rs.map strD)) rfl, ok_argN]
    refine ⟨_, rfl, ?_⟩
    rw [ok_itemsLv, enum_str]
    refine ⟨rfl, by simpa using szl (show rs.length ≤ 1000 by omega), fun i mi => ⟨[a0, some (.lv (rs.map strD)), some (.str (Tx [(rs.getD i (0, 0)).1])), some (.int ((rs.getD i (0, 0)).2 : Nat)), some (.int (i : Nat))], by simp [Pat.bd, Pat.bds, wipeE, strD], gv_of fun h => ?_⟩, fun j2 => ?_⟩
    · have hi := List.mem_range.mp mi
      rw [ok_op2, ok_callM, ok_argC, ok_op2, ok_op2, ok_pick (i := 1) (d := .lv (rs.map strD)) rfl, ok_op2, ok_pick (i := 4) (d := .int (i : Nat)) rfl, ok_con, ok_subI, ok_ixLv]
      refine ⟨_, str_prev hi, ?_⟩
      rw [ok_con]
      refine ok_ixTup.mpr ⟨_, at0, ?_⟩
      rw [ok_argN]
      refine ⟨rfl, gv_fn level_ok fun j => ?_⟩
      rw [ok_callM, ok_argC, ok_pick (i := 2) (d := .str (Tx [(rs.getD i (0, 0)).1])) rfl, ok_argN]
      refine ⟨rfl, gv_fn level_ok fun j' => ?_⟩
      rw [ok_eqB]
      exact ⟨rfl, j ++ j', by simp⟩
    rw [ok_argN, bAny_ok, ok_isB]
    cases ha : (List.range rs.length).any (altB rs) with
    | true =>
      rw [if_pos rfl, ok_ret, ok_con]
      have e : stpB rs = false := by unfold stpB; rw [ha]; simp
      rw [e]
      exact ⟨rfl, j1 ++ j2, by simp⟩
    | false =>
      rw [if_neg (by simp), ok_nxt]
      dsimp only
      rw [ok_ret, ok_bm, ok_con, lit_, ok_argC]
      refine ⟨rfl, ?_⟩
      refine ok_lcP rs strD (fun q => .str (Tx (List.replicate q.2 q.1))) ?_
      rw [ok_itL, ok_pick (i := 1) (d := .lv (rs.map strD)) rfl, ok_itemsLv]
      refine ⟨rfl, szl (by omega), fun q m => ⟨[a0, some (.lv (rs.map strD)), some (.str (Tx [q.1])), some (.int (q.2 : Nat)), none], by simp [Pat.bd, Pat.bds, wipeE, strD], gv_of fun h => ?_⟩, fun j3 => ?_⟩
      · have := sum_mem m
        rw [ok_op2, ok_pick (i := 2) (d := .str (Tx [q.1])) rfl, ok_pick (i := 3) (d := .int (q.2 : Nat)) rfl, ok_repS (by omega)]
        exact ⟨rfl, [], by simp⟩
      have hs2 : (rs.map fun q => (List.replicate q.2 q.1).length).sum = sumN rs := by
        unfold sumN
        congr 1
        exact List.map_congr_left fun q _ => by simp
      rw [ok_argN, ok_join (fun q : Nat × Nat => List.replicate q.2 q.1) (by rw [hs2]; simp; omega), join_nil, show (rs.map fun q : Nat × Nat => List.replicate q.2 q.1).flatten = expand rs from rfl]
      have e : stpB rs = true := by unfold stpB; rw [ha, decide_eq_true four]; rfl
      rw [e]
      exact ⟨rfl, j1 ++ j2 ++ j3, by simp⟩
  · rw [if_pos (by simp; omega), if_pos rfl, ok_ret, ok_con]
    have e : stpB rs = false := by unfold stpB; rw [decide_eq_false four]; rfl
    rw [e]
    exact ⟨rfl, [], by simp⟩
def stpD (N : List (Nat × Nat)) : Dt := if stpB N then .str (Tx (expand N)) else .non
theorem stepsof_any (G : Gs N) {h : Ah} {Q : Dt → Ah → Prop} (q : ∀ j, Q (stpD N) (h ++ j)) : Ok (K51.f_steps_of [.str (Tx (btxL N))]) h Q := by
  have bl : (btxL N).length ≤ 400 := by
    have := btx_len (N := N) fun q m => ⟨G.one q m, by have := G.le m; omega⟩
    have := G.len
    have := G.sum
    omega
  rw [K51.f_steps_of, ok_fnM]
  simp only [K51.m_steps_of, List.map_cons, List.map_nil, List.length_cons, List.length_nil, List.replicate, List.cons_append, List.nil_append]
  rw [ok_seq, ok_sto, ok_callM, ok_argC, ok_pick (i := 0) (d := .str (Tx (btxL N))) rfl, ok_argN]
  refine ⟨rfl, stretches_any (by omega) fun j0 => ?_⟩
  dsimp only [List.set]
  by_cases h0 : N = []
  · subst h0
    rw [txb_nil, if_neg (by simp)]
    show Ok (seq _ _ [some (.str (Tx (btxL []))), some .non, none, none, none]) _ _
    rw [ok_seq, ok_ifS, ok_orT, ok_tst, ok_op2, ok_pick (i := 1) (d := .non) rfl, ok_con, ok_isN, ok_isB, if_pos (show isNon Dt.non = true from rfl), if_pos rfl, ok_ret, ok_con]
    exact q j0
  · obtain ⟨e1, e2⟩ := txb_btx h0 G.ltr G.one
    rw [e1, e2, if_pos rfl]
    generalize hV : Dt.lv (N.map strD) = V
    have key := stp_any (h := h ++ j0) (a0 := some (.str (Tx (btxL N)))) hV.symm G.ltr G.sum G.len
    unfold stpM at key
    refine key.mono fun f h1 ⟨f1, j2, f2⟩ => ?_
    subst f1 f2
    have := q (j0 ++ j2)
    rw [← List.append_assoc] at this
    exact this
end
theorem exp_first {rs : List (Nat × Nat)} (h : 0 < rs.length) (one : ∀ q ∈ rs, 1 ≤ q.2) : (expand rs)[0]? = some (rs[0]).1 := by
  cases rs with
  | nil => simp at h
  | cons q t =>
    have := one q (by simp)
    rw [expand_cons, List.getElem?_append_left (by rw [List.length_replicate]; omega), List.getElem?_replicate, if_pos (by omega)]
    rfl
theorem exp_last {rs : List (Nat × Nat)} (h : 0 < rs.length) (one : ∀ q ∈ rs, 1 ≤ q.2) : (expand rs)[(expand rs).length - 1]? = some (rs[rs.length - 1]'(by omega)).1 := by
  rcases snoc_cases rs with e | ⟨r, q, rfl⟩
  · subst e; simp at h
  · have := one q (by simp)
    have e : expand (r ++ [q]) = expand r ++ List.replicate q.2 q.1 := by rw [expand_app]; simp [expand]
    rw [e, List.getElem?_append_right (by simp; omega), List.getElem?_replicate, if_pos (by simp; omega)]
    simp
/-- what Line raises of the text of stretches -/
def outN (N : List (Nat × Nat)) : Option Xv :=
  if stpB N = false then some ⟨Str.ofString "InvalidText", [Str.ofString "given"], [.str (Tx (btxL N))]⟩
  else if pl (cyc (expand N)) (expand N).length = (0, 0) then
    (if isNon (touchD (expand N)) = true then none else some ⟨Str.ofString "Touches", [Str.ofString "place"], [touchD (expand N)]⟩)
  else some ⟨Str.ofString "NotClosed", [Str.ofString "place"], [ptD (pl (cyc (expand N)) (expand N).length)]⟩
section
variable {N : List (Nat × Nat)}
theorem gs_line (G : Gs N) (h1 : stpB N = true) (h2 : pl (cyc (expand N)) (expand N).length = (0, 0)) (h3 : isNon (touchD (expand N)) = true) : Gq (expand N) ∧ textP (expand N) = btxL N := by
  unfold stpB at h1
  rw [Bool.and_eq_true] at h1
  have four := of_decide_eq_true h1.1
  have el := exp_len N
  have ls := len_sum G.one
  have hl := exp_ltr G.ltr
  have ne : expand N ≠ [] := fun z => by rw [z] at el; simp at el; omega
  have L : Mo.Line (expand N) := line_of ne hl h2 (touch_line ne hl h2 h3)
  refine ⟨⟨L, ⟨by omega, by have := G.sum; omega⟩, ?_⟩, ?_⟩
  · have a := exp_first (rs := N) (by omega) G.one
    have b := exp_last (rs := N) (by omega) G.one
    have p : 0 < (expand N).length := (List.getElem?_eq_some_iff.mp a).1
    have al : altB N 0 = false := by
      have := h1.2
      rw [Bool.not_eq_true', List.any_eq_false] at this
      simpa using this 0 (List.mem_range.mpr (by omega))
    unfold altB at al
    have al := of_decide_eq_false al
    rw [if_pos rfl] at al
    have hd : N.getD 0 (0, 0) = N[0] := by rw [List.getD_eq_getElem?_getD, List.getElem?_eq_getElem (by omega)]; rfl
    have ld : N.getLastD (0, 0) = N[N.length - 1] := by
      rw [List.getLastD_eq_getLast?, List.getLast?_eq_getElem?, List.getElem?_eq_getElem (by omega)]
      rfl
    rw [hd, ld] at al
    unfold stB
    have c0 : cyc (expand N) 0 = (N[0]'(by omega)).1 := by
      rw [cyc_lt p]
      exact (List.getElem?_eq_some_iff.mp a).2
    have c1 : cyc (expand N) (0 + (expand N).length - 1) = (N[N.length - 1]'(by omega)).1 := by
      rw [cyc_lt (by omega)]
      have := (List.getElem?_eq_some_iff.mp b).2
      rw [← this]
      congr 1
      omega
    rw [c0, c1]
    exact decide_eq_false fun z => al (by rw [z])
  · unfold textP btxL
    rw [runs_expand G.nm]
end
section
variable {h : Ah} {N : List (Nat × Nat)} {Q : Dt → Ah → Prop} {P : Xv → Ah → Prop} {c : Str} {n : Nat} {fm : List Dt → Mm Dt} {env : En} {mr : En → Mm (List Dt)}
theorem oe_mkI {ds : List Dt} (hn : ds.length + 1 = n) (o : Oe (fm (.obj h.length :: ds)) (h ++ [.ins c []]) (fun v h2 => v = .non ∧ Q (.obj h.length) h2) P) : Oe (mkI c n fm ds) h Q P := by
  unfold mkI
  refine oe_bind (Ok.oe (ok_of (a := h.length) (h' := h ++ [.ins c []]) rfl ?_))
  rw [if_pos hn]
  refine oe_bind (o.mono fun v h2 ⟨e, q⟩ => ?_)
  subst e
  exact q
theorem oe_make (o : Ok (mr env) h fun ds h1 => Oe (mkI c n fm ds) h1 Q P) : Oe (make c n fm mr env) h Q P := by
  unfold make
  exact oe_bind (Ok.oe o)
theorem lineX_oe (G : Gs N) (yes_ : outN N = none → ∀ j, Q (.obj h.length) (h ++ .ins (Str.ofString "Line") (lineF (expand N)) :: j)) (no_ : ∀ x j, outN N = some x → P x (h ++ j)) : Oe (mkI (Str.ofString "Line") 2 K51.f_LineX___init__ [.str (Tx (btxL N))]) h Q P := by
  refine oe_mkI rfl ?_
  have hl := exp_ltr G.ltr
  have el := exp_len N
  have es := G.sum
  rw [K51.f_LineX___init__]
  refine oe_fnM ?_
  simp only [K51.m_LineX___init__, List.map_cons, List.map_nil, List.length_cons, List.length_nil, List.replicate, List.cons_append, List.nil_append]
  have no2 : ∀ x j, outN N = some x → P x (h ++ [.ins (Str.ofString "Line") []] ++ j) := fun x j e => by
    rw [List.append_assoc]
    exact no_ x _ e
  refine oe_seq (Ok.oe ?_)
  rw [ok_noXa, ok_sto, ok_callM, ok_argC, ok_pick (i := 1) (d := .str (Tx (btxL N))) rfl, ok_argN]
  refine ⟨rfl, stepsof_any G fun j1 => ?_⟩
  unfold stpD
  cases hb : stpB N with
  | false =>
    rw [if_neg (by simp)]
    show Oe (seq _ _ [some (.obj h.length), some (.str (Tx (btxL N))), some .non, none, none]) _ _ _
    refine oe_seq (oe_if ?_)
    rw [ok_noXa, ok_tst, ok_op2, ok_pick (i := 2) (d := .non) rfl, ok_con, ok_isN, ok_isB, if_pos (show isNon Dt.non = true from rfl)]
    refine oe_rai ?_
    rw [ok_noXa, ok_argC, ok_pick (i := 1) (d := .str (Tx (btxL N))) rfl, ok_argN]
    exact ⟨rfl, no2 _ _ (by unfold outN; rw [if_pos hb]; rfl)⟩
  | true =>
    rw [if_pos rfl]
    have gl := gs_line G hb
    have on : outN N = (if pl (cyc (expand N)) (expand N).length = (0, 0) then
        (if isNon (touchD (expand N)) = true then none else some ⟨Str.ofString "Touches", [Str.ofString "place"], [touchD (expand N)]⟩)
      else some ⟨Str.ofString "NotClosed", [Str.ofString "place"], [ptD (pl (cyc (expand N)) (expand N).length)]⟩) := by
      unfold outN
      rw [if_neg (by rw [hb]; simp)]
    generalize hW : expand N = W at *
    show Oe (seq _ _ [some (.obj h.length), some (.str (Tx (btxL N))), some (.str (Tx W)), none, none]) _ _ _
    refine oe_seq (oe_if ?_)
    rw [ok_noXa, ok_tst, ok_op2, ok_pick (i := 2) (d := .str (Tx W)) rfl, ok_con, ok_isN, ok_isB, if_neg (by simp [isNon])]
    refine Ok.oe ?_
    rw [ok_nxt]
    refine oe_seq (Ok.oe ?_)
    rw [ok_noXa, ok_sto, ok_callM, ok_argC, ok_pick (i := 2) (d := .str (Tx W)) rfl, ok_argN]
    refine ⟨rfl, (placesN_ok hl (by omega) _).mono fun d h1 ⟨e, j2, e1⟩ => ?_⟩
    subst e e1
    generalize hH : h ++ [Ao.ins (Str.ofString "Line") []] ++ j1 = H
    show Oe (seq _ _ [some (.obj h.length), some (.str (Tx (btxL N))), some (.str (Tx W)), some (.obj H.length), none]) _ _ _
    have no3 : ∀ x j, outN N = some x → P x (H ++ j) := fun x j e => by
      rw [← hH, List.append_assoc]
      exact no2 x _ e
    refine oe_seq (oe_if ?_)
    rw [ok_noXa, ok_tst, ok_op2, ok_op2, ok_pick (i := 3) (d := .obj H.length) rfl, ok_op1, ok_con, ok_negI, ok_ixO, lstAt_new]
    refine ⟨_, ptsD_last W W.length, ?_⟩
    rw [ok_tupE, ok_argC, ok_con, ok_argC, ok_con, ok_argN]
    refine ⟨szl (by simp), ?_⟩
    rw [show Dt.tup [.int 0, .int 0] = ptD (0, 0) from rfl, ok_nePt, ok_isB]
    by_cases cl : pl (cyc W) W.length = (0, 0)
    · rw [if_neg (by simp [cl])]
      rw [if_pos cl] at on
      refine Ok.oe ?_
      rw [ok_nxt]
      refine oe_seq (Ok.oe ?_)
      rw [ok_noXa, ok_sto, ok_callM, ok_argC, ok_pick (i := 2) (d := .str (Tx W)) rfl, ok_argN]
      refine ⟨rfl, gv_fn (ftouch_any hl (by omega)) fun j3 => ?_⟩
      show Oe (seq _ _ [some (.obj h.length), some (.str (Tx (btxL N))), some (.str (Tx W)), some (.obj H.length), some (touchD W)]) _ _ _
      refine oe_seq (oe_if ?_)
      rw [ok_noXa, ok_tst, ok_op2, ok_pick (i := 4) (d := touchD W) rfl, ok_con, ok_notN, ok_isB]
      by_cases tn : isNon (touchD W) = true
      · rw [if_neg (by simp [tn])]
        rw [if_pos tn] at on
        refine Ok.oe ?_
        rw [ok_nxt]
        obtain ⟨⟨L, ⟨h4, hn⟩, h0⟩, et⟩ := gl cl tn
        have yes2 := yes_ on
        have te : touchD W = .non := by
          unfold touchD at tn ⊢
          split
          · rename_i k e; rw [e] at tn; cases tn
          · rfl
        rw [te]
        have eS : lstAt (H ++ .lst (ptsD W W.length) :: j2 ++ j3) H.length = some (ptsD W W.length) := lstAt_app lstAt_new j3
        have eH : H ++ .lst (ptsD W W.length) :: j2 ++ j3 = h ++ .ins (Str.ofString "Line") [] :: (j1 ++ .lst (ptsD W W.length) :: j2 ++ j3) := by rw [← hH]; simp
        rw [eH] at eS ⊢
        generalize j1 ++ .lst (ptsD W W.length) :: j2 ++ j3 = k at *
        generalize H.length = q at *
        dsimp only
        rw [← et]
        refine oe_seq (Ok.oe ?_)
        rw [ok_noXa, ok_asg, ok_tupE, ok_argC, ok_pick (i := 1) (d := .str (Tx (textP W))) rfl, ok_argC, ok_pick (i := 2) (d := .str (Tx W)) rfl, ok_argC, ok_slc, ok_pick (i := 3) (d := .obj q) rfl, ok_opN, ok_opS, ok_op1, ok_con, ok_negI, ok_isI, ok_slO eS, ok_argN, cut_sp]
        refine ⟨szl (by simp), ?_⟩
        generalize hsp : Dt.lv (spD W) = SP
        refine ok_gT.mpr ⟨rfl, ?_⟩
        rw [ok_gsC, ok_gF, ok_pick (i := 0) (d := .obj h.length) rfl]
        refine ok_setF (by simp) ?_
        rw [ok_gsC, ok_gF, ok_pick (i := 0) (d := .obj h.length) rfl]
        refine ok_setF (by simp [putD]) ?_
        rw [ok_gsC, ok_gF, ok_pick (i := 0) (d := .obj h.length) rfl, put_w, put_y]
        refine ok_setF (by simp) ?_
        rw [ok_gsN, put_s]
        refine Ok.oe ?_
        rw [ok_noXa, ok_asg, ok_op2, ok_callM, ok_argC, ok_pick (i := 2) (d := .str (Tx W)) rfl, ok_argN]
        refine ⟨rfl, gv_fn (quarters_ok L.ltrs (by omega)) fun j4 => ?_⟩
        rw [ok_con, ok_fdivI]
        refine ⟨by decide, ?_⟩
        rw [qs_turn L (by omega), ok_gF, ok_pick (i := 0) (d := .obj h.length) rfl, List.append_assoc, List.cons_append]
        refine ok_setF (by simp) ?_
        rw [put_r, ← hsp]
        exact ⟨trivial, yes2 _⟩
      · rw [if_pos (by simp [tn])]
        rw [if_neg tn] at on
        refine oe_rai ?_
        rw [ok_noXa, ok_argC, ok_pick (i := 4) (d := touchD W) rfl, ok_argN]
        have := no3 _ (.lst (ptsD W W.length) :: j2 ++ j3) on
        exact ⟨rfl, by simpa using this⟩
    · rw [if_pos (by simp [cl])]
      rw [if_neg cl] at on
      refine oe_rai ?_
      rw [ok_noXa, ok_argC, ok_op2, ok_pick (i := 3) (d := .obj H.length) rfl, ok_op1, ok_con, ok_negI, ok_ixO, lstAt_new]
      refine ⟨_, ptsD_last W W.length, ?_⟩
      rw [ok_argN]
      exact ⟨rfl, no3 _ _ on⟩
end
def xrS (x : Xv) : Str := match bReprA [x.ds.headD .non] [] with
  | .ok (.str r) _ => r
  | _ => Str.empty
def tvL (N : List (Nat × Nat)) : Dt := match outN N with
  | some x => .tup [.str x.cls, .str (xrS x)]
  | none => .tup [.str sRE, .str (Tx (btxL N))]
section
variable {h : Ah} {N : List (Nat × Nat)} {Q : Dt → Ah → Prop} {env : En} {mr : En → Mm (List Dt)}
theorem rt_ok {d : Dt} {Q : Dt → Ah → Prop} {h : Ah} (q : Q (.tup [.str (Str.ofString "returned"), d]) h) : Ok (K51.rt__lwp_told (slotE 4 1 d)) h Q := by
  unfold K51.rt__lwp_told
  rw [ok_tupE, ok_argC, ok_con, ok_argC, ok_pick (i := 1) (d := d) rfl, ok_argN]
  exact ⟨szl (by simp), q⟩
theorem xr_of {c n : Str} {d : Dt} {r : Str} (R : RepS d r) : xrS ⟨c, [n], [d]⟩ = r := by
  unfold xrS
  show (match bReprA [d] [] with
    | .ok (.str r) _ => r
    | _ => Str.empty) = r
  rw [R.2]
theorem out_reps (G : Gs N) {x : Xv} (e : outN N = some x) : ∃ n d r, x = ⟨x.cls, [n], [d]⟩ ∧ (x.cls, n) ∈ K51.tft ∧ RepS d r ∧ PyData.strOk x.cls = true := by
  have el := exp_len N
  have es := G.sum
  have tl : (btxL N).length ≤ 1000 := by
    have := btx_len (N := N) fun q m => ⟨G.one q m, by have := G.le m; omega⟩
    have := G.len
    omega
  unfold outN at e
  split at e
  · cases e
    exact ⟨_, _, _, rfl, by unfold K51.tft; simp, reps_tx (btx_sm G.ltr) tl, strok_of _⟩
  · split at e
    · split at e
      · cases e
      · rename_i ht
        cases e
        unfold touchD at ht ⊢
        cases q : (List.range (expand N).length).find? (fun k => !tB (expand N) k) with
        | none => rw [q] at ht; exact absurd rfl ht
        | some k =>
          have hk := List.mem_range.mp (List.mem_of_find?_eq_some q)
          obtain ⟨a, b⟩ := pl_small (cyc (expand N)) k
          obtain ⟨r, R⟩ := reps_pt (p := pl (cyc (expand N)) k) (by omega) (by omega)
          exact ⟨_, _, r, rfl, by unfold K51.tft; simp, R, strok_of _⟩
    · cases e
      obtain ⟨a, b⟩ := pl_small (cyc (expand N)) (expand N).length
      obtain ⟨r, R⟩ := reps_pt (p := pl (cyc (expand N)) (expand N).length) (by omega) (by omega)
      exact ⟨_, _, r, rfl, by unfold K51.tft; simp, R, strok_of _⟩
theorem tf_out (G : Gs N) {x : Xv} (e : outN N = some x) (q : Q (tvL N) h) : Ok (K51.tf__lwp_told x) h Q := by
  obtain ⟨n, d, r, ex, m, R, _⟩ := out_reps G e
  have et : tvL N = .tup [.str x.cls, .str r] := by
    unfold tvL
    rw [e]
    dsimp only
    rw [ex, xr_of R]
  rw [et] at q
  rw [ex]
  exact tf_ok m R q
theorem pair_ne {a r : Str} (ha : PyData.strOk a = true) (hr : PyData.strOk r = true) : Ok (opNe (.tup [.str a, .str r]) (.tup [.str a, .str r])) h Q ↔ Q (.bl false) h := by
  have p := pair_eq (h := h) (Q := fun d _ => d = .bl true) ha ha hr hr
  have : eqR h (.tup [.str a, .str r]) (.tup [.str a, .str r]) = some true := by
    have o := p.mpr (by simp)
    unfold Ok opEq at o
    cases q : eqR h (.tup [.str a, .str r]) (.tup [.str a, .str r]) with
    | none => rw [q] at o; exact o.elim
    | some b => rw [q] at o; cases b with
      | true => rfl
      | false => cases o
  unfold Ok opNe
  rw [this]
  exact Iff.rfl
theorem tv_ne (G : Gs N) : Ok (opNe (tvL N) (tvL N)) h Q ↔ Q (.bl false) h := by
  unfold tvL
  cases e : outN N with
  | some x =>
    obtain ⟨n, d, r, ex, m, R, hc⟩ := out_reps G e
    dsimp only
    refine pair_ne hc ?_
    rw [ex, xr_of R]
    exact R.1
  | none => exact pair_ne (strok_of _) (strok (btx_sm G.ltr))
theorem out_none (e : outN N = none) : stpB N = true ∧ pl (cyc (expand N)) (expand N).length = (0, 0) ∧ isNon (touchD (expand N)) = true := by
  unfold outN at e
  split at e
  · cases e
  · rename_i h1
    split at e
    · rename_i h2
      split at e
      · rename_i h3
        exact ⟨by simpa using h1, h2, h3⟩
      · cases e
    · cases e
/-- str of a line made, told -/
theorem told_line {X : En → Mm Dt} (G : Gs N) (o : ∀ (Q' : Dt → Ah → Prop) (P' : Xv → Ah → Prop), (outN N = none → ∀ k j, LnAt (h ++ j) k (expand N) → Q' (.obj k) (h ++ j)) → (∀ x j, outN N = some x → P' x (h ++ j)) → Oe (X env) h Q' P') (q : ∀ j, Q (tvL N) (h ++ j)) :
    Ok (toldM K51.tf__lwp_told (fun d => K51.rt__lwp_told (slotE 4 1 d)) (bi (nx (strO (Str.ofString "Line") K51.f_Line___str__)) (argC X argN)) env) h Q := by
  refine told_oe (oe_bi (oe_argC (o _ _ (fun e k j a => ?_) fun x j e => tf_out G e (q j))))
  refine Ok.oe ?_
  rw [ok_argN]
  obtain ⟨h1, h2, h3⟩ := out_none e
  obtain ⟨_, et⟩ := gs_line G h1 h2 h3
  refine Ok.oe (ok_nx.mpr (ok_strO a (linestr_ok a ⟨rfl, rt_ok ?_⟩)))
  rw [et]
  have := q j
  unfold tvL at this
  rw [e] at this
  exact this
end
end Mo
set_option Elab.async false
set_option linter.all false
set_option maxRecDepth 100000
set_option maxHeartbeats 4000000
namespace Mo
open PySem L2 TL
theorem numL_inv {f : List Nat} (h : f.all dgB = true) {c : Nat} {r : List Nat} (e : f = c :: r) (h0 : c ≠ 48) : numL (NumText.digitsVal f) = f := by
  have hc : 49 ≤ c := by
    have := dgB_iff.mp (List.all_eq_true.mp h c (by rw [e]; simp))
    omega
  have := NumText.toDigits_digitsVal r.length f (by rw [e]; rfl) (all_dig h) (.inr ⟨c, r, e, hc⟩)
  unfold numL
  rw [this, List.map_map]
  conv => rhs; rw [← List.map_id f]
  refine List.map_congr_left fun x m => ?_
  have hx := dgB_iff.mp (List.all_eq_true.mp h x m)
  have hv : x.isValidChar := .inl (by omega)
  show (Char.ofNat x).toNat = x
  unfold Char.ofNat
  rw [dif_pos hv]
  rfl
theorem wd_inv {w : List Nat} (h : wdB w = true) : wordR (wdV w) = w ∧ Ltr (wdV w).1 ∧ 1 ≤ (wdV w).2 := by
  match w, h with
  | c :: d :: f, h =>
    have h' : (ltB c && (!decide (d = 48) && (d :: f).all dgB)) = true := h
    simp only [Bool.and_eq_true, Bool.not_eq_true', decide_eq_false_iff_not] at h'
    obtain ⟨hc, hd, hf⟩ := h'
    have e : numL (NumText.digitsVal (d :: f)) = d :: f := numL_inv hf rfl hd
    refine ⟨?_, ltB_iff.mp hc, ?_⟩
    · show c :: numL (NumText.digitsVal (d :: f)) = _
      rw [e]
    · have := dgB_iff.mp (List.all_eq_true.mp hf d (by simp))
      exact NumText.digitsVal_pos (c := d) (cs := f) (by omega)
def NW (t : List Nat) : List (Nat × Nat) := (words t).map wdV
def wrB (t : List Nat) : Bool := txB t && (decide (sumN (NW t) ≤ 120) && stpB (NW t))
theorem nw_ltr {t : List Nat} (h : txB t = true) : (∀ q ∈ NW t, Ltr q.1) ∧ (∀ q ∈ NW t, 1 ≤ q.2) ∧ btxL (NW t) = t := by
  have a := List.all_eq_true.mp h
  refine ⟨fun q m => ?_, fun q m => ?_, ?_⟩
  · obtain ⟨w, mw, rfl⟩ := List.mem_map.mp m
    exact (wd_inv (a w mw)).2.1
  · obtain ⟨w, mw, rfl⟩ := List.mem_map.mp m
    exact (wd_inv (a w mw)).2.2
  · unfold btxL NW
    rw [List.map_map]
    have : (words t).map (wordR ∘ wdV) = words t := by
      conv => rhs; rw [← List.map_id (words t)]
      exact List.map_congr_left fun w m => (wd_inv (a w m)).1
    rw [this, join_words]
theorem ok_gs {t : List Nat} (h : wrB t = true) : Gs (NW t) ∧ btxL (NW t) = t ∧ stpB (NW t) = true := by
  unfold wrB at h
  simp only [Bool.and_eq_true, decide_eq_true_eq] at h
  obtain ⟨h1, h2, h3⟩ := h
  obtain ⟨a, b, c⟩ := nw_ltr h1
  refine ⟨⟨a, b, fun i hi z => ?_, h2⟩, c, h3⟩
  unfold stpB at h3
  simp only [Bool.and_eq_true, Bool.not_eq_true', List.any_eq_false, List.mem_range] at h3
  have := h3.2 (i + 1) hi
  unfold altB at this
  rw [if_neg (by omega)] at this
  exact this (decide_eq_true (by simpa using z))
theorem touch_none {W : List Nat} (L : Mo.Line W) : touchD W = .non := by
  unfold touchD
  have : (List.range W.length).find? (fun k => !tB W k) = none := by
    rw [List.find?_eq_none]
    intro k m
    have hk := List.mem_range.mp m
    have : tB W k = true := by
      rcases erl_line L hk with e | ⟨u, _, e, c⟩
      · unfold tB; rw [e]
      · unfold tB; rw [e]; exact c
    rw [this]; simp
  rw [this]
/-- a good line's own text -/
theorem own_text {W : List Nat} (G : Gq W) : Gs (runsF W) ∧ btxL (runsF W) = textP W ∧ outN (runsF W) = none ∧ expand (runsF W) = W := by
  obtain ⟨L, ⟨h4, hn⟩, h0⟩ := G
  obtain ⟨adj, wr, four⟩ := line_runs L h4 h0
  have ex : expand (runsF W) = W := expand_runs W
  obtain ⟨qf, rl, _⟩ := text_facts L h4 hn h0
  have su : sumN (runsF W) ≤ 120 := by rw [← exp_len, ex]; exact hn
  have sb : stpB (runsF W) = true := by
    unfold stpB
    rw [decide_eq_true four, Bool.true_and, Bool.not_eq_true', List.any_eq_false]
    intro i mi
    have hi := List.mem_range.mp mi
    unfold altB
    refine fun z => ?_
    have z := of_decide_eq_true z
    cases i with
    | zero =>
      rw [if_pos rfl] at z
      refine wr (z.trans ?_)
      congr 2
      cases runsF W <;> rfl
    | succ i =>
      rw [if_neg (by omega)] at z
      exact adj i hi (by simpa using z)
  refine ⟨⟨fun q m => (qf q m).2.2, fun q m => (qf q m).1, adj, su⟩, rfl, ?_, ex⟩
  unfold outN
  rw [if_neg (by rw [sb]; simp), ex, if_pos L.end_, if_pos (by rw [touch_none L]; rfl)]
theorem stp_all {rs : List (Nat × Nat)} {h : Ah} {a0 : Option Dt} {V : Dt} (eV : V = .lv (rs.map strD)) (hl : ∀ q ∈ rs, Ltr q.1) (one : ∀ q ∈ rs, 1 ≤ q.2) (rl : rs.length ≤ 902) :
    Ok (stpM [a0, some V, none, none, none]) h fun f h1 => f = .rt (if decide (sumN rs ≤ 120) && stpB rs then .str (Tx (expand rs)) else .non) ∧ ∃ j, h1 = h ++ j := by
  by_cases hs : sumN rs ≤ 120
  · rw [decide_eq_true hs, Bool.true_and]
    exact stp_any eV hl hs (Nat.le_trans (len_sum one) hs)
  · rw [decide_eq_false hs, Bool.false_and, if_neg (by simp)]
    unfold stpM
    rw [ok_seq, ok_ifS, ok_orT, ok_tst, ok_op2, ok_pick (i := 1) (d := V) rfl, ok_con, eV]
    refine ok_of (a := .bl false) (h' := h) rfl ?_
    rw [ok_isB, if_neg (by simp), ok_orT, ok_tst, ok_op2, ok_bi, ok_argC, ok_pick (i := 1) (d := .lv (rs.map strD)) rfl, ok_argN, ok_lenLv, ok_con, ok_ltI, ok_isB, List.length_map]
    by_cases four : 4 ≤ rs.length
    · rw [if_neg (by simp; omega), ok_tst, ok_op2, ok_bi, ok_argC]
      refine ok_lcP rs strD (fun q => .int ((q.2 : Nat) : Int)) ?_
      rw [ok_itL, ok_pick (i := 1) (d := .lv (rs.map strD)) rfl, ok_itemsLv]
      refine ⟨rfl, szl (by omega), fun q m => ⟨[a0, some (.lv (rs.map strD)), some (.str (Tx [q.1])), some (.int (q.2 : Nat)), none], by simp [Pat.bd, Pat.bds, wipeE, strD], gv_of fun h => ?_⟩, fun j1 => ?_⟩
      · rw [ok_pick (i := 3) (d := .int (q.2 : Nat)) rfl]
        exact ⟨rfl, [], by simp⟩
      rw [ok_argN, ok_sumLv, ok_con, ok_gtI, ok_isB, sum_cast, if_pos (by simp; omega), ok_ret, ok_con]
      exact ⟨rfl, j1, rfl⟩
    · rw [if_pos (by simp; omega), if_pos rfl, ok_ret, ok_con]
      exact ⟨rfl, [], by simp⟩
/-- a value that is no text of steps -/
def Bad (d : Dt) : Prop := ∀ (h : Ah) (Q : Dt → Ah → Prop), (∀ j, Q .non (h ++ j)) → Ok (K51.f_steps_of [d]) h Q
theorem bad_text {t : List Nat} (hb : wrB t = false) (hl : t.length ≤ 640) : Bad (.str (Tx t)) := fun h Q q => by
  have wl := words_len t
  rw [K51.f_steps_of, ok_fnM]
  simp only [K51.m_steps_of, List.map_cons, List.map_nil, List.length_cons, List.length_nil, List.replicate, List.cons_append, List.nil_append]
  rw [ok_seq, ok_sto, ok_callM, ok_argC, ok_pick (i := 0) (d := .str (Tx t)) rfl, ok_argN]
  refine ⟨rfl, stretches_any hl fun j0 => ?_⟩
  dsimp only [List.set]
  cases ht : txB t with
  | false =>
    rw [if_neg (by simp)]
    show Ok (seq _ _ [some (.str (Tx t)), some .non, none, none, none]) _ _
    rw [ok_seq, ok_ifS, ok_orT, ok_tst, ok_op2, ok_pick (i := 1) (d := .non) rfl, ok_con, ok_isN, ok_isB, if_pos (show isNon Dt.non = true from rfl), if_pos rfl, ok_ret, ok_con]
    exact q j0
  | true =>
    rw [if_pos rfl]
    obtain ⟨a, b, _⟩ := nw_ltr ht
    have e : (decide (sumN (NW t) ≤ 120) && stpB (NW t)) = false := by
      unfold wrB at hb
      rw [ht, Bool.true_and] at hb
      exact hb
    generalize hV : Dt.lv (((words t).map wdV).map strD) = V
    have key := stp_all (rs := NW t) (h := h ++ j0) (a0 := some (.str (Tx t))) hV.symm a b (by unfold NW; rw [List.length_map]; omega)
    rw [e, if_neg (by simp)] at key
    unfold stpM at key
    refine key.mono fun f h1 ⟨f1, j2, f2⟩ => ?_
    subst f1 f2
    have := q (j0 ++ j2)
    rw [← List.append_assoc] at this
    exact this
theorem bad_odd {d : Dt} {T : String} (ht : ∀ h, tyD h d = some T) (hk : T ∈ kindsT) (ne : T ≠ "str") : Bad d := fun h Q q => by
  rw [K51.f_steps_of, ok_fnM]
  simp only [K51.m_steps_of, List.map_cons, List.map_nil, List.length_cons, List.length_nil, List.replicate, List.cons_append, List.nil_append]
  rw [ok_seq, ok_sto, ok_callM, ok_argC, ok_pick (i := 0) (d := d) rfl, ok_argN]
  refine ⟨rfl, stretches_odd ht hk ne ?_⟩
  show Ok (seq _ _ [some d, some .non, none, none, none]) _ _
  rw [ok_seq, ok_ifS, ok_orT, ok_tst, ok_op2, ok_pick (i := 1) (d := .non) rfl, ok_con, ok_isN, ok_isB, if_pos (show isNon Dt.non = true from rfl), if_pos rfl, ok_ret, ok_con]
  simpa using q []
section
variable {h : Ah} {Q : Dt → Ah → Prop} {P : Xv → Ah → Prop} {d : Dt} {env : En} {mr : En → Mm (List Dt)}
theorem badline_oe (b : Bad d) (no_ : ∀ j, P ⟨Str.ofString "InvalidText", [Str.ofString "given"], [d]⟩ (h ++ j)) : Oe (mkI (Str.ofString "Line") 2 K51.f_LineX___init__ [d]) h Q P := by
  refine oe_mkI rfl ?_
  rw [K51.f_LineX___init__]
  refine oe_fnM ?_
  simp only [K51.m_LineX___init__, List.map_cons, List.map_nil, List.length_cons, List.length_nil, List.replicate, List.cons_append, List.nil_append]
  refine oe_seq (Ok.oe ?_)
  rw [ok_noXa, ok_sto, ok_callM, ok_argC, ok_pick (i := 1) (d := d) rfl, ok_argN]
  refine ⟨rfl, b _ _ fun j1 => ?_⟩
  show Oe (seq _ _ [some (.obj h.length), some d, some .non, none, none]) _ _ _
  refine oe_seq (oe_if ?_)
  rw [ok_noXa, ok_tst, ok_op2, ok_pick (i := 2) (d := .non) rfl, ok_con, ok_isN, ok_isB, if_pos (show isNon Dt.non = true from rfl)]
  refine oe_rai ?_
  rw [ok_noXa, ok_argC, ok_pick (i := 1) (d := d) rfl, ok_argN]
  have := no_ (.ins (Str.ofString "Line") [] :: j1)
  exact ⟨rfl, by simpa using this⟩
/-- str(Line(d)) of a value that is no text, told -/
theorem told_bad {r : Str} (b : Bad d) (R : RepS d r) (e5 : env[5]? = some (some d)) (q : ∀ j, Q (.tup [.str (Str.ofString "InvalidText"), .str r]) (h ++ j)) :
    Ok (toldM K51.tf__lwp_told (fun d => K51.rt__lwp_told (slotE 4 1 d)) (bi (nx (strO (Str.ofString "Line") K51.f_Line___str__)) (argC (make (Str.ofString "Line") 2 K51.f_LineX___init__ (argC (noXE (var 5)) argN)) argN)) env) h Q := by
  refine told_oe (oe_bi (oe_argC (oe_make ?_)))
  rw [ok_argC, ok_noXE2, ok_pick e5, ok_argN]
  refine badline_oe b fun j => ?_
  exact tf_ok (by unfold K51.tft; simp) R (q j)
/-- of a text of steps -/
theorem told_good {N : List (Nat × Nat)} (G : Gs N) (e5 : env[5]? = some (some (.str (Tx (btxL N))))) (q : ∀ j, Q (tvL N) (h ++ j)) :
    Ok (toldM K51.tf__lwp_told (fun d => K51.rt__lwp_told (slotE 4 1 d)) (bi (nx (strO (Str.ofString "Line") K51.f_Line___str__)) (argC (make (Str.ofString "Line") 2 K51.f_LineX___init__ (argC (noXE (var 5)) argN)) argN)) env) h Q := by
  refine told_line G (fun Q' P' yes_ no_ => oe_make ?_) q
  rw [ok_argC, ok_noXE2, ok_pick e5, ok_argN]
  exact lineX_oe G (fun e j => yes_ e _ _ LnAt.new) no_
theorem oe_makeK {c : Str} {n : Nat} {pm : List Nat} {fm : List Dt → Mm Dt} (o : Ok (mr env) h fun ds h1 => ds.length + 1 = n ∧ Oe (mkI c n fm (permL pm ds)) h1 Q P) : Oe (makeK c n pm fm mr env) h Q P := by
  unfold makeK
  refine oe_bind (Ok.oe (o.mono fun ds h1 ⟨e, q⟩ => ?_))
  rw [if_pos e]
  exact q
theorem told_own {W : List Nat} (G : Gq W) (e2 : env[2]? = some (some (.str (Tx (textP W))))) (q : ∀ j, Q (.tup [.str sRE, .str (Tx (textP W))]) (h ++ j)) :
    Ok (toldM K51.tf__lwp_told (fun d => K51.rt__lwp_told (slotE 4 1 d)) (bi (nx (strO (Str.ofString "Line") K51.f_Line___str__)) (argC (makeK (Str.ofString "Line") 2 [0] K51.f_LineX___init__ (argC (noXE (var 2)) argN)) argN)) env) h Q := by
  obtain ⟨g, eb, eo, _⟩ := own_text G
  refine told_line g (fun Q' P' yes_ no_ => oe_makeK ?_) fun j => ?_
  · rw [ok_argC, ok_noXE2, ok_pick e2, ok_argN, ← eb]
    exact ⟨rfl, lineX_oe g (fun e j => yes_ e _ _ LnAt.new) no_⟩
  · unfold tvL
    rw [eo, eb]
    exact q j
end
end Mo
set_option Elab.async false
set_option linter.all false
set_option maxRecDepth 100000
set_option maxHeartbeats 4000000
namespace Mo
open PySem L2 TL
def Tn (n : Nat) (d : Dt) : Prop := ∃ t, d = .str (Tx t) ∧ (∀ c ∈ t, c < 128) ∧ t.length ≤ n
def signsQ : List Nat := [101, 110, 119, 115, 48, 49, 50, 51, 32, 45, 10, 57, 97, 69, 59, 95, 33, 43]
theorem lit_sq : (Str.ofString "enws0123 -\n9aE;_!+") = Tx signsQ := by decide +kernel
section
variable {h h0 : Ah} {r n : Nat} {Q : Dt → Ah → Prop} {env : En} {F : Fl → Ah → Prop} {t : List Nat}
theorem signq_ok (R : PK r h0 h) (q : ∀ c h1, c < 128 → PK r h0 h1 → h1.length = h.length → Q (.str (Tx [c])) h1) : Ok (K51.f__lwp_sign_of_text [.obj r]) h Q := by
  rw [K51.f__lwp_sign_of_text, ok_fnM]
  simp only [K51.m__lwp_sign_of_text, List.map_cons, List.map_nil, List.length_cons, List.length_nil, List.replicate, List.cons_append, List.nil_append, lit_sq]
  rw [ok_ret, ok_op2, ok_con, ok_callM, ok_argC, ok_pick (i := 0) (d := .obj r) rfl, ok_argC, ok_con, ok_argN]
  refine ⟨rfl, call_drawK R (by decide) (by decide) fun k o k1 R1 => ?_⟩
  have kl : k < signsQ.length := by
    have : signsQ.length = 18 := rfl
    omega
  rw [ok_ixS]
  refine ⟨signsQ[k], atI_nat kl, szl (by decide), q _ _ ?_ R1 (by simp)⟩
  have : ∀ c ∈ signsQ, c < 128 := by decide
  exact this _ (List.getElem_mem kl)
/-- the four changes -/
def bentIf : En → Mm Fl := (ifS (tst (op2 opEq (var 3) (con (.int 0)))) (sto 1 (op2 opAdd (op2 opAdd (slc slD (var 1) opN (opS (var 4))) (var 5)) (slc slD (var 1) (opS (var 4)) opN))) (ifS (tst (op2 opEq (var 3) (con (.int 1)))) (sto 1 (op2 opAdd (slc slD (var 1) opN (opS (var 4))) (slc slD (var 1) (opS (op2 opAdd (var 4) (con (.int 1)))) opN))) (ifS (tst (op2 opEq (var 3) (con (.int 2)))) (sto 1 (op2 opAdd (op2 opAdd (slc slD (var 1) opN (opS (var 4))) (var 5)) (slc slD (var 1) (opS (op2 opAdd (var 4) (con (.int 1)))) opN))) (sto 1 (op2 opAdd (slc slD (var 1) opN (opS (var 4))) (slc slD (var 1) (opS (bi bMax2 (argC (con (.int 0)) (argC (op2 opSub (var 4) (con (.int 1))) argN)))) opN))))))
theorem bentIf_ok {r : Nat} {y2 : Option Dt} {w k c : Nat} (sm : ∀ c ∈ t, c < 128) (tl : t.length ≤ 310) (hk : k ≤ t.length) (hc : c < 128) (q : ∀ u, (∀ c ∈ u, c < 128) → u.length ≤ t.length + 1 → F (.nx [some (.obj r), some (.str (Tx u)), y2, some (.int (w : Nat)), some (.int (k : Nat)), some (.str (Tx [c]))]) h) :
    Ok (bentIf [some (.obj r), some (.str (Tx t)), y2, some (.int (w : Nat)), some (.int (k : Nat)), some (.str (Tx [c]))]) h F := by
  have sz : t.length ≤ sizeLine := szl (by omega)
  have memt : ∀ x ∈ t.take k, x < 128 := fun x m => sm x (List.mem_of_mem_take m)
  have memd : ∀ i, ∀ x ∈ t.drop i, x < 128 := fun i x m => sm x (List.mem_of_mem_drop m)
  have lt : (t.take k).length = k := by simp; omega
  unfold bentIf
  rw [ok_ifS, ok_tst, ok_op2, ok_pick (i := 3) (d := .int (w : Nat)) rfl, ok_con, ok_eqI, ok_isB]
  by_cases w0 : w = 0
  · rw [if_pos (by simp [w0]), ok_sto, ok_op2, ok_op2, ok_slc, ok_pick (i := 1) (d := .str (Tx t)) rfl, ok_opN, ok_opS, ok_pick (i := 4) (d := .int (k : Nat)) rfl, ok_isI, ok_slS]
    refine ⟨sz, ?_⟩
    rw [cut_to, ok_pick (i := 5) (d := .str (Tx [c])) rfl, ok_addS]
    refine ⟨szl (by simp; omega), ?_⟩
    rw [ok_slc, ok_pick (i := 1) (d := .str (Tx t)) rfl, ok_opS, ok_pick (i := 4) (d := .int (k : Nat)) rfl, ok_isI, ok_opN, ok_slS]
    refine ⟨sz, ?_⟩
    rw [cut_from, ok_addS]
    refine ⟨szl (by simp; omega), q _ (fun x m => ?_) (by simp; omega)⟩
    rcases List.mem_append.mp m with m | m
    · rcases List.mem_append.mp m with m | m
      · exact memt x m
      · rw [List.mem_singleton.mp m]; exact hc
    · exact memd _ x m
  rw [if_neg (by simp; omega), ok_ifS, ok_tst, ok_op2, ok_pick (i := 3) (d := .int (w : Nat)) rfl, ok_con, ok_eqI, ok_isB]
  by_cases w1 : w = 1
  · rw [if_pos (by simp [w1]), ok_sto, ok_op2, ok_slc, ok_pick (i := 1) (d := .str (Tx t)) rfl, ok_opN, ok_opS, ok_pick (i := 4) (d := .int (k : Nat)) rfl, ok_isI, ok_slS]
    refine ⟨sz, ?_⟩
    rw [cut_to, ok_slc, ok_pick (i := 1) (d := .str (Tx t)) rfl, ok_opS, ok_op2, ok_pick (i := 4) (d := .int (k : Nat)) rfl, ok_con, ok_addI, ok_isI, ok_opN, ok_slS]
    refine ⟨sz, ?_⟩
    rw [show ((k : Nat) : Int) + 1 = ((k + 1 : Nat) : Int) by omega, cut_from, ok_addS]
    refine ⟨szl (by simp; omega), q _ (fun x m => ?_) (by simp; omega)⟩
    rcases List.mem_append.mp m with m | m
    · exact memt x m
    · exact memd _ x m
  rw [if_neg (by simp; omega), ok_ifS, ok_tst, ok_op2, ok_pick (i := 3) (d := .int (w : Nat)) rfl, ok_con, ok_eqI, ok_isB]
  by_cases w2 : w = 2
  · rw [if_pos (by simp [w2]), ok_sto, ok_op2, ok_op2, ok_slc, ok_pick (i := 1) (d := .str (Tx t)) rfl, ok_opN, ok_opS, ok_pick (i := 4) (d := .int (k : Nat)) rfl, ok_isI, ok_slS]
    refine ⟨sz, ?_⟩
    rw [cut_to, ok_pick (i := 5) (d := .str (Tx [c])) rfl, ok_addS]
    refine ⟨szl (by simp; omega), ?_⟩
    rw [ok_slc, ok_pick (i := 1) (d := .str (Tx t)) rfl, ok_opS, ok_op2, ok_pick (i := 4) (d := .int (k : Nat)) rfl, ok_con, ok_addI, ok_isI, ok_opN, ok_slS]
    refine ⟨sz, ?_⟩
    rw [show ((k : Nat) : Int) + 1 = ((k + 1 : Nat) : Int) by omega, cut_from, ok_addS]
    refine ⟨szl (by simp; omega), q _ (fun x m => ?_) (by simp; omega)⟩
    rcases List.mem_append.mp m with m | m
    · rcases List.mem_append.mp m with m | m
      · exact memt x m
      · rw [List.mem_singleton.mp m]; exact hc
    · exact memd _ x m
  rw [if_neg (by simp; omega), ok_sto, ok_op2, ok_slc, ok_pick (i := 1) (d := .str (Tx t)) rfl, ok_opN, ok_opS, ok_pick (i := 4) (d := .int (k : Nat)) rfl, ok_isI, ok_slS]
  refine ⟨sz, ?_⟩
  rw [cut_to, ok_slc, ok_pick (i := 1) (d := .str (Tx t)) rfl, ok_opS, ok_bi, ok_argC, ok_con, ok_argC, ok_op2, ok_pick (i := 4) (d := .int (k : Nat)) rfl, ok_con, ok_subI, ok_argN, ok_maxI]
  have em : (if ((k : Nat) : Int) - 1 > 0 then ((k : Nat) : Int) - 1 else 0) = ((k - 1 : Nat) : Int) := by split <;> omega
  rw [em, ok_isI, ok_opN, ok_slS]
  refine ⟨sz, ?_⟩
  rw [cut_from, ok_addS]
  refine ⟨szl (by simp; omega), q _ (fun x m => ?_) (by simp; omega)⟩
  rcases List.mem_append.mp m with m | m
  · exact memt x m
  · exact memd _ x m
theorem bentq_ok (R : PK r h0 h) (sm : ∀ c ∈ t, c < 128) (tl : t.length ≤ 300) (q : ∀ d h1, Tn (t.length + 2) d → PK r h0 h1 → h1.length = h.length → Q d h1) : Ok (K51.f__lwp_bent [.obj r, .str (Tx t)]) h Q := by
  rw [K51.f__lwp_bent, ok_fnM]
  simp only [K51.m__lwp_bent, List.map_cons, List.map_nil, List.length_cons, List.length_nil, List.replicate, List.cons_append, List.nil_append]
  rw [ok_seq, ok_forM, ok_itR1, ok_argC, ok_callM, ok_argC, ok_pick (i := 0) (d := .obj r) rfl, ok_argC, ok_con, ok_argN]
  refine ⟨rfl, call_drawK R (by decide) (by decide) fun m o m1 R1 => ?_⟩
  rw [ok_argN]
  refine ⟨_, rfl, ⟨by omega, by omega⟩, ?_⟩
  have hl : (h.set r o).length = h.length := by simp
  generalize h.set r o = h1 at *
  refine forL_ind (fun ds env h' => ∃ (u : List Nat) (y2 y3 y4 y5 : Option Dt), env = [some (.obj r), some (.str (Tx u)), y2, y3, y4, y5] ∧ (∀ c ∈ u, c < 128) ∧ u.length + ds.length ≤ t.length + 2 ∧ PK r h0 h' ∧ h'.length = h.length) ?_ ?_ _ _ _ ⟨t, none, none, none, none, rfl, sm, by simp [rng_eq]; omega, R1, hl⟩
  · rintro x xs env h' ⟨u, y2, y3, y4, y5, rfl, su, lu, R2, hl2⟩
    rw [List.length_cons] at lu
    refine ⟨_, bd_nm, ?_⟩
    show Ok (seq _ bentIf [some (.obj r), some (.str (Tx u)), some x, y3, y4, y5]) _ _
    rw [ok_seq, ok_par3, ok_argC, ok_callM, ok_argC, ok_pick (i := 0) (d := .obj r) rfl, ok_argC, ok_con, ok_argN]
    refine ⟨rfl, call_drawK R2 (by decide) (by decide) fun w o2 w1 R3 => ?_⟩
    have hl3 : (h'.set r o2).length = h.length := by simpa using hl2
    generalize h'.set r o2 = h3 at *
    rw [ok_argC, ok_callM, ok_argC, ok_pick (i := 0) (d := .obj r) rfl, ok_argC, ok_op2, ok_bi, ok_argC, ok_pick (i := 1) (d := .str (Tx u)) rfl, ok_argN, ok_lenS]
    refine ⟨szl (by omega), ?_⟩
    rw [ok_con, ok_addI, ok_argN]
    refine ⟨rfl, call_drawK R3 (by omega) (by omega) fun k o3 k1 R4 => ?_⟩
    have hl4 : (h3.set r o3).length = h.length := by simpa using hl3
    generalize h3.set r o3 = h4 at *
    rw [ok_argC, ok_callM, ok_argC, ok_pick (i := 0) (d := .obj r) rfl, ok_argN]
    refine ⟨rfl, signq_ok R4 fun c h5 hc R5 hl5 => ?_⟩
    rw [ok_argN]
    refine ⟨_, _, _, rfl, ?_⟩
    show Ok (bentIf [some (.obj r), some (.str (Tx u)), some x, some (.int (w : Nat)), some (.int (k : Nat)), some (.str (Tx [c]))]) _ _
    refine bentIf_ok su (by omega) (by omega) hc fun v sv lv => ?_
    exact ⟨v, _, _, _, _, rfl, sv, by omega, R5, by omega⟩
  · rintro env h' ⟨u, y2, y3, y4, y5, rfl, su, lu, R2, hl2⟩
    dsimp only
    rw [ok_ret, ok_pick (i := 1) (d := .str (Tx u)) rfl]
    exact q _ _ ⟨u, rfl, su, by simpa using lu⟩ R2 hl2
theorem pick_ok {xs : List Dt} (R : PK r h0 h) (hx : 0 < xs.length) (hx2 : xs.length < 1000) (q : ∀ d h1, d ∈ xs → PK r h0 h1 → h1.length = h.length → Q d h1) : Ok (K51.f__lwp_pick [.obj r, .lv xs]) h Q := by
  rw [K51.f__lwp_pick, ok_fnM]
  simp only [K51.m__lwp_pick, List.map_cons, List.map_nil, List.length_cons, List.length_nil, List.replicate, List.cons_append, List.nil_append]
  rw [ok_ret, ok_op2, ok_pick (i := 1) (d := .lv xs) rfl, ok_callM, ok_argC, ok_pick (i := 0) (d := .obj r) rfl, ok_argC, ok_bi, ok_argC, ok_pick (i := 1) (d := .lv xs) rfl, ok_argN, ok_lenLv, ok_argN]
  refine ⟨rfl, call_drawK R (by omega) (by omega) fun k o k1 R1 => ?_⟩
  have kl : k < xs.length := by omega
  rw [ok_ixLv]
  exact ⟨xs[k], atI_nat kl, q _ _ (List.getElem_mem kl) R1 (by simp)⟩
def smB (x : Str) : Bool := x.cps.all (fun c => decide (c < 128)) && decide (x.length ≤ 300)
/-- a text; or a value that is none -/
def Itm (d : Dt) : Prop := (∃ t, d = .str (Tx t) ∧ (∀ c ∈ t, c < 128) ∧ t.length ≤ 640) ∨ (∃ T r, (∀ h, tyD h d = some T) ∧ T ∈ kindsT ∧ T ≠ "str" ∧ RepS d r)
theorem itm_tx {t : List Nat} (sm : ∀ c ∈ t, c < 128) (l : t.length ≤ 640) : Itm (.str (Tx t)) := .inl ⟨t, rfl, sm, l⟩
theorem ist_tn {n : Nat} {d : Dt} (h : Tn n d) (hn : n ≤ 640) : Itm d := by
  obtain ⟨t, rfl, sm, l⟩ := h
  exact itm_tx sm (by omega)
theorem ist_odd {d : Dt} {r : Str} (T : String) (ht : ∀ h, tyD h d = some T) (hk : T ∈ kindsT) (ne : T ≠ "str") (hr : PyData.strOk r = true) (e : ∀ h, bReprA [d] h = .ok (.str r) h) : Itm d := .inr ⟨T, r, ht, hk, ne, hr, e⟩
theorem ist_lit {x : Str} (h : smB x = true) : Itm (.str x) := by
  unfold smB at h
  rw [Bool.and_eq_true] at h
  rw [tx_of x]
  refine itm_tx (fun c m => ?_) ?_
  · have := (Array.all_eq_true'.mp h.1) c (by simpa using m)
    simpa using this
  · have := of_decide_eq_true h.2
    have e : x.cps.toList.length = x.length := by simp [Str.length]
    omega
/-- the repr of a value that is given -/
def rpr (d : Dt) : Str := match bReprA [d] [] with
  | .ok (.str r) _ => r
  | _ => Str.empty
theorem ist_non : Itm .non := ist_odd (r := rpr .non) "NoneType" (fun _ => rfl) (by decide) (by decide) (by decide +kernel) (fun h => by kernel_rfl)
theorem ist_bl (b : Bool) : Itm (.bl b) := ist_odd (r := if b then "True" else "False") "bool" (fun _ => rfl) (by decide) (by decide) (by cases b <;> decide +kernel) (fun h => rfl)
theorem ist_int {K : Int} (hK : K.natAbs.log2 < 1920) (hs : PyData.strOk (toString K) = true) : Itm (.int K) := ist_odd (r := toString K) "int" (fun _ => rfl) (by decide) (by decide) hs (fun h => by
  show (if K.natAbs.log2 < 1920 then Rs.ok (Dt.str (toString K)) h else Rs.no) = _
  rw [if_pos hK])
def oddL : List Dt := [.non, .bl true, .str (Str.ofString ""), .str (Str.ofString "0"), .int 1, .tup [], .tup [.int 0], .lv [], .dk [] [], .int (-1), .tup [.str (Str.ofString "a"), .int 1], .str (Str.ofString "A"), .lv [.str (Str.ofString "a")], .str (Str.ofString "a b"), .tup [.tup []], .bl false, .str (Str.ofString "abcdefghi"), .str (Str.ofString "e0")]
theorem ist_t0 : Itm (.tup []) := ist_odd (r := rpr (.tup [])) "tuple" (fun _ => rfl) (by decide) (by decide) (by decide +kernel) (fun h => by kernel_rfl)
theorem ist_t1 : Itm (.tup [.int 0]) := ist_odd (r := rpr (.tup [.int 0])) "tuple" (fun _ => rfl) (by decide) (by decide) (by decide +kernel) (fun h => by kernel_rfl)
theorem ist_l0 : Itm (.lv []) := ist_odd (r := rpr (.lv [])) "list" (fun _ => rfl) (by decide) (by decide) (by decide +kernel) (fun h => by kernel_rfl)
theorem ist_d0 : Itm (.dk [] []) := ist_odd (r := rpr (.dk [] [])) "dict" (fun _ => rfl) (by decide) (by decide) (by decide +kernel) (fun h => by kernel_rfl)
theorem ist_t2 : Itm (.tup [.str (Str.ofString "a"), .int 1]) := ist_odd (r := rpr (.tup [.str (Str.ofString "a"), .int 1])) "tuple" (fun _ => rfl) (by decide) (by decide) (by decide +kernel) (fun h => by kernel_rfl)
theorem ist_l1 : Itm (.lv [.str (Str.ofString "a")]) := ist_odd (r := rpr (.lv [.str (Str.ofString "a")])) "list" (fun _ => rfl) (by decide) (by decide) (by decide +kernel) (fun h => by kernel_rfl)
theorem ist_t3 : Itm (.tup [.tup []]) := ist_odd (r := rpr (.tup [.tup []])) "tuple" (fun _ => rfl) (by decide) (by decide) (by decide +kernel) (fun h => by kernel_rfl)
theorem ist_i0 : Itm (.int 0) := ist_int (by decide +kernel) (by decide +kernel)
theorem ist_i1 : Itm (.int 1) := ist_int (by decide +kernel) (by decide +kernel)
theorem ist_im : Itm (.int (-1)) := ist_int (by decide +kernel) (by decide +kernel)
theorem oddL_ist : ∀ d ∈ oddL, Itm d := by
  unfold oddL
  simp only [List.mem_cons, List.not_mem_nil, or_false, forall_eq_or_imp, forall_eq]
  refine ⟨ist_non, ist_bl _, ist_lit (by decide +kernel), ist_lit (by decide +kernel), ist_i1, ist_t0, ist_t1, ist_l0, ist_d0, ist_im, ist_t2, ist_lit (by decide +kernel), ist_l1, ist_lit (by decide +kernel), ist_t3, ist_bl _, ist_lit (by decide +kernel), ist_lit (by decide +kernel)⟩
theorem oddq_ok (R : PK r h0 h) (q : ∀ d (j : Ah) h1, Itm d → PK r h0 h1 → h.length ≤ h1.length → Q d h1) : Ok (K51.f__lwp_odd [.obj r]) h Q := by
  rw [K51.f__lwp_odd, ok_fnM]
  simp only [K51.m__lwp_odd, List.map_cons, List.map_nil, List.length_cons, List.length_nil, List.replicate, List.cons_append, List.nil_append]
  rw [ok_seq, ok_sto, ok_lstE]
  simp only [ok_argC, ok_con, ok_tupE, ok_lstE, ok_argN, ok_dnewV, ok_op1, ok_negI]
  refine ⟨szl (by simp), szl (by simp), szl (by simp), szl (by simp), szl (by simp), szl (by simp), szl (by simp), szl (by simp), ?_⟩
  show Ok (ret _ [some (.obj r), some (.lv oddL)]) h _
  have ol := oddL_ist
  have l18 : oddL.length = 18 := rfl
  generalize oddL = L at *
  rw [ok_ret, ok_op2, ok_pick (i := 1) (d := .lv L) rfl, ok_callM, ok_argC, ok_pick (i := 0) (d := .obj r) rfl, ok_argC, ok_con, ok_argN]
  refine ⟨rfl, call_drawK R (by decide) (by decide) fun k o k1 R1 => ?_⟩
  have kl : k < L.length := by omega
  rw [ok_ixLv]
  exact ⟨L[k], atI_nat kl, q _ [] _ (ol _ (List.getElem_mem kl)) R1 (by simp)⟩
end
end Mo
set_option Elab.async false
set_option linter.all false
set_option maxRecDepth 100000
set_option maxHeartbeats 4000000
namespace Mo
open PySem L2 TL
theorem at_prevN {α : Type} {f : α → Dt} {rs : List α} {z : α} {i : Nat} (h : i < rs.length) : atI (rs.map f) ((i : Int) - 1) = some (f (if i = 0 then rs.getLastD z else rs.getD (i - 1) z)) := by
  cases i with
  | zero =>
    have h0 : rs ≠ [] := fun e => by subst e; simp at h
    rw [show ((0 : Nat) : Int) - 1 = -1 by omega, atI_last (by simpa using h0), List.getLast_map]
    simp [List.getLastD_eq_getLast?, List.getLast?_eq_some_getLast h0]
  | succ i =>
    rw [show ((i + 1 : Nat) : Int) - 1 = (i : Int) by omega, atI_nat (by simp; omega)]
    simp [show i < rs.length by omega]
theorem at_hereN {α : Type} {f : α → Dt} {rs : List α} {z : α} {i : Nat} (h : i < rs.length) : atI (rs.map f) (i : Int) = some (f (rs.getD i z)) := by
  rw [atI_nat (by simpa using h)]
  simp [h]
section
variable {h : Ah} {Q : Dt → Ah → Prop} {env : En} {F : Fl → Ah → Prop} {w : List Nat} {i : Nat} {q : Nat × Nat}
theorem isw_ok (hw : w.length ≤ 640) (sm : ∀ c ∈ w, c < 128) : Gv (K51.f__lwp_is_word [.str (Tx w)]) (.bl (wdB w)) := gv_of fun h => by
  have wl : w.length ≤ sizeLine := szl (by omega)
  rw [K51.f__lwp_is_word, ok_fnM]
  simp only [K51.m__lwp_is_word, List.map_cons, List.map_nil, List.length_cons, List.length_nil, List.replicate, List.cons_append, List.nil_append, lit_enws, lit_0]
  rw [ok_seq, ok_ifS]
  have hd := fun (Q : Bool → Ah → Prop) q => hdT_ok (Q := Q) (h := h) (env := [some (.str (Tx w)), none]) (by omega) rfl q
  unfold hdT at hd
  simp only [ok_orT, ok_notT, ok_tst, ok_bi, ok_argC] at hd ⊢
  have hd2 := fun (Q : Bool → Ah → Prop) q => by
    have := hd Q q
    rw [ok_pick (i := 0) (d := .str (Tx w)) rfl, ok_con, ok_argN, isi_str, ok_isB, if_neg (by simp)] at this
    exact this
  refine hd2 _ ?_
  cases hb : hdB w with
  | true =>
    rw [if_pos rfl, ok_ret, ok_con]
    have : wdB w = false := by
      match w, hb with
      | [], _ => rfl
      | [_], _ => rfl
      | c :: d :: f, hb =>
        unfold hdB at hb
        unfold wdB
        cases q1 : ltB c <;> cases q2 : decide (d = 48) <;> simp [q1, q2] at hb ⊢
    exact ⟨by rw [this], [], by simp⟩
  | false =>
    match w, hb, hw, wl, sm with
    | [], hb, _, _, _ => cases hb
    | [_], hb, _, _, _ => cases hb
    | c :: d :: f, hb, hw, wl, sm =>
      have hcd : ltB c = true ∧ decide (d = 48) = false := by
        unfold hdB at hb
        cases q1 : ltB c <;> cases q2 : decide (d = 48) <;> simp [q1, q2] at hb ⊢
      rw [if_neg (by simp), ok_nxt]
      dsimp only
      rw [ok_ret, ok_op2]
      refine ok_lcM (d :: f) (fun c => .str (Tx [c])) (fun c => !dgB c) (fun c => .str (Tx [c])) ?_
      rw [ok_itS, ok_slc, ok_pick (i := 0) (d := .str (Tx (c :: d :: f))) rfl, ok_opS, ok_con, ok_isI, ok_opN, ok_slS]
      refine ⟨wl, ?_⟩
      rw [cut1, ok_itemsTx]
      refine ⟨rfl, szl (by simp at hw ⊢; omega), fun x m => ⟨_, bd_nm, gv_of fun h => ?_, fun _ => gv_of fun h => ?_⟩, fun j => ?_⟩
      · rw [ok_tst, ok_op2, ok_pick (i := 1) (d := .str (Tx [x])) rfl, ok_con, lit_dg]
        refine ok_of (a := .bl (!dgB x)) (h' := h) ?_ ?_
        · unfold opNotIn inR
          simp only [sign_tx, tx_cps]
          rfl
        · rw [ok_isB]
          exact ⟨rfl, [], by simp⟩
      · rw [ok_pick (i := 1) (d := .str (Tx [x])) rfl]
        exact ⟨rfl, [], by simp⟩
      · rw [ok_lstE, ok_argN]
        refine ⟨szl (by simp), ?_⟩
        rw [eq_lvnil (shps_map fun x m => shp_str fun y my => by
          rw [List.mem_singleton.mp my]
          exact sm x (List.mem_cons_of_mem _ (List.mem_filter.mp m).1))]
        refine ⟨?_, j, rfl⟩
        congr 1
        show _ = (ltB c && (!decide (d = 48) && (d :: f).all dgB))
        rw [hcd.1, hcd.2]
        simp only [Bool.not_false, Bool.true_and, List.isEmpty_map]
        rw [Bool.eq_iff_iff]
        simp [List.isEmpty_iff, List.filter_eq_nil_iff]
/-- the letter and the number of a word -/
theorem wd_head (hl : (wordR q).length ≤ 641) : Ok (ixM (.str (Tx (wordR q))) (.int 0)) h Q ↔ Q (lt1 q.1) h := by
  rw [ok_ixS]
  constructor
  · rintro ⟨c, e, _, k⟩
    have : c = q.1 := by
      have e2 : atI (wordR q) 0 = some q.1 := at0
      rw [e2] at e
      exact (Option.some.inj e).symm
    subst this
    exact k
  · intro k
    exact ⟨q.1, at0, szl (by omega), k⟩
theorem wd_tail (hl : (wordR q).length ≤ 641) (e : env[i]? = some (some (.str (Tx (wordR q))))) : Ok (bi bInt (argC (slc slD (var i) (opS (con (.int 1))) opN) argN) env) h Q ↔ Q (.int (q.2 : Nat)) h := by
  have wl : (wordR q).length ≤ sizeLine := szl (by omega)
  have ll : (numL q.2).length ≤ 640 := by
    have : (wordR q).length = (numL q.2).length + 1 := rfl
    omega
  have dg : (numL q.2).all dgB = true := List.all_eq_true.mpr fun c m => dgB_iff.mpr (numL_digits q.2 c m)
  rw [ok_bi, ok_argC, ok_slc, ok_pick e, ok_opS, ok_con, ok_isI, ok_opN, ok_slS]
  have c1 : cutL (wordR q) (some 1) none = numL q.2 := cut1
  constructor
  · rintro ⟨_, k⟩
    rw [c1, ok_argN, ok_intF9 dg (numL_ne q.2) ll, numL_val] at k
    exact k
  · intro k
    refine ⟨wl, ?_⟩
    rw [c1, ok_argN, ok_intF9 dg (numL_ne q.2) ll, numL_val]
    exact k
/-- what is told of a text -/
def tvT (t : List Nat) : Dt := if wrB t then tvL (NW t) else .tup [.str (Str.ofString "InvalidText"), .str (reprText (Tx t))]
theorem ret_bad {t : List Nat} (sm : ∀ c ∈ t, c < 128) (hl : t.length ≤ 640) (e : env[0]? = some (some (.str (Tx t)))) (k : F (.rt (.tup [.str (Str.ofString "InvalidText"), .str (reprText (Tx t))])) h) : Ok (ret (tupE (argC (con (.str (Str.ofString "InvalidText"))) (argC (bi bReprA (argC (var 0) argN)) argN))) env) h F := by
  rw [ok_ret, ok_tupE, ok_argC, ok_con, ok_argC, ok_bi, ok_argC, ok_pick e, ok_argN]
  refine ok_of ((reps_tx sm (by omega)).2 h) ?_
  rw [ok_argN]
  exact ⟨szl (by simp), k⟩
/-- the steps of the first words -/
theorem steps_loop {N : List (Nat × Nat)} {a0 a2 a3 a5 : Option Dt} {V : Dt} {rest : En → Mm Fl} (hw : ∀ q ∈ N, (wordR q).length ≤ 641) (hs : sumN N ≤ 120) (eV : V = .lv (N.map fun q => .str (Tx (wordR q))))
    (k : ∀ y, Ok (rest [a0, some V, y, a3, some (.lv (Ls (expand N))), a5]) h F) :
    Ok (seq (forM (itL (var 1)) (.nm 2) (sto 4 (op2 opAdd (var 4) (op2 opMul (lstE (argC (op2 ixM (var 2) (con (.int 0))) argN)) (bi bInt (argC (slc slD (var 2) (opS (con (.int 1))) opN) argN)))))) rest [a0, some V, a2, a3, some (.lv (Ls [])), a5]) h F := by
  rw [ok_seq, ok_forM, ok_itL, ok_pick (i := 1) (d := V) rfl, eV, ok_itemsLv, ← eV]
  refine forL_ind (fun ds env h' => ∃ (m : Nat) (y : Option Dt), m ≤ N.length ∧ ds = (N.drop m).map (fun q => .str (Tx (wordR q))) ∧ h' = h ∧ env = [a0, some V, y, a3, some (.lv (Ls (expand (N.take m)))), a5]) ?_ ?_ _ _ _ ⟨0, a2, Nat.zero_le _, by simp, rfl, by simp [expand]⟩
  · rintro x xs env h' ⟨m, y, hm, e, rfl, rfl⟩
    have c : m < N.length := by
      rcases Nat.lt_or_ge m N.length with c | c
      · exact c
      · rw [List.drop_eq_nil_of_le (by simpa using c)] at e; simp at e
    rw [List.drop_eq_getElem_cons c, List.map_cons] at e
    obtain ⟨rfl, rfl⟩ := List.cons.inj e
    have wq := hw _ (List.getElem_mem c)
    have st : expand (N.take (m + 1)) = expand (N.take m) ++ List.replicate N[m].2 N[m].1 := by
      rw [List.take_succ_eq_append_getElem c, expand_app]
      simp [expand]
    have le2 : (expand (N.take (m + 1))).length ≤ 120 := by
      rw [exp_len]
      have : sumN N = sumN (N.take (m + 1)) + sumN (N.drop (m + 1)) := by
        unfold sumN
        rw [← List.sum_append, ← List.map_append, List.take_append_drop]
      omega
    rw [st] at le2
    generalize expand (N.take m) = U at *
    generalize N[m] = q at *
    refine ⟨_, bd_nm, ?_⟩
    show Ok (sto _ _ [a0, some V, some (.str (Tx (wordR q))), a3, some (.lv (Ls U)), a5]) _ _
    rw [List.length_append, List.length_replicate] at le2
    rw [ok_sto, ok_op2, ok_pick (i := 4) (d := .lv (Ls U)) rfl, ok_op2, ok_lstE, ok_argC, ok_op2, ok_pick (i := 2) (d := .str (Tx (wordR q))) rfl, ok_con, wd_head wq, ok_argN]
    refine ⟨szl (by simp), ?_⟩
    rw [wd_tail (i := 2) wq rfl, ok_mulLs (by omega), ok_addLv, ls_app, ls_len, ls_len, ← st]
    exact ⟨szl (by simp; omega), m + 1, _, c, rfl, rfl, rfl⟩
  · rintro env h' ⟨m, y, hm, e, rfl, rfl⟩
    have : m = N.length := by
      rcases Nat.lt_or_ge m N.length with c | c
      · have := congrArg List.length e
        simp at this
        omega
      · omega
    subst this
    dsimp only
    rw [List.take_length]
    exact k y
end
theorem due_text {t : List Nat} {h : Ah} {Q : Dt → Ah → Prop} (sm : ∀ c ∈ t, c < 128) (hl : t.length ≤ 640) (q : ∀ j, Q (tvT t) (h ++ j)) : Ok (K51.f__lwp_due [.str (Tx t)]) h Q := by
  have wl := words_len t
  have n4 : (words t).length < 4 → wrB t = false := fun z => by
    unfold wrB stpB
    rw [show decide (4 ≤ (NW t).length) = false by unfold NW; rw [List.length_map]; exact decide_eq_false (by omega)]
    simp
  have bad : wrB t = false → ∀ j, Q (.tup [.str (Str.ofString "InvalidText"), .str (reprText (Tx t))]) (h ++ j) := fun e j => by
    have := q j
    unfold tvT at this
    rw [if_neg (by rw [e]; simp)] at this
    exact this
  rw [K51.f__lwp_due, ok_fnM]
  simp only [K51.m__lwp_due, List.map_cons, List.map_nil, List.length_cons, List.length_nil, List.replicate, List.cons_append, List.nil_append, lit_sp]
  rw [ok_seq, ok_sto, ok_ifE, ok_tst, ok_bi, ok_argC, ok_pick (i := 0) (d := .str (Tx t)) rfl, ok_argC, ok_con, ok_argN, isi_str, ok_isB, if_pos rfl, ok_bm, ok_pick (i := 0) (d := .str (Tx t)) rfl]
  refine ⟨rfl, ?_⟩
  rw [ok_argC, ok_con, ok_argN]
  refine ok_of (a := .lv ((words t).map fun w => .str (Tx w))) (h' := h) (by
    have : t.length + 2 ≤ sizeLine := szl (by omega)
    have sw := split_words t
    simp [mSplit, sw, this]) ?_
  generalize hV : Dt.lv ((words t).map fun w => .str (Tx w)) = V
  show Ok (seq _ _ [some (.str (Tx t)), some V, none, none, none, none]) _ _
  rw [ok_seq, ok_ifS, ok_orT, ok_tst, ok_op2, ok_bi, ok_argC, ok_pick (i := 1) (d := V) rfl, ok_argN, ← hV, ok_lenLv, hV, ok_con, ok_ltI, ok_isB, List.length_map]
  by_cases four : ¬ 4 ≤ (words t).length
  · rw [if_pos (by simp; omega), if_pos rfl]
    refine ret_bad sm hl rfl ?_
    simpa using bad (n4 (by omega)) []
  have four := Decidable.not_not.mp four
  rw [if_neg (by simp; omega), ok_tst, ok_op2]
  refine ok_lcM (words t) (fun w => .str (Tx w)) (fun w => !wdB w) (fun w => .str (Tx w)) ?_
  rw [ok_itL, ok_pick (i := 1) (d := V) rfl, ← hV, ok_itemsLv, hV]
  refine ⟨rfl, szl (by omega), fun w m => ⟨_, bd_nm, gv_of fun h => ?_, fun _ => gv_of fun h => ?_⟩, fun j1 => ?_⟩
  · have := word_len m
    rw [ok_notT, ok_tst, ok_callM, ok_argC, ok_pick (i := 2) (d := .str (Tx w)) rfl, ok_argN]
    refine ⟨rfl, gv_fn (isw_ok (by omega) fun c mc => sm c (word_sub m c mc)) fun j => ?_⟩
    rw [ok_isB]
    exact ⟨rfl, j, rfl⟩
  · rw [ok_pick (i := 2) (d := .str (Tx w)) rfl]
    exact ⟨rfl, [], by simp⟩
  rw [ok_lstE, ok_argN]
  refine ⟨szl (by simp), ?_⟩
  rw [ok_neL, ok_isB]
  have em : (((words t).filter fun w => !wdB w).map fun w => Dt.str (Tx w)).isEmpty = txB t := by
    unfold txB
    rw [List.isEmpty_map, Bool.eq_iff_iff]
    simp [List.isEmpty_iff, List.filter_eq_nil_iff]
  rw [em]
  cases ht : txB t with
  | false =>
    rw [if_pos (by simp)]
    refine ret_bad sm hl rfl ?_
    exact bad (by unfold wrB; rw [ht]; rfl) j1
  | true =>
  rw [if_neg (by simp), ok_nxt]
  dsimp only
  obtain ⟨nl, n1, nb⟩ := nw_ltr ht
  have wn : (words t).map (fun w => Dt.str (Tx w)) = (NW t).map fun q => .str (Tx (wordR q)) := by
    unfold NW
    rw [List.map_map]
    exact List.map_congr_left fun w m => by
      show _ = Dt.str (Tx (wordR (wdV w)))
      rw [(wd_inv (List.all_eq_true.mp ht w m)).1]
  have wq : ∀ q ∈ NW t, (wordR q).length ≤ 641 := fun q m => by
    obtain ⟨w, mw, rfl⟩ := List.mem_map.mp m
    rw [(wd_inv (List.all_eq_true.mp ht w mw)).1]
    have := word_len mw
    omega
  rw [wn] at hV
  have nlen : (NW t).length = (words t).length := by unfold NW; rw [List.length_map]
  have hwr : wrB t = (decide (sumN (NW t) ≤ 120) && stpB (NW t)) := by unfold wrB; rw [ht, Bool.true_and]
  have four' : 4 ≤ (NW t).length := by omega
  have le9 : (NW t).length ≤ 642 := by omega
  have tv : wrB t = true → tvT t = tvL (NW t) := fun e => by unfold tvT; rw [if_pos e]
  clear em wn four n4 wl
  generalize NW t = N at *
  -- the sum
  rw [ok_seq, ok_ifS, ok_tst, ok_op2, ok_bi, ok_argC]
  refine ok_lcA N (fun q => .str (Tx (wordR q))) (fun q => .int ((q.2 : Nat) : Int)) ?_
  rw [ok_itL, ok_pick (i := 1) (d := V) rfl, ← hV, ok_itemsLv, hV]
  refine ⟨rfl, szl (by omega), fun q m => gv_of fun h => ?_, fun j2 => ?_⟩
  · rw [wd_tail (i := 2) (wq q m) rfl]
    exact ⟨rfl, [], by simp⟩
  rw [ok_argN, ok_sumLv, ok_con, ok_gtI, ok_isB, sum_cast]
  by_cases hs : ¬ sumN N ≤ 120
  · rw [if_pos (by simp; omega)]
    refine ret_bad sm hl rfl ?_
    have := bad (by rw [hwr, decide_eq_false hs, Bool.false_and]) (j1 ++ j2)
    rw [← List.append_assoc] at this
    exact this
  have hs := Decidable.not_not.mp hs
  rw [if_neg (by simp; omega), ok_nxt]
  dsimp only
  -- turnings
  rw [ok_seq, ok_ifS, ok_tst, ok_op2]
  refine ok_lcM (List.range N.length) (fun i => .int ((i : Nat) : Int)) (altB N) (fun i => .int ((i : Nat) : Int)) ?_
  rw [ok_itR1, ok_argC, ok_bi, ok_argC, ok_pick (i := 1) (d := V) rfl, ok_argN, ← hV, ok_lenLv, hV, ok_argN, List.length_map]
  refine ⟨_, rfl, ⟨by omega, by omega⟩, ?_⟩
  rw [show ((N.length : Nat) : Int).toNat = N.length from rfl, rng_eq]
  refine ⟨rfl, by simpa using szl (show N.length ≤ 1000 by omega), fun i mi => ⟨_, bd_nm, gv_of fun h => ?_, fun _ => gv_of fun h => ?_⟩, fun j3 => ?_⟩
  · have hi := List.mem_range.mp mi
    have here : N.getD i (0, 0) ∈ N := by rw [List.getD_eq_getElem?_getD, List.getElem?_eq_getElem hi]; exact List.getElem_mem hi
    have prev : (if i = 0 then N.getLastD (0, 0) else N.getD (i - 1) (0, 0)) ∈ N := by
      by_cases i0 : i = 0
      · rw [if_pos i0, List.getLastD_eq_getLast?, List.getLast?_eq_getElem?, List.getElem?_eq_getElem (by omega)]
        exact List.getElem_mem _
      · rw [if_neg i0, List.getD_eq_getElem?_getD, List.getElem?_eq_getElem (by omega)]
        exact List.getElem_mem _
    rw [ok_tst, ok_op2, ok_callM, ok_argC, ok_op2, ok_op2, ok_pick (i := 1) (d := V) rfl, ok_pick (i := 3) (d := .int ((i : Nat) : Int)) rfl, ← hV, ok_ixLv, hV]
    refine ⟨_, at_hereN (z := (0, 0)) hi, ?_⟩
    rw [ok_con, wd_head (wq _ here), ok_argN]
    refine ⟨rfl, gv_fn (level1_ok (nl _ here)) fun j => ?_⟩
    rw [ok_callM, ok_argC, ok_op2, ok_op2, ok_pick (i := 1) (d := V) rfl, ok_op2, ok_pick (i := 3) (d := .int ((i : Nat) : Int)) rfl, ok_con, ok_subI, ← hV, ok_ixLv, hV]
    refine ⟨_, at_prevN (z := (0, 0)) hi, ?_⟩
    rw [ok_con, wd_head (wq _ prev), ok_argN]
    refine ⟨rfl, gv_fn (level1_ok (nl _ prev)) fun j' => ?_⟩
    rw [ok_eqB, ok_isB]
    refine ⟨?_, j ++ j', by simp⟩
    unfold altB
    exact decide_eq_decide.mpr ⟨Eq.symm, Eq.symm⟩
  · rw [ok_pick (i := 3) (d := .int ((i : Nat) : Int)) rfl]
    exact ⟨rfl, [], by simp⟩
  rw [ok_lstE, ok_argN]
  refine ⟨szl (by simp), ?_⟩
  rw [ok_neL, ok_isB]
  have ea : (((List.range N.length).filter (altB N)).map fun i => Dt.int ((i : Nat) : Int)).isEmpty = stpB N := by
    unfold stpB
    rw [decide_eq_true four', Bool.true_and, List.isEmpty_map, Bool.eq_iff_iff]
    simp [List.isEmpty_iff, List.filter_eq_nil_iff]
  rw [ea]
  cases hb : stpB N with
  | false =>
    rw [if_pos (by simp)]
    refine ret_bad sm hl rfl ?_
    have := bad (by rw [hwr, hb, Bool.and_false]) (j1 ++ (j2 ++ j3))
    simp only [← List.append_assoc] at this
    exact this
  | true =>
  rw [if_neg (by simp), ok_nxt]
  dsimp only
  have good : wrB t = true := by rw [hwr, hb, decide_eq_true hs]; rfl
  rw [tv good] at q
  clear bad ea
  rw [ok_seq, ok_sto, ok_lstE, ok_argN]
  refine ⟨szl (by simp), ?_⟩
  show Ok (seq _ _ [some (.str (Tx t)), some V, none, none, some (.lv (Ls [])), none]) _ _
  refine steps_loop wq hs hV.symm fun y => ?_
  have q2 : ∀ j, Q (tvL N) (h ++ j1 ++ j2 ++ j3 ++ j) := fun j => by
    have := q (j1 ++ (j2 ++ (j3 ++ j)))
    simp only [← List.append_assoc] at this
    exact this
  generalize h ++ j1 ++ j2 ++ j3 = H at *
  have wl : Ltrs (expand N) := exp_ltr nl
  have el : (expand N).length ≤ 120 := by rw [exp_len]; exact hs
  have on : outN N = (if pl (cyc (expand N)) (expand N).length = (0, 0) then
        (if isNon (touchD (expand N)) = true then none else some ⟨Str.ofString "Touches", [Str.ofString "place"], [touchD (expand N)]⟩)
      else some ⟨Str.ofString "NotClosed", [Str.ofString "place"], [ptD (pl (cyc (expand N)) (expand N).length)]⟩) := by
    unfold outN
    rw [if_neg (by rw [hb]; simp)]
  unfold tvL at q2
  rw [nb] at q2
  generalize expand N = W at *
  generalize outN N = O at *
  rw [ok_seq, ok_ifS, ok_tst, ok_op2, ok_op2, ok_callM, ok_argC, ok_pick (i := 4) (d := .lv (Ls W)) rfl, ok_argN]
  refine ⟨rfl, (lspots_ok wl (by omega) _).mono fun d h1 ⟨e, k1, e1⟩ => ?_⟩
  subst e e1
  rw [ok_op1, ok_con, ok_negI, ok_ixO, lstAt_new]
  refine ⟨_, ptsD_last W W.length, ?_⟩
  rw [ok_tupE, ok_argC, ok_con, ok_argC, ok_con, ok_argN]
  refine ⟨szl (by simp), ?_⟩
  rw [show Dt.tup [.int 0, .int 0] = ptD (0, 0) from rfl, ok_nePt, ok_isB]
  by_cases cl : ¬ pl (cyc W) W.length = (0, 0)
  · rw [if_pos (by simp [cl])]
    rw [if_neg cl] at on
    subst on
    obtain ⟨pa, pb⟩ := pl_small (cyc W) W.length
    obtain ⟨r, R⟩ := reps_pt (p := pl (cyc W) W.length) (by omega) (by omega)
    dsimp only at q2
    rw [xr_of R] at q2
    rw [ok_ret, ok_tupE, ok_argC, ok_con, ok_argC, ok_bi, ok_argC, ok_op2, ok_callM, ok_argC, ok_pick (i := 4) (d := .lv (Ls W)) rfl, ok_argN]
    refine ⟨rfl, (lspots_ok wl (by omega) _).mono fun d h1 ⟨e, k2, e1⟩ => ?_⟩
    subst e e1
    rw [ok_op1, ok_con, ok_negI, ok_ixO, lstAt_new]
    refine ⟨_, ptsD_last W W.length, ?_⟩
    rw [ok_argN]
    refine ok_of (R.2 _) ?_
    rw [ok_argN]
    refine ⟨szl (by simp), ?_⟩
    have := q2 (.lst (ptsD W W.length) :: k1 ++ .lst (ptsD W W.length) :: k2)
    simpa using this
  have cl := Decidable.not_not.mp cl
  rw [if_neg (by simp [cl]), ok_nxt]
  dsimp only
  rw [if_pos cl] at on
  rw [ok_seq, ok_sto, ok_callM, ok_argC, ok_pick (i := 4) (d := .lv (Ls W)) rfl, ok_argN]
  refine ⟨rfl, gv_fn (ltouch_ok wl (by omega)) fun k2 => ?_⟩
  show Ok (ret _ [some (.str (Tx t)), some V, y, none, some (.lv (Ls W)), some (touchD W)]) _ _
  rw [ok_ret, ok_ifE, ok_tst, ok_op2, ok_pick (i := 5) (d := touchD W) rfl, ok_con, ok_isN, ok_isB]
  have fin : ∀ d, (∀ j, Q d (H ++ j)) → Q d (H ++ .lst (ptsD W W.length) :: k1 ++ k2) := fun d z => by
    have := z (.lst (ptsD W W.length) :: k1 ++ k2)
    simpa using this
  by_cases tn : isNon (touchD W) = true
  · rw [if_pos tn, ok_tupE, ok_argC, ok_con, ok_argC, ok_pick (i := 0) (d := .str (Tx t)) rfl, ok_argN]
    rw [if_pos tn] at on
    subst on
    exact ⟨szl (by simp), fin _ q2⟩
  · rw [if_neg tn]
    rw [if_neg tn] at on
    subst on
    have R : ∃ r, RepS (touchD W) r := by
      unfold touchD at tn ⊢
      cases z : (List.range W.length).find? (fun k => !tB W k) with
      | none => rw [z] at tn; exact absurd rfl tn
      | some k =>
        have hk := List.mem_range.mp (List.mem_of_find?_eq_some z)
        obtain ⟨a, b⟩ := pl_small (cyc W) k
        exact reps_pt (p := pl (cyc W) k) (by omega) (by omega)
    obtain ⟨r, R⟩ := R
    dsimp only at q2
    rw [xr_of R] at q2
    generalize touchD W = T at *
    rw [ok_tupE, ok_argC, ok_con, ok_argC, ok_bi, ok_argC, ok_pick (i := 5) (d := T) rfl, ok_argN]
    refine ok_of (R.2 _) ?_
    rw [ok_argN]
    exact ⟨szl (by simp), fin _ q2⟩
end Mo
set_option Elab.async false
set_option linter.all false
set_option maxRecDepth 100000
set_option maxHeartbeats 4000000
namespace Mo
open PySem L2 TL
theorem cut_both {α : Type} {xs : List α} {i j : Nat} : cutL xs (some (i : Int)) (some (j : Int)) = (xs.take j).drop i := by
  unfold cutL
  rw [HT.sIx_nat, HT.sIx_nat]
  rw [List.drop_take]
  by_cases h : i ≤ xs.length
  · rw [Nat.min_eq_left h]
    by_cases h2 : j ≤ xs.length
    · rw [Nat.min_eq_left h2]
    · rw [Nat.min_eq_right (by omega), List.take_of_length_le (by simp), List.take_of_length_le (by simp; omega)]
  · rw [List.drop_eq_nil_of_le (by omega), List.drop_eq_nil_of_le (by omega)]
    simp
def lnN (L : List (Nat × Nat)) : Nat := (L.map fun q => (wordR q).length + 1).sum
theorem lnN_app (a b : List (Nat × Nat)) : lnN (a ++ b) = lnN a + lnN b := by simp [lnN]
theorem btx_ln (L : List (Nat × Nat)) : (btxL L).length ≤ lnN L := by
  have := join_len (L.map wordR)
  rw [List.map_map, List.length_map] at this
  unfold btxL lnN
  have e : ∀ (L : List (Nat × Nat)), (L.map fun q => (wordR q).length + 1).sum = (L.map (List.length ∘ wordR)).sum + L.length := by
    intro L
    induction L with
    | nil => rfl
    | cons p L ih => simp only [List.map_cons, List.sum_cons, ih, List.length_cons, Function.comp]; omega
  rw [e]
  omega
theorem ln_take (L : List (Nat × Nat)) (i : Nat) : lnN (L.take i) ≤ lnN L := by
  have := lnN_app (L.take i) (L.drop i)
  rw [List.take_append_drop] at this
  omega
theorem ln_drop (L : List (Nat × Nat)) (i : Nat) : lnN (L.drop i) ≤ lnN L := by
  have := lnN_app (L.take i) (L.drop i)
  rw [List.take_append_drop] at this
  omega
theorem ln_three (L : List (Nat × Nat)) (a w b : Nat) : lnN (L.take a ++ (L.take b).drop (a + w) ++ L.drop b) ≤ 2 * lnN L := by
  rw [lnN_app, lnN_app]
  by_cases h : a + w ≤ b
  · have e1 := lnN_app ((L.take b).take (a + w)) ((L.take b).drop (a + w))
    rw [List.take_append_drop, List.take_take, Nat.min_eq_left h] at e1
    have e2 := lnN_app (L.take b) (L.drop b)
    rw [List.take_append_drop] at e2
    have e3 : lnN (L.take a) ≤ lnN (L.take (a + w)) := by
      have := ln_take (L.take (a + w)) a
      rwa [List.take_take, Nat.min_eq_left (by omega)] at this
    omega
  · rw [List.drop_eq_nil_of_le (by simp; omega)]
    have := ln_take L a
    have := ln_drop L b
    have : lnN [] = 0 := rfl
    omega
theorem ln_le {L : List (Nat × Nat)} (h1 : ∀ q ∈ L, 1 ≤ q.2 ∧ q.2 < 1000) : lnN L ≤ 2 * L.length + sumN L := by
  induction L with
  | nil => simp [lnN, sumN]
  | cons p L ih =>
    have i := ih fun q m => h1 q (List.mem_cons_of_mem _ m)
    obtain ⟨a, b⟩ := h1 p (by simp)
    have := numL_le a b
    have e1 : lnN (p :: L) = ((wordR p).length + 1) + lnN L := by simp [lnN]
    have e2 : sumN (p :: L) = p.2 + sumN L := by simp [sumN]
    have e3 : (wordR p).length = (numL p.2).length + 1 := rfl
    rw [List.length_cons]
    omega
theorem ln_le5 {L : List (Nat × Nat)} (h1 : ∀ q ∈ L, q.2 < 1000) : lnN L ≤ 5 * L.length := by
  induction L with
  | nil => simp [lnN]
  | cons p L ih =>
    have i := ih fun q m => h1 q (List.mem_cons_of_mem _ m)
    have := h1 p (by simp)
    have : (numL p.2).length ≤ 3 := numL_len (by decide) (by omega)
    have e1 : lnN (p :: L) = ((wordR p).length + 1) + lnN L := by simp [lnN]
    have e3 : (wordR p).length = (numL p.2).length + 1 := rfl
    rw [List.length_cons]
    omega
/-- words with numbers up to b -/
structure Ws (n b : Nat) (N : List (Nat × Nat)) : Prop where
  len : N.length = n
  ok : ∀ q ∈ N, Ltr q.1 ∧ q.2 ≤ b
def wD (q : Nat × Nat) : Dt := .str (Tx (wordR q))
section
variable {h h0 : Ah} {r b n c k : Nat} {Q : Dt → Ah → Prop} {env : En} {F : Fl → Ah → Prop} {N : List (Nat × Nat)} {i : Nat}
theorem ix_wd {ma mb : En → Mm Dt} (la : lstAt h b = some (N.map wD)) (hk : k < N.length) (ea : Ok (ma env) h fun d h1 => d = .obj b ∧ h1 = h) (eb : Ok (mb env) h fun d h1 => d = .int (k : Nat) ∧ h1 = h) (q : Q (wD N[k]) h) : Ok (op2 ixM ma mb env) h Q := by
  rw [ok_op2]
  refine ea.mono fun d h1 ⟨e1, e2⟩ => ?_
  subst e1 e2
  refine eb.mono fun d h2 ⟨e1, e2⟩ => ?_
  subst e1 e2
  rw [ok_ixO, la]
  refine ⟨wD N[k], ?_, q⟩
  show atI (N.map wD) (k : Int) = _
  rw [atI_nat (by simpa using hk)]
  simp
theorem wr_len {q : Nat × Nat} (h : q.2 < 1000) : (wordR q).length ≤ 4 := by
  have : (numL q.2).length ≤ 3 := numL_len (by decide) (by omega)
  show (numL q.2).length + 1 ≤ 4
  omega
/-- a stretch longer by one -/
theorem longer_one (la : lstAt h b = some (N.map wD)) (hk : k < N.length) (hb : N[k].2 < 900) (e2 : env[2]? = some (some (.obj b))) (ei : env[i]? = some (some (.int (k : Nat)))) (q : F (.nx env) (h.set b (.lst ((N.set k (N[k].1, N[k].2 + 1)).map wD)))) :
    Ok (asg (op2 opAdd (op2 ixM (op2 ixM (var 2) (var i)) (con (.int 0))) (bi bStr (argC (op2 opAdd (bi bInt (argC (slc slD (op2 ixM (var 2) (var i)) (opS (con (.int 1))) opN) argN)) (con (.int 1))) argN))) (gS (var 2) (var i) setL) env) h F := by
  have wl := wr_len (q := N[k]) (by omega)
  have va : Ok (var 2 env) h fun d h1 => d = .obj b ∧ h1 = h := by rw [ok_pick e2]; exact ⟨rfl, rfl⟩
  have vb : Ok (var i env) h fun d h1 => d = .int (k : Nat) ∧ h1 = h := by rw [ok_pick ei]; exact ⟨rfl, rfl⟩
  rw [ok_asg, ok_op2, ok_op2]
  refine ix_wd la hk va vb ?_
  rw [ok_con, show wD N[k] = .str (Tx (wordR N[k])) from rfl, wd_head (by omega), ok_bi, ok_argC, ok_op2, ok_bi, ok_argC, ok_slc]
  refine ix_wd la hk va vb ?_
  rw [ok_opS, ok_con, ok_isI, ok_opN, show wD N[k] = .str (Tx (wordR N[k])) from rfl, ok_slS]
  refine ⟨szl (by omega), ?_⟩
  have c1 : cutL (wordR N[k]) (some 1) none = numL N[k].2 := cut1
  rw [c1, ok_argN, ok_intN (by omega), ok_con, ok_addI, ok_argN, show ((N[k].2 : Nat) : Int) + 1 = ((N[k].2 + 1 : Nat) : Int) by omega, ok_strI (by omega), show lt1 N[k].1 = .str (Tx [N[k].1]) from rfl, ok_addS]
  have ll : (numL (N[k].2 + 1)).length ≤ 3 := numL_len (by decide) (by omega)
  refine ⟨szl (by simp; omega), ?_⟩
  rw [ok_gS, ok_pick e2, ok_pick ei, ok_setO]
  refine ⟨_, k, la, by rw [List.length_map]; unfold ixN; rw [if_pos (by omega), if_pos (by omega)]; rfl, ?_⟩
  rw [show (N.map wD).set k (.str (Tx ([N[k].1] ++ numL (N[k].2 + 1)))) = (N.set k (N[k].1, N[k].2 + 1)).map wD by rw [List.map_set]; rfl]
  exact q
theorem Ws.set {x : Nat × Nat} {b2 : Nat} (w : Ws n b2 N) (hx : Ltr x.1 ∧ x.2 ≤ b2) : Ws n b2 (N.set k x) := ⟨by rw [List.length_set]; exact w.len, fun q m => by
  rcases List.mem_or_eq_of_mem_set m with m | rfl
  · exact w.ok q m
  · exact hx⟩
theorem Ws.up {b2 : Nat} (w : Ws n b N) (hb : b ≤ b2) : Ws n b2 N := ⟨w.len, fun q m => ⟨(w.ok q m).1, Nat.le_trans (w.ok q m).2 hb⟩⟩
end
end Mo
set_option Elab.async false
set_option linter.all false
set_option maxRecDepth 100000
set_option maxHeartbeats 4000000
namespace Mo
open PySem L2 TL
theorem ln_eq (L : List (Nat × Nat)) : (L.map fun q => (wordR q).length).sum + L.length * 1 = lnN L := by
  induction L with
  | nil => rfl
  | cons p L ih =>
    have e1 : lnN (p :: L) = ((wordR p).length + 1) + lnN L := by simp [lnN]
    rw [e1, ← ih, List.map_cons, List.sum_cons, List.length_cons]
    omega
section
variable {h h0 : Ah} {r b n c k : Nat} {Q : Dt → Ah → Prop} {env : En} {F : Fl → Ah → Prop} {N : List (Nat × Nat)} {i : Nat}
theorem ixN_in (hk : k < N.length) : ixN (N.map wD).length ((k : Nat) : Int) = some k := by
  rw [List.length_map]; unfold ixN; rw [if_pos (by omega), if_pos (by omega)]; rfl
theorem var_ok {d : Dt} (e : env[i]? = some (some d)) : Ok (var i env) h fun x h1 => x = d ∧ h1 = h := by rw [ok_pick e]; exact ⟨rfl, rfl⟩
theorem join_obj (la : lstAt h b = some (N.map wD)) (hl : lnN N ≤ 1000) (e2 : env[2]? = some (some (.obj b))) (q : Q (.str (Tx (btxL N))) h) : Ok (bm isSt mJoin (con (.str (Tx [32]))) (argC (var 2) argN) env) h Q := by
  rw [ok_bm, ok_con]
  refine ⟨rfl, ?_⟩
  rw [ok_argC, ok_pick e2, ok_argN]
  refine (ok_joinO wordR (l := N) ?_ la).mpr q
  have := ln_eq N
  simp only [List.length_cons, List.length_nil] at this ⊢
  omega
/-- the last part: from the opposite stretches on -/
def shT : En → Mm Fl := (seq (sto 6 (lcM (itR1 (argC (bi bLen (argC (var 2) argN)) argN)) (.nm 7) (tst (op2 opEq (op2 ixM (op2 ixM (var 2) (var 7)) (con (.int 0))) (op2 ixD (dispM [((con (.str (Tx [101]))), (con (.str (Tx [119])))), ((con (.str (Tx [119]))), (con (.str (Tx [101])))), ((con (.str (Tx [110]))), (con (.str (Tx [115])))), ((con (.str (Tx [115]))), (con (.str (Tx [110]))))]) (op2 ixM (op2 ixM (var 2) (var 4)) (con (.int 0)))))) (var 7) [7]))
    (seq (ifS (andT (tst (op2 opGt (var 3) (con (.int 3)))) (tst (op2 opNeL (var 6) (lstE argN)))) (seq (sto 7 (callM 2 K51.f__lwp_pick (argC (var 0) (argC (var 6) argN))))
    (asg (op2 opAdd (op2 ixM (op2 ixM (var 2) (var 7)) (con (.int 0))) (bi bStr (argC (op2 opAdd (bi bInt (argC (slc slD (op2 ixM (var 2) (var 7)) (opS (con (.int 1))) opN) argN)) (con (.int 1))) argN))) (gS (var 2) (var 7) setL))) nxt)
    (ret (bm isSt mJoin (con (.str (Tx [32]))) (argC (var 2) argN)))))
theorem shT_ok {t0 : Dt} {way at_ to_ : Nat} (la : lstAt h b = some (N.map wD)) (w : Ws n 101 N) (n0 : 1 ≤ n) (n1 : n ≤ 100) (R : PK r h0 h) (hb : b ≠ r) (hb0 : h0.length ≤ b) (ha : at_ < n)
    (q : ∀ t h1, (∀ c ∈ t, c < 128) → t.length ≤ 640 → PK r h0 h1 → F (.rt (.str (Tx t))) h1) :
    Ok (shT [some (.obj r), some t0, some (.obj b), some (.int (way : Nat)), some (.int (at_ : Nat)), some (.int (to_ : Nat)), none, none]) h F := by
  have bl := lstAt_lt la
  have ln := w.len
  have w4 : ∀ q ∈ N, (wordR q).length ≤ 641 := fun q m => Nat.le_trans (wr_len (by have := (w.ok q m).2; omega)) (by decide)
  have fin : ∀ (M : List (Nat × Nat)) (h1 : Ah) (y6 y7 : Option Dt), Ws n 102 M → lstAt h1 b = some (M.map wD) → PK r h0 h1 → Ok (ret (bm isSt mJoin (con (.str (Tx [32]))) (argC (var 2) argN)) [some (.obj r), some t0, some (.obj b), some (.int (way : Nat)), some (.int (at_ : Nat)), some (.int (to_ : Nat)), y6, y7]) h1 F := fun M h1 y6 y7 wM lM RM => by
    have l5 := ln_le5 (L := M) fun q m => by have := (wM.ok q m).2; omega
    have := wM.len
    rw [ok_ret]
    refine join_obj lM (by omega) rfl (q _ _ (btx_sm fun q m => (wM.ok q m).1) ?_ RM)
    have := btx_ln M
    omega
  unfold shT
  rw [ok_seq, ok_sto]
  refine ok_lcT ?_
  rw [ok_itR1, ok_argC, ok_bi, ok_argC, ok_pick (i := 2) (d := .obj b) rfl, ok_argN, ok_lenO la, ok_argN, List.length_map]
  refine ⟨_, rfl, ⟨by omega, by omega⟩, ?_⟩
  rw [show ((N.length : Nat) : Int).toNat = N.length from rfl, rng_eq, ln]
  have Rr := R.lt
  refine ⟨by simpa using szl (show n ≤ 1000 by omega), fun rest acc Hx => (∃ m, m ≤ n ∧ rest = ((List.range n).drop m).map fun i => .int ((i : Nat) : Int)) ∧ (∀ d ∈ acc, ∃ k : Nat, k < n ∧ d = .int (k : Nat)) ∧ acc.length + rest.length ≤ n ∧ lstAt Hx b = some (N.map wD) ∧ PK r h0 Hx,
    ⟨⟨0, Nat.zero_le _, by simp⟩, by simp, by simp, lstAt_app la _, R.app _⟩, fun d rest acc Hx ⟨⟨m, hm, er⟩, ka, kl, lx, Rx⟩ ea => ?_, fun acc Hx ⟨_, ka, kl, lx, Rx⟩ ea => ?_⟩
  · have c : m < n := by
      rcases Nat.lt_or_ge m n with c | c
      · exact c
      · rw [List.drop_eq_nil_of_le (by simpa using c)] at er; simp at er
    rw [range_drop c, List.map_cons] at er
    obtain ⟨rfl, rfl⟩ := List.cons.inj er
    refine ⟨_, bd_nm, ?_⟩
    show Ok (tst _ [some (.obj r), some t0, some (.obj b), some (.int (way : Nat)), some (.int (at_ : Nat)), some (.int (to_ : Nat)), none, some (.int (m : Nat))]) _ _
    have hk : m < N.length := by omega
    have hk2 : at_ < N.length := by omega
    rw [ok_tst, ok_op2, ok_op2]
    refine ix_wd lx hk (var_ok rfl) (var_ok rfl) ?_
    rw [ok_con, show wD N[m] = .str (Tx (wordR N[m])) from rfl, wd_head (w4 _ (List.getElem_mem hk)), ok_op2, ok_dispE, ok_op2]
    refine ix_wd (lstAt_app lx _) hk2 (var_ok rfl) (var_ok rfl) ?_
    rw [ok_con, show wD N[at_] = .str (Tx (wordR N[at_])) from rfl, wd_head (w4 _ (List.getElem_mem hk2)), ok_ixE (w.ok _ (List.getElem_mem hk2)).1]
    generalize oppC (N[at_]).1 = x
    generalize (N[m]).1 = y
    rw [show lt1 y = .str (Tx [y]) from rfl, show lt1 x = .str (Tx [x]) from rfl, ok_eqS, ok_isB]
    rw [List.length_cons] at kl
    split
    · rw [ok_pick (i := 7) (d := .int (m : Nat)) rfl]
      refine ⟨lstAt_app ea _, ⟨m + 1, c, rfl⟩, fun d md => ?_, by rw [List.length_append]; simp at kl ⊢; omega, lstAt_ne' (by omega) (lstAt_app lx _), (Rx.app _).ne (by omega) (by have := R.kp.1; omega)⟩
      rcases List.mem_append.mp md with md | md
      · exact ka d md
      · exact ⟨m, c, List.mem_singleton.mp md⟩
    · exact ⟨lstAt_app ea _, ⟨m + 1, c, rfl⟩, ka, by simp at kl ⊢; omega, lstAt_app lx _, Rx.app _⟩
  · have lx2 : lstAt (Hx.set h.length .dead) b = some (N.map wD) := lstAt_ne' (by omega) lx
    have Rx2 : PK r h0 (Hx.set h.length .dead) := Rx.ne (by omega) (by have := R.kp.1; omega)
    generalize Hx.set h.length .dead = Hy at *
    show Ok (seq _ _ [some (.obj r), some t0, some (.obj b), some (.int (way : Nat)), some (.int (at_ : Nat)), some (.int (to_ : Nat)), some (.lv acc), none]) _ _
    rw [ok_seq, ok_ifS, ok_andT, ok_tst, ok_op2, ok_pick (i := 3) (d := .int (way : Nat)) rfl, ok_con, ok_gtI, ok_isB]
    by_cases w3 : 3 < way
    · rw [if_pos (by simp; omega), ok_tst, ok_op2, ok_pick (i := 6) (d := .lv acc) rfl, ok_lstE, ok_argN]
      refine ⟨szl (by simp), ?_⟩
      rw [ok_neL, ok_isB]
      by_cases a0 : acc = []
      · rw [if_neg (by simp [a0]), ok_nxt]
        exact fin N Hy _ _ (w.up (by decide)) lx2 Rx2
      · have al : 0 < acc.length := List.length_pos_iff.mpr a0
        rw [if_pos (by simp [a0]), ok_seq, ok_sto, ok_callM, ok_argC, ok_pick (i := 0) (d := .obj r) rfl, ok_argC, ok_pick (i := 6) (d := .lv acc) rfl, ok_argN]
        refine ⟨rfl, pick_ok (PK.start Rx2.pu) al (by omega) fun d h1 md R1 hl1 => ?_⟩
        obtain ⟨k, hk, rfl⟩ := ka d md
        have lx3 := lstAt_kp R1.kp hb lx2
        have R3 : PK r h0 h1 := ⟨R1.pu, Rx2.kp.trans R1.kp⟩
        have hkN : k < N.length := by omega
        have wk := w.ok _ (List.getElem_mem hkN)
        show Ok (asg _ _ [some (.obj r), some t0, some (.obj b), some (.int (way : Nat)), some (.int (at_ : Nat)), some (.int (to_ : Nat)), some (.lv acc), some (.int (k : Nat))]) _ _
        refine longer_one lx3 hkN (by omega) rfl rfl ?_
        exact fin _ _ _ _ ((w.up (by decide)).set (x := (N[k].1, N[k].2 + 1)) ⟨wk.1, by show (N[k]).2 + 1 ≤ 102; omega⟩) (lstAt_set (lstAt_lt lx3)) (R3.ne hb hb0)
    · rw [if_neg (by simp; omega), if_neg (by simp), ok_nxt]
      exact fin N Hy _ _ (w.up (by decide)) lx2 Rx2
/-- the exchange and the first longer stretch -/
theorem shuf_ok {W : List Nat} (R : PK r h0 h) (G : Gd W) (q : ∀ t h1, (∀ c ∈ t, c < 128) → t.length ≤ 640 → PK r h0 h1 → Q (.str (Tx t)) h1) : Ok (K51.f__lwp_shuffled [.obj r, .str (Tx (textP W))]) h Q := by
  obtain ⟨L, ⟨h4, hn⟩, h00⟩ := G
  obtain ⟨qf, rl, tl, spl⟩ := text_facts L h4 (by omega) h00
  have ex : expand (runsF W) = W := expand_runs W
  have sn : sumN (runsF W) ≤ 100 := by rw [← exp_len, ex]; exact hn
  have four : 4 ≤ (runsF W).length := (line_runs L h4 h00).2.2
  have nl : (runsF W).length ≤ 100 := Nat.le_trans (len_sum fun q m => (qf q m).1) sn
  have w0 : Ws (runsF W).length 100 (runsF W) := ⟨rfl, fun q m => ⟨(qf q m).2.2, Nat.le_trans (sum_mem m) sn⟩⟩
  have ln : lnN (runsF W) ≤ 300 := by
    have := ln_le (L := runsF W) fun q m => ⟨(qf q m).1, by have := (qf q m).2.1; omega⟩
    omega
  rw [K51.f__lwp_shuffled, ok_fnM]
  simp only [K51.m__lwp_shuffled, List.map_cons, List.map_nil, List.length_cons, List.length_nil, List.replicate, List.cons_append, List.nil_append, lit_sp, lit_e, lit_n, lit_w, lit_s]
  rw [ok_seq, ok_asg, ok_tupE, ok_argC, ok_bm, ok_pick (i := 1) (d := .str (Tx (textP W))) rfl]
  refine ⟨rfl, ?_⟩
  rw [ok_argC, ok_con, ok_argN]
  have sp : mSplitO (.str (Tx (textP W))) [.str (Tx [32])] h = .ok (.obj h.length) (h ++ [.lst ((runsF W).map wD)]) := by
    have s2 : (textP W).length + 2 ≤ sizeLine := by rw [sizeLine_eq]; omega
    have e : ((runsF W).map fun q => Tx (wordR q)).map Dt.str = (runsF W).map wD := by rw [List.map_map]; rfl
    show (if ((Tx [32]).length == 0) = false ∧ (Tx (textP W)).length + 2 ≤ sizeLine then mkO (.lst ((Txt.split (Tx (textP W)) (Tx [32])).map .str)) h else .no) = _
    rw [tx_len, tx_len, if_pos ⟨rfl, s2⟩, spl, e]
    rfl
  refine ok_of sp ?_
  have la0 : lstAt (h ++ [.lst ((runsF W).map wD)]) h.length = some ((runsF W).map wD) := lstAt_new
  have R0 := R.app [.lst ((runsF W).map wD)]
  have hb : h.length ≠ r := by have := R.lt; omega
  have hb0 : h0.length ≤ h.length := R.kp.1
  clear spl sp ex sn
  generalize textP W = T at *
  generalize runsF W = N at *
  generalize h ++ [.lst (N.map wD)] = H at *
  generalize h.length = b at *
  rw [ok_argC, ok_callM, ok_argC, ok_pick (i := 0) (d := .obj r) rfl, ok_argC, ok_con, ok_argN]
  refine ⟨rfl, call_drawK R0 (by decide) (by decide) fun way o1 k1 R1 => ?_⟩
  have la1 := lstAt_ne' (i := r) (o := o1) hb.symm la0
  generalize H.set r o1 = H1 at *
  rw [ok_argN]
  refine ⟨szl (by simp), ok_gT.mpr ⟨rfl, ?_⟩⟩
  rw [ok_gsC, ok_gN, ok_gsC, ok_gN, ok_gsN]
  show Ok (seq _ _ [some (.obj r), some (.str (Tx T)), some (.obj b), some (.int (way : Nat)), none, none, none, none]) _ _
  rw [ok_seq, ok_asg, ok_tupE, ok_argC, ok_callM, ok_argC, ok_pick (i := 0) (d := .obj r) rfl, ok_argC, ok_bi, ok_argC, ok_pick (i := 2) (d := .obj b) rfl, ok_argN, ok_lenO la1, ok_argN]
  refine ⟨rfl, call_drawK R1 (by simp; omega) (by simp; omega) fun at_ o2 k2 R2 => ?_⟩
  have la2 := lstAt_ne' (i := r) (o := o2) hb.symm la1
  generalize H1.set r o2 = H2 at *
  rw [ok_argC, ok_callM, ok_argC, ok_pick (i := 0) (d := .obj r) rfl, ok_argC, ok_bi, ok_argC, ok_pick (i := 2) (d := .obj b) rfl, ok_argN, ok_lenO la2, ok_argN]
  refine ⟨rfl, call_drawK R2 (by simp; omega) (by simp; omega) fun to_ o3 k3 R3 => ?_⟩
  have la3 := lstAt_ne' (i := r) (o := o3) hb.symm la2
  generalize H2.set r o3 = H3 at *
  rw [List.length_map] at k2 k3
  have ha : at_ < N.length := by omega
  have ht : to_ < N.length := by omega
  rw [ok_argN]
  refine ⟨szl (by simp), ok_gT.mpr ⟨rfl, ?_⟩⟩
  rw [ok_gsC, ok_gN, ok_gsC, ok_gN, ok_gsN]
  show Ok (seq _ _ [some (.obj r), some (.str (Tx T)), some (.obj b), some (.int (way : Nat)), some (.int (at_ : Nat)), some (.int (to_ : Nat)), none, none]) _ _
  rw [ok_seq, ok_ifS, ok_tst, ok_op2, ok_pick (i := 3) (d := .int (way : Nat)) rfl, ok_con, ok_ltI, ok_isB]
  by_cases w2 : way < 2
  · rw [if_pos (by simp; omega), ok_ret, ok_bm, ok_con]
    refine ⟨rfl, ?_⟩
    rw [ok_argC, ok_op2, ok_op2, ok_slc, ok_pick (i := 2) (d := .obj b) rfl, ok_opN, ok_opS, ok_pick (i := 4) (d := .int (at_ : Nat)) rfl, ok_isI, ok_slO la3, ok_slc, ok_pick (i := 2) (d := .obj b) rfl, ok_opS, ok_op2, ok_pick (i := 4) (d := .int (at_ : Nat)) rfl, ok_pick (i := 3) (d := .int (way : Nat)) rfl, ok_addI, ok_isI, ok_opS, ok_pick (i := 5) (d := .int (to_ : Nat)) rfl, ok_isI, ok_slO la3]
    have cb : cutD (N.map wD) (some (((at_ : Nat) : Int) + ((way : Nat) : Int))) (some ((to_ : Nat) : Int)) = ((N.take to_).drop (at_ + way)).map wD := by
      rw [show ((at_ : Nat) : Int) + ((way : Nat) : Int) = ((at_ + way : Nat) : Int) by omega, List.map_drop, List.map_take]
      exact cut_both
    rw [cb, cutD_to, ← List.map_take, ok_addLv]
    refine ⟨szl (by simp; omega), ?_⟩
    rw [ok_slc, ok_pick (i := 2) (d := .obj b) rfl, ok_opS, ok_pick (i := 5) (d := .int (to_ : Nat)) rfl, ok_isI, ok_opN, ok_slO la3, cutD_from, ← List.map_drop, ok_addLv]
    refine ⟨szl (by simp; omega), ?_⟩
    rw [ok_argN, ← List.map_append, ← List.map_append]
    have l3 : lnN (N.take at_ ++ (N.take to_).drop (at_ + way) ++ N.drop to_) ≤ 600 := by
      have := ln_three N at_ way to_
      omega
    have mm : ∀ q ∈ N.take at_ ++ (N.take to_).drop (at_ + way) ++ N.drop to_, q ∈ N := fun q m => by
      rcases List.mem_append.mp m with m | m
      · rcases List.mem_append.mp m with m | m
        · exact List.mem_of_mem_take m
        · exact List.mem_of_mem_take (List.mem_of_mem_drop m)
      · exact List.mem_of_mem_drop m
    generalize N.take at_ ++ (N.take to_).drop (at_ + way) ++ N.drop to_ = M at *
    refine (ok_join wordR (l := M) ?_).mpr (q _ _ (btx_sm fun q m => (w0.ok q (mm q m)).1) ?_ R3)
    · have := ln_eq M
      simp only [List.length_cons, List.length_nil] at this ⊢
      omega
    · exact Nat.le_trans (btx_ln M) (by omega)
  rw [if_neg (by simp; omega), ok_nxt]
  dsimp only
  have tail : ∀ (M : List (Nat × Nat)) (h1 : Ah), lstAt h1 b = some (M.map wD) → Ws N.length 101 M → PK r h0 h1 → Ok (shT [some (.obj r), some (.str (Tx T)), some (.obj b), some (.int (way : Nat)), some (.int (at_ : Nat)), some (.int (to_ : Nat)), none, none]) h1 (fun f h' => match f with | .rt d => Q d h' | .nx _ => Q .non h' | _ => False) := fun M h1 lM wM RM => shT_ok lM wM (by omega) nl RM hb hb0 ha fun t h2 a b c => q t h2 a b c
  have mid : ∀ (M : List (Nat × Nat)) (h1 : Ah), lstAt h1 b = some (M.map wD) → Ws N.length 100 M → PK r h0 h1 → Ok (seq (ifS (tst (op2 opGt (var 3) (con (.int 2)))) (asg (op2 opAdd (op2 ixM (op2 ixM (var 2) (var 4)) (con (.int 0))) (bi bStr (argC (op2 opAdd (bi bInt (argC (slc slD (op2 ixM (var 2) (var 4)) (opS (con (.int 1))) opN) argN)) (con (.int 1))) argN))) (gS (var 2) (var 4) setL)) nxt) shT [some (.obj r), some (.str (Tx T)), some (.obj b), some (.int (way : Nat)), some (.int (at_ : Nat)), some (.int (to_ : Nat)), none, none]) h1 (fun f h' => match f with | .rt d => Q d h' | .nx _ => Q .non h' | _ => False) := fun M h1 lM wM RM => by
    rw [ok_seq, ok_ifS, ok_tst, ok_op2, ok_pick (i := 3) (d := .int (way : Nat)) rfl, ok_con, ok_gtI, ok_isB]
    by_cases w3 : 2 < way
    · have hk : at_ < M.length := by rw [wM.len]; exact ha
      have wk := wM.ok _ (List.getElem_mem hk)
      rw [if_pos (by simp; omega)]
      refine longer_one lM hk (by omega) rfl rfl ?_
      exact tail _ _ (lstAt_set (lstAt_lt lM)) ((wM.up (by decide)).set (x := (M[at_].1, M[at_].2 + 1)) ⟨wk.1, by show (M[at_]).2 + 1 ≤ 101; omega⟩) (RM.ne hb hb0)
    · rw [if_neg (by simp; omega), ok_nxt]
      exact tail _ _ lM (wM.up (by decide)) RM
  rw [ok_seq, ok_ifS, ok_tst, ok_op2, ok_pick (i := 3) (d := .int (way : Nat)) rfl, ok_con, ok_eqI, ok_isB]
  by_cases w3 : way = 2
  · rw [if_pos (by simp [w3]), ok_asg, ok_tupE, ok_argC]
    refine ix_wd la3 ht (var_ok rfl) (var_ok rfl) ?_
    rw [ok_argC]
    refine ix_wd la3 ha (var_ok rfl) (var_ok rfl) ?_
    rw [ok_argN]
    refine ⟨szl (by simp), ok_gT.mpr ⟨rfl, ?_⟩⟩
    rw [ok_gsC, ok_gS, ok_pick (i := 2) (d := .obj b) rfl, ok_pick (i := 4) (d := .int (at_ : Nat)) rfl, ok_setO]
    refine ⟨_, at_, la3, ixN_in ha, ?_⟩
    have lt3 := lstAt_lt la3
    rw [ok_gsC, ok_gS, ok_pick (i := 2) (d := .obj b) rfl, ok_pick (i := 5) (d := .int (to_ : Nat)) rfl, ok_setO, ← List.map_set]
    refine ⟨_, to_, lstAt_set lt3, ixN_in (by rw [List.length_set]; exact ht), ?_⟩
    rw [ok_gsN, List.set_set, ← List.map_set]
    exact mid _ _ (lstAt_set lt3) ((w0.set (w0.ok _ (List.getElem_mem ht))).set (w0.ok _ (List.getElem_mem ha))) (R3.ne hb hb0)
  · rw [if_neg (by simp; omega), ok_nxt]
    exact mid _ _ la3 w0 R3
end
end Mo
set_option Elab.async false
set_option linter.all false
set_option maxRecDepth 100000
set_option maxHeartbeats 4000000
namespace Mo
open PySem L2 TL
theorem joinL_mem {a : List Nat} {c : Nat} : ∀ {ls : List (List Nat)}, c ∈ joinL a ls → (∃ w ∈ ls, c ∈ w) ∨ c ∈ a
  | [], m => by simp [joinL] at m
  | [p], m => .inl ⟨p, by simp, by simpa [joinL] using m⟩
  | p :: q :: r, m => by
    have m : c ∈ p ++ (a ++ joinL a (q :: r)) := m
    rcases List.mem_append.mp m with m | m
    · exact .inl ⟨p, by simp, m⟩
    · rcases List.mem_append.mp m with m | m
      · exact .inr m
      · rcases joinL_mem m with ⟨w, mw, mc⟩ | m
        · exact .inl ⟨w, List.mem_cons_of_mem _ mw, mc⟩
        · exact .inr m
theorem joinL_len2 {c : Nat} {z : List Nat} (hz : z.length ≤ 2) : ∀ (ls : List (List Nat)), (joinL z ls).length ≤ 2 * (joinL [c] ls).length
  | [] => by simp [joinL]
  | [p] => by simp [joinL]; omega
  | p :: q :: r => by
    have ih := joinL_len2 (c := c) hz (q :: r)
    show (p ++ (z ++ joinL z (q :: r))).length ≤ 2 * (p ++ ([c] ++ joinL [c] (q :: r))).length
    simp only [List.length_append, List.length_cons, List.length_nil] at ih ⊢
    omega
theorem rpl_facts {t z : List Nat} (c : Nat) (sm : ∀ x ∈ t, x < 128) (sz : ∀ x ∈ z, x < 128) (hz : z.length ≤ 2) : ∃ u, Txt.replace (Tx t) (Tx [c]) (Tx z) = Tx u ∧ (∀ x ∈ u, x < 128) ∧ u.length ≤ 2 * t.length := by
  have e1 : Txt.replace (Tx t) (Tx [c]) (Tx z) = Str.join (Tx z) (Txt.split (Tx t) (Tx [c])) := StrLaws.replace_one (Tx t) (Tx z) c
  have sp : Txt.split (Tx t) (Tx [c]) = ((Txt.split (Tx t) (Tx [c])).map fun w => w.cps.toList).map Tx := by
    rw [List.map_map]
    conv => lhs; rw [← List.map_id (Txt.split (Tx t) (Tx [c]))]
    exact List.map_congr_left fun z _ => tx_of z
  generalize (Txt.split (Tx t) (Tx [c])).map (fun w => w.cps.toList) = ls at sp
  have back : joinL [c] ls = t := by
    have e := StrLaws.join_split (Tx t) (Tx [c])
    rw [sp] at e
    have e2 := join_tx [c] ls
    rw [join_eq, e] at e2
    exact (tx_inj.mp e2).symm
  refine ⟨joinL z ls, ?_, fun x m => ?_, ?_⟩
  · rw [e1, sp, ← join_eq, join_tx]
  · rcases joinL_mem m with ⟨w, mw, mx⟩ | m
    · exact sm x (by rw [← back]; exact mem_joinL mw mx)
    · exact sz x m
  · have := joinL_len2 (c := c) hz ls
    rw [back] at this
    exact this
theorem mapIdx_const {α β : Type} (g : α → β) (l : List α) : l.mapIdx (fun _ c => g c) = l.map g := List.ext_getElem (by simp) (by simp)
theorem up_one : ∀ c : Fin 128, (Unicode.upperOf c.1).length = 1 ∧ ((Unicode.upperOf c.1).all fun d => decide (d < 128)) = true := by decide +kernel
theorem up_facts {t : List Nat} (sm : ∀ x ∈ t, x < 128) : ∃ u, Txt.upper (Tx t) = Tx u ∧ (∀ x ∈ u, x < 128) ∧ u.length = t.length := by
  refine ⟨(t.map Unicode.upperOf).flatten, ?_, fun x m => ?_, ?_⟩
  · rw [tx_of (Txt.upper (Tx t))]
    refine congrArg Tx ?_
    show (((Tx t).cps.mapIdx fun i c => (Unicode.upperOf c).toArray).flatten).toList = _
    rw [Array.toList_flatten, Array.toList_mapIdx]
    have e : (Tx t).cps.toList = t := by simp [Tx]
    rw [e, mapIdx_const, List.map_map]
    rfl
  · obtain ⟨l, ml, mx⟩ := List.mem_flatten.mp m
    obtain ⟨c, mc, rfl⟩ := List.mem_map.mp ml
    have := List.all_eq_true.mp (up_one ⟨c, sm c mc⟩).2 x mx
    simpa using this
  · rw [List.length_flatten, List.map_map]
    have : t.map (List.length ∘ Unicode.upperOf) = t.map fun _ => 1 := List.map_congr_left fun c m => (up_one ⟨c, sm c m⟩).1
    rw [this]
    clear this sm
    induction t with
    | nil => rfl
    | cons c t ih => rw [List.map_cons, List.sum_cons, ih, List.length_cons]; omega
section
variable {h h0 : Ah} {r : Nat} {Q : Dt → Ah → Prop} {env : En} {F : Fl → Ah → Prop} {t z : List Nat} {d : Dt} {c : Nat} {xs : List Dt}
theorem rpl_ok {y w : Str} (hy : y = Tx [c]) (hw : w = Tx z) (sm : ∀ x ∈ t, x < 128) (sz : ∀ x ∈ z, x < 128) (hz : z.length ≤ 2) (hl : t.length ≤ 300) (e2 : env[2]? = some (some (.str (Tx t)))) (q : ∀ u, (∀ x ∈ u, x < 128) → u.length ≤ 600 → Q (.str (Tx u)) h) : Ok (rpl2 y w (var 2) env) h Q := by
  subst hy hw
  obtain ⟨u, e, su, lu⟩ := rpl_facts c sm sz hz
  have bd : t.length + (t.length + 1) * z.length ≤ 16777216 := by
    have : (t.length + 1) * z.length ≤ 301 * 2 := Nat.mul_le_mul (by omega) hz
    omega
  refine ok_of (a := .str (Tx u)) (h' := h) ?_ (q u su (by omega))
  unfold rpl2
  show (var 2 env >>= _) h = _
  have ve : var 2 env = Mm.pure (.str (Tx t)) := by unfold var; rw [e2]
  rw [ve]
  show (if (Tx t).length + ((Tx t).length + 1) * (Tx z).length ≤ 16777216 then Mm.pure (Dt.str (Txt.replace (Tx t) (Tx [c]) (Tx z))) else Mm.no) h = _
  rw [tx_len, tx_len, if_pos bd, e]
  rfl
theorem up_ok (sm : ∀ x ∈ t, x < 128) (hl : t.length ≤ 300) (e2 : env[2]? = some (some (.str (Tx t)))) (q : ∀ u, (∀ x ∈ u, x < 128) → u.length ≤ 600 → Q (.str (Tx u)) h) : Ok (bm0 isSt mUpper (var 2) env) h Q := by
  obtain ⟨u, e, su, lu⟩ := up_facts sm
  refine ok_of (a := .str (Tx u)) (h' := h) ?_ (q u su (by omega))
  have ve : var 2 env = Mm.pure (.str (Tx t)) := by unfold var; rw [e2]
  unfold bm0
  rw [ve]
  show mUpper (.str (Tx t)) [] h = _
  simp only [mUpper, tx_len]
  rw [if_pos (by omega), e]
theorem due_odd {T : String} {z : Str} (ht : ∀ h, tyD h d = some T) (hk : T ∈ kindsT) (ne : T ≠ "str") (R : RepS d z) (q : Q (.tup [.str (Str.ofString "InvalidText"), .str z]) h) : Ok (K51.f__lwp_due [d]) h Q := by
  rw [K51.f__lwp_due, ok_fnM]
  simp only [K51.m__lwp_due, List.map_cons, List.map_nil, List.length_cons, List.length_nil, List.replicate, List.cons_append, List.nil_append, lit_sp]
  rw [ok_seq, ok_sto, ok_ifE, ok_tst, ok_bi, ok_argC, ok_pick (i := 0) (d := d) rfl, ok_argC, ok_con, ok_argN]
  refine odd_ty (ht _) hk ne ?_
  rw [ok_isB, if_neg (by simp), ok_lstE, ok_argN]
  refine ⟨szl (by simp), ?_⟩
  show Ok (seq _ _ [some d, some (.lv []), none, none, none, none]) _ _
  rw [ok_seq, ok_ifS, ok_orT, ok_tst, ok_op2, ok_bi, ok_argC, ok_pick (i := 1) (d := .lv []) rfl, ok_argN, ok_lenLv, ok_con, ok_ltI, ok_isB, if_pos (by simp), if_pos rfl, ok_ret, ok_tupE, ok_argC, ok_con, ok_argC, ok_bi, ok_argC, ok_pick (i := 0) (d := d) rfl, ok_argN]
  refine ok_of (R.2 h) ?_
  rw [ok_argN]
  exact ⟨szl (by simp), q⟩
/-- a thing is given to Line and judged by the law -/
def itemM : En → Mm Fl := ifS (tst (op2 opNe (toldM K51.tf__lwp_told (fun d => K51.rt__lwp_told (slotE 4 1 d)) (bi (nx (strO (Str.ofString "Line") K51.f_Line___str__)) (argC (make (Str.ofString "Line") 2 K51.f_LineX___init__ (argC (noXE (var 5)) argN)) argN))) (callM 1 K51.f__lwp_due (argC (var 5) argN)))) (ret (con (.bl false))) nxt
theorem item_ok (I : Itm d) (e5 : env[5]? = some (some d)) (q : ∀ j, F (.nx env) (h ++ j)) : Ok (itemM env) h F := by
  unfold itemM
  rw [ok_ifS, ok_tst, ok_op2]
  have fin : ∀ j, F (.nx env) (h ++ j) := q
  rcases I with ⟨t, rfl, sm, hl⟩ | ⟨T, z, ht, hk, ne, R⟩
  · cases hb : wrB t with
    | true =>
      obtain ⟨G, eb, _⟩ := ok_gs hb
      refine told_good G (by rw [eb]; exact e5) fun j => ?_
      rw [ok_callM, ok_argC, ok_pick e5, ok_argN]
      refine ⟨rfl, due_text sm hl fun j' => ?_⟩
      unfold tvT
      rw [if_pos hb, tv_ne G, ok_isB, if_neg (by simp), ok_nxt, List.append_assoc]
      exact q _
    | false =>
      have R := reps_tx sm (show t.length ≤ 1000 by omega)
      refine told_bad (bad_text hb hl) R e5 fun j => ?_
      rw [ok_callM, ok_argC, ok_pick e5, ok_argN]
      refine ⟨rfl, due_text sm hl fun j' => ?_⟩
      unfold tvT
      rw [if_neg (by rw [hb]; simp)]
      refine pair_ne (strok_of _) R.1 |>.mpr ?_
      rw [ok_isB, if_neg (by simp), ok_nxt, List.append_assoc]
      exact q _
  · refine told_bad (bad_odd ht hk ne) R e5 fun j => ?_
    rw [ok_callM, ok_argC, ok_pick e5, ok_argN]
    refine ⟨rfl, due_odd ht hk ne R ?_⟩
    refine pair_ne (strok_of _) R.1 |>.mpr ?_
    rw [ok_isB, if_neg (by simp), ok_nxt]
    exact q _
theorem lc_draws {m : Int} {me : En → Mm Dt} (R : PK r h0 h) (m0 : 0 ≤ m) (m1 : m ≤ 20) (st : ∀ d H, Pur H r → Ok (me ((wipeE env [4]).set 4 (some d))) H fun v H2 => Itm v ∧ PK r H H2)
    (q : ∀ xs h1, xs.length ≤ 20 → (∀ d ∈ xs, Itm d) → PK r h0 h1 → Q (.lv xs) h1) : Ok (lcM (itR1 (argC (con (.int m)) argN)) (.nm 4) yes me [4] env) h Q := by
  refine ok_lcI ?_
  rw [ok_itR1, ok_argC, ok_con, ok_argN]
  refine ⟨_, rfl, ⟨by omega, by omega⟩, ?_⟩
  have lr := R.lt
  have k0 := R.kp.1
  refine ⟨szl (by simp [rng_eq]; omega), fun rest acc H => acc.length + rest.length = m.toNat ∧ (∀ d ∈ acc, Itm d) ∧ PK r h0 H, ⟨by simp [rng_eq], by simp, R.app _⟩, fun d rest acc H ⟨la, Ia, RH⟩ ea => ?_, fun acc H ⟨la, Ia, RH⟩ ea => ?_⟩
  · refine ⟨_, bd_nm, (st d H RH.pu).mono fun v H2 ⟨Iv, R2⟩ => ?_⟩
    refine ⟨lstAt_kp R2.kp (by omega) ea, by simp at la ⊢; omega, fun x mx => ?_, PK.ne ⟨R2.pu, RH.kp.trans R2.kp⟩ (by omega) (by omega)⟩
    rcases List.mem_append.mp mx with mx | mx
    · exact Ia x mx
    · rw [List.mem_singleton.mp mx]; exact Iv
  · exact q acc _ (by simp at la; omega) Ia (RH.ne (by omega) (by omega))
/-- things are added to the list -/
theorem add_ok {mr : En → Mm (List Dt)} (n : Nat) (hn : n ≤ 400) (lx : xs.length ≤ n) (Ix : ∀ d ∈ xs, Itm d) (e3 : env[3]? = some (some (.lv xs))) (hm : Ok (mr env) h fun ds h1 => ds.length ≤ 20 ∧ (∀ d ∈ ds, Itm d) ∧ h1 = h)
    (q : ∀ ys, ys.length ≤ n + 20 → (∀ d ∈ ys, Itm d) → F (.nx (env.set 3 (some (.lv ys)))) h) : Ok (sto 3 (op2 opAdd (var 3) (lstE mr)) env) h F := by
  rw [ok_sto, ok_op2, ok_pick e3, ok_lstE]
  refine hm.mono fun ds h1 ⟨ld, Id, e⟩ => ?_
  subst e
  refine ⟨szl (by omega), ?_⟩
  rw [ok_addLv]
  refine ⟨szl (by omega), q _ (by rw [List.length_append]; omega) fun d m => ?_⟩
  rcases List.mem_append.mp m with m | m
  · exact Ix d m
  · exact Id d m
theorem reps_l1 (sm : ∀ c ∈ t, c < 128) (hl : t.length ≤ 300) : ∃ z, RepS (.lv [.str (Tx t)]) z := by
  obtain ⟨p, e, R⟩ := repA (d := .lv [.str (Tx t)]) rfl (.inl ⟨_, rfl⟩) ((smd_lv (n := 59) (smds_cons (smd_str sm hl) (smds_nil (b := 0)))).mono (Nat.le_refl _) (by omega))
  refine ⟨_, ?_, R⟩
  have : p = .list [.str (Tx t)] := (Option.some.inj e).symm
  subst this
  have so := strok_repr (strok sm)
  show PyData.strOk (("[" : Str) ++ Str.join ", " [reprText (Tx t)] ++ ("]" : String)) = true
  exact strok_app (strok_app (strok_of _) so) (strok_of _)
theorem reps_t1 (sm : ∀ c ∈ t, c < 128) (hl : t.length ≤ 300) : ∃ z, RepS (.tup [.str (Tx t)]) z := by
  obtain ⟨p, e, R⟩ := repA (d := .tup [.str (Tx t)]) rfl (.inr ⟨_, rfl⟩) ((smd_tup (n := 59) (smds_cons (smd_str sm hl) (smds_nil (b := 0)))).mono (Nat.le_refl _) (by omega))
  refine ⟨_, ?_, R⟩
  have : p = .tuple [.str (Tx t)] := (Option.some.inj e).symm
  subst this
  have so := strok_repr (strok sm)
  show PyData.strOk (("(" : Str) ++ reprText (Tx t) ++ (",)" : String)) = true
  exact strok_app (strok_app (strok_of _) so) (strok_of _)
end
def bodyH : En → Mm Fl := (seq (sto 2 (callM 1 K51.f__lwp_text (argC (callM 2 K51.f__lwp_drawn (argC (var 0) (argC (con (.int 9)) argN))) argN)))
    (seq (sto 3 (op2 opAdd (lcM (itR1 (argC (con (.int 5)) argN)) (.nm 4) yes (callM 2 K51.f__lwp_bent (argC (var 0) (argC (var 2) argN))) [4]) (lstE (argC (var 2) (argC (op2 opAdd (var 2) (con (.str (Str.ofString " ")))) (argC (op2 opAdd (con (.str (Str.ofString " "))) (var 2)) (argC (rpl2 (Str.ofString " ") (Str.ofString "  ") (var 2)) argN)))))))
    (seq (sto 3 (op2 opAdd (var 3) (lcM (itR1 (argC (con (.int 8)) argN)) (.nm 4) yes (callM 2 K51.f__lwp_shuffled (argC (var 0) (argC (var 2) argN))) [4])))
    (seq (sto 3 (op2 opAdd (var 3) (lstE (argC (bm0 isSt mUpper (var 2)) (argC (rpl2 (Str.ofString " ") (Str.ofString ",") (var 2)) (argC (rpl2 (Str.ofString "1") (Str.ofString "01") (var 2)) argN))))))
    (seq (sto 3 (op2 opAdd (var 3) (lstE (argC (rpl2 (Str.ofString "1") (Str.ofString "0") (var 2)) (argC (op2 opAdd (op2 opAdd (var 2) (con (.str (Str.ofString " ")))) (var 2)) argN)))))
    (seq (sto 3 (op2 opAdd (var 3) (lstE (argC (con (.str (Str.ofString ""))) (argC (con (.str (Str.ofString " "))) (argC (con (.str (Str.ofString "e1"))) (argC (con (.str (Str.ofString "e1 n1 w1"))) (argC (con (.str (Str.ofString "e1 n1 w1 s1"))) (argC (con (.str (Str.ofString "e1 n1 e1 n1 w1 s1 w1 s1"))) argN)))))))))
    (seq (sto 3 (op2 opAdd (var 3) (lstE (argC (con (.str (Str.ofString "e1 w1 e1 w1"))) (argC (con (.str (Str.ofString "e1 n1 w1 s2"))) argN)))))
    (seq (sto 3 (op2 opAdd (var 3) (lstE (argC (con (.str (Str.ofString "e59 n1 w59 s1"))) (argC (con (.str (Str.ofString "e60 n1 w60 s1"))) (argC (con (.str (Str.ofString "e1 n59 w1 s59"))) (argC (con (.str (Str.ofString "e1 n60 w1 s60"))) argN)))))))
    (seq (sto 3 (op2 opAdd (var 3) (lstE (argC (op2 opAdd (con (.str (Str.ofString "e1 n1 w1 s"))) (op2 opMul (con (.str (Str.ofString "9"))) (con (.int 300)))) (argC (con (.str (Str.ofString "e n w s"))) argN)))))
    (seq (sto 3 (op2 opAdd (var 3) (lstE (argC (con (.str (Str.ofString "e1 n1 w1 s1\n"))) (argC (con (.str (Str.ofString "e+1 n1 w1 s1"))) (argC (con (.str (Str.ofString "e2 n2 w1 s2 w1 n1 w1 s1"))) argN))))))
    (seq (sto 3 (op2 opAdd (var 3) (lstE (argC (con (.str (Str.ofString "e3 n1 w1 s2 w1 n2 w1 s1"))) (argC (con (.str (Str.ofString "1e 1n 1w 1s"))) argN)))))
    (seq (forM (itL (op2 opAdd (var 3) (lstE (argC (callM 1 K51.f__lwp_odd (argC (var 0) argN)) (argC (lstE (argC (var 2) argN)) (argC (con (.int 0)) (argC (tupE (argC (var 2) argN)) argN))))))) (.nm 5) (ifS (tst (op2 opNe (toldM K51.tf__lwp_told (fun d => K51.rt__lwp_told (slotE 4 1 d)) (bi (nx (strO (Str.ofString "Line") K51.f_Line___str__)) (argC (make (Str.ofString "Line") 2 K51.f_LineX___init__ (argC (noXE (var 5)) argN)) argN))) (callM 1 K51.f__lwp_due (argC (var 5) argN)))) (ret (con (.bl false))) nxt))
    (ifS (tst (op2 opNe (toldM K51.tf__lwp_told (fun d => K51.rt__lwp_told (slotE 4 1 d)) (bi (nx (strO (Str.ofString "Line") K51.f_Line___str__)) (argC (makeK (Str.ofString "Line") 2 [0] K51.f_LineX___init__ (argC (noXE (var 2)) argN)) argN))) (tupE (argC (con (.str (Str.ofString "returned"))) (argC (var 2) argN))))) (ret (con (.bl false))) nxt)))))))))))))
section
variable {h h0 : Ah} {r : Nat}
theorem body_ok {y1 y2 y3 y4 y5 : Option Dt} (R : PK r h0 h) : Ok (bodyH [some (.obj r), y1, y2, y3, y4, y5]) h fun f h1 => ∃ y1 y2 y3 y4 y5, f = .nx [some (.obj r), y1, y2, y3, y4, y5] ∧ PK r h0 h1 := by
  unfold bodyH
  rw [ok_seq, ok_sto, ok_callM, ok_argC, ok_callM, ok_argC, ok_pick (i := 0) (d := .obj r) rfl, ok_argC, ok_con, ok_argN]
  refine ⟨rfl, (drawnT_ok (by decide) (by decide) R).mono fun d h1 ⟨W, e, G, R1⟩ => ?_⟩
  subst e
  rw [ok_argN]
  refine ⟨rfl, gv_fn (ltext_ok G.1.ltrs (by have := G.2.1.2; omega)) fun j => ?_⟩
  have R2 := R1.app j
  generalize h1 ++ j = h2 at *
  clear R1
  have Gq' : Gq W := ⟨G.1, ⟨G.2.1.1, by have := G.2.1.2; omega⟩, G.2.2⟩
  obtain ⟨gs, eb, eo, ex⟩ := own_text Gq'
  have sm : ∀ c ∈ textP W, c < 128 := by rw [← eb]; exact btx_sm gs.ltr
  have tl : (textP W).length ≤ 300 := by
    have s1 : sumN (runsF W) ≤ 100 := by rw [← exp_len, ex]; exact G.2.1.2
    have s2 := len_sum gs.one
    have s3 := btx_len (N := runsF W) fun q m => ⟨gs.one q m, by have := gs.le m; omega⟩
    rw [eb] at s3
    omega
  clear gs eb eo ex
  show Ok (seq _ _ [some (.obj r), y1, some (.str (Tx (textP W))), y3, y4, y5]) _ _
  -- the loop over the things and what stands behind it
  have own := fun {env : En} {h : Ah} {Q : Dt → Ah → Prop} => told_own (W := W) (env := env) (h := h) (Q := Q) Gq'
  have shuf := fun {H : Ah} {Q : Dt → Ah → Prop} (P : Pur H r) => shuf_ok (W := W) (Q := Q) (PK.start P) G
  clear G Gq'
  generalize textP W = T at *
  have good : Itm (.str (Tx T)) := itm_tx sm (by omega)
  -- bent
  rw [ok_seq, ok_sto, ok_op2]
  refine lc_draws R2 (by decide) (by decide) (fun d H P => ?_) fun xs h3 lx Ix R3 => ?_
  · rw [ok_callM, ok_argC, ok_pick (i := 0) (d := .obj r) rfl, ok_argC, ok_pick (i := 2) (d := .str (Tx T)) rfl, ok_argN]
    exact ⟨rfl, bentq_ok (PK.start P) sm tl fun d h1 a b _ => ⟨ist_tn a (by omega), b⟩⟩
  rw [ok_lstE, ok_argC, ok_pick (i := 2) (d := .str (Tx T)) rfl, ok_argC, ok_op2, ok_pick (i := 2) (d := .str (Tx T)) rfl, ok_con, lit_sp, ok_addS]
  refine ⟨szl (by simp; omega), ?_⟩
  rw [ok_argC, ok_op2, ok_con, ok_pick (i := 2) (d := .str (Tx T)) rfl, ok_addS]
  refine ⟨szl (by simp; omega), ?_⟩
  rw [ok_argC]
  refine rpl_ok (c := 32) (z := [32, 32]) rfl (by decide +kernel) sm (by decide) (by decide) tl rfl fun u1 su1 lu1 => ?_
  rw [ok_argN]
  refine ⟨szl (by simp), ?_⟩
  rw [ok_addLv]
  refine ⟨szl (by simp; omega), ?_⟩
  have sp1 : ∀ c ∈ [32], c < 128 := by decide
  have app : ∀ {a b : List Nat}, (∀ c ∈ a, c < 128) → (∀ c ∈ b, c < 128) → ∀ c ∈ a ++ b, c < 128 := fun ha hb c m => by
    rcases List.mem_append.mp m with m | m
    · exact ha c m
    · exact hb c m
  have I1 : ∀ d ∈ xs ++ [Dt.str (Tx T), Dt.str (Tx (T ++ [32])), Dt.str (Tx ([32] ++ T)), Dt.str (Tx u1)], Itm d := fun d m => by
    rcases List.mem_append.mp m with m | m
    · exact Ix d m
    · simp only [List.mem_cons, List.not_mem_nil, or_false] at m
      rcases m with rfl | rfl | rfl | rfl
      · exact good
      · exact itm_tx (app sm sp1) (by simp; omega)
      · exact itm_tx (app sp1 sm) (by simp; omega)
      · exact itm_tx su1 (by omega)
  have l1 : (xs ++ [Dt.str (Tx T), Dt.str (Tx (T ++ [32])), Dt.str (Tx ([32] ++ T)), Dt.str (Tx u1)]).length ≤ 24 := by simp; omega
  generalize xs ++ [Dt.str (Tx T), Dt.str (Tx (T ++ [32])), Dt.str (Tx ([32] ++ T)), Dt.str (Tx u1)] = ys at *
  clear Ix lx
  show Ok (seq _ _ [some (.obj r), y1, some (.str (Tx T)), some (.lv ys), y4, y5]) _ _
  -- shuffled
  rw [ok_seq, ok_sto, ok_op2, ok_pick (i := 3) (d := .lv ys) rfl]
  refine lc_draws R3 (by decide) (by decide) (fun d H P => ?_) fun xs h4 lx Ix R4 => ?_
  · rw [ok_callM, ok_argC, ok_pick (i := 0) (d := .obj r) rfl, ok_argC, ok_pick (i := 2) (d := .str (Tx T)) rfl, ok_argN]
    exact ⟨rfl, shuf P fun t h1 a b c => ⟨itm_tx a b, c⟩⟩
  rw [ok_addLv]
  refine ⟨szl (by omega), ?_⟩
  have I2 : ∀ d ∈ ys ++ xs, Itm d := fun d m => by
    rcases List.mem_append.mp m with m | m
    · exact I1 d m
    · exact Ix d m
  have l2 : (ys ++ xs).length ≤ 44 := by simp; omega
  generalize ys ++ xs = zs at *
  clear Ix lx I1 l1 R3
  show Ok (seq _ _ [some (.obj r), y1, some (.str (Tx T)), some (.lv zs), y4, y5]) _ _
  rw [ok_seq]
  refine add_ok 44 (by decide) l2 I2 rfl ?_ fun z1 lz1 Iz1 => ?_
  · rw [ok_argC]
    refine up_ok sm tl rfl fun u su lu => ?_
    rw [ok_argC]
    refine rpl_ok (c := 32) (z := [44]) (by decide +kernel) (by decide +kernel) sm (by decide) (by decide) tl rfl fun u2 su2 lu2 => ?_
    rw [ok_argC]
    refine rpl_ok (c := 49) (z := [48, 49]) (by decide +kernel) (by decide +kernel) sm (by decide) (by decide) tl rfl fun u3 su3 lu3 => ?_
    rw [ok_argN]
    refine ⟨by simp, fun d m => ?_, rfl⟩
    simp only [List.mem_cons, List.not_mem_nil, or_false] at m
    rcases m with rfl | rfl | rfl
    · exact itm_tx su (by omega)
    · exact itm_tx su2 (by omega)
    · exact itm_tx su3 (by omega)
  show Ok (seq _ _ [some (.obj r), y1, some (.str (Tx T)), some (.lv z1), y4, y5]) _ _
  rw [ok_seq]
  refine add_ok 64 (by decide) lz1 Iz1 rfl ?_ fun z2 lz2 Iz2 => ?_
  · rw [ok_argC]
    refine rpl_ok (c := 49) (z := [48]) (by decide +kernel) (by decide +kernel) sm (by decide) (by decide) tl rfl fun u su lu => ?_
    rw [ok_argC, ok_op2, ok_op2, ok_pick (i := 2) (d := .str (Tx T)) rfl, ok_con, ok_addS]
    refine ⟨szl (by simp; omega), ?_⟩
    rw [ok_pick (i := 2) (d := .str (Tx T)) rfl, ok_addS]
    refine ⟨szl (by simp; omega), ?_⟩
    rw [ok_argN]
    refine ⟨by simp, fun d m => ?_, rfl⟩
    simp only [List.mem_cons, List.not_mem_nil, or_false] at m
    rcases m with rfl | rfl
    · exact itm_tx su (by omega)
    · exact itm_tx (app (app sm sp1) sm) (by simp; omega)
  show Ok (seq _ _ [some (.obj r), y1, some (.str (Tx T)), some (.lv z2), y4, y5]) _ _
  rw [ok_seq]
  refine add_ok 84 (by decide) lz2 Iz2 rfl ?_ fun z3 lz3 Iz3 => ?_
  · simp only [ok_argC, ok_con, ok_argN]
    refine ⟨by simp, ?_, by first | rfl | trivial⟩
    simp only [List.mem_cons, List.not_mem_nil, or_false, forall_eq_or_imp, forall_eq]
    exact ⟨ist_lit (by decide +kernel), ist_lit (by decide +kernel), ist_lit (by decide +kernel), ist_lit (by decide +kernel), ist_lit (by decide +kernel), ist_lit (by decide +kernel)⟩
  show Ok (seq _ _ [some (.obj r), y1, some (.str (Tx T)), some (.lv z3), y4, y5]) _ _
  rw [ok_seq]
  refine add_ok 104 (by decide) lz3 Iz3 rfl ?_ fun z4 lz4 Iz4 => ?_
  · simp only [ok_argC, ok_con, ok_argN]
    refine ⟨by simp, ?_, by first | rfl | trivial⟩
    simp only [List.mem_cons, List.not_mem_nil, or_false, forall_eq_or_imp, forall_eq]
    exact ⟨ist_lit (by decide +kernel), ist_lit (by decide +kernel)⟩
  show Ok (seq _ _ [some (.obj r), y1, some (.str (Tx T)), some (.lv z4), y4, y5]) _ _
  rw [ok_seq]
  refine add_ok 124 (by decide) lz4 Iz4 rfl ?_ fun z5 lz5 Iz5 => ?_
  · simp only [ok_argC, ok_con, ok_argN]
    refine ⟨by simp, ?_, by first | rfl | trivial⟩
    simp only [List.mem_cons, List.not_mem_nil, or_false, forall_eq_or_imp, forall_eq]
    exact ⟨ist_lit (by decide +kernel), ist_lit (by decide +kernel), ist_lit (by decide +kernel), ist_lit (by decide +kernel)⟩
  show Ok (seq _ _ [some (.obj r), y1, some (.str (Tx T)), some (.lv z5), y4, y5]) _ _
  rw [ok_seq]
  refine add_ok 144 (by decide) lz5 Iz5 rfl ?_ fun z6 lz6 Iz6 => ?_
  · rw [show (Str.ofString "9") = Tx [57] by decide +kernel, show (Str.ofString "e1 n1 w1 s") = Tx [101, 49, 32, 110, 49, 32, 119, 49, 32, 115] by decide +kernel]
    rw [ok_argC, ok_op2, ok_con, ok_op2, ok_con, ok_con, show (300 : Int) = ((300 : Nat) : Int) from rfl, ok_repS (by decide), ok_addS]
    refine ⟨szl (by simp), ?_⟩
    rw [ok_argC, ok_con, ok_argN]
    refine ⟨by simp, ?_, by first | rfl | trivial⟩
    simp only [List.mem_cons, List.not_mem_nil, or_false, forall_eq_or_imp, forall_eq]
    exact ⟨itm_tx (app (by decide) fun c m => by rw [List.eq_of_mem_replicate m]; decide) (by simp), ist_lit (by decide +kernel)⟩
  show Ok (seq _ _ [some (.obj r), y1, some (.str (Tx T)), some (.lv z6), y4, y5]) _ _
  rw [ok_seq]
  refine add_ok 164 (by decide) lz6 Iz6 rfl ?_ fun z7 lz7 Iz7 => ?_
  · simp only [ok_argC, ok_con, ok_argN]
    refine ⟨by simp, ?_, by first | rfl | trivial⟩
    simp only [List.mem_cons, List.not_mem_nil, or_false, forall_eq_or_imp, forall_eq]
    exact ⟨ist_lit (by decide +kernel), ist_lit (by decide +kernel), ist_lit (by decide +kernel)⟩
  show Ok (seq _ _ [some (.obj r), y1, some (.str (Tx T)), some (.lv z7), y4, y5]) _ _
  rw [ok_seq]
  refine add_ok 184 (by decide) lz7 Iz7 rfl ?_ fun z8 lz8 Iz8 => ?_
  · simp only [ok_argC, ok_con, ok_argN]
    refine ⟨by simp, ?_, by first | rfl | trivial⟩
    simp only [List.mem_cons, List.not_mem_nil, or_false, forall_eq_or_imp, forall_eq]
    exact ⟨ist_lit (by decide +kernel), ist_lit (by decide +kernel)⟩
  show Ok (seq _ _ [some (.obj r), y1, some (.str (Tx T)), some (.lv z8), y4, y5]) _ _
  -- the loop
  rw [ok_seq, ok_forM, ok_itL, ok_op2, ok_pick (i := 3) (d := .lv z8) rfl, ok_lstE, ok_argC, ok_callM, ok_argC, ok_pick (i := 0) (d := .obj r) rfl, ok_argN]
  refine ⟨rfl, oddq_ok R4 fun d _ h5 Id R5 _ => ?_⟩
  rw [ok_argC, ok_lstE, ok_argC, ok_pick (i := 2) (d := .str (Tx T)) rfl, ok_argN]
  refine ⟨szl (by simp), ?_⟩
  rw [ok_argC, ok_con, ok_argC, ok_tupE, ok_argC, ok_pick (i := 2) (d := .str (Tx T)) rfl, ok_argN]
  refine ⟨szl (by simp), ?_⟩
  rw [ok_argN]
  refine ⟨szl (by simp), ?_⟩
  rw [ok_addLv]
  refine ⟨szl (by simp; omega), ?_⟩
  have Ia : ∀ x ∈ z8 ++ [d, .lv [.str (Tx T)], .int 0, .tup [.str (Tx T)]], Itm x := fun x m => by
    rcases List.mem_append.mp m with m | m
    · exact Iz8 x m
    · simp only [List.mem_cons, List.not_mem_nil, or_false] at m
      rcases m with rfl | rfl | rfl | rfl
      · exact Id
      · obtain ⟨z, Z⟩ := reps_l1 sm tl
        exact .inr ⟨"list", z, fun _ => rfl, by decide, by decide, Z⟩
      · exact ist_i0
      · obtain ⟨z, Z⟩ := reps_t1 sm tl
        exact .inr ⟨"tuple", z, fun _ => rfl, by decide, by decide, Z⟩
  generalize z8 ++ [d, .lv [.str (Tx T)], .int 0, .tup [.str (Tx T)]] = A at *
  rw [ok_itemsLv]
  refine forL_ind (fun ds env h' => (∀ x ∈ ds, Itm x) ∧ (∃ y5, env = [some (.obj r), y1, some (.str (Tx T)), some (.lv z8), y4, y5]) ∧ PK r h0 h') ?_ ?_ _ _ _ ⟨Ia, ⟨y5, rfl⟩, R5⟩
  · rintro x xs env h' ⟨Ix, ⟨y5, rfl⟩, R6⟩
    refine ⟨_, bd_nm, ?_⟩
    show Ok (itemM [some (.obj r), y1, some (.str (Tx T)), some (.lv z8), y4, some x]) _ _
    generalize hE : ([some (.obj r), y1, some (.str (Tx T)), some (.lv z8), y4, some x] : En) = E
    refine item_ok (Ix x (by simp)) (by rw [← hE]; rfl) fun j => ?_
    exact ⟨fun z m => Ix z (List.mem_cons_of_mem _ m), ⟨some x, hE.symm⟩, R6.app j⟩
  · rintro env h' ⟨_, ⟨y5, rfl⟩, R6⟩
    dsimp only
    generalize hE : ([some (.obj r), y1, some (.str (Tx T)), some (.lv z8), y4, y5] : En) = E
    rw [ok_ifS, ok_tst, ok_op2]
    refine own (by rw [← hE]; rfl) fun j => ?_
    rw [ok_tupE, ok_argC, ok_con, ok_argC, ok_pick (i := 2) (d := .str (Tx T)) (by rw [← hE]; rfl), ok_argN]
    refine ⟨szl (by simp), ?_⟩
    refine pair_ne (strok_of _) (strok sm) |>.mpr ?_
    rw [ok_isB, if_neg (by simp), ok_nxt]
    exact ⟨_, _, _, _, _, congrArg Fl.nx hE.symm, R6.app j⟩
theorem right_ok (Rp : Pur h r) : Ok (K51.f__lwp_right [.obj r]) h fun d h' => d = .bl true ∧ PK r h h' := by
  rw [K51.f__lwp_right, ok_fnM]
  simp only [K51.m__lwp_right, List.map_cons, List.map_nil, List.length_cons, List.length_nil, List.replicate, List.cons_append, List.nil_append]
  rw [ok_seq, ok_forM, ok_itR1, ok_argC, ok_con, ok_argN]
  refine ⟨_, rfl, ⟨by decide, by decide⟩, ?_⟩
  refine forL_ind (fun ds env h' => ∃ y1 y2 y3 y4 y5, env = [some (.obj r), y1, y2, y3, y4, y5] ∧ PK r h h') ?_ ?_ _ _ _ ⟨none, none, none, none, none, rfl, PK.start Rp⟩
  · rintro x xs env h' ⟨y1, y2, y3, y4, y5, rfl, R⟩
    refine ⟨_, bd_nm, ?_⟩
    show Ok (bodyH [some (.obj r), some x, y2, y3, y4, y5]) _ _
    refine (body_ok R).mono fun f h1 ⟨z1, z2, z3, z4, z5, e, R1⟩ => ?_
    subst e
    exact ⟨z1, z2, z3, z4, z5, rfl, R1⟩
  · rintro env h' ⟨y1, y2, y3, y4, y5, rfl, R⟩
    dsimp only
    rw [ok_ret, ok_con]
    exact ⟨rfl, R⟩
end
theorem law_ok (ns : List Int) (hn : ns.length ≤ 63) : ∃ h', K51.f_law [.wl (ns.map Mo.Dt.int)] [] = .ok (.bl true) h' := by
  have key : Ok (K51.f_law [.wl (ns.map Mo.Dt.int)]) [] fun d _ => d = .bl true := by
    rw [K51.f_law, ok_fnM]
    simp only [K51.m_law, List.map_cons, List.map_nil, List.length_cons, List.length_nil, List.replicate, List.cons_append, List.nil_append]
    rw [ok_ret, ok_bi, ok_argC]
    have pk : ∀ {t : Int} {h : Ah}, 0 ≤ t → t < 1000 → Ok (K51.f__lwp_purse [.wl (ns.map Dt.int), .int t]) h fun d h' => d = .obj h.length ∧ ∃ o, h' = h ++ [o] ∧ Pur h' h.length := fun a b => purse_ok hn a b
    have hl : (ns.map Dt.int).length = ns.length := by simp
    generalize ns.map Dt.int = W at *
    generalize hk : (if (if (6 : Int) < (ns.length : Nat) then (6 : Int) else (ns.length : Nat)) > 2 then (if (6 : Int) < (ns.length : Nat) then (6 : Int) else (ns.length : Nat)) else 2) = k
    have k0 : 0 ≤ k := by rw [← hk]; split <;> split <;> omega
    have k1 : k ≤ 6 := by rw [← hk]; split <;> split <;> omega
    generalize hE : ([some (.wl W), none] : En) = E
    refine ok_lcI ?_
    rw [ok_itR1, ok_argC, ok_bi, ok_argC, ok_con, ok_argC, ok_bi, ok_argC, ok_bi, ok_argC, ok_pick (i := 0) (d := .wl W) (by rw [← hE]; rfl), ok_argN, ok_lenWl, ok_argC, ok_con, ok_argN, ok_minI, ok_argN, ok_maxI, ok_argN, hl, hk]
    refine ⟨k, rfl, ⟨by omega, by omega⟩, ?_⟩
    rw [rng_eq]
    refine ⟨szl (by simp; omega), fun rest acc H => ∃ m : Nat, m ≤ k.toNat ∧ rest = ((List.range k.toNat).drop m).map (fun i => .int ((i : Nat) : Int)) ∧ acc = List.replicate m (.bl true) ∧ 0 < H.length, ⟨0, Nat.zero_le _, by simp, rfl, by simp⟩, fun d rest acc H j ea => ?_, fun acc H j ea => ?_⟩
    · obtain ⟨m, hm, er, eacc, hH⟩ := j
      have c : m < k.toNat := by
        rcases Nat.lt_or_ge m k.toNat with c | c
        · exact c
        · rw [List.drop_eq_nil_of_le (by simpa using c)] at er; simp at er
      rw [range_drop c, List.map_cons] at er
      obtain ⟨rfl, rfl⟩ := List.cons.inj er
      refine ⟨_, bd_nm, ?_⟩
      rw [ok_callM, ok_argC, ok_callM, ok_argC, ok_pick (i := 0) (d := .wl W) (by rw [← hE]; rfl), ok_argC, ok_pick (i := 1) (d := .int (m : Nat)) (by rw [← hE]; rfl), ok_argN]
      refine ⟨rfl, (pk (by omega) (by omega)).mono fun d h2 ⟨e, o, e2, Rp⟩ => ?_⟩
      subst e
      rw [ok_argN]
      refine ⟨rfl, (right_ok Rp).mono fun d h3 ⟨e3, R3⟩ => ?_⟩
      subst e3
      have e4 : lstAt h2 (List.length ([] : Ah)) = some acc := by rw [e2]; exact lstAt_app ea _
      refine ⟨lstAt_kp R3.kp (by simp; omega) e4, m + 1, c, rfl, ?_, ?_⟩
      · rw [eacc, ← List.replicate_succ']
      · rw [List.length_set]
        have := R3.kp.1
        rw [e2] at this
        simp at this
        omega
    · obtain ⟨m, hm, er, eacc, hH⟩ := j
      rw [eacc, ok_argN]
      have er : (List.replicate m (Dt.bl true)) = (List.range m).map fun i => .bl ((fun _ => true) i) := by
        apply List.ext_getElem
        · simp
        · intro i h1 h2
          simp
      rw [er, bAll_ok]
      simp
  obtain ⟨a, h', e, rfl⟩ := ok_iff.mp key
  exact ⟨h', e⟩
end Mo
set_option Elab.async false
set_option linter.all false
set_option maxRecDepth 100000
set_option maxHeartbeats 4000000
namespace K51
open PySem PySem.Spec PyProof.Rows L2 Mo
structure Fc (w : World) (K : PySem.W.Frag) (mg : Str → Option Value) : Prop where
  d_Line___str__ : ∃ fd, FnM K "Line" "__str__" "Line.__str__" ((clsBody (top 39)).getD 10 (.Pass ⟨0, 0, 0, 0⟩)) fd
  d__lwp_purse : ∃ fd, FnPa K "_law_purse" "_law_purse" (top 41) fd
  d__lwp_draw : ∃ fd, FnPa K "_law_draw" "_law_draw" (top 42) fd
  d__lwp_shift : ∃ fd, FnPa K "_law_shift" "_law_shift" (top 50) fd
  d__lwp_spots : ∃ fd, FnPa K "_law_spots" "_law_spots" (top 51) fd
  d__lwp_level : ∃ fd, FnPa K "_law_level" "_law_level" (top 52) fd
  d__lwp_touch : ∃ fd, FnPa K "_law_touch" "_law_touch" (top 53) fd
  d__lwp_begun : ∃ fd, FnPa K "_law_begun" "_law_begun" (top 55) fd
  d__lwp_cells : ∃ fd, FnPa K "_law_cells" "_law_cells" (top 57) fd
  d__lwp_mixed : ∃ fd, FnPa K "_law_mixed" "_law_mixed" (top 58) fd
  d__lwp_woven : ∃ fd, FnPa K "_law_woven" "_law_woven" (top 59) fd
  d__lwp_two : ∃ fd, FnPa K "_law_two" "_law_two" (top 60) fd
  d__lwp_round : ∃ fd, FnPa K "_law_round" "_law_round" (top 56) fd
  d__lwp_drawn : ∃ fd, FnPa K "_law_drawn" "_law_drawn" (top 61) fd
  d__lwp_text : ∃ fd, FnPa K "_law_text" "_law_text" (top 54) fd
  d__lwp_sign_of_text : ∃ fd, FnPa K "_law_sign_of_text" "_law_sign_of_text" (top 46) fd
  d__lwp_bent : ∃ fd, FnPa K "_law_bent" "_law_bent" (top 47) fd
  d__lwp_pick : ∃ fd, FnPa K "_law_pick" "_law_pick" (top 43) fd
  d__lwp_shuffled : ∃ fd, FnPa K "_law_shuffled" "_law_shuffled" (top 64) fd
  d__lwp_odd : ∃ fd, FnPa K "_law_odd" "_law_odd" (top 45) fd
  d_stretch_of : ∃ fd, FnPa K "stretch_of" "stretch_of" (top 29) fd
  d_stretches_of : ∃ fd, FnPa K "stretches_of" "stretches_of" (top 32) fd
  d_is_level : ∃ fd, FnPa K "is_level" "is_level" (top 30) fd
  d_steps_of : ∃ fd, FnPa K "steps_of" "steps_of" (top 33) fd
  d_InvalidText___init__ : ∃ fd, FnM K "InvalidText" "__init__" "InvalidText.__init__" ((clsBody (top 4)).getD 0 (.Pass ⟨0, 0, 0, 0⟩)) fd
  d_places_of_names : ∃ fd, FnPa K "places_of" "places_of" (top 34) fd
  d_NotClosed___init__ : ∃ fd, FnM K "NotClosed" "__init__" "NotClosed.__init__" ((clsBody (top 16)).getD 0 (.Pass ⟨0, 0, 0, 0⟩)) fd
  d_is_plain : ∃ fd, FnPa K "is_plain" "is_plain" (top 36) fd
  d_first_touch : ∃ fd, FnPa K "first_touch" "first_touch" (top 37) fd
  d_Touches___init__ : ∃ fd, FnM K "Touches" "__init__" "Touches.__init__" ((clsBody (top 17)).getD 0 (.Pass ⟨0, 0, 0, 0⟩)) fd
  d_turned_left : ∃ fd, FnPa K "turned_left" "turned_left" (top 31) fd
  d_quarters_of : ∃ fd, FnPa K "quarters_of" "quarters_of" (top 35) fd
  d_LineX___init__ : ∃ fd, FnM K "Line" "__init__" "Line.__init__" ((clsBody (top 39)).getD 0 (.Pass ⟨0, 0, 0, 0⟩)) fd
  d__lwp_is_word : ∃ fd, FnPa K "_law_is_word" "_law_is_word" (top 62) fd
  d__lwp_due : ∃ fd, FnPa K "_law_due" "_law_due" (top 63) fd
  d__lwp_sort : ∃ fd, FnPa K "_law_sort" "_law_sort" (top 48) fd
  d__lwp_attribute : ∃ fd, FnPa K "_law_attribute" "_law_attribute" (top 49) fd
  d__lwp_right : ∃ fd, FnPa K "_law_right" "_law_right" (top 65) fd
  d_law : ∃ fd, FnPa K "law" "law" (top 66) fd
  d__lwp_told : ∃ fd, FnPa K "_law_told" "_law_told" (top 44) fd
  g__lwp_purse : mg "_law_purse" = some (.ref (He.ga K "_law_purse"))
  g__lwp_draw : mg "_law_draw" = some (.ref (He.ga K "_law_draw"))
  g__lwp_shift : mg "_law_shift" = some (.ref (He.ga K "_law_shift"))
  g__lwp_spots : mg "_law_spots" = some (.ref (He.ga K "_law_spots"))
  g__lwp_level : mg "_law_level" = some (.ref (He.ga K "_law_level"))
  g__lwp_touch : mg "_law_touch" = some (.ref (He.ga K "_law_touch"))
  g__lwp_begun : mg "_law_begun" = some (.ref (He.ga K "_law_begun"))
  g__lwp_cells : mg "_law_cells" = some (.ref (He.ga K "_law_cells"))
  g__lwp_mixed : mg "_law_mixed" = some (.ref (He.ga K "_law_mixed"))
  g__lwp_woven : mg "_law_woven" = some (.ref (He.ga K "_law_woven"))
  g__lwp_two : mg "_law_two" = some (.ref (He.ga K "_law_two"))
  g__lwp_round : mg "_law_round" = some (.ref (He.ga K "_law_round"))
  g__lwp_drawn : mg "_law_drawn" = some (.ref (He.ga K "_law_drawn"))
  g__lwp_text : mg "_law_text" = some (.ref (He.ga K "_law_text"))
  g__lwp_sign_of_text : mg "_law_sign_of_text" = some (.ref (He.ga K "_law_sign_of_text"))
  g__lwp_bent : mg "_law_bent" = some (.ref (He.ga K "_law_bent"))
  g__lwp_pick : mg "_law_pick" = some (.ref (He.ga K "_law_pick"))
  g__lwp_shuffled : mg "_law_shuffled" = some (.ref (He.ga K "_law_shuffled"))
  g__lwp_odd : mg "_law_odd" = some (.ref (He.ga K "_law_odd"))
  g_stretch_of : mg "stretch_of" = some (.ref (He.ga K "stretch_of"))
  g_stretches_of : mg "stretches_of" = some (.ref (He.ga K "stretches_of"))
  g_is_level : mg "is_level" = some (.ref (He.ga K "is_level"))
  g_steps_of : mg "steps_of" = some (.ref (He.ga K "steps_of"))
  g_places_of_names : mg "places_of" = some (.ref (He.ga K "places_of"))
  g_is_plain : mg "is_plain" = some (.ref (He.ga K "is_plain"))
  g_first_touch : mg "first_touch" = some (.ref (He.ga K "first_touch"))
  g_turned_left : mg "turned_left" = some (.ref (He.ga K "turned_left"))
  g_quarters_of : mg "quarters_of" = some (.ref (He.ga K "quarters_of"))
  g__lwp_is_word : mg "_law_is_word" = some (.ref (He.ga K "_law_is_word"))
  g__lwp_due : mg "_law_due" = some (.ref (He.ga K "_law_due"))
  g__lwp_sort : mg "_law_sort" = some (.ref (He.ga K "_law_sort"))
  g__lwp_attribute : mg "_law_attribute" = some (.ref (He.ga K "_law_attribute"))
  g__lwp_right : mg "_law_right" = some (.ref (He.ga K "_law_right"))
  g_law : mg "law" = some (.ref (He.ga K "law"))
  g__lwp_told : mg "_law_told" = some (.ref (He.ga K "_law_told"))
  g_Line : mg "Line" = some (.ref (He.ga K "Line"))
  cls_Line : Cls K (He.ga K "Line")
  na_InvalidText_given : NoAttr K (He.ga K "InvalidText") "given"
  na_Line_rounds : NoAttr K (He.ga K "Line") "rounds"
  na_Line_spots : NoAttr K (He.ga K "Line") "spots"
  na_Line_ways : NoAttr K (He.ga K "Line") "ways"
  na_Line_written : NoAttr K (He.ga K "Line") "written"
  na_NotClosed_place : NoAttr K (He.ga K "NotClosed") "place"
  na_Touches_place : NoAttr K (He.ga K "Touches") "place"
  mk_Line : Mk K (He.ga K "Line") (He.ma K (He.ga K "Line") "__init__")
  sp_Line___str__ : PySem.W.findIn K (.ref (He.ga K "Line")) "__str__" = some (some (.ref (He.ma K (He.ga K "Line") "__str__"))) ∧ PySem.W.isFn K (.ref (He.ma K (He.ga K "Line") "__str__")) = true
  ra_InvalidText : PySem.W.subIn K (.ref (He.ga K "InvalidText")) (.type "BaseException") = some true ∧ PySem.W.typeIn K (.ref (He.ga K "InvalidText")) = some (.type "type")
  ra_NotClosed : PySem.W.subIn K (.ref (He.ga K "NotClosed")) (.type "BaseException") = some true ∧ PySem.W.typeIn K (.ref (He.ga K "NotClosed")) = some (.type "type")
  ra_Touches : PySem.W.subIn K (.ref (He.ga K "Touches")) (.type "BaseException") = some true ∧ PySem.W.typeIn K (.ref (He.ga K "Touches")) = some (.type "type")
  ex_InvalidText : PySem.W.exmAny K (.ref (He.ga K "InvalidText")) [.ref (He.ga K "WrongValue"), .ref (He.ga K "NoAnswer")] = some true
  ex_NotClosed : PySem.W.exmAny K (.ref (He.ga K "NotClosed")) [.ref (He.ga K "WrongValue"), .ref (He.ga K "NoAnswer")] = some true
  ex_Touches : PySem.W.exmAny K (.ref (He.ga K "Touches")) [.ref (He.ga K "WrongValue"), .ref (He.ga K "NoAnswer")] = some true
  g_Broken : mg "Broken" = some (.ref (He.ga K "Broken"))
  g_InUse : mg "InUse" = some (.ref (He.ga K "InUse"))
  g_InvalidBar : mg "InvalidBar" = some (.ref (He.ga K "InvalidBar"))
  g_InvalidBars : mg "InvalidBars" = some (.ref (He.ga K "InvalidBars"))
  g_InvalidCell : mg "InvalidCell" = some (.ref (He.ga K "InvalidCell"))
  g_InvalidCells : mg "InvalidCells" = some (.ref (He.ga K "InvalidCells"))
  g_InvalidClaim : mg "InvalidClaim" = some (.ref (He.ga K "InvalidClaim"))
  g_InvalidIndex : mg "InvalidIndex" = some (.ref (He.ga K "InvalidIndex"))
  g_InvalidName : mg "InvalidName" = some (.ref (He.ga K "InvalidName"))
  g_InvalidNumber : mg "InvalidNumber" = some (.ref (He.ga K "InvalidNumber"))
  g_InvalidText : mg "InvalidText" = some (.ref (He.ga K "InvalidText"))
  g_NoAnswer : mg "NoAnswer" = some (.ref (He.ga K "NoAnswer"))
  g_NotABoard : mg "NotABoard" = some (.ref (He.ga K "NotABoard"))
  g_NotALine : mg "NotALine" = some (.ref (He.ga K "NotALine"))
  g_NotClosed : mg "NotClosed" = some (.ref (He.ga K "NotClosed"))
  g_NotFacing : mg "NotFacing" = some (.ref (He.ga K "NotFacing"))
  g_NotOneRim : mg "NotOneRim" = some (.ref (He.ga K "NotOneRim"))
  g_NotTurned : mg "NotTurned" = some (.ref (He.ga K "NotTurned"))
  g_NothingToUndo : mg "NothingToUndo" = some (.ref (He.ga K "NothingToUndo"))
  g_TooMany : mg "TooMany" = some (.ref (He.ga K "TooMany"))
  g_Touches : mg "Touches" = some (.ref (He.ga K "Touches"))
  g_UnknownName : mg "UnknownName" = some (.ref (He.ga K "UnknownName"))
  g_WrongValue : mg "WrongValue" = some (.ref (He.ga K "WrongValue"))
  xc_InvalidText : XcC K (He.ga K "InvalidText") "ValueError.__new__" tlV
  xi_InvalidText : PySem.W.findIn K (.ref (He.ga K "InvalidText")) "__init__" = some (some (.ref (He.ma K (He.ga K "InvalidText") "__init__"))) ∧ PySem.W.typeIn K (.ref (He.ma K (He.ga K "InvalidText") "__init__")) = some (.type "function")
  xc_NotClosed : XcC K (He.ga K "NotClosed") "ArithmeticError.__new__" tlA
  xi_NotClosed : PySem.W.findIn K (.ref (He.ga K "NotClosed")) "__init__" = some (some (.ref (He.ma K (He.ga K "NotClosed") "__init__"))) ∧ PySem.W.typeIn K (.ref (He.ma K (He.ga K "NotClosed") "__init__")) = some (.type "function")
  xc_Touches : XcC K (He.ga K "Touches") "ArithmeticError.__new__" tlA
  xi_Touches : PySem.W.findIn K (.ref (He.ga K "Touches")) "__init__" = some (some (.ref (He.ma K (He.ga K "Touches") "__init__"))) ∧ PySem.W.typeIn K (.ref (He.ma K (He.ga K "Touches") "__init__")) = some (.type "function")
  xs : IsXs K xbs xtb
  xf_given : ∀ c ∈ cs_given, XfC K (He.ga K c) ∧ PySem.W.findIn K (.ref (He.ga K c)) "given" = some none
  xf_index : ∀ c ∈ cs_index, XfC K (He.ga K c) ∧ PySem.W.findIn K (.ref (He.ga K c)) "index" = some none
  xf_number : ∀ c ∈ cs_number, XfC K (He.ga K c) ∧ PySem.W.findIn K (.ref (He.ga K c)) "number" = some none
  xf_place : ∀ c ∈ cs_place, XfC K (He.ga K c) ∧ PySem.W.findIn K (.ref (He.ga K c)) "place" = some none
  xf_told : ∀ c ∈ cs_told, XfC K (He.ga K c) ∧ PySem.W.findIn K (.ref (He.ga K c)) "told" = some none
  sm : (K.lookup sysModules).isSome = true
  n_abs : mg "abs" = none
  n_all : mg "all" = none
  n_any : mg "any" = none
  n_divmod : mg "divmod" = none
  n_enumerate : mg "enumerate" = none
  n_int : mg "int" = none
  n_isinstance : mg "isinstance" = none
  n_len : mg "len" = none
  n_list : mg "list" = none
  n_max : mg "max" = none
  n_min : mg "min" = none
  n_range : mg "range" = none
  n_repr : mg "repr" = none
  n_str : mg "str" = none
  n_sum : mg "sum" = none
  c_MOST_STEPS : ∃ t, mg "MOST_STEPS" = some (.int 120 t)
  c_WAYS : ∃ t, mg "WAYS" = some (.str "enws" t)
  t_SHIFTS : KTab K w (He.ga K "SHIFTS") tb_SHIFTS
  g_SHIFTS : mg "SHIFTS" = some (.ref (He.ga K "SHIFTS"))
section
variable {P : Program} {w : World} {K : PySem.W.Frag} {mg : Str → Option Value} {base : Heap}
abbrev N__law_told : List Str := ["_law_job", "_law_gave", "_law_e", "_law_word_here"]
theorem sc__lwp_told : FnScope N__law_told ["_law_job"] (defScope st__lwp_told) := ⟨rfl, rfl, rfl, by decide +kernel, rfl, by decide +kernel, by decide +kernel⟩
abbrev N_InvalidText___init__ : List Str := ["self", "given"]
theorem sc_InvalidText___init__ : FnScope N_InvalidText___init__ ["self", "given"] (defScope st_InvalidText___init__) := ⟨rfl, rfl, rfl, by decide +kernel, rfl, by decide +kernel, by decide +kernel⟩
theorem ok_InvalidText___init__ (C : Fc w K mg) (B : Lams base K mg) : XcI P w K mg base "InvalidText" ["given"] ["given"] [0] := by
  obtain ⟨fd, F⟩ := C.d_InvalidText___init__
  exact ⟨⟨_, _, _, _, xbV, C.xc_InvalidText⟩, C.g_InvalidText, C.xi_InvalidText.1, C.xi_InvalidText.2, fd, initA xbV C.xc_InvalidText C.na_InvalidText_given F sc_InvalidText___init__ rfl (by first | exact Or.inl rfl | exact Or.inr (Or.inl rfl) | exact Or.inr (Or.inr rfl)) (by first | exact Or.inl rfl | exact Or.inr (Or.inl rfl) | exact Or.inr (Or.inr rfl)) (by decide) (by decide) (fun _ => rfl), F.bindsN (fun _ _ _ _ _ _ us hl => match us, hl with | [_, _], _ => rfl), kwBinds1 F (fun _ _ _ _ _ _ self us hl => match us, hl with | [_], _ => rfl)⟩
abbrev N_NotClosed___init__ : List Str := ["self", "place"]
theorem sc_NotClosed___init__ : FnScope N_NotClosed___init__ ["self", "place"] (defScope st_NotClosed___init__) := ⟨rfl, rfl, rfl, by decide +kernel, rfl, by decide +kernel, by decide +kernel⟩
theorem ok_NotClosed___init__ (C : Fc w K mg) (B : Lams base K mg) : XcI P w K mg base "NotClosed" ["place"] ["place"] [0] := by
  obtain ⟨fd, F⟩ := C.d_NotClosed___init__
  exact ⟨⟨_, _, _, _, xbA, C.xc_NotClosed⟩, C.g_NotClosed, C.xi_NotClosed.1, C.xi_NotClosed.2, fd, initA xbA C.xc_NotClosed C.na_NotClosed_place F sc_NotClosed___init__ rfl (by first | exact Or.inl rfl | exact Or.inr (Or.inl rfl) | exact Or.inr (Or.inr rfl)) (by first | exact Or.inl rfl | exact Or.inr (Or.inl rfl) | exact Or.inr (Or.inr rfl)) (by decide) (by decide) (fun _ => rfl), F.bindsN (fun _ _ _ _ _ _ us hl => match us, hl with | [_, _], _ => rfl), kwBinds1 F (fun _ _ _ _ _ _ self us hl => match us, hl with | [_], _ => rfl)⟩
abbrev N_Touches___init__ : List Str := ["self", "place"]
theorem sc_Touches___init__ : FnScope N_Touches___init__ ["self", "place"] (defScope st_Touches___init__) := ⟨rfl, rfl, rfl, by decide +kernel, rfl, by decide +kernel, by decide +kernel⟩
theorem ok_Touches___init__ (C : Fc w K mg) (B : Lams base K mg) : XcI P w K mg base "Touches" ["place"] ["place"] [0] := by
  obtain ⟨fd, F⟩ := C.d_Touches___init__
  exact ⟨⟨_, _, _, _, xbA, C.xc_Touches⟩, C.g_Touches, C.xi_Touches.1, C.xi_Touches.2, fd, initA xbA C.xc_Touches C.na_Touches_place F sc_Touches___init__ rfl (by first | exact Or.inl rfl | exact Or.inr (Or.inl rfl) | exact Or.inr (Or.inr rfl)) (by first | exact Or.inl rfl | exact Or.inr (Or.inl rfl) | exact Or.inr (Or.inr rfl)) (by decide) (by decide) (fun _ => rfl), F.bindsN (fun _ _ _ _ _ _ us hl => match us, hl with | [_, _], _ => rfl), kwBinds1 F (fun _ _ _ _ _ _ self us hl => match us, hl with | [_], _ => rfl)⟩
abbrev N_Line___str__ : List Str := ["self"]
theorem sc_Line___str__ : FnScope N_Line___str__ ["self"] (defScope st_Line___str__) := ⟨rfl, rfl, rfl, by decide +kernel, rfl, by decide +kernel, by decide +kernel⟩
theorem go_Line___str__ (C : Fc w K mg) (B : Lams base K mg) {fd : FuncData} (F : FnM K "Line" "__str__" "Line.__str__" st_Line___str__ fd) : FnG P w K mg base 1 (He.ma K (He.ga K "Line") "__str__") fd ["self"] f_Line___str__ := by
  refine fnG F sc_Line___str__ (fun cdv A outer s H E hgd hr => ?_)
  exact (mss_one (ms_ret (me_Ty b_strS rfl C.n_str boot_str (ma_cons (me_fld C.cls_Line C.na_Line_written (me_var 0)) ma_nil))))
theorem ok_Line___str__ (C : Fc w K mg) (B : Lams base K mg) : SpH P w K mg base 1 "Line" "__str__" ["self"] f_Line___str__ := by
  obtain ⟨fd, F⟩ := C.d_Line___str__
  exact ⟨⟨fd, go_Line___str__ C B F, F.bindsN fun _ _ _ _ _ _ us hl => match us, hl with | [_], _ => rfl⟩, C.sp_Line___str__.1, C.sp_Line___str__.2⟩
abbrev N__law_purse : List Str := ["_law_script", "_law_spot", "_law_cell", "_law_seed", "_law_one"]
theorem sc__lwp_purse : FnScope N__law_purse ["_law_script", "_law_spot"] (defScope st__lwp_purse) := ⟨rfl, rfl, rfl, by decide +kernel, rfl, by decide +kernel, by decide +kernel⟩
theorem go__lwp_purse (C : Fc w K mg) (B : Lams base K mg) {fd : FuncData} (F : FnPa K "_law_purse" "_law_purse" st__lwp_purse fd) : FnG P w K mg base 1 (He.ga K "_law_purse") fd ["_law_script", "_law_spot"] f__lwp_purse := by
  refine fnG F sc__lwp_purse (fun cdv A outer s H E hgd hr => ?_)
  exact (mss_cons (ms_set (i := 2) sc__lwp_purse.nd rfl (Or.inl rfl) (me_if (mt_cmp o_lt (me_var 1) (me_B b_len rfl C.n_len boot_len (ma_cons (me_var 0) ma_nil)) (nomark _)) (me_ix i_seq (me_var 0) (me_var 1) (fun _ _ => rfl)) (me_op o_mul me_int (me_op o_add (me_var 1) me_int))))
    (mss_cons (ms_set (i := 3) sc__lwp_purse.nd rfl (Or.inl rfl) (me_op o_add me_int (me_var 1)))
    (mss_cons (ms_for (p := (.nm 4)) PassesOwn.never rfl (mi_list (me_op o_add (me_slice s_all (me_var 0) mo_none (mo_some me_int)) (me_lst (ma_cons (me_var 2) ma_nil)))) (pg_name (i := 4) sc__lwp_purse.nd rfl (Or.inl rfl)) (mss_one (ms_set (i := 3) sc__lwp_purse.nd rfl (Or.inl rfl) (me_op o_mod (me_Ty b_int rfl C.n_int boot_int (ma_cons (me_op o_add (me_op o_add (me_op o_mul (me_var 3) me_int) (me_op o_mod (me_Ty b_int rfl C.n_int boot_int (ma_cons (me_var 4) ma_nil)) me_int)) me_int) ma_nil)) me_int))))
    (mss_one (ms_ret (me_lstO (ma_cons (me_if (mt_cmp o_ge (me_B b_abs rfl C.n_abs boot_abs (ma_cons (me_var 2) ma_nil)) (me_op o_pow me_int me_int) (nomark _)) (me_B b_abs rfl C.n_abs boot_abs (ma_cons (me_var 2) ma_nil)) me_int) (ma_cons (me_var 3) ma_nil))))))))
theorem ok__lwp_purse (C : Fc w K mg) (B : Lams base K mg) : FnH P w K mg base 1 "_law_purse" ["_law_script", "_law_spot"] f__lwp_purse := by
  obtain ⟨fd, F⟩ := C.d__lwp_purse
  exact ⟨⟨fd, go__lwp_purse C B F, F.bindsN fun _ _ _ _ _ _ us hl => match us, hl with | [_, _], _ => rfl⟩, F.kp, C.g__lwp_purse⟩
abbrev N__law_draw : List Str := ["_law_purse_here", "_law_many", "_law_digit"]
theorem sc__lwp_draw : FnScope N__law_draw ["_law_purse_here", "_law_many"] (defScope st__lwp_draw) := ⟨rfl, rfl, rfl, by decide +kernel, rfl, by decide +kernel, by decide +kernel⟩
theorem go__lwp_draw (C : Fc w K mg) (B : Lams base K mg) {fd : FuncData} (F : FnPa K "_law_draw" "_law_draw" st__lwp_draw fd) : FnG P w K mg base 1 (He.ga K "_law_draw") fd ["_law_purse_here", "_law_many"] f__lwp_draw := by
  refine fnG F sc__lwp_draw (fun cdv A outer s H E hgd hr => ?_)
  exact (mss_cons (ms_if (mt_cmp o_gt (me_ix i_seq (me_var 0) me_int (fun _ _ => rfl)) me_int (nomark _)) (mss_cons (ms_asg (me_B b_divmod rfl C.n_divmod boot_divmod (ma_cons (me_ix i_seq (me_var 0) me_int (fun _ _ => rfl)) (ma_cons (me_var 1) ma_nil))) (mg_tup rfl (mgs_cons (mg_sub (me_var 0) me_int st_list) (mgs_cons (mg_name (i := 2) sc__lwp_draw.nd rfl (Or.inl rfl)) mgs_nil))))
    (mss_one (ms_ret (me_var 2)))) mss_nil)
    (mss_cons (ms_asg (me_op o_mod (me_Ty b_int rfl C.n_int boot_int (ma_cons (me_op o_add (me_op o_mul (me_ix i_seq (me_var 0) me_int (fun _ _ => rfl)) me_int) me_int) ma_nil)) me_int) (mg_sub (me_var 0) me_int st_list))
    (mss_one (ms_ret (me_op o_mod (me_Ty b_int rfl C.n_int boot_int (ma_cons (me_op o_fdiv (me_ix i_seq (me_var 0) me_int (fun _ _ => rfl)) me_int) ma_nil)) (me_var 1))))))
theorem ok__lwp_draw (C : Fc w K mg) (B : Lams base K mg) : FnH P w K mg base 1 "_law_draw" ["_law_purse_here", "_law_many"] f__lwp_draw := by
  obtain ⟨fd, F⟩ := C.d__lwp_draw
  exact ⟨⟨fd, go__lwp_draw C B F, F.bindsN fun _ _ _ _ _ _ us hl => match us, hl with | [_, _], _ => rfl⟩, F.kp, C.g__lwp_draw⟩
abbrev N__law_shift : List Str := ["_law_spot", "_law_letter"]
theorem sc__lwp_shift : FnScope N__law_shift ["_law_spot", "_law_letter"] (defScope st__lwp_shift) := ⟨rfl, rfl, rfl, by decide +kernel, rfl, by decide +kernel, by decide +kernel⟩
theorem go__lwp_shift (C : Fc w K mg) (B : Lams base K mg) {fd : FuncData} (F : FnPa K "_law_shift" "_law_shift" st__lwp_shift fd) : FnG P w K mg base 1 (He.ga K "_law_shift") fd ["_law_spot", "_law_letter"] f__lwp_shift := by
  refine fnG F sc__lwp_shift (fun cdv A outer s H E hgd hr => ?_)
  exact (mss_one (ms_ret (me_dix (un1 hr) (me_disp (l := [((con (.str "e")), (tupE (argC (op2 opAdd (op2 ixM (var 0) (con (.int 0))) (con (.int 1))) (argC (op2 ixM (var 0) (con (.int 1))) argN)))), ((con (.str "n")), (tupE (argC (op2 ixM (var 0) (con (.int 0))) (argC (op2 opAdd (op2 ixM (var 0) (con (.int 1))) (con (.int 1))) argN)))), ((con (.str "w")), (tupE (argC (op2 opSub (op2 ixM (var 0) (con (.int 0))) (con (.int 1))) (argC (op2 ixM (var 0) (con (.int 1))) argN)))), ((con (.str "s")), (tupE (argC (op2 ixM (var 0) (con (.int 0))) (argC (op2 opSub (op2 ixM (var 0) (con (.int 1))) (con (.int 1))) argN))))]) (mps_cons me_str (me_tup (ma_cons (me_op o_add (me_ix i_seq (me_var 0) me_int (fun _ _ => rfl)) me_int) (ma_cons (me_ix i_seq (me_var 0) me_int (fun _ _ => rfl)) ma_nil))) (mps_cons me_str (me_tup (ma_cons (me_ix i_seq (me_var 0) me_int (fun _ _ => rfl)) (ma_cons (me_op o_add (me_ix i_seq (me_var 0) me_int (fun _ _ => rfl)) me_int) ma_nil))) (mps_cons me_str (me_tup (ma_cons (me_op o_sub (me_ix i_seq (me_var 0) me_int (fun _ _ => rfl)) me_int) (ma_cons (me_ix i_seq (me_var 0) me_int (fun _ _ => rfl)) ma_nil))) (mps_cons me_str (me_tup (ma_cons (me_ix i_seq (me_var 0) me_int (fun _ _ => rfl)) (ma_cons (me_op o_sub (me_ix i_seq (me_var 0) me_int (fun _ _ => rfl)) me_int) ma_nil))) mps_nil)))) rfl rfl (by simp) (by decide)) (me_var 1) (fun _ _ => rfl))))
theorem ok__lwp_shift (C : Fc w K mg) (B : Lams base K mg) : FnH P w K mg base 1 "_law_shift" ["_law_spot", "_law_letter"] f__lwp_shift := by
  obtain ⟨fd, F⟩ := C.d__lwp_shift
  exact ⟨⟨fd, go__lwp_shift C B F, F.bindsN fun _ _ _ _ _ _ us hl => match us, hl with | [_, _], _ => rfl⟩, F.kp, C.g__lwp_shift⟩
abbrev N__law_spots : List Str := ["_law_steps", "_law_found", "_law_letter"]
theorem sc__lwp_spots : FnScope N__law_spots ["_law_steps"] (defScope st__lwp_spots) := ⟨rfl, rfl, rfl, by decide +kernel, rfl, by decide +kernel, by decide +kernel⟩
theorem go__lwp_spots (C : Fc w K mg) (B : Lams base K mg) {fd : FuncData} (F : FnPa K "_law_spots" "_law_spots" st__lwp_spots fd) : FnG P w K mg base 2 (He.ga K "_law_spots") fd ["_law_steps"] f__lwp_spots := by
  have h__lwp_shift := ok__lwp_shift (P := P) (base := base) C B
  refine fnG F sc__lwp_spots (fun cdv A outer s H E hgd hr => ?_)
  exact (mss_cons (ms_set (i := 1) sc__lwp_spots.nd rfl (Or.inl rfl) (me_lstO (ma_cons (me_tup (ma_cons me_int (ma_cons me_int ma_nil))) ma_nil)))
    (mss_cons (ms_for (p := (.nm 2)) PassesOwn.never rfl (mi_list (me_var 0)) (pg_name (i := 2) sc__lwp_spots.nd rfl (Or.inl rfl)) (mss_one (ms_expr (me_bm (fun _ _ _ r v h => isL_ok r v h) PySem.F.plainAttrs_list PySem.F.slot_list_append PySem.F.type_list_append m_app (me_var 1) (ma_cons (me_callH h__lwp_shift hgd hr (ma_cons (me_ix i_seq (me_var 1) (me_un u_neg me_int) (fun _ _ => rfl)) (ma_cons (me_var 2) ma_nil))) ma_nil)))))
    (mss_one (ms_ret (me_var 1)))))
theorem ok__lwp_spots (C : Fc w K mg) (B : Lams base K mg) : FnH P w K mg base 2 "_law_spots" ["_law_steps"] f__lwp_spots := by
  obtain ⟨fd, F⟩ := C.d__lwp_spots
  exact ⟨⟨fd, go__lwp_spots C B F, F.bindsN fun _ _ _ _ _ _ us hl => match us, hl with | [_], _ => rfl⟩, F.kp, C.g__lwp_spots⟩
abbrev N__law_level : List Str := ["_law_letter"]
theorem sc__lwp_level : FnScope N__law_level ["_law_letter"] (defScope st__lwp_level) := ⟨rfl, rfl, rfl, by decide +kernel, rfl, by decide +kernel, by decide +kernel⟩
theorem go__lwp_level (C : Fc w K mg) (B : Lams base K mg) {fd : FuncData} (F : FnPa K "_law_level" "_law_level" st__lwp_level fd) : FnG P w K mg base 1 (He.ga K "_law_level") fd ["_law_letter"] f__lwp_level := by
  refine fnG F sc__lwp_level (fun cdv A outer s H E hgd hr => ?_)
  exact (mss_one (ms_ret (me_cmp (o_in (un65 hr)) (me_var 0) (me_lst (ma_cons me_str (ma_cons me_str ma_nil))) (by with_unfolding_all rfl))))
theorem ok__lwp_level (C : Fc w K mg) (B : Lams base K mg) : FnH P w K mg base 1 "_law_level" ["_law_letter"] f__lwp_level := by
  obtain ⟨fd, F⟩ := C.d__lwp_level
  exact ⟨⟨fd, go__lwp_level C B F, F.bindsN fun _ _ _ _ _ _ us hl => match us, hl with | [_], _ => rfl⟩, F.kp, C.g__lwp_level⟩
abbrev N__law_touch : List Str := ["_law_steps", "_law_spots_here", "_law_k", "_law_spot", "_law_before", "_law_j", "_law_pair"]
theorem sc__lwp_touch : FnScope N__law_touch ["_law_steps"] (defScope st__lwp_touch) := ⟨rfl, rfl, rfl, by decide +kernel, rfl, by decide +kernel, by decide +kernel⟩
theorem go__lwp_touch (C : Fc w K mg) (B : Lams base K mg) {fd : FuncData} (F : FnPa K "_law_touch" "_law_touch" st__lwp_touch fd) : FnG P w K mg base 3 (He.ga K "_law_touch") fd ["_law_steps"] f__lwp_touch := by
  have h__lwp_spots := ok__lwp_spots (P := P) (base := base) C B
  have h__lwp_level := ok__lwp_level (P := P) (base := base) C B
  refine fnG F sc__lwp_touch (fun cdv A outer s H E hgd hr => ?_)
  exact (mss_cons (ms_set (i := 1) sc__lwp_touch.nd rfl (Or.inr rfl) (me_slice s_all (me_callH h__lwp_spots hgd hr (ma_cons (me_var 0) ma_nil)) mo_none (mo_some (me_un u_neg me_int))))
    (mss_cons (ms_for (p := (.tp [(.nm 2), (.nm 3)])) PassesOwn.never rfl (mi_enum rfl C.n_enumerate (ma_cons (me_var 1) ma_nil)) (pg_tup rfl (pgs_cons (pg_name (i := 2) sc__lwp_touch.nd rfl (Or.inl rfl)) (pgs_cons (pg_name (i := 3) sc__lwp_touch.nd rfl (Or.inr rfl)) pgs_nil))) (mss_cons (ms_setLc (i := 4) (p := (.nm 5)) (own := [("_law_j", 5)]) rfl sc__lwp_touch.nd (by decide) rfl rfl (sw_true rfl rfl rfl (by decide +kernel)) (mi_range1 rfl C.n_range (ma_cons (me_var 2) ma_nil)) (blkOk_by (N := N__law_touch) (sc := defScope st__lwp_touch) (own := [("_law_j", 5)]) (by decide +kernel)) (fun _ _ _ _ _ => (pg_name (i := 5) sc__lwp_touch.nd rfl (Or.inl rfl))) (fun _ _ _ _ _ => (mts_one (mt_cmp (o_eq (un64 hr)) (me_ix i_seq (me_var 1) (me_var 5) (fun _ _ => rfl)) (me_var 3) (nomark _)))) (fun _ _ _ _ _ => (me_var 5)))
    (mss_cons (ms_if (mt_cmp o_gt (me_B b_len rfl C.n_len boot_len (ma_cons (me_var 4) ma_nil)) me_int (nomark _)) (mss_one (ms_ret (me_var 3))) mss_nil)
    (mss_one (ms_if (mt_cmp (o_eq (un64 hr)) (me_B b_len rfl C.n_len boot_len (ma_cons (me_var 4) ma_nil)) me_int (nomark _)) (mss_cons (ms_set (i := 6) sc__lwp_touch.nd rfl (Or.inl rfl) (me_lst (ma_cons (me_op o_add (me_ix i_seq (me_var 0) (me_op o_sub (me_var 2) me_int) (fun _ _ => rfl)) (me_ix i_seq (me_var 0) (me_var 2) (fun _ _ => rfl))) (ma_cons (me_op o_add (me_ix i_seq (me_var 0) (me_op o_sub (me_ix i_seq (me_var 4) me_int (fun _ _ => rfl)) me_int) (fun _ _ => rfl)) (me_ix i_seq (me_var 0) (me_ix i_seq (me_var 4) me_int (fun _ _ => rfl)) (fun _ _ => rfl))) ma_nil))))
    (mss_cons (ms_if (PW.pt (mw_or (mt_cmp (o_notin (un65 hr)) (me_ix i_seq (me_var 6) me_int (fun _ _ => rfl)) (me_lst (ma_cons me_str (ma_cons me_str (ma_cons me_str (ma_cons me_str ma_nil))))) (by with_unfolding_all rfl)) (mw_or1 (mt_cmp (o_notin (un65 hr)) (me_ix i_seq (me_var 6) me_int (fun _ _ => rfl)) (me_lst (ma_cons me_str (ma_cons me_str (ma_cons me_str (ma_cons me_str ma_nil))))) (by with_unfolding_all rfl))))) (mss_one (ms_ret (me_var 3))) mss_nil)
    (mss_one (ms_if (mt_cmp (o_eq (un64 hr)) (me_callH h__lwp_level hgd hr (ma_cons (me_ix i_seq (me_var 0) (me_var 2) (fun _ _ => rfl)) ma_nil)) (me_callH h__lwp_level hgd hr (ma_cons (me_ix i_seq (me_var 0) (me_ix i_seq (me_var 4) me_int (fun _ _ => rfl)) (fun _ _ => rfl)) ma_nil)) (nomark _)) (mss_one (ms_ret (me_var 3))) mss_nil)))) mss_nil)))))
    (mss_one (ms_ret me_non))))
theorem ok__lwp_touch (C : Fc w K mg) (B : Lams base K mg) : FnH P w K mg base 3 "_law_touch" ["_law_steps"] f__lwp_touch := by
  obtain ⟨fd, F⟩ := C.d__lwp_touch
  exact ⟨⟨fd, go__lwp_touch C B F, F.bindsN fun _ _ _ _ _ _ us hl => match us, hl with | [_], _ => rfl⟩, F.kp, C.g__lwp_touch⟩
abbrev N__law_begun : List Str := ["_law_steps", "_law_at", "_law_k"]
theorem sc__lwp_begun : FnScope N__law_begun ["_law_steps"] (defScope st__lwp_begun) := ⟨rfl, rfl, rfl, by decide +kernel, rfl, by decide +kernel, by decide +kernel⟩
theorem go__lwp_begun (C : Fc w K mg) (B : Lams base K mg) {fd : FuncData} (F : FnPa K "_law_begun" "_law_begun" st__lwp_begun fd) : FnG P w K mg base 1 (He.ga K "_law_begun") fd ["_law_steps"] f__lwp_begun := by
  refine fnG F sc__lwp_begun (fun cdv A outer s H E hgd hr => ?_)
  exact (mss_cons (ms_set (i := 1) sc__lwp_begun.nd rfl (Or.inl rfl) (me_ix i_seq (me_lc (p := (.nm 2)) (own := [("_law_k", 2)]) rfl sc__lwp_begun.nd (by decide) (mi_range1 rfl C.n_range (ma_cons (me_B b_len rfl C.n_len boot_len (ma_cons (me_var 0) ma_nil)) ma_nil)) (blkOk_by (N := N__law_begun) (sc := defScope st__lwp_begun) (own := [("_law_k", 2)]) (by decide +kernel)) (fun _ _ _ _ _ => (pg_name (i := 2) sc__lwp_begun.nd rfl (Or.inl rfl))) (fun _ _ _ _ _ => (mts_one (mt_cmp (o_ne (un64 hr)) (me_ix i_seq (me_var 0) (me_op o_sub (me_var 2) me_int) (fun _ _ => rfl)) (me_ix i_seq (me_var 0) (me_var 2) (fun _ _ => rfl)) (nomark _)))) (fun _ _ _ _ _ => (me_var 2))) me_int (fun _ _ => rfl)))
    (mss_one (ms_ret (me_op o_add (me_slice s_all (me_var 0) (mo_some (me_var 1)) mo_none) (me_slice s_all (me_var 0) mo_none (mo_some (me_var 1)))))))
theorem ok__lwp_begun (C : Fc w K mg) (B : Lams base K mg) : FnH P w K mg base 1 "_law_begun" ["_law_steps"] f__lwp_begun := by
  obtain ⟨fd, F⟩ := C.d__lwp_begun
  exact ⟨⟨fd, go__lwp_begun C B F, F.bindsN fun _ _ _ _ _ _ us hl => match us, hl with | [_], _ => rfl⟩, F.kp, C.g__lwp_begun⟩
abbrev N__law_cells : List Str := ["_law_purse_here", "_law_tries", "_law_most", "_law_steps", "_law_at", "_law_turn", "_law_near", "_law_spot", "_law_letter", "_law_beside", "_law_other", "_law_later"]
theorem sc__lwp_cells : FnScope N__law_cells ["_law_purse_here", "_law_tries", "_law_most"] (defScope st__lwp_cells) := ⟨rfl, rfl, rfl, by decide +kernel, rfl, by decide +kernel, by decide +kernel⟩
theorem go__lwp_cells (C : Fc w K mg) (B : Lams base K mg) {fd : FuncData} (F : FnPa K "_law_cells" "_law_cells" st__lwp_cells fd) : FnG P w K mg base 4 (He.ga K "_law_cells") fd ["_law_purse_here", "_law_tries", "_law_most"] f__lwp_cells := by
  have h__lwp_draw := ok__lwp_draw (P := P) (base := base) C B
  have h__lwp_touch := ok__lwp_touch (P := P) (base := base) C B
  have h__lwp_begun := ok__lwp_begun (P := P) (base := base) C B
  refine fnG F sc__lwp_cells (fun cdv A outer s H E hgd hr => ?_)
  exact (mss_cons (ms_par (i := 3) (j := 4) rfl sc__lwp_cells.nd rfl rfl (by decide) rfl rfl (ma_cons (me_lst (ma_cons me_str (ma_cons me_str (ma_cons me_str (ma_cons me_str ma_nil))))) (ma_cons me_int ma_nil)) rfl)
    (mss_cons (ms_for (p := (.nm 5)) PassesOwn.never rfl (mi_range1 rfl C.n_range (ma_cons (me_var 1) ma_nil)) (pg_name (i := 5) sc__lwp_cells.nd rfl (Or.inl rfl)) (mss_cons (ms_set (i := 6) sc__lwp_cells.nd rfl (Or.inl rfl) (me_if (mt_cmp o_gt (me_callH h__lwp_draw hgd hr (ma_cons (me_var 0) (ma_cons me_int ma_nil))) me_int (nomark _)) (me_op o_sub (me_op o_add (me_var 4) me_int) (me_callH h__lwp_draw hgd hr (ma_cons (me_var 0) (ma_cons me_int ma_nil)))) (me_callH h__lwp_draw hgd hr (ma_cons (me_var 0) (ma_cons (me_B b_len rfl C.n_len boot_len (ma_cons (me_var 3) ma_nil)) ma_nil)))))
    (mss_cons (ms_set (i := 7) sc__lwp_cells.nd rfl (Or.inl rfl) (me_op o_mod (me_Ty b_int rfl C.n_int boot_int (ma_cons (me_var 6) ma_nil)) (me_B b_len rfl C.n_len boot_len (ma_cons (me_var 3) ma_nil))))
    (mss_cons (ms_set (i := 8) sc__lwp_cells.nd rfl (Or.inl rfl) (me_ix i_seq (me_var 3) (me_var 7) (fun _ _ => rfl)))
    (mss_cons (ms_set (i := 9) sc__lwp_cells.nd rfl (Or.inl rfl) (me_dix (un1 hr) (me_disp (l := [((con (.str "e")), (con (.str "s"))), ((con (.str "n")), (con (.str "e"))), ((con (.str "w")), (con (.str "n"))), ((con (.str "s")), (con (.str "w")))]) (mps_cons me_str me_str (mps_cons me_str me_str (mps_cons me_str me_str (mps_cons me_str me_str mps_nil)))) rfl rfl (by simp) (by decide)) (me_var 8) (fun _ _ => rfl)))
    (mss_cons (ms_set (i := 10) sc__lwp_cells.nd rfl (Or.inl rfl) (me_dix (un1 hr) (me_disp (l := [((con (.str "e")), (con (.str "n"))), ((con (.str "n")), (con (.str "w"))), ((con (.str "w")), (con (.str "s"))), ((con (.str "s")), (con (.str "e")))]) (mps_cons me_str me_str (mps_cons me_str me_str (mps_cons me_str me_str (mps_cons me_str me_str mps_nil)))) rfl rfl (by simp) (by decide)) (me_var 8) (fun _ _ => rfl)))
    (mss_cons (ms_set (i := 11) sc__lwp_cells.nd rfl (Or.inl rfl) (me_op o_add (me_op o_add (me_slice s_all (me_var 3) mo_none (mo_some (me_var 7))) (me_lst (ma_cons (me_var 9) (ma_cons (me_var 8) (ma_cons (me_var 10) ma_nil))))) (me_slice s_all (me_var 3) (mo_some (me_op o_add (me_var 7) me_int)) mo_none)))
    (mss_one (ms_if (PW.pt (mw_and (mt_cmp o_le (me_B b_len rfl C.n_len boot_len (ma_cons (me_var 11) ma_nil)) (me_var 2) (nomark _)) (mw_and1 (mt_cmp o_isN (me_callH h__lwp_touch hgd hr (ma_cons (me_var 11) ma_nil)) me_non (nomark _))))) (mss_one (ms_par (i := 3) (j := 4) rfl sc__lwp_cells.nd rfl rfl (by decide) rfl rfl (ma_cons (me_var 11) (ma_cons (me_op o_add (me_var 7) me_int) ma_nil)) rfl)) mss_nil)))))))))
    (mss_one (ms_ret (me_callH h__lwp_begun hgd hr (ma_cons (me_var 3) ma_nil))))))
theorem ok__lwp_cells (C : Fc w K mg) (B : Lams base K mg) : FnH P w K mg base 4 "_law_cells" ["_law_purse_here", "_law_tries", "_law_most"] f__lwp_cells := by
  obtain ⟨fd, F⟩ := C.d__lwp_cells
  exact ⟨⟨fd, go__lwp_cells C B F, F.bindsN fun _ _ _ _ _ _ us hl => match us, hl with | [_, _, _], _ => rfl⟩, F.kp, C.g__lwp_cells⟩
abbrev N__law_mixed : List Str := ["_law_purse_here", "_law_many", "_law_left", "_law_found", "_law_turn"]
theorem sc__lwp_mixed : FnScope N__law_mixed ["_law_purse_here", "_law_many"] (defScope st__lwp_mixed) := ⟨rfl, rfl, rfl, by decide +kernel, rfl, by decide +kernel, by decide +kernel⟩
theorem go__lwp_mixed (C : Fc w K mg) (B : Lams base K mg) {fd : FuncData} (F : FnPa K "_law_mixed" "_law_mixed" st__lwp_mixed fd) : FnG P w K mg base 2 (He.ga K "_law_mixed") fd ["_law_purse_here", "_law_many"] f__lwp_mixed := by
  have h__lwp_draw := ok__lwp_draw (P := P) (base := base) C B
  refine fnG F sc__lwp_mixed (fun cdv A outer s H E hgd hr => ?_)
  exact (mss_cons (ms_par (i := 2) (j := 3) rfl sc__lwp_mixed.nd rfl rfl (by decide) rfl rfl (ma_cons (me_lstRg rfl rfl C.n_list rfl C.n_range (me_var 1)) (ma_cons (me_lstO ma_nil) ma_nil)) rfl)
    (mss_cons (ms_for (p := (.nm 4)) PassesOwn.never rfl (mi_range1 rfl C.n_range (ma_cons (me_var 1) ma_nil)) (pg_name (i := 4) sc__lwp_mixed.nd rfl (Or.inl rfl)) (mss_one (ms_expr (me_bm (fun _ _ _ r v h => isL_ok r v h) PySem.F.plainAttrs_list PySem.F.slot_list_append PySem.F.type_list_append m_app (me_var 3) (ma_cons (me_bm (fun _ _ _ r v h => isL_ok r v h) PySem.F.plainAttrs_list PySem.F.slot_list_pop PySem.F.type_list_pop m_popAt (me_var 2) (ma_cons (me_callH h__lwp_draw hgd hr (ma_cons (me_var 0) (ma_cons (me_B b_len rfl C.n_len boot_len (ma_cons (me_var 2) ma_nil)) ma_nil))) ma_nil)) ma_nil)))))
    (mss_one (ms_ret (me_var 3)))))
theorem ok__lwp_mixed (C : Fc w K mg) (B : Lams base K mg) : FnH P w K mg base 2 "_law_mixed" ["_law_purse_here", "_law_many"] f__lwp_mixed := by
  obtain ⟨fd, F⟩ := C.d__lwp_mixed
  exact ⟨⟨fd, go__lwp_mixed C B F, F.bindsN fun _ _ _ _ _ _ us hl => match us, hl with | [_, _], _ => rfl⟩, F.kp, C.g__lwp_mixed⟩
abbrev N__law_woven : List Str := ["_law_purse_here", "_law_many", "_law_across", "_law_along", "_law_steps", "_law_k", "_law_by"]
theorem sc__lwp_woven : FnScope N__law_woven ["_law_purse_here", "_law_many"] (defScope st__lwp_woven) := ⟨rfl, rfl, rfl, by decide +kernel, rfl, by decide +kernel, by decide +kernel⟩
theorem go__lwp_woven (C : Fc w K mg) (B : Lams base K mg) {fd : FuncData} (F : FnPa K "_law_woven" "_law_woven" st__lwp_woven fd) : FnG P w K mg base 3 (He.ga K "_law_woven") fd ["_law_purse_here", "_law_many"] f__lwp_woven := by
  have h__lwp_mixed := ok__lwp_mixed (P := P) (base := base) C B
  refine fnG F sc__lwp_woven (fun cdv A outer s H E hgd hr => ?_)
  exact (mss_cons (ms_par3 (i := 2) (j := 3) (l := 4) rfl sc__lwp_woven.nd rfl rfl rfl (by decide) (by decide) (by decide) rfl rfl rfl (ma_cons (me_callH h__lwp_mixed hgd hr (ma_cons (me_var 0) (ma_cons (me_var 1) ma_nil))) (ma_cons (me_callH h__lwp_mixed hgd hr (ma_cons (me_var 0) (ma_cons (me_var 1) ma_nil))) (ma_cons (me_lst ma_nil) ma_nil))) rfl)
    (mss_cons (ms_for (p := (.nm 5)) PassesOwn.never rfl (mi_range1 rfl C.n_range (ma_cons (me_var 1) ma_nil)) (pg_name (i := 5) sc__lwp_woven.nd rfl (Or.inl rfl)) (mss_cons (ms_set (i := 6) sc__lwp_woven.nd rfl (Or.inl rfl) (me_op o_sub (me_ix i_seq (me_var 2) (me_op o_mod (me_Ty b_int rfl C.n_int boot_int (ma_cons (me_op o_add (me_var 5) me_int) ma_nil)) (me_var 1)) (fun _ _ => rfl)) (me_ix i_seq (me_var 2) (me_var 5) (fun _ _ => rfl))))
    (mss_cons (ms_set (i := 4) sc__lwp_woven.nd rfl (Or.inl rfl) (me_op o_add (me_var 4) (me_op o_mul (me_lst (ma_cons (me_if (mt_cmp o_gt (me_var 6) me_int (nomark _)) me_str me_str) ma_nil)) (me_B b_abs rfl C.n_abs boot_abs (ma_cons (me_var 6) ma_nil)))))
    (mss_cons (ms_set (i := 6) sc__lwp_woven.nd rfl (Or.inl rfl) (me_op o_sub (me_ix i_seq (me_var 3) (me_op o_mod (me_Ty b_int rfl C.n_int boot_int (ma_cons (me_op o_add (me_var 5) me_int) ma_nil)) (me_var 1)) (fun _ _ => rfl)) (me_ix i_seq (me_var 3) (me_var 5) (fun _ _ => rfl))))
    (mss_one (ms_set (i := 4) sc__lwp_woven.nd rfl (Or.inl rfl) (me_op o_add (me_var 4) (me_op o_mul (me_lst (ma_cons (me_if (mt_cmp o_gt (me_var 6) me_int (nomark _)) me_str me_str) ma_nil)) (me_B b_abs rfl C.n_abs boot_abs (ma_cons (me_var 6) ma_nil))))))))))
    (mss_one (ms_ret (me_var 4)))))
theorem ok__lwp_woven (C : Fc w K mg) (B : Lams base K mg) : FnH P w K mg base 3 "_law_woven" ["_law_purse_here", "_law_many"] f__lwp_woven := by
  obtain ⟨fd, F⟩ := C.d__lwp_woven
  exact ⟨⟨fd, go__lwp_woven C B F, F.bindsN fun _ _ _ _ _ _ us hl => match us, hl with | [_, _], _ => rfl⟩, F.kp, C.g__lwp_woven⟩
abbrev N__law_two : List Str := ["_law_found", "_law_word"]
theorem sc__lwp_two : FnScope N__law_two [] (defScope st__lwp_two) := ⟨rfl, rfl, rfl, by decide +kernel, rfl, by decide +kernel, by decide +kernel⟩
theorem go__lwp_two (C : Fc w K mg) (B : Lams base K mg) {fd : FuncData} (F : FnPa K "_law_two" "_law_two" st__lwp_two fd) : FnG P w K mg base 1 (He.ga K "_law_two") fd [] f__lwp_two := by
  refine fnG F sc__lwp_two (fun cdv A outer s H E hgd hr => ?_)
  exact (mss_cons (ms_set (i := 0) sc__lwp_two.nd rfl (Or.inl rfl) (me_lst ma_nil))
    (mss_cons (ms_for (p := (.nm 1)) PassesOwn.never rfl (mi_list (me_bm (fun _ _ _ r v h => isSt_ok r v h) PySem.F.plainAttrs_str PySem.F.slot_str_split PySem.F.type_str_split m_split me_str (ma_cons me_str ma_nil))) (pg_name (i := 1) sc__lwp_two.nd rfl (Or.inl rfl)) (mss_one (ms_set (i := 0) sc__lwp_two.nd rfl (Or.inl rfl) (me_op o_add (me_var 0) (me_op o_mul (me_lst (ma_cons (me_ix i_seq (me_var 1) me_int (fun _ _ => rfl)) ma_nil)) (me_Ty b_int rfl C.n_int boot_int (ma_cons (me_ix i_seq (me_var 1) me_int (fun _ _ => rfl)) ma_nil)))))))
    (mss_one (ms_ret (me_var 0)))))
theorem ok__lwp_two (C : Fc w K mg) (B : Lams base K mg) : FnH P w K mg base 1 "_law_two" [] f__lwp_two := by
  obtain ⟨fd, F⟩ := C.d__lwp_two
  exact ⟨⟨fd, go__lwp_two C B F, F.bindsN fun _ _ _ _ _ _ us hl => match us, hl with | [], _ => rfl⟩, F.kp, C.g__lwp_two⟩
abbrev N__law_round : List Str := ["_law_steps", "_law_found", "_law_k", "_law_letter", "_law_pair"]
theorem sc__lwp_round : FnScope N__law_round ["_law_steps"] (defScope st__lwp_round) := ⟨rfl, rfl, rfl, by decide +kernel, rfl, by decide +kernel, by decide +kernel⟩
theorem go__lwp_round (C : Fc w K mg) (B : Lams base K mg) {fd : FuncData} (F : FnPa K "_law_round" "_law_round" st__lwp_round fd) : FnG P w K mg base 1 (He.ga K "_law_round") fd ["_law_steps"] f__lwp_round := by
  refine fnG F sc__lwp_round (fun cdv A outer s H E hgd hr => ?_)
  exact (mss_cons (ms_set (i := 1) sc__lwp_round.nd rfl (Or.inl rfl) me_int)
    (mss_cons (ms_for (p := (.tp [(.nm 2), (.nm 3)])) PassesOwn.never rfl (mi_enum rfl C.n_enumerate (ma_cons (me_var 0) ma_nil)) (pg_tup rfl (pgs_cons (pg_name (i := 2) sc__lwp_round.nd rfl (Or.inl rfl)) (pgs_cons (pg_name (i := 3) sc__lwp_round.nd rfl (Or.inl rfl)) pgs_nil))) (mss_cons (ms_set (i := 4) sc__lwp_round.nd rfl (Or.inl rfl) (me_op o_add (me_ix i_seq (me_var 0) (me_op o_sub (me_var 2) me_int) (fun _ _ => rfl)) (me_var 3)))
    (mss_one (ms_set (i := 1) sc__lwp_round.nd rfl (Or.inl rfl) (me_op o_sub (me_op o_add (me_var 1) (me_Ty b_int rfl C.n_int boot_int (ma_cons (me_cmp (o_in (un65 hr)) (me_var 4) (me_lst (ma_cons me_str (ma_cons me_str (ma_cons me_str (ma_cons me_str ma_nil))))) (by with_unfolding_all rfl)) ma_nil))) (me_Ty b_int rfl C.n_int boot_int (ma_cons (me_cmp (o_in (un65 hr)) (me_var 4) (me_lst (ma_cons me_str (ma_cons me_str (ma_cons me_str (ma_cons me_str ma_nil))))) (by with_unfolding_all rfl)) ma_nil)))))))
    (mss_one (ms_ret (me_var 1)))))
theorem ok__lwp_round (C : Fc w K mg) (B : Lams base K mg) : FnH P w K mg base 1 "_law_round" ["_law_steps"] f__lwp_round := by
  obtain ⟨fd, F⟩ := C.d__lwp_round
  exact ⟨⟨fd, go__lwp_round C B F, F.bindsN fun _ _ _ _ _ _ us hl => match us, hl with | [_], _ => rfl⟩, F.kp, C.g__lwp_round⟩
abbrev N__law_drawn : List Str := ["_law_purse_here", "_law_size", "_law_way_here", "_law_steps", "_law_at", "_law_tries", "_law_turn", "_law_good", "_law_back", "_law_letter"]
theorem sc__lwp_drawn : FnScope N__law_drawn ["_law_purse_here", "_law_size"] (defScope st__lwp_drawn) := ⟨rfl, rfl, rfl, by decide +kernel, rfl, by decide +kernel, by decide +kernel⟩
theorem go__lwp_drawn (C : Fc w K mg) (B : Lams base K mg) {fd : FuncData} (F : FnPa K "_law_drawn" "_law_drawn" st__lwp_drawn fd) : FnG P w K mg base 5 (He.ga K "_law_drawn") fd ["_law_purse_here", "_law_size"] f__lwp_drawn := by
  have h__lwp_draw := ok__lwp_draw (P := P) (base := base) C B
  have h__lwp_cells := ok__lwp_cells (P := P) (base := base) C B
  have h__lwp_woven := ok__lwp_woven (P := P) (base := base) C B
  have h__lwp_two := ok__lwp_two (P := P) (base := base) C B
  have h__lwp_begun := ok__lwp_begun (P := P) (base := base) C B
  have h__lwp_round := ok__lwp_round (P := P) (base := base) C B
  refine fnG F sc__lwp_drawn (fun cdv A outer s H E hgd hr => ?_)
  exact (mss_cons (ms_set (i := 2) sc__lwp_drawn.nd rfl (Or.inl rfl) (me_callH h__lwp_draw hgd hr (ma_cons (me_var 0) (ma_cons me_int ma_nil))))
    (mss_cons (ms_if (mt_cmp o_lt (me_var 2) me_int (nomark _)) (mss_one (ms_ret (me_callH h__lwp_cells hgd hr (ma_cons (me_var 0) (ma_cons (me_var 1) (ma_cons me_int ma_nil)))))) mss_nil)
    (mss_cons (ms_if (mt_cmp o_lt (me_var 2) me_int (nomark _)) (mss_one (ms_ret (me_callH h__lwp_woven hgd hr (ma_cons (me_var 0) (ma_cons (me_op o_add me_int (me_callH h__lwp_draw hgd hr (ma_cons (me_var 0) (ma_cons me_int ma_nil)))) ma_nil))))) mss_nil)
    (mss_cons (ms_if (mt_cmp (o_eq (un64 hr)) (me_var 2) me_int (nomark _)) (mss_cons (ms_set (i := 3) sc__lwp_drawn.nd rfl (Or.inl rfl) (me_callH0 h__lwp_two hgd hr))
    (mss_cons (ms_set (i := 4) sc__lwp_drawn.nd rfl (Or.inl rfl) (me_callH h__lwp_draw hgd hr (ma_cons (me_var 0) (ma_cons (me_B b_len rfl C.n_len boot_len (ma_cons (me_var 3) ma_nil)) ma_nil))))
    (mss_one (ms_ret (me_callH h__lwp_begun hgd hr (ma_cons (me_op o_add (me_slice s_all (me_var 3) (mo_some (me_var 4)) mo_none) (me_slice s_all (me_var 3) mo_none (mo_some (me_var 4)))) ma_nil)))))) mss_nil)
    (mss_cons (ms_if (mt_cmp (o_eq (un64 hr)) (me_var 2) me_int (nomark _)) (mss_cons (ms_setLc (i := 5) (p := (.nm 6)) (own := [("_law_turn", 6)]) rfl sc__lwp_drawn.nd (by decide) rfl rfl (sw_true rfl rfl rfl (by decide +kernel)) (mi_range1 rfl C.n_range (ma_cons me_int ma_nil)) (blkOk_by (N := N__law_drawn) (sc := defScope st__lwp_drawn) (own := [("_law_turn", 6)]) (by decide +kernel)) (fun _ _ _ _ _ => (pg_name (i := 6) sc__lwp_drawn.nd rfl (Or.inl rfl))) (fun _ _ _ _ _ => mts_nil) (fun _ _ _ _ _ => (me_callH h__lwp_woven hgd hr (ma_cons (me_var 0) (ma_cons (me_op o_add me_int (me_callH h__lwp_draw hgd hr (ma_cons (me_var 0) (ma_cons me_int ma_nil)))) ma_nil)))))
    (mss_cons (ms_setLc (i := 7) (p := (.nm 3)) (own := [("_law_steps", 3)]) rfl sc__lwp_drawn.nd (by decide) rfl rfl (sw_true rfl rfl rfl (by decide +kernel)) (mi_list (me_var 5)) (blkOk_by (N := N__law_drawn) (sc := defScope st__lwp_drawn) (own := [("_law_steps", 3)]) (by decide +kernel)) (fun _ _ _ _ _ => (pg_name (i := 3) sc__lwp_drawn.nd rfl (Or.inl rfl))) (fun _ _ _ _ _ => (mts_one (mt_cmp (o_eq (un64 hr)) (me_callH h__lwp_round hgd hr (ma_cons (me_var 3) ma_nil)) me_int (nomark _)))) (fun _ _ _ _ _ => (me_var 3)))
    (mss_one (ms_ret (me_if (mt_cmp (o_neL (un64 hr)) (me_var 7) (me_lst ma_nil) (nomark _)) (me_ix i_seq (me_var 7) me_int (fun _ _ => rfl)) (me_ix i_seq (me_var 5) me_int (fun _ _ => rfl))))))) mss_nil)
    (mss_cons (ms_set (i := 8) sc__lwp_drawn.nd rfl (Or.inr rfl) (me_disp (l := [((con (.str "e")), (con (.str "w"))), ((con (.str "w")), (con (.str "e"))), ((con (.str "n")), (con (.str "s"))), ((con (.str "s")), (con (.str "n")))]) (mps_cons me_str me_str (mps_cons me_str me_str (mps_cons me_str me_str (mps_cons me_str me_str mps_nil)))) rfl rfl (by simp) (by decide)))
    (mss_one (ms_ret (me_callH h__lwp_begun hgd hr (ma_cons (me_lc (p := (.nm 9)) (own := [("_law_letter", 9)]) rfl sc__lwp_drawn.nd (by decide) (mi_list (me_revL (me_callH h__lwp_cells hgd hr (ma_cons (me_var 0) (ma_cons (me_var 1) (ma_cons me_int ma_nil)))))) (blkOk_by (N := N__law_drawn) (sc := defScope st__lwp_drawn) (own := [("_law_letter", 9)]) (by decide +kernel)) (fun _ _ _ _ _ => (pg_name (i := 9) sc__lwp_drawn.nd rfl (Or.inl rfl))) (fun _ _ _ _ _ => mts_nil) (fun _ _ _ _ _ => (me_dix (un1 hr) (me_var 8) (me_var 9) (fun _ _ => rfl)))) ma_nil))))))))))
theorem ok__lwp_drawn (C : Fc w K mg) (B : Lams base K mg) : FnH P w K mg base 5 "_law_drawn" ["_law_purse_here", "_law_size"] f__lwp_drawn := by
  obtain ⟨fd, F⟩ := C.d__lwp_drawn
  exact ⟨⟨fd, go__lwp_drawn C B F, F.bindsN fun _ _ _ _ _ _ us hl => match us, hl with | [_, _], _ => rfl⟩, F.kp, C.g__lwp_drawn⟩
abbrev N__law_text : List Str := ["_law_steps", "_law_words", "_law_many", "_law_k", "_law_letter"]
theorem sc__lwp_text : FnScope N__law_text ["_law_steps"] (defScope st__lwp_text) := ⟨rfl, rfl, rfl, by decide +kernel, rfl, by decide +kernel, by decide +kernel⟩
theorem go__lwp_text (C : Fc w K mg) (B : Lams base K mg) {fd : FuncData} (F : FnPa K "_law_text" "_law_text" st__lwp_text fd) : FnG P w K mg base 1 (He.ga K "_law_text") fd ["_law_steps"] f__lwp_text := by
  refine fnG F sc__lwp_text (fun cdv A outer s H E hgd hr => ?_)
  exact (mss_cons (ms_par (i := 1) (j := 2) rfl sc__lwp_text.nd rfl rfl (by decide) rfl rfl (ma_cons (me_lstO ma_nil) (ma_cons me_int ma_nil)) rfl)
    (mss_cons (ms_for (p := (.tp [(.nm 3), (.nm 4)])) PassesOwn.never rfl (mi_enum rfl C.n_enumerate (ma_cons (me_var 0) ma_nil)) (pg_tup rfl (pgs_cons (pg_name (i := 3) sc__lwp_text.nd rfl (Or.inl rfl)) (pgs_cons (pg_name (i := 4) sc__lwp_text.nd rfl (Or.inl rfl)) pgs_nil))) (mss_cons (ms_set (i := 2) sc__lwp_text.nd rfl (Or.inl rfl) (me_op o_add (me_var 2) me_int))
    (mss_one (ms_if (PW.pt (mw_or (mt_cmp (o_eq (un64 hr)) (me_var 3) (me_op o_sub (me_B b_len rfl C.n_len boot_len (ma_cons (me_var 0) ma_nil)) me_int) (nomark _)) (mw_or1 (mt_cmp (o_ne (un64 hr)) (me_ix i_seq (me_var 0) (me_op o_add (me_var 3) me_int) (fun _ _ => rfl)) (me_var 4) (nomark _))))) (mss_cons (ms_expr (me_bm (fun _ _ _ r v h => isL_ok r v h) PySem.F.plainAttrs_list PySem.F.slot_list_append PySem.F.type_list_append m_app (me_var 1) (ma_cons (me_op o_add (me_var 4) (me_Ty b_str rfl C.n_str boot_str (ma_cons (me_var 2) ma_nil))) ma_nil)))
    (mss_one (ms_set (i := 2) sc__lwp_text.nd rfl (Or.inl rfl) me_int))) mss_nil))))
    (mss_one (ms_ret (me_bm (fun _ _ _ r v h => isSt_ok r v h) PySem.F.plainAttrs_str PySem.F.slot_str_join PySem.F.type_str_join m_join me_str (ma_cons (me_var 1) ma_nil))))))
theorem ok__lwp_text (C : Fc w K mg) (B : Lams base K mg) : FnH P w K mg base 1 "_law_text" ["_law_steps"] f__lwp_text := by
  obtain ⟨fd, F⟩ := C.d__lwp_text
  exact ⟨⟨fd, go__lwp_text C B F, F.bindsN fun _ _ _ _ _ _ us hl => match us, hl with | [_], _ => rfl⟩, F.kp, C.g__lwp_text⟩
abbrev N__law_sign_of_text : List Str := ["_law_purse_here"]
theorem sc__lwp_sign_of_text : FnScope N__law_sign_of_text ["_law_purse_here"] (defScope st__lwp_sign_of_text) := ⟨rfl, rfl, rfl, by decide +kernel, rfl, by decide +kernel, by decide +kernel⟩
theorem go__lwp_sign_of_text (C : Fc w K mg) (B : Lams base K mg) {fd : FuncData} (F : FnPa K "_law_sign_of_text" "_law_sign_of_text" st__lwp_sign_of_text fd) : FnG P w K mg base 2 (He.ga K "_law_sign_of_text") fd ["_law_purse_here"] f__lwp_sign_of_text := by
  have h__lwp_draw := ok__lwp_draw (P := P) (base := base) C B
  refine fnG F sc__lwp_sign_of_text (fun cdv A outer s H E hgd hr => ?_)
  exact (mss_one (ms_ret (me_ix i_seq me_str (me_callH h__lwp_draw hgd hr (ma_cons (me_var 0) (ma_cons me_int ma_nil))) (fun _ _ => rfl))))
theorem ok__lwp_sign_of_text (C : Fc w K mg) (B : Lams base K mg) : FnH P w K mg base 2 "_law_sign_of_text" ["_law_purse_here"] f__lwp_sign_of_text := by
  obtain ⟨fd, F⟩ := C.d__lwp_sign_of_text
  exact ⟨⟨fd, go__lwp_sign_of_text C B F, F.bindsN fun _ _ _ _ _ _ us hl => match us, hl with | [_], _ => rfl⟩, F.kp, C.g__lwp_sign_of_text⟩
abbrev N__law_bent : List Str := ["_law_purse_here", "_law_line", "_law_turn", "_law_way", "_law_at", "_law_sign"]
theorem sc__lwp_bent : FnScope N__law_bent ["_law_purse_here", "_law_line"] (defScope st__lwp_bent) := ⟨rfl, rfl, rfl, by decide +kernel, rfl, by decide +kernel, by decide +kernel⟩
theorem go__lwp_bent (C : Fc w K mg) (B : Lams base K mg) {fd : FuncData} (F : FnPa K "_law_bent" "_law_bent" st__lwp_bent fd) : FnG P w K mg base 3 (He.ga K "_law_bent") fd ["_law_purse_here", "_law_line"] f__lwp_bent := by
  have h__lwp_draw := ok__lwp_draw (P := P) (base := base) C B
  have h__lwp_sign_of_text := ok__lwp_sign_of_text (P := P) (base := base) C B
  refine fnG F sc__lwp_bent (fun cdv A outer s H E hgd hr => ?_)
  exact (mss_cons (ms_for (p := (.nm 2)) PassesOwn.never rfl (mi_range1 rfl C.n_range (ma_cons (me_callH h__lwp_draw hgd hr (ma_cons (me_var 0) (ma_cons me_int ma_nil))) ma_nil)) (pg_name (i := 2) sc__lwp_bent.nd rfl (Or.inl rfl)) (mss_cons (ms_par3 (i := 3) (j := 4) (l := 5) rfl sc__lwp_bent.nd rfl rfl rfl (by decide) (by decide) (by decide) rfl rfl rfl (ma_cons (me_callH h__lwp_draw hgd hr (ma_cons (me_var 0) (ma_cons me_int ma_nil))) (ma_cons (me_callH h__lwp_draw hgd hr (ma_cons (me_var 0) (ma_cons (me_op o_add (me_B b_len rfl C.n_len boot_len (ma_cons (me_var 1) ma_nil)) me_int) ma_nil))) (ma_cons (me_callH h__lwp_sign_of_text hgd hr (ma_cons (me_var 0) ma_nil)) ma_nil))) rfl)
    (mss_one (ms_if (mt_cmp (o_eq (un64 hr)) (me_var 3) me_int (nomark _)) (mss_one (ms_set (i := 1) sc__lwp_bent.nd rfl (Or.inl rfl) (me_op o_add (me_op o_add (me_slice s_all (me_var 1) mo_none (mo_some (me_var 4))) (me_var 5)) (me_slice s_all (me_var 1) (mo_some (me_var 4)) mo_none)))) (mss_one (ms_if (mt_cmp (o_eq (un64 hr)) (me_var 3) me_int (nomark _)) (mss_one (ms_set (i := 1) sc__lwp_bent.nd rfl (Or.inl rfl) (me_op o_add (me_slice s_all (me_var 1) mo_none (mo_some (me_var 4))) (me_slice s_all (me_var 1) (mo_some (me_op o_add (me_var 4) me_int)) mo_none)))) (mss_one (ms_if (mt_cmp (o_eq (un64 hr)) (me_var 3) me_int (nomark _)) (mss_one (ms_set (i := 1) sc__lwp_bent.nd rfl (Or.inl rfl) (me_op o_add (me_op o_add (me_slice s_all (me_var 1) mo_none (mo_some (me_var 4))) (me_var 5)) (me_slice s_all (me_var 1) (mo_some (me_op o_add (me_var 4) me_int)) mo_none)))) (mss_one (ms_set (i := 1) sc__lwp_bent.nd rfl (Or.inl rfl) (me_op o_add (me_slice s_all (me_var 1) mo_none (mo_some (me_var 4))) (me_slice s_all (me_var 1) (mo_some (me_B (b_max2 rfl) rfl C.n_max boot_max (ma_cons me_int (ma_cons (me_op o_sub (me_var 4) me_int) ma_nil)))) mo_none))))))))))))
    (mss_one (ms_ret (me_var 1))))
theorem ok__lwp_bent (C : Fc w K mg) (B : Lams base K mg) : FnH P w K mg base 3 "_law_bent" ["_law_purse_here", "_law_line"] f__lwp_bent := by
  obtain ⟨fd, F⟩ := C.d__lwp_bent
  exact ⟨⟨fd, go__lwp_bent C B F, F.bindsN fun _ _ _ _ _ _ us hl => match us, hl with | [_, _], _ => rfl⟩, F.kp, C.g__lwp_bent⟩
abbrev N__law_pick : List Str := ["_law_purse_here", "_law_some"]
theorem sc__lwp_pick : FnScope N__law_pick ["_law_purse_here", "_law_some"] (defScope st__lwp_pick) := ⟨rfl, rfl, rfl, by decide +kernel, rfl, by decide +kernel, by decide +kernel⟩
theorem go__lwp_pick (C : Fc w K mg) (B : Lams base K mg) {fd : FuncData} (F : FnPa K "_law_pick" "_law_pick" st__lwp_pick fd) : FnG P w K mg base 2 (He.ga K "_law_pick") fd ["_law_purse_here", "_law_some"] f__lwp_pick := by
  have h__lwp_draw := ok__lwp_draw (P := P) (base := base) C B
  refine fnG F sc__lwp_pick (fun cdv A outer s H E hgd hr => ?_)
  exact (mss_one (ms_ret (me_ix i_seq (me_var 1) (me_callH h__lwp_draw hgd hr (ma_cons (me_var 0) (ma_cons (me_B b_len rfl C.n_len boot_len (ma_cons (me_var 1) ma_nil)) ma_nil))) (fun _ _ => rfl))))
theorem ok__lwp_pick (C : Fc w K mg) (B : Lams base K mg) : FnH P w K mg base 2 "_law_pick" ["_law_purse_here", "_law_some"] f__lwp_pick := by
  obtain ⟨fd, F⟩ := C.d__lwp_pick
  exact ⟨⟨fd, go__lwp_pick C B F, F.bindsN fun _ _ _ _ _ _ us hl => match us, hl with | [_, _], _ => rfl⟩, F.kp, C.g__lwp_pick⟩
abbrev N__law_shuffled : List Str := ["_law_purse_here", "_law_said", "_law_words", "_law_way_here", "_law_at", "_law_to", "_law_opposite", "_law_k"]
theorem sc__lwp_shuffled : FnScope N__law_shuffled ["_law_purse_here", "_law_said"] (defScope st__lwp_shuffled) := ⟨rfl, rfl, rfl, by decide +kernel, rfl, by decide +kernel, by decide +kernel⟩
theorem go__lwp_shuffled (C : Fc w K mg) (B : Lams base K mg) {fd : FuncData} (F : FnPa K "_law_shuffled" "_law_shuffled" st__lwp_shuffled fd) : FnG P w K mg base 3 (He.ga K "_law_shuffled") fd ["_law_purse_here", "_law_said"] f__lwp_shuffled := by
  have h__lwp_draw := ok__lwp_draw (P := P) (base := base) C B
  have h__lwp_pick := ok__lwp_pick (P := P) (base := base) C B
  refine fnG F sc__lwp_shuffled (fun cdv A outer s H E hgd hr => ?_)
  exact (mss_cons (ms_asg (me_tup (ma_cons (me_bm (fun _ _ _ r v h => isSt_ok r v h) PySem.F.plainAttrs_str PySem.F.slot_str_split PySem.F.type_str_split m_splitO (me_var 1) (ma_cons me_str ma_nil)) (ma_cons (me_callH h__lwp_draw hgd hr (ma_cons (me_var 0) (ma_cons me_int ma_nil))) ma_nil))) (mg_tup rfl (mgs_cons (mg_name (i := 2) sc__lwp_shuffled.nd rfl (Or.inr rfl)) (mgs_cons (mg_name (i := 3) sc__lwp_shuffled.nd rfl (Or.inl rfl)) mgs_nil))))
    (mss_cons (ms_asg (me_tup (ma_cons (me_callH h__lwp_draw hgd hr (ma_cons (me_var 0) (ma_cons (me_B b_len rfl C.n_len boot_len (ma_cons (me_var 2) ma_nil)) ma_nil))) (ma_cons (me_callH h__lwp_draw hgd hr (ma_cons (me_var 0) (ma_cons (me_B b_len rfl C.n_len boot_len (ma_cons (me_var 2) ma_nil)) ma_nil))) ma_nil))) (mg_tup rfl (mgs_cons (mg_name (i := 4) sc__lwp_shuffled.nd rfl (Or.inr rfl)) (mgs_cons (mg_name (i := 5) sc__lwp_shuffled.nd rfl (Or.inl rfl)) mgs_nil))))
    (mss_cons (ms_if (mt_cmp o_lt (me_var 3) me_int (nomark _)) (mss_one (ms_ret (me_bm (fun _ _ _ r v h => isSt_ok r v h) PySem.F.plainAttrs_str PySem.F.slot_str_join PySem.F.type_str_join m_join me_str (ma_cons (me_op o_add (me_op o_add (me_slice s_all (me_var 2) mo_none (mo_some (me_var 4))) (me_slice s_all (me_var 2) (mo_some (me_op o_add (me_var 4) (me_var 3))) (mo_some (me_var 5)))) (me_slice s_all (me_var 2) (mo_some (me_var 5)) mo_none)) ma_nil)))) mss_nil)
    (mss_cons (ms_if (mt_cmp (o_eq (un64 hr)) (me_var 3) me_int (nomark _)) (mss_one (ms_asg (me_tup (ma_cons (me_ix i_seq (me_var 2) (me_var 5) (fun _ _ => rfl)) (ma_cons (me_ix i_seq (me_var 2) (me_var 4) (fun _ _ => rfl)) ma_nil))) (mg_tup rfl (mgs_cons (mg_sub (me_var 2) (me_var 4) st_list) (mgs_cons (mg_sub (me_var 2) (me_var 5) st_list) mgs_nil))))) mss_nil)
    (mss_cons (ms_if (mt_cmp o_gt (me_var 3) me_int (nomark _)) (mss_one (ms_asg (me_op o_add (me_ix i_seq (me_ix i_seq (me_var 2) (me_var 4) (fun _ _ => rfl)) me_int (fun _ _ => rfl)) (me_Ty b_str rfl C.n_str boot_str (ma_cons (me_op o_add (me_Ty b_int rfl C.n_int boot_int (ma_cons (me_slice s_all (me_ix i_seq (me_var 2) (me_var 4) (fun _ _ => rfl)) (mo_some me_int) mo_none) ma_nil)) me_int) ma_nil))) (mg_sub (me_var 2) (me_var 4) st_list))) mss_nil)
    (mss_cons (ms_setLc (i := 6) (p := (.nm 7)) (own := [("_law_k", 7)]) rfl sc__lwp_shuffled.nd (by decide) rfl rfl (sw_true rfl rfl rfl (by decide +kernel)) (mi_range1 rfl C.n_range (ma_cons (me_B b_len rfl C.n_len boot_len (ma_cons (me_var 2) ma_nil)) ma_nil)) (blkOk_by (N := N__law_shuffled) (sc := defScope st__lwp_shuffled) (own := [("_law_k", 7)]) (by decide +kernel)) (fun _ _ _ _ _ => (pg_name (i := 7) sc__lwp_shuffled.nd rfl (Or.inl rfl))) (fun _ _ _ _ _ => (mts_one (mt_cmp (o_eq (un64 hr)) (me_ix i_seq (me_ix i_seq (me_var 2) (me_var 7) (fun _ _ => rfl)) me_int (fun _ _ => rfl)) (me_dix (un1 hr) (me_disp (l := [((con (.str "e")), (con (.str "w"))), ((con (.str "w")), (con (.str "e"))), ((con (.str "n")), (con (.str "s"))), ((con (.str "s")), (con (.str "n")))]) (mps_cons me_str me_str (mps_cons me_str me_str (mps_cons me_str me_str (mps_cons me_str me_str mps_nil)))) rfl rfl (by simp) (by decide)) (me_ix i_seq (me_ix i_seq (me_var 2) (me_var 4) (fun _ _ => rfl)) me_int (fun _ _ => rfl)) (fun _ _ => rfl)) (nomark _)))) (fun _ _ _ _ _ => (me_var 7)))
    (mss_cons (ms_if (PW.pt (mw_and (mt_cmp o_gt (me_var 3) me_int (nomark _)) (mw_and1 (mt_cmp (o_neL (un64 hr)) (me_var 6) (me_lst ma_nil) (nomark _))))) (mss_cons (ms_set (i := 7) sc__lwp_shuffled.nd rfl (Or.inl rfl) (me_callH h__lwp_pick hgd hr (ma_cons (me_var 0) (ma_cons (me_var 6) ma_nil))))
    (mss_one (ms_asg (me_op o_add (me_ix i_seq (me_ix i_seq (me_var 2) (me_var 7) (fun _ _ => rfl)) me_int (fun _ _ => rfl)) (me_Ty b_str rfl C.n_str boot_str (ma_cons (me_op o_add (me_Ty b_int rfl C.n_int boot_int (ma_cons (me_slice s_all (me_ix i_seq (me_var 2) (me_var 7) (fun _ _ => rfl)) (mo_some me_int) mo_none) ma_nil)) me_int) ma_nil))) (mg_sub (me_var 2) (me_var 7) st_list)))) mss_nil)
    (mss_one (ms_ret (me_bm (fun _ _ _ r v h => isSt_ok r v h) PySem.F.plainAttrs_str PySem.F.slot_str_join PySem.F.type_str_join m_join me_str (ma_cons (me_var 2) ma_nil)))))))))))
theorem ok__lwp_shuffled (C : Fc w K mg) (B : Lams base K mg) : FnH P w K mg base 3 "_law_shuffled" ["_law_purse_here", "_law_said"] f__lwp_shuffled := by
  obtain ⟨fd, F⟩ := C.d__lwp_shuffled
  exact ⟨⟨fd, go__lwp_shuffled C B F, F.bindsN fun _ _ _ _ _ _ us hl => match us, hl with | [_, _], _ => rfl⟩, F.kp, C.g__lwp_shuffled⟩
abbrev N__law_odd : List Str := ["_law_purse_here", "_law_odd_here"]
theorem sc__lwp_odd : FnScope N__law_odd ["_law_purse_here"] (defScope st__lwp_odd) := ⟨rfl, rfl, rfl, by decide +kernel, rfl, by decide +kernel, by decide +kernel⟩
theorem go__lwp_odd (C : Fc w K mg) (B : Lams base K mg) {fd : FuncData} (F : FnPa K "_law_odd" "_law_odd" st__lwp_odd fd) : FnG P w K mg base 2 (He.ga K "_law_odd") fd ["_law_purse_here"] f__lwp_odd := by
  have h__lwp_draw := ok__lwp_draw (P := P) (base := base) C B
  refine fnG F sc__lwp_odd (fun cdv A outer s H E hgd hr => ?_)
  exact (mss_cons (ms_set (i := 1) sc__lwp_odd.nd rfl (Or.inl rfl) (me_lst (ma_cons me_non (ma_cons me_bl (ma_cons me_str (ma_cons me_str (ma_cons me_int (ma_cons (me_tup ma_nil) (ma_cons (me_tup (ma_cons me_int ma_nil)) (ma_cons (me_lst ma_nil) (ma_cons me_dnewV (ma_cons (me_un u_neg me_int) (ma_cons (me_tup (ma_cons me_str (ma_cons me_int ma_nil))) (ma_cons me_str (ma_cons (me_lst (ma_cons me_str ma_nil)) (ma_cons me_str (ma_cons (me_tup (ma_cons (me_tup ma_nil) ma_nil)) (ma_cons me_bl (ma_cons me_str (ma_cons me_str ma_nil))))))))))))))))))))
    (mss_one (ms_ret (me_ix i_seq (me_var 1) (me_callH h__lwp_draw hgd hr (ma_cons (me_var 0) (ma_cons me_int ma_nil))) (fun _ _ => rfl)))))
theorem ok__lwp_odd (C : Fc w K mg) (B : Lams base K mg) : FnH P w K mg base 2 "_law_odd" ["_law_purse_here"] f__lwp_odd := by
  obtain ⟨fd, F⟩ := C.d__lwp_odd
  exact ⟨⟨fd, go__lwp_odd C B F, F.bindsN fun _ _ _ _ _ _ us hl => match us, hl with | [_], _ => rfl⟩, F.kp, C.g__lwp_odd⟩
abbrev N_stretch_of : List Str := ["word", "sign"]
theorem sc_stretch_of : FnScope N_stretch_of ["word"] (defScope st_stretch_of) := ⟨rfl, rfl, rfl, by decide +kernel, rfl, by decide +kernel, by decide +kernel⟩
theorem go_stretch_of (C : Fc w K mg) (B : Lams base K mg) {fd : FuncData} (F : FnPa K "stretch_of" "stretch_of" st_stretch_of fd) : FnG P w K mg base 1 (He.ga K "stretch_of") fd ["word"] f_stretch_of := by
  refine fnG F sc_stretch_of (fun cdv A outer s H E hgd hr => ?_)
  exact (mss_cons (ms_if (PW.pt (mw_or (mt_not (mt_val (me_B b_isi rfl C.n_isinstance boot_isinstance (ma_cons (me_var 0) (ma_cons (me_con (t := tC (.ty "str")) (pe_bltn (v := .ty "str") rfl C.n_str boot_str rfl) fun _ => rfl) ma_nil))))) (mw_or (mt_cmp o_lt (me_B b_len rfl C.n_len boot_len (ma_cons (me_var 0) ma_nil)) me_int (nomark _)) (mw_or (mt_cmp (o_notin (un65 hr)) (me_ix i_seq (me_var 0) me_int (fun _ _ => rfl)) (me_gstr rfl C.c_WAYS) (by with_unfolding_all rfl)) (mw_or1 (mt_cmp (o_eq (un64 hr)) (me_ix i_seq (me_var 0) me_int (fun _ _ => rfl)) me_str (nomark _))))))) (mss_one (ms_ret me_non)) mss_nil)
    (mss_cons (ms_if (mt_not (mt_val (me_B (b_all rfl) rfl C.n_all boot_all (ma_cons (me_lc (p := (.nm 1)) (own := [("sign", 1)]) rfl sc_stretch_of.nd (by decide) (mi_str (me_slice s_all (me_var 0) (mo_some me_int) mo_none)) (blkOk_by (N := N_stretch_of) (sc := defScope st_stretch_of) (own := [("sign", 1)]) (by decide +kernel)) (fun _ _ _ _ _ => (pg_name (i := 1) sc_stretch_of.nd rfl (Or.inl rfl))) (fun _ _ _ _ _ => mts_nil) (fun _ _ _ _ _ => (me_cmp (o_in (un65 hr)) (me_var 1) me_str (by with_unfolding_all rfl)))) ma_nil)))) (mss_one (ms_ret me_non)) mss_nil)
    (mss_one (ms_ret (me_tup (ma_cons (me_ix i_seq (me_var 0) me_int (fun _ _ => rfl)) (ma_cons (me_Ty b_int rfl C.n_int boot_int (ma_cons (me_slice s_all (me_var 0) (mo_some me_int) mo_none) ma_nil)) ma_nil)))))))
theorem ok_stretch_of (C : Fc w K mg) (B : Lams base K mg) : FnH P w K mg base 1 "stretch_of" ["word"] f_stretch_of := by
  obtain ⟨fd, F⟩ := C.d_stretch_of
  exact ⟨⟨fd, go_stretch_of C B F, F.bindsN fun _ _ _ _ _ _ us hl => match us, hl with | [_], _ => rfl⟩, F.kp, C.g_stretch_of⟩
abbrev N_stretches_of : List Str := ["text", "found", "word"]
theorem sc_stretches_of : FnScope N_stretches_of ["text"] (defScope st_stretches_of) := ⟨rfl, rfl, rfl, by decide +kernel, rfl, by decide +kernel, by decide +kernel⟩
theorem go_stretches_of (C : Fc w K mg) (B : Lams base K mg) {fd : FuncData} (F : FnPa K "stretches_of" "stretches_of" st_stretches_of fd) : FnG P w K mg base 2 (He.ga K "stretches_of") fd ["text"] f_stretches_of := by
  have h_stretch_of := ok_stretch_of (P := P) (base := base) C B
  refine fnG F sc_stretches_of (fun cdv A outer s H E hgd hr => ?_)
  exact (mss_cons (ms_if (mt_not (mt_val (me_B b_isi rfl C.n_isinstance boot_isinstance (ma_cons (me_var 0) (ma_cons (me_con (t := tC (.ty "str")) (pe_bltn (v := .ty "str") rfl C.n_str boot_str rfl) fun _ => rfl) ma_nil))))) (mss_one (ms_ret me_non)) mss_nil)
    (mss_cons (ms_setLc (i := 1) (p := (.nm 2)) (own := [("word", 2)]) rfl sc_stretches_of.nd (by decide) rfl rfl (sw_true rfl rfl rfl (by decide +kernel)) (mi_list (me_bm (fun _ _ _ r v h => isSt_ok r v h) PySem.F.plainAttrs_str PySem.F.slot_str_split PySem.F.type_str_split m_split (me_var 0) (ma_cons me_str ma_nil))) (blkOk_by (N := N_stretches_of) (sc := defScope st_stretches_of) (own := [("word", 2)]) (by decide +kernel)) (fun _ _ _ _ _ => (pg_name (i := 2) sc_stretches_of.nd rfl (Or.inl rfl))) (fun _ _ _ _ _ => mts_nil) (fun _ _ _ _ _ => (me_callH h_stretch_of hgd hr (ma_cons (me_var 2) ma_nil))))
    (mss_one (ms_ret (me_if (mt_cmp (o_in (un65 hr)) me_non (me_var 1) (by with_unfolding_all rfl)) me_non (me_var 1))))))
theorem ok_stretches_of (C : Fc w K mg) (B : Lams base K mg) : FnH P w K mg base 2 "stretches_of" ["text"] f_stretches_of := by
  obtain ⟨fd, F⟩ := C.d_stretches_of
  exact ⟨⟨fd, go_stretches_of C B F, F.bindsN fun _ _ _ _ _ _ us hl => match us, hl with | [_], _ => rfl⟩, F.kp, C.g_stretches_of⟩
abbrev N_is_level : List Str := ["way"]
theorem sc_is_level : FnScope N_is_level ["way"] (defScope st_is_level) := ⟨rfl, rfl, rfl, by decide +kernel, rfl, by decide +kernel, by decide +kernel⟩
theorem go_is_level (C : Fc w K mg) (B : Lams base K mg) {fd : FuncData} (F : FnPa K "is_level" "is_level" st_is_level fd) : FnG P w K mg base 1 (He.ga K "is_level") fd ["way"] f_is_level := by
  refine fnG F sc_is_level (fun cdv A outer s H E hgd hr => ?_)
  exact (mss_one (ms_ret (me_cmp (o_in (un65 hr)) (me_var 0) me_str (by with_unfolding_all rfl))))
theorem ok_is_level (C : Fc w K mg) (B : Lams base K mg) : FnH P w K mg base 1 "is_level" ["way"] f_is_level := by
  obtain ⟨fd, F⟩ := C.d_is_level
  exact ⟨⟨fd, go_is_level C B F, F.bindsN fun _ _ _ _ _ _ us hl => match us, hl with | [_], _ => rfl⟩, F.kp, C.g_is_level⟩
abbrev N_steps_of : List Str := ["text", "found", "way", "number", "k"]
theorem sc_steps_of : FnScope N_steps_of ["text"] (defScope st_steps_of) := ⟨rfl, rfl, rfl, by decide +kernel, rfl, by decide +kernel, by decide +kernel⟩
theorem go_steps_of (C : Fc w K mg) (B : Lams base K mg) {fd : FuncData} (F : FnPa K "steps_of" "steps_of" st_steps_of fd) : FnG P w K mg base 3 (He.ga K "steps_of") fd ["text"] f_steps_of := by
  have h_stretches_of := ok_stretches_of (P := P) (base := base) C B
  have h_is_level := ok_is_level (P := P) (base := base) C B
  refine fnG F sc_steps_of (fun cdv A outer s H E hgd hr => ?_)
  exact (mss_cons (ms_set (i := 1) sc_steps_of.nd rfl (Or.inr rfl) (me_callH h_stretches_of hgd hr (ma_cons (me_var 0) ma_nil)))
    (mss_cons (ms_if (PW.pt (mw_or (mt_cmp o_isN (me_var 1) me_non (nomark _)) (mw_or (mt_cmp o_lt (me_B b_len rfl C.n_len boot_len (ma_cons (me_var 1) ma_nil)) me_int (nomark _)) (mw_or1 (mt_cmp o_gt (me_B (b_sum rfl) rfl C.n_sum boot_sum (ma_cons (me_lc (p := (.tp [(.nm 2), (.nm 3)])) (own := [("way", 2), ("number", 3)]) rfl sc_steps_of.nd (by decide) (mi_list (me_var 1)) (blkOk_by (N := N_steps_of) (sc := defScope st_steps_of) (own := [("way", 2), ("number", 3)]) (by decide +kernel)) (fun _ _ _ _ _ => (pg_tup rfl (pgs_cons (pg_name (i := 2) sc_steps_of.nd rfl (Or.inl rfl)) (pgs_cons (pg_name (i := 3) sc_steps_of.nd rfl (Or.inl rfl)) pgs_nil)))) (fun _ _ _ _ _ => mts_nil) (fun _ _ _ _ _ => (me_var 3))) ma_nil)) (me_gint rfl C.c_MOST_STEPS) (nomark _)))))) (mss_one (ms_ret me_non)) mss_nil)
    (mss_cons (ms_if (mt_val (me_B (b_any rfl) rfl C.n_any boot_any (ma_cons (me_lc (p := (.tp [(.nm 4), (.tp [(.nm 2), (.nm 3)])])) (own := [("k", 4), ("way", 2), ("number", 3)]) rfl sc_steps_of.nd (by decide) (mi_enum rfl C.n_enumerate (ma_cons (me_var 1) ma_nil)) (blkOk_by (N := N_steps_of) (sc := defScope st_steps_of) (own := [("k", 4), ("way", 2), ("number", 3)]) (by decide +kernel)) (fun _ _ _ _ _ => (pg_tup rfl (pgs_cons (pg_name (i := 4) sc_steps_of.nd rfl (Or.inl rfl)) (pgs_cons (pg_tup rfl (pgs_cons (pg_name (i := 2) sc_steps_of.nd rfl (Or.inl rfl)) (pgs_cons (pg_name (i := 3) sc_steps_of.nd rfl (Or.inl rfl)) pgs_nil))) pgs_nil)))) (fun _ _ _ _ _ => mts_nil) (fun _ _ _ _ _ => (me_cmp (o_eq (un64 hr)) (me_callH h_is_level hgd hr (ma_cons (me_ix i_seq (me_ix i_seq (me_var 1) (me_op o_sub (me_var 4) me_int) (fun _ _ => rfl)) me_int (fun _ _ => rfl)) ma_nil)) (me_callH h_is_level hgd hr (ma_cons (me_var 2) ma_nil)) (nomark _)))) ma_nil))) (mss_one (ms_ret me_non)) mss_nil)
    (mss_one (ms_ret (me_bm (fun _ _ _ r v h => isSt_ok r v h) PySem.F.plainAttrs_str PySem.F.slot_str_join PySem.F.type_str_join m_join me_str (ma_cons (me_lc (p := (.tp [(.nm 2), (.nm 3)])) (own := [("way", 2), ("number", 3)]) rfl sc_steps_of.nd (by decide) (mi_list (me_var 1)) (blkOk_by (N := N_steps_of) (sc := defScope st_steps_of) (own := [("way", 2), ("number", 3)]) (by decide +kernel)) (fun _ _ _ _ _ => (pg_tup rfl (pgs_cons (pg_name (i := 2) sc_steps_of.nd rfl (Or.inl rfl)) (pgs_cons (pg_name (i := 3) sc_steps_of.nd rfl (Or.inl rfl)) pgs_nil)))) (fun _ _ _ _ _ => mts_nil) (fun _ _ _ _ _ => (me_op o_mul (me_var 2) (me_var 3)))) ma_nil)))))))
theorem ok_steps_of (C : Fc w K mg) (B : Lams base K mg) : FnH P w K mg base 3 "steps_of" ["text"] f_steps_of := by
  obtain ⟨fd, F⟩ := C.d_steps_of
  exact ⟨⟨fd, go_steps_of C B F, F.bindsN fun _ _ _ _ _ _ us hl => match us, hl with | [_], _ => rfl⟩, F.kp, C.g_steps_of⟩
abbrev N_places_of_names : List Str := ["steps", "found", "way", "shift"]
theorem sc_places_of_names : FnScope N_places_of_names ["steps"] (defScope st_places_of_names) := ⟨rfl, rfl, rfl, by decide +kernel, rfl, by decide +kernel, by decide +kernel⟩
theorem go_places_of_names (C : Fc w K mg) (B : Lams base K mg) {fd : FuncData} (F : FnPa K "places_of" "places_of" st_places_of_names fd) : FnG P w K mg base 1 (He.ga K "places_of") fd ["steps"] f_places_of_names := by
  refine fnG F sc_places_of_names (fun cdv A outer s H E hgd hr => ?_)
  exact (mss_cons (ms_set (i := 1) sc_places_of_names.nd rfl (Or.inl rfl) (me_lstO (ma_cons (me_tup (ma_cons me_int (ma_cons me_int ma_nil))) ma_nil)))
    (mss_cons (ms_for (p := (.nm 2)) PassesOwn.never rfl (mi_str (me_var 0)) (pg_name (i := 2) sc_places_of_names.nd rfl (Or.inl rfl)) (mss_cons (ms_set (i := 3) sc_places_of_names.nd rfl (Or.inl rfl) (me_kix C.t_SHIFTS rfl C.g_SHIFTS (me_var 2) (fun _ _ => rfl)))
    (mss_one (ms_expr (me_bm (fun _ _ _ r v h => isL_ok r v h) PySem.F.plainAttrs_list PySem.F.slot_list_append PySem.F.type_list_append m_app (me_var 1) (ma_cons (me_tup (ma_cons (me_op o_add (me_ix i_seq (me_ix i_seq (me_var 1) (me_un u_neg me_int) (fun _ _ => rfl)) me_int (fun _ _ => rfl)) (me_ix i_seq (me_var 3) me_int (fun _ _ => rfl))) (ma_cons (me_op o_add (me_ix i_seq (me_ix i_seq (me_var 1) (me_un u_neg me_int) (fun _ _ => rfl)) me_int (fun _ _ => rfl)) (me_ix i_seq (me_var 3) me_int (fun _ _ => rfl))) ma_nil))) ma_nil))))))
    (mss_one (ms_ret (me_var 1)))))
theorem ok_places_of_names (C : Fc w K mg) (B : Lams base K mg) : FnH P w K mg base 1 "places_of" ["steps"] f_places_of_names := by
  obtain ⟨fd, F⟩ := C.d_places_of_names
  exact ⟨⟨fd, go_places_of_names C B F, F.bindsN fun _ _ _ _ _ _ us hl => match us, hl with | [_], _ => rfl⟩, F.kp, C.g_places_of_names⟩
abbrev N_is_plain : List Str := ["steps", "first", "second"]
theorem sc_is_plain : FnScope N_is_plain ["steps", "first", "second"] (defScope st_is_plain) := ⟨rfl, rfl, rfl, by decide +kernel, rfl, by decide +kernel, by decide +kernel⟩
theorem go_is_plain (C : Fc w K mg) (B : Lams base K mg) {fd : FuncData} (F : FnPa K "is_plain" "is_plain" st_is_plain fd) : FnG P w K mg base 2 (He.ga K "is_plain") fd ["steps", "first", "second"] f_is_plain := by
  have h_is_level := ok_is_level (P := P) (base := base) C B
  refine fnG F sc_is_plain (fun cdv A outer s H E hgd hr => ?_)
  exact (mss_cons (ms_if (PW.pt (mw_or (mt_cmp (o_ne (un64 hr)) (me_ix i_seq (me_var 0) (me_op o_sub (me_var 1) me_int) (fun _ _ => rfl)) (me_ix i_seq (me_var 0) (me_var 1) (fun _ _ => rfl)) (nomark _)) (mw_or1 (mt_cmp (o_ne (un64 hr)) (me_ix i_seq (me_var 0) (me_op o_sub (me_var 2) me_int) (fun _ _ => rfl)) (me_ix i_seq (me_var 0) (me_var 2) (fun _ _ => rfl)) (nomark _))))) (mss_one (ms_ret me_bl)) mss_nil)
    (mss_one (ms_ret (me_cmp (o_ne (un64 hr)) (me_callH h_is_level hgd hr (ma_cons (me_ix i_seq (me_var 0) (me_var 1) (fun _ _ => rfl)) ma_nil)) (me_callH h_is_level hgd hr (ma_cons (me_ix i_seq (me_var 0) (me_var 2) (fun _ _ => rfl)) ma_nil)) (nomark _)))))
theorem ok_is_plain (C : Fc w K mg) (B : Lams base K mg) : FnH P w K mg base 2 "is_plain" ["steps", "first", "second"] f_is_plain := by
  obtain ⟨fd, F⟩ := C.d_is_plain
  exact ⟨⟨fd, go_is_plain C B F, F.bindsN fun _ _ _ _ _ _ us hl => match us, hl with | [_, _, _], _ => rfl⟩, F.kp, C.g_is_plain⟩
abbrev N_first_touch : List Str := ["steps", "seen", "k", "place", "before"]
theorem sc_first_touch : FnScope N_first_touch ["steps"] (defScope st_first_touch) := ⟨rfl, rfl, rfl, by decide +kernel, rfl, by decide +kernel, by decide +kernel⟩
theorem go_first_touch (C : Fc w K mg) (B : Lams base K mg) {fd : FuncData} (F : FnPa K "first_touch" "first_touch" st_first_touch fd) : FnG P w K mg base 3 (He.ga K "first_touch") fd ["steps"] f_first_touch := by
  have h_places_of_names := ok_places_of_names (P := P) (base := base) C B
  have h_is_plain := ok_is_plain (P := P) (base := base) C B
  refine fnG F sc_first_touch (fun cdv A outer s H E hgd hr => ?_)
  exact (mss_cons (ms_set (i := 1) sc_first_touch.nd rfl (Or.inl rfl) me_dnewT)
    (mss_cons (ms_for (p := (.tp [(.nm 2), (.nm 3)])) PassesOwn.never rfl (mi_enum rfl C.n_enumerate (ma_cons (me_slice s_all (me_callH h_places_of_names hgd hr (ma_cons (me_var 0) ma_nil)) mo_none (mo_some (me_un u_neg me_int))) ma_nil)) (pg_tup rfl (pgs_cons (pg_name (i := 2) sc_first_touch.nd rfl (Or.inl rfl)) (pgs_cons (pg_name (i := 3) sc_first_touch.nd rfl (Or.inl rfl)) pgs_nil))) (mss_cons (ms_set (i := 4) sc_first_touch.nd rfl (Or.inl rfl) (me_setd (un1 hr) (pe_setdT (un1 hr) (me_var 1) (me_var 3) (me_lstO ma_nil) ⟨rfl, rfl, rfl, rfl⟩)))
    (mss_cons (ms_if (PW.pt (mw_or (mt_cmp o_gt (me_B b_len rfl C.n_len boot_len (ma_cons (me_var 4) ma_nil)) me_int (nomark _)) (mw_or1 (PW.pt (mw_and (mt_cmp (o_eq (un64 hr)) (me_B b_len rfl C.n_len boot_len (ma_cons (me_var 4) ma_nil)) me_int (nomark _)) (mw_and1 (mt_not (mt_val (me_callH h_is_plain hgd hr (ma_cons (me_var 0) (ma_cons (me_ix i_seq (me_var 4) me_int (fun _ _ => rfl)) (ma_cons (me_var 2) ma_nil)))))))))))) (mss_one (ms_ret (me_var 3))) mss_nil)
    (mss_one (ms_expr (me_bm (fun _ _ _ r v h => isL_ok r v h) PySem.F.plainAttrs_list PySem.F.slot_list_append PySem.F.type_list_append m_app (me_var 4) (ma_cons (me_var 2) ma_nil)))))))
    (mss_one (ms_ret me_non))))
theorem ok_first_touch (C : Fc w K mg) (B : Lams base K mg) : FnH P w K mg base 3 "first_touch" ["steps"] f_first_touch := by
  obtain ⟨fd, F⟩ := C.d_first_touch
  exact ⟨⟨fd, go_first_touch C B F, F.bindsN fun _ _ _ _ _ _ us hl => match us, hl with | [_], _ => rfl⟩, F.kp, C.g_first_touch⟩
abbrev N_turned_left : List Str := ["way"]
theorem sc_turned_left : FnScope N_turned_left ["way"] (defScope st_turned_left) := ⟨rfl, rfl, rfl, by decide +kernel, rfl, by decide +kernel, by decide +kernel⟩
theorem go_turned_left (C : Fc w K mg) (B : Lams base K mg) {fd : FuncData} (F : FnPa K "turned_left" "turned_left" st_turned_left fd) : FnG P w K mg base 1 (He.ga K "turned_left") fd ["way"] f_turned_left := by
  refine fnG F sc_turned_left (fun cdv A outer s H E hgd hr => ?_)
  exact (mss_one (ms_ret (me_ix i_seq (me_gstr rfl C.c_WAYS) (me_op o_mod (me_op o_add (me_bm (fun _ _ _ r v h => isSt_ok r v h) PySem.F.plainAttrs_str PySem.F.slot_str_index PySem.F.type_str_index m_sindex (me_gstr rfl C.c_WAYS) (ma_cons (me_var 0) ma_nil)) me_int) me_int) (fun _ _ => rfl))))
theorem ok_turned_left (C : Fc w K mg) (B : Lams base K mg) : FnH P w K mg base 1 "turned_left" ["way"] f_turned_left := by
  obtain ⟨fd, F⟩ := C.d_turned_left
  exact ⟨⟨fd, go_turned_left C B F, F.bindsN fun _ _ _ _ _ _ us hl => match us, hl with | [_], _ => rfl⟩, F.kp, C.g_turned_left⟩
abbrev N_quarters_of : List Str := ["steps", "found", "k", "way"]
theorem sc_quarters_of : FnScope N_quarters_of ["steps"] (defScope st_quarters_of) := ⟨rfl, rfl, rfl, by decide +kernel, rfl, by decide +kernel, by decide +kernel⟩
theorem go_quarters_of (C : Fc w K mg) (B : Lams base K mg) {fd : FuncData} (F : FnPa K "quarters_of" "quarters_of" st_quarters_of fd) : FnG P w K mg base 2 (He.ga K "quarters_of") fd ["steps"] f_quarters_of := by
  have h_turned_left := ok_turned_left (P := P) (base := base) C B
  refine fnG F sc_quarters_of (fun cdv A outer s H E hgd hr => ?_)
  exact (mss_cons (ms_set (i := 1) sc_quarters_of.nd rfl (Or.inl rfl) me_int)
    (mss_cons (ms_for (p := (.tp [(.nm 2), (.nm 3)])) PassesOwn.never rfl (mi_enumS rfl C.n_enumerate (ma_cons (me_var 0) ma_nil)) (pg_tup rfl (pgs_cons (pg_name (i := 2) sc_quarters_of.nd rfl (Or.inl rfl)) (pgs_cons (pg_name (i := 3) sc_quarters_of.nd rfl (Or.inl rfl)) pgs_nil))) (mss_one (ms_if (mt_cmp (o_ne (un64 hr)) (me_ix i_seq (me_var 0) (me_op o_sub (me_var 2) me_int) (fun _ _ => rfl)) (me_var 3) (nomark _)) (mss_one (ms_set (i := 1) sc_quarters_of.nd rfl (Or.inl rfl) (me_op o_add (me_var 1) (me_if (mt_cmp (o_eq (un64 hr)) (me_callH h_turned_left hgd hr (ma_cons (me_ix i_seq (me_var 0) (me_op o_sub (me_var 2) me_int) (fun _ _ => rfl)) ma_nil)) (me_var 3) (nomark _)) me_int (me_un u_neg me_int))))) mss_nil)))
    (mss_one (ms_ret (me_var 1)))))
theorem ok_quarters_of (C : Fc w K mg) (B : Lams base K mg) : FnH P w K mg base 2 "quarters_of" ["steps"] f_quarters_of := by
  obtain ⟨fd, F⟩ := C.d_quarters_of
  exact ⟨⟨fd, go_quarters_of C B F, F.bindsN fun _ _ _ _ _ _ us hl => match us, hl with | [_], _ => rfl⟩, F.kp, C.g_quarters_of⟩
abbrev N_LineX___init__ : List Str := ["self", "text", "ways", "spots", "touch"]
theorem sc_LineX___init__ : FnScope N_LineX___init__ ["self", "text"] (defScope st_LineX___init__) := ⟨rfl, rfl, rfl, by decide +kernel, rfl, by decide +kernel, by decide +kernel⟩
theorem go_LineX___init__ (C : Fc w K mg) (B : Lams base K mg) {fd : FuncData} (F : FnM K "Line" "__init__" "Line.__init__" st_LineX___init__ fd) : FnX P w K mg base 4 (He.ma K (He.ga K "Line") "__init__") fd ["self", "text"] f_LineX___init__ := by
  have h_steps_of := ok_steps_of (P := P) (base := base) C B
  have h_InvalidText___init__ := ok_InvalidText___init__ (P := P) (base := base) C B
  have h_places_of_names := ok_places_of_names (P := P) (base := base) C B
  have h_NotClosed___init__ := ok_NotClosed___init__ (P := P) (base := base) C B
  have h_first_touch := ok_first_touch (P := P) (base := base) C B
  have h_Touches___init__ := ok_Touches___init__ (P := P) (base := base) C B
  have h_quarters_of := ok_quarters_of (P := P) (base := base) C B
  refine fnXc F sc_LineX___init__ (fun cdv A outer s H E hcd hgd hr => ?_)
  exact (mss_cons (ms_noX (E' := E0) (ms_set (i := 2) sc_LineX___init__.nd rfl (Or.inl rfl) (me_callH h_steps_of hgd hr (ma_cons (me_var 1) ma_nil))))
    (mss_cons (ms_if (mt_noX (E' := E0) (mt_cmp o_isN (me_var 2) me_non (nomark _))) (mss_one (ms_raise h_InvalidText___init__ (L2.raises_own C.ra_InvalidText.1 C.ra_InvalidText.2) tkX rfl hgd hr (mr_noX (E' := E0) (ma_cons (me_var 1) ma_nil)))) mss_nil)
    (mss_cons (ms_noX (E' := E0) (ms_set (i := 3) sc_LineX___init__.nd rfl (Or.inl rfl) (me_callH h_places_of_names hgd hr (ma_cons (me_var 2) ma_nil))))
    (mss_cons (ms_if (mt_noX (E' := E0) (mt_cmp (o_ne (un64 hr)) (me_ix i_seq (me_var 3) (me_un u_neg me_int) (fun _ _ => rfl)) (me_tup (ma_cons me_int (ma_cons me_int ma_nil))) (nomark _))) (mss_one (ms_raise h_NotClosed___init__ (L2.raises_own C.ra_NotClosed.1 C.ra_NotClosed.2) tkX rfl hgd hr (mr_noX (E' := E0) (ma_cons (me_ix i_seq (me_var 3) (me_un u_neg me_int) (fun _ _ => rfl)) ma_nil)))) mss_nil)
    (mss_cons (ms_noX (E' := E0) (ms_set (i := 4) sc_LineX___init__.nd rfl (Or.inl rfl) (me_callH h_first_touch hgd hr (ma_cons (me_var 2) ma_nil))))
    (mss_cons (ms_if (mt_noX (E' := E0) (mt_cmp o_notN (me_var 4) me_non (nomark _))) (mss_one (ms_raise h_Touches___init__ (L2.raises_own C.ra_Touches.1 C.ra_Touches.2) tkX rfl hgd hr (mr_noX (E' := E0) (ma_cons (me_var 4) ma_nil)))) mss_nil)
    (mss_cons (ms_noX (E' := E0) (ms_asg (me_tup (ma_cons (me_var 1) (ma_cons (me_var 2) (ma_cons (me_slice s_all (me_var 3) mo_none (mo_some (me_un u_neg me_int))) ma_nil)))) (mg_tup rfl (mgs_cons (mg_fld C.cls_Line C.na_Line_written (me_var 0)) (mgs_cons (mg_fld C.cls_Line C.na_Line_ways (me_var 0)) (mgs_cons (mg_fld C.cls_Line C.na_Line_spots (me_var 0)) mgs_nil))))))
    (mss_one (ms_noX (E' := E0) (ms_asg (me_op o_fdiv (me_callH h_quarters_of hgd hr (ma_cons (me_var 2) ma_nil)) me_int) (mg_fld C.cls_Line C.na_Line_rounds (me_var 0))))))))))))
theorem ok_LineX___init__ (C : Fc w K mg) (B : Lams base K mg) : MxH P w K mg base 4 "Line" ["self", "text"] f_LineX___init__ := by
  obtain ⟨fd, F⟩ := C.d_LineX___init__
  exact ⟨⟨fd, go_LineX___init__ C B F, F.bindsN fun _ _ _ _ _ _ us hl => match us, hl with | [_, _], _ => rfl⟩, C.mk_Line, C.g_Line⟩
theorem kwx_LineX___init__ (C : Fc w K mg) (B : Lams base K mg) : MxKw P w K mg base 4 "Line" ["self", "text"] ["text"] [0] f_LineX___init__ := by
  obtain ⟨fd, F⟩ := C.d_LineX___init__
  exact ⟨⟨fd, go_LineX___init__ C B F, fun s self us hl => kwBinds1 (n := 1) F (fun _ _ _ _ _ _ self us hl => match us, hl with | [_], _ => rfl) s self us (Nat.succ.inj hl)⟩, C.mk_Line, C.g_Line⟩
abbrev N__law_is_word : List Str := ["_law_x", "_law_letter"]
theorem sc__lwp_is_word : FnScope N__law_is_word ["_law_x"] (defScope st__lwp_is_word) := ⟨rfl, rfl, rfl, by decide +kernel, rfl, by decide +kernel, by decide +kernel⟩
theorem go__lwp_is_word (C : Fc w K mg) (B : Lams base K mg) {fd : FuncData} (F : FnPa K "_law_is_word" "_law_is_word" st__lwp_is_word fd) : FnG P w K mg base 1 (He.ga K "_law_is_word") fd ["_law_x"] f__lwp_is_word := by
  refine fnG F sc__lwp_is_word (fun cdv A outer s H E hgd hr => ?_)
  exact (mss_cons (ms_if (PW.pt (mw_or (mt_cmp o_lt (me_B b_len rfl C.n_len boot_len (ma_cons (me_var 0) ma_nil)) me_int (nomark _)) (mw_or (mt_cmp (o_notin (un65 hr)) (me_ix i_seq (me_var 0) me_int (fun _ _ => rfl)) me_str (by with_unfolding_all rfl)) (mw_or1 (mt_cmp (o_eq (un64 hr)) (me_ix i_seq (me_var 0) me_int (fun _ _ => rfl)) me_str (nomark _)))))) (mss_one (ms_ret me_bl)) mss_nil)
    (mss_one (ms_ret (me_cmp (o_eq (un64 hr)) (me_lc (p := (.nm 1)) (own := [("_law_letter", 1)]) rfl sc__lwp_is_word.nd (by decide) (mi_str (me_slice s_all (me_var 0) (mo_some me_int) mo_none)) (blkOk_by (N := N__law_is_word) (sc := defScope st__lwp_is_word) (own := [("_law_letter", 1)]) (by decide +kernel)) (fun _ _ _ _ _ => (pg_name (i := 1) sc__lwp_is_word.nd rfl (Or.inl rfl))) (fun _ _ _ _ _ => (mts_one (mt_cmp (o_notin (un65 hr)) (me_var 1) me_str (by with_unfolding_all rfl)))) (fun _ _ _ _ _ => (me_var 1))) (me_lst ma_nil) (nomark _)))))
theorem ok__lwp_is_word (C : Fc w K mg) (B : Lams base K mg) : FnH P w K mg base 1 "_law_is_word" ["_law_x"] f__lwp_is_word := by
  obtain ⟨fd, F⟩ := C.d__lwp_is_word
  exact ⟨⟨fd, go__lwp_is_word C B F, F.bindsN fun _ _ _ _ _ _ us hl => match us, hl with | [_], _ => rfl⟩, F.kp, C.g__lwp_is_word⟩
abbrev N__law_due : List Str := ["_law_said", "_law_words", "_law_x", "_law_k", "_law_steps", "_law_spot"]
theorem sc__lwp_due : FnScope N__law_due ["_law_said"] (defScope st__lwp_due) := ⟨rfl, rfl, rfl, by decide +kernel, rfl, by decide +kernel, by decide +kernel⟩
theorem go__lwp_due (C : Fc w K mg) (B : Lams base K mg) {fd : FuncData} (F : FnPa K "_law_due" "_law_due" st__lwp_due fd) : FnG P w K mg base 4 (He.ga K "_law_due") fd ["_law_said"] f__lwp_due := by
  have h__lwp_is_word := ok__lwp_is_word (P := P) (base := base) C B
  have h__lwp_level := ok__lwp_level (P := P) (base := base) C B
  have h__lwp_spots := ok__lwp_spots (P := P) (base := base) C B
  have h__lwp_touch := ok__lwp_touch (P := P) (base := base) C B
  refine fnG F sc__lwp_due (fun cdv A outer s H E hgd hr => ?_)
  exact (mss_cons (ms_set (i := 1) sc__lwp_due.nd rfl (Or.inr rfl) (me_if (mt_val (me_B b_isi rfl C.n_isinstance boot_isinstance (ma_cons (me_var 0) (ma_cons (me_con (t := tC (.ty "str")) (pe_bltn (v := .ty "str") rfl C.n_str boot_str rfl) fun _ => rfl) ma_nil)))) (me_bm (fun _ _ _ r v h => isSt_ok r v h) PySem.F.plainAttrs_str PySem.F.slot_str_split PySem.F.type_str_split m_split (me_var 0) (ma_cons me_str ma_nil)) (me_lst ma_nil)))
    (mss_cons (ms_if (PW.pt (mw_or (mt_cmp o_lt (me_B b_len rfl C.n_len boot_len (ma_cons (me_var 1) ma_nil)) me_int (nomark _)) (mw_or1 (mt_cmp (o_neL (un64 hr)) (me_lc (p := (.nm 2)) (own := [("_law_x", 2)]) rfl sc__lwp_due.nd (by decide) (mi_list (me_var 1)) (blkOk_by (N := N__law_due) (sc := defScope st__lwp_due) (own := [("_law_x", 2)]) (by decide +kernel)) (fun _ _ _ _ _ => (pg_name (i := 2) sc__lwp_due.nd rfl (Or.inl rfl))) (fun _ _ _ _ _ => (mts_one (mt_not (mt_val (me_callH h__lwp_is_word hgd hr (ma_cons (me_var 2) ma_nil)))))) (fun _ _ _ _ _ => (me_var 2))) (me_lst ma_nil) (nomark _))))) (mss_one (ms_ret (me_tup (ma_cons me_str (ma_cons (me_B (b_reprA C.sm hgd (un64 hr)) rfl C.n_repr boot_repr (ma_cons (me_var 0) ma_nil)) ma_nil))))) mss_nil)
    (mss_cons (ms_if (mt_cmp o_gt (me_B (b_sum rfl) rfl C.n_sum boot_sum (ma_cons (me_lc (p := (.nm 2)) (own := [("_law_x", 2)]) rfl sc__lwp_due.nd (by decide) (mi_list (me_var 1)) (blkOk_by (N := N__law_due) (sc := defScope st__lwp_due) (own := [("_law_x", 2)]) (by decide +kernel)) (fun _ _ _ _ _ => (pg_name (i := 2) sc__lwp_due.nd rfl (Or.inl rfl))) (fun _ _ _ _ _ => mts_nil) (fun _ _ _ _ _ => (me_Ty b_int rfl C.n_int boot_int (ma_cons (me_slice s_all (me_var 2) (mo_some me_int) mo_none) ma_nil)))) ma_nil)) me_int (nomark _)) (mss_one (ms_ret (me_tup (ma_cons me_str (ma_cons (me_B (b_reprA C.sm hgd (un64 hr)) rfl C.n_repr boot_repr (ma_cons (me_var 0) ma_nil)) ma_nil))))) mss_nil)
    (mss_cons (ms_if (mt_cmp (o_neL (un64 hr)) (me_lc (p := (.nm 3)) (own := [("_law_k", 3)]) rfl sc__lwp_due.nd (by decide) (mi_range1 rfl C.n_range (ma_cons (me_B b_len rfl C.n_len boot_len (ma_cons (me_var 1) ma_nil)) ma_nil)) (blkOk_by (N := N__law_due) (sc := defScope st__lwp_due) (own := [("_law_k", 3)]) (by decide +kernel)) (fun _ _ _ _ _ => (pg_name (i := 3) sc__lwp_due.nd rfl (Or.inl rfl))) (fun _ _ _ _ _ => (mts_one (mt_cmp (o_eq (un64 hr)) (me_callH h__lwp_level hgd hr (ma_cons (me_ix i_seq (me_ix i_seq (me_var 1) (me_var 3) (fun _ _ => rfl)) me_int (fun _ _ => rfl)) ma_nil)) (me_callH h__lwp_level hgd hr (ma_cons (me_ix i_seq (me_ix i_seq (me_var 1) (me_op o_sub (me_var 3) me_int) (fun _ _ => rfl)) me_int (fun _ _ => rfl)) ma_nil)) (nomark _)))) (fun _ _ _ _ _ => (me_var 3))) (me_lst ma_nil) (nomark _)) (mss_one (ms_ret (me_tup (ma_cons me_str (ma_cons (me_B (b_reprA C.sm hgd (un64 hr)) rfl C.n_repr boot_repr (ma_cons (me_var 0) ma_nil)) ma_nil))))) mss_nil)
    (mss_cons (ms_set (i := 4) sc__lwp_due.nd rfl (Or.inl rfl) (me_lst ma_nil))
    (mss_cons (ms_for (p := (.nm 2)) PassesOwn.never rfl (mi_list (me_var 1)) (pg_name (i := 2) sc__lwp_due.nd rfl (Or.inl rfl)) (mss_one (ms_set (i := 4) sc__lwp_due.nd rfl (Or.inl rfl) (me_op o_add (me_var 4) (me_op o_mul (me_lst (ma_cons (me_ix i_seq (me_var 2) me_int (fun _ _ => rfl)) ma_nil)) (me_Ty b_int rfl C.n_int boot_int (ma_cons (me_slice s_all (me_var 2) (mo_some me_int) mo_none) ma_nil)))))))
    (mss_cons (ms_if (mt_cmp (o_ne (un64 hr)) (me_ix i_seq (me_callH h__lwp_spots hgd hr (ma_cons (me_var 4) ma_nil)) (me_un u_neg me_int) (fun _ _ => rfl)) (me_tup (ma_cons me_int (ma_cons me_int ma_nil))) (nomark _)) (mss_one (ms_ret (me_tup (ma_cons me_str (ma_cons (me_B (b_reprA C.sm hgd (un64 hr)) rfl C.n_repr boot_repr (ma_cons (me_ix i_seq (me_callH h__lwp_spots hgd hr (ma_cons (me_var 4) ma_nil)) (me_un u_neg me_int) (fun _ _ => rfl)) ma_nil)) ma_nil))))) mss_nil)
    (mss_cons (ms_set (i := 5) sc__lwp_due.nd rfl (Or.inl rfl) (me_callH h__lwp_touch hgd hr (ma_cons (me_var 4) ma_nil)))
    (mss_one (ms_ret (me_if (mt_cmp o_isN (me_var 5) me_non (nomark _)) (me_tup (ma_cons me_str (ma_cons (me_var 0) ma_nil))) (me_tup (ma_cons me_str (ma_cons (me_B (b_reprA C.sm hgd (un64 hr)) rfl C.n_repr boot_repr (ma_cons (me_var 5) ma_nil)) ma_nil))))))))))))))
theorem ok__lwp_due (C : Fc w K mg) (B : Lams base K mg) : FnH P w K mg base 4 "_law_due" ["_law_said"] f__lwp_due := by
  obtain ⟨fd, F⟩ := C.d__lwp_due
  exact ⟨⟨fd, go__lwp_due C B F, F.bindsN fun _ _ _ _ _ _ us hl => match us, hl with | [_], _ => rfl⟩, F.kp, C.g__lwp_due⟩
abbrev N__law_sort : List Str := ["_law_e", "_law_words", "_law_flags", "_law_bases", "_law_at"]
theorem sc__lwp_sort : FnScope N__law_sort ["_law_e"] (defScope st__lwp_sort) := ⟨rfl, rfl, rfl, by decide +kernel, rfl, by decide +kernel, by decide +kernel⟩
theorem go__lwp_sort (C : Fc w K mg) (B : Lams base K mg) {fd : FuncData} (F : FnPa K "_law_sort" "_law_sort" st__lwp_sort fd) : FnHM P w K mg base 1 (He.ga K "_law_sort") fd ["_law_e"] (fun a d c => f__lwp_sort a d c) := by
  refine fnHM F sc__lwp_sort (fun cdv A outer s H p cc dd hgd hr P => ?_)
  exact (mss_cons (ms_set (i := 1) sc__lwp_sort.nd rfl (Or.inl rfl) (me_lst (ma_cons me_str (ma_cons me_str (ma_cons me_str (ma_cons me_str (ma_cons me_str (ma_cons me_str (ma_cons me_str ma_nil)))))))))
    (mss_cons (ms_set (i := 1) sc__lwp_sort.nd rfl (Or.inl rfl) (me_op o_add (me_var 1) (me_lst (ma_cons me_str (ma_cons me_str (ma_cons me_str (ma_cons me_str (ma_cons me_str (ma_cons me_str (ma_cons me_str ma_nil))))))))))
    (mss_cons (ms_set (i := 1) sc__lwp_sort.nd rfl (Or.inl rfl) (me_op o_add (me_var 1) (me_lst (ma_cons me_str (ma_cons me_str (ma_cons me_str (ma_cons me_str (ma_cons me_str (ma_cons me_str (ma_cons me_str ma_nil))))))))))
    (mss_cons (ms_set (i := 2) sc__lwp_sort.nd rfl (Or.inl rfl) (me_lst (ma_cons (me_B (b_isH C.xs P) rfl C.n_isinstance boot_isinstance (ma_cons (me_var 0) (ma_cons (me_cls rfl C.g_InvalidText) ma_nil))) (ma_cons (me_B (b_isH C.xs P) rfl C.n_isinstance boot_isinstance (ma_cons (me_var 0) (ma_cons (me_cls rfl C.g_InvalidNumber) ma_nil))) (ma_cons (me_B (b_isH C.xs P) rfl C.n_isinstance boot_isinstance (ma_cons (me_var 0) (ma_cons (me_cls rfl C.g_InvalidName) ma_nil))) ma_nil)))))
    (mss_cons (ms_set (i := 2) sc__lwp_sort.nd rfl (Or.inl rfl) (me_op o_add (me_var 2) (me_lst (ma_cons (me_B (b_isH C.xs P) rfl C.n_isinstance boot_isinstance (ma_cons (me_var 0) (ma_cons (me_cls rfl C.g_InvalidIndex) ma_nil))) (ma_cons (me_B (b_isH C.xs P) rfl C.n_isinstance boot_isinstance (ma_cons (me_var 0) (ma_cons (me_cls rfl C.g_InvalidClaim) ma_nil))) (ma_cons (me_B (b_isH C.xs P) rfl C.n_isinstance boot_isinstance (ma_cons (me_var 0) (ma_cons (me_cls rfl C.g_InvalidCell) ma_nil))) ma_nil))))))
    (mss_cons (ms_set (i := 2) sc__lwp_sort.nd rfl (Or.inl rfl) (me_op o_add (me_var 2) (me_lst (ma_cons (me_B (b_isH C.xs P) rfl C.n_isinstance boot_isinstance (ma_cons (me_var 0) (ma_cons (me_cls rfl C.g_InvalidBar) ma_nil))) (ma_cons (me_B (b_isH C.xs P) rfl C.n_isinstance boot_isinstance (ma_cons (me_var 0) (ma_cons (me_cls rfl C.g_UnknownName) ma_nil))) (ma_cons (me_B (b_isH C.xs P) rfl C.n_isinstance boot_isinstance (ma_cons (me_var 0) (ma_cons (me_cls rfl C.g_NotALine) ma_nil))) ma_nil))))))
    (mss_cons (ms_set (i := 2) sc__lwp_sort.nd rfl (Or.inl rfl) (me_op o_add (me_var 2) (me_lst (ma_cons (me_B (b_isH C.xs P) rfl C.n_isinstance boot_isinstance (ma_cons (me_var 0) (ma_cons (me_cls rfl C.g_NotABoard) ma_nil))) (ma_cons (me_B (b_isH C.xs P) rfl C.n_isinstance boot_isinstance (ma_cons (me_var 0) (ma_cons (me_cls rfl C.g_InvalidBars) ma_nil))) (ma_cons (me_B (b_isH C.xs P) rfl C.n_isinstance boot_isinstance (ma_cons (me_var 0) (ma_cons (me_cls rfl C.g_InvalidCells) ma_nil))) ma_nil))))))
    (mss_cons (ms_set (i := 2) sc__lwp_sort.nd rfl (Or.inl rfl) (me_op o_add (me_var 2) (me_lst (ma_cons (me_B (b_isH C.xs P) rfl C.n_isinstance boot_isinstance (ma_cons (me_var 0) (ma_cons (me_cls rfl C.g_NotClosed) ma_nil))) (ma_cons (me_B (b_isH C.xs P) rfl C.n_isinstance boot_isinstance (ma_cons (me_var 0) (ma_cons (me_cls rfl C.g_Touches) ma_nil))) (ma_cons (me_B (b_isH C.xs P) rfl C.n_isinstance boot_isinstance (ma_cons (me_var 0) (ma_cons (me_cls rfl C.g_NotTurned) ma_nil))) ma_nil))))))
    (mss_cons (ms_set (i := 2) sc__lwp_sort.nd rfl (Or.inl rfl) (me_op o_add (me_var 2) (me_lst (ma_cons (me_B (b_isH C.xs P) rfl C.n_isinstance boot_isinstance (ma_cons (me_var 0) (ma_cons (me_cls rfl C.g_NotFacing) ma_nil))) (ma_cons (me_B (b_isH C.xs P) rfl C.n_isinstance boot_isinstance (ma_cons (me_var 0) (ma_cons (me_cls rfl C.g_NotOneRim) ma_nil))) (ma_cons (me_B (b_isH C.xs P) rfl C.n_isinstance boot_isinstance (ma_cons (me_var 0) (ma_cons (me_cls rfl C.g_TooMany) ma_nil))) ma_nil))))))
    (mss_cons (ms_set (i := 2) sc__lwp_sort.nd rfl (Or.inl rfl) (me_op o_add (me_var 2) (me_lst (ma_cons (me_B (b_isH C.xs P) rfl C.n_isinstance boot_isinstance (ma_cons (me_var 0) (ma_cons (me_cls rfl C.g_Broken) ma_nil))) (ma_cons (me_B (b_isH C.xs P) rfl C.n_isinstance boot_isinstance (ma_cons (me_var 0) (ma_cons (me_cls rfl C.g_InUse) ma_nil))) (ma_cons (me_B (b_isH C.xs P) rfl C.n_isinstance boot_isinstance (ma_cons (me_var 0) (ma_cons (me_cls rfl C.g_NothingToUndo) ma_nil))) ma_nil))))))
    (mss_cons (ms_set (i := 3) sc__lwp_sort.nd rfl (Or.inl rfl) (me_lst (ma_cons (me_B (b_isH C.xs P) rfl C.n_isinstance boot_isinstance (ma_cons (me_var 0) (ma_cons (me_cls rfl C.g_WrongValue) ma_nil))) (ma_cons (me_B (b_isH C.xs P) rfl C.n_isinstance boot_isinstance (ma_cons (me_var 0) (ma_cons (me_cls rfl C.g_NoAnswer) ma_nil))) ma_nil))))
    (mss_cons (ms_if (PW.pt (mw_or (mt_cmp (o_ne (unH64 hr)) (me_bm (fun _ _ _ r v h => isL_ok r v h) PySem.F.plainAttrs_list PySem.F.slot_list_count PySem.F.type_list_count (m_lcountB (unH64 hr)) (me_var 2) (ma_cons me_bl ma_nil)) me_int (nomark _)) (mw_or1 (mt_cmp (o_ne (unH64 hr)) (me_bm (fun _ _ _ r v h => isL_ok r v h) PySem.F.plainAttrs_list PySem.F.slot_list_count PySem.F.type_list_count (m_lcountB (unH64 hr)) (me_var 3) (ma_cons me_bl ma_nil)) me_int (nomark _))))) (mss_one (ms_ret me_str)) mss_nil)
    (mss_cons (ms_set (i := 4) sc__lwp_sort.nd rfl (Or.inl rfl) (me_bm (fun _ _ _ r v h => isL_ok r v h) PySem.F.plainAttrs_list PySem.F.slot_list_index PySem.F.type_list_index m_lindexB (me_var 2) (ma_cons me_bl ma_nil)))
    (mss_one (ms_ret (me_if (mt_cmp (o_eq (unH64 hr)) (me_bm (fun _ _ _ r v h => isL_ok r v h) PySem.F.plainAttrs_list PySem.F.slot_list_index PySem.F.type_list_index m_lindexB (me_var 3) (ma_cons me_bl ma_nil)) (me_if (mt_cmp o_lt (me_var 4) me_int (nomark _)) me_int me_int) (nomark _)) (me_ix i_seq (me_var 1) (me_var 4) (fun _ _ => rfl)) me_str))))))))))))))))
theorem ok__lwp_sort (C : Fc w K mg) (B : Lams base K mg) : HmH P w K mg base 1 "_law_sort" ["_law_e"] (fun a d c => f__lwp_sort a d c) := by
  obtain ⟨fd, F⟩ := C.d__lwp_sort
  exact ⟨⟨fd, go__lwp_sort C B F, F.bindsN fun _ _ _ _ _ _ us hl => match us, hl with | [_], _ => rfl⟩, F.kp, C.g__lwp_sort⟩
abbrev N__law_attribute : List Str := ["_law_e", "_law_word_here"]
theorem sc__lwp_attribute : FnScope N__law_attribute ["_law_e", "_law_word_here"] (defScope st__lwp_attribute) := ⟨rfl, rfl, rfl, by decide +kernel, rfl, by decide +kernel, by decide +kernel⟩
theorem go__lwp_attribute (C : Fc w K mg) (B : Lams base K mg) {fd : FuncData} (F : FnPa K "_law_attribute" "_law_attribute" st__lwp_attribute fd) : FnHM P w K mg base 1 (He.ga K "_law_attribute") fd ["_law_e", "_law_word_here"] (fun a d c => f__lwp_attribute a d c) := by
  refine fnHM F sc__lwp_attribute (fun cdv A outer s H p cc dd hgd hr P => ?_)
  exact (mss_cons (ms_if (mt_cmp (o_in (unH65 hr)) (me_var 1) (me_lst (ma_cons me_str (ma_cons me_str (ma_cons me_str (ma_cons me_str ma_nil))))) (by with_unfolding_all rfl)) (mss_one (ms_ret me_str)) mss_nil)
    (mss_cons (ms_if (mt_cmp (o_eq (unH64 hr)) (me_var 1) me_str (nomark _)) (mss_one (ms_ret (me_B (b_reprA C.sm hgd (unH64 hr)) rfl C.n_repr boot_repr (ma_cons (me_tup (ma_cons (me_hfld C.xf_index P (me_var 0)) (ma_cons (me_hfld C.xf_told P (me_var 0)) ma_nil))) ma_nil)))) mss_nil)
    (mss_cons (ms_if (mt_cmp (o_eq (unH64 hr)) (me_var 1) me_str (nomark _)) (mss_one (ms_ret (me_B (b_reprA C.sm hgd (unH64 hr)) rfl C.n_repr boot_repr (ma_cons (me_hfld C.xf_number P (me_var 0)) ma_nil)))) mss_nil)
    (mss_cons (ms_if (mt_cmp (o_in (unH65 hr)) (me_var 1) (me_lst (ma_cons me_str (ma_cons me_str ma_nil))) (by with_unfolding_all rfl)) (mss_one (ms_ret (me_B (b_reprA C.sm hgd (unH64 hr)) rfl C.n_repr boot_repr (ma_cons (me_hfld C.xf_place P (me_var 0)) ma_nil)))) mss_nil)
    (mss_one (ms_ret (me_if (mt_cmp (o_in (unH65 hr)) (me_var 1) (me_lst (ma_cons me_str (ma_cons me_str (ma_cons me_str ma_nil)))) (by with_unfolding_all rfl)) (me_B (b_reprA C.sm hgd (unH64 hr)) rfl C.n_repr boot_repr (ma_cons (me_hfld C.xf_index P (me_var 0)) ma_nil)) (me_B (b_reprA C.sm hgd (unH64 hr)) rfl C.n_repr boot_repr (ma_cons (me_hfld C.xf_given P (me_var 0)) ma_nil)))))))))
theorem ok__lwp_attribute (C : Fc w K mg) (B : Lams base K mg) : HmH P w K mg base 1 "_law_attribute" ["_law_e", "_law_word_here"] (fun a d c => f__lwp_attribute a d c) := by
  obtain ⟨fd, F⟩ := C.d__lwp_attribute
  exact ⟨⟨fd, go__lwp_attribute C B F, F.bindsN fun _ _ _ _ _ _ us hl => match us, hl with | [_, _], _ => rfl⟩, F.kp, C.g__lwp_attribute⟩
theorem tfs__lwp_told_InvalidText (a : Addr) (d : Option Addr) (x : Dt) (h h2 : Ah) (r : Dt) (q : bReprA [x] h = .ok r h2) : su__lwp_told a d "InvalidText" (slotE 4 2 (.hot a d "InvalidText" ["given"] [x])) h = .ok (.rt (.tup [.str "InvalidText", r])) h2 := by
  have hs : f__lwp_sort a d "InvalidText" [.hot a d "InvalidText" ["given"] [x]] h = .ok (.str "InvalidText") h := ev_fn (n := 5) (m1 := m__lwp_sort a d "InvalidText") (ev_seqN (env' := [some (.hot a d "InvalidText" ["given"] [x]), some (.lv [.str "InvalidText", .str "InvalidNumber", .str "InvalidName", .str "InvalidIndex", .str "InvalidClaim", .str "InvalidCell", .str "InvalidBar"]), none, none, none]) (h' := h) (by kernel_rfl) (ev_seqN (env' := [some (.hot a d "InvalidText" ["given"] [x]), some (.lv [.str "InvalidText", .str "InvalidNumber", .str "InvalidName", .str "InvalidIndex", .str "InvalidClaim", .str "InvalidCell", .str "InvalidBar", .str "UnknownName", .str "NotALine", .str "NotABoard", .str "InvalidBars", .str "InvalidCells", .str "NotClosed", .str "Touches"]), none, none, none]) (h' := h) (by kernel_rfl) (ev_seqN (env' := [some (.hot a d "InvalidText" ["given"] [x]), some (.lv [.str "InvalidText", .str "InvalidNumber", .str "InvalidName", .str "InvalidIndex", .str "InvalidClaim", .str "InvalidCell", .str "InvalidBar", .str "UnknownName", .str "NotALine", .str "NotABoard", .str "InvalidBars", .str "InvalidCells", .str "NotClosed", .str "Touches", .str "NotTurned", .str "NotFacing", .str "NotOneRim", .str "TooMany", .str "Broken", .str "InUse", .str "NothingToUndo"]), none, none, none]) (h' := h) (by kernel_rfl) (ev_seqN (env' := [some (.hot a d "InvalidText" ["given"] [x]), some (.lv [.str "InvalidText", .str "InvalidNumber", .str "InvalidName", .str "InvalidIndex", .str "InvalidClaim", .str "InvalidCell", .str "InvalidBar", .str "UnknownName", .str "NotALine", .str "NotABoard", .str "InvalidBars", .str "InvalidCells", .str "NotClosed", .str "Touches", .str "NotTurned", .str "NotFacing", .str "NotOneRim", .str "TooMany", .str "Broken", .str "InUse", .str "NothingToUndo"]), some (.lv [.bl true, .bl false, .bl false]), none, none]) (h' := h) (ev_sto (ev_lst (h1 := h) (ev_arg (h' := h) (ev_bi (h' := h) rfl (isH_at (l := ["InvalidText", "WrongValue"]) (r := true) (by decide +kernel) (by decide +kernel) (by decide +kernel))) (ev_arg (h' := h) (ev_bi (h' := h) rfl (isH_at (l := ["InvalidText", "WrongValue"]) (r := false) (by decide +kernel) (by decide +kernel) (by decide +kernel))) (ev_arg (h' := h) (ev_bi (h' := h) rfl (isH_at (l := ["InvalidText", "WrongValue"]) (r := false) (by decide +kernel) (by decide +kernel) (by decide +kernel))) (rfl)))) (by decide))) (ev_seqN (env' := [some (.hot a d "InvalidText" ["given"] [x]), some (.lv [.str "InvalidText", .str "InvalidNumber", .str "InvalidName", .str "InvalidIndex", .str "InvalidClaim", .str "InvalidCell", .str "InvalidBar", .str "UnknownName", .str "NotALine", .str "NotABoard", .str "InvalidBars", .str "InvalidCells", .str "NotClosed", .str "Touches", .str "NotTurned", .str "NotFacing", .str "NotOneRim", .str "TooMany", .str "Broken", .str "InUse", .str "NothingToUndo"]), some (.lv [.bl true, .bl false, .bl false, .bl false, .bl false, .bl false]), none, none]) (h' := h) (ev_sto (ev_op2 (h1 := h) (h2 := h) rfl (ev_lst (h1 := h) (ev_arg (h' := h) (ev_bi (h' := h) rfl (isH_at (l := ["InvalidText", "WrongValue"]) (r := false) (by decide +kernel) (by decide +kernel) (by decide +kernel))) (ev_arg (h' := h) (ev_bi (h' := h) rfl (isH_at (l := ["InvalidText", "WrongValue"]) (r := false) (by decide +kernel) (by decide +kernel) (by decide +kernel))) (ev_arg (h' := h) (ev_bi (h' := h) rfl (isH_at (l := ["InvalidText", "WrongValue"]) (r := false) (by decide +kernel) (by decide +kernel) (by decide +kernel))) (rfl)))) (by decide)) rfl)) (ev_seqN (env' := [some (.hot a d "InvalidText" ["given"] [x]), some (.lv [.str "InvalidText", .str "InvalidNumber", .str "InvalidName", .str "InvalidIndex", .str "InvalidClaim", .str "InvalidCell", .str "InvalidBar", .str "UnknownName", .str "NotALine", .str "NotABoard", .str "InvalidBars", .str "InvalidCells", .str "NotClosed", .str "Touches", .str "NotTurned", .str "NotFacing", .str "NotOneRim", .str "TooMany", .str "Broken", .str "InUse", .str "NothingToUndo"]), some (.lv [.bl true, .bl false, .bl false, .bl false, .bl false, .bl false, .bl false, .bl false, .bl false]), none, none]) (h' := h) (ev_sto (ev_op2 (h1 := h) (h2 := h) rfl (ev_lst (h1 := h) (ev_arg (h' := h) (ev_bi (h' := h) rfl (isH_at (l := ["InvalidText", "WrongValue"]) (r := false) (by decide +kernel) (by decide +kernel) (by decide +kernel))) (ev_arg (h' := h) (ev_bi (h' := h) rfl (isH_at (l := ["InvalidText", "WrongValue"]) (r := false) (by decide +kernel) (by decide +kernel) (by decide +kernel))) (ev_arg (h' := h) (ev_bi (h' := h) rfl (isH_at (l := ["InvalidText", "WrongValue"]) (r := false) (by decide +kernel) (by decide +kernel) (by decide +kernel))) (rfl)))) (by decide)) rfl)) (ev_seqN (env' := [some (.hot a d "InvalidText" ["given"] [x]), some (.lv [.str "InvalidText", .str "InvalidNumber", .str "InvalidName", .str "InvalidIndex", .str "InvalidClaim", .str "InvalidCell", .str "InvalidBar", .str "UnknownName", .str "NotALine", .str "NotABoard", .str "InvalidBars", .str "InvalidCells", .str "NotClosed", .str "Touches", .str "NotTurned", .str "NotFacing", .str "NotOneRim", .str "TooMany", .str "Broken", .str "InUse", .str "NothingToUndo"]), some (.lv [.bl true, .bl false, .bl false, .bl false, .bl false, .bl false, .bl false, .bl false, .bl false, .bl false, .bl false, .bl false]), none, none]) (h' := h) (ev_sto (ev_op2 (h1 := h) (h2 := h) rfl (ev_lst (h1 := h) (ev_arg (h' := h) (ev_bi (h' := h) rfl (isH_at (l := ["InvalidText", "WrongValue"]) (r := false) (by decide +kernel) (by decide +kernel) (by decide +kernel))) (ev_arg (h' := h) (ev_bi (h' := h) rfl (isH_at (l := ["InvalidText", "WrongValue"]) (r := false) (by decide +kernel) (by decide +kernel) (by decide +kernel))) (ev_arg (h' := h) (ev_bi (h' := h) rfl (isH_at (l := ["InvalidText", "WrongValue"]) (r := false) (by decide +kernel) (by decide +kernel) (by decide +kernel))) (rfl)))) (by decide)) rfl)) (ev_seqN (env' := [some (.hot a d "InvalidText" ["given"] [x]), some (.lv [.str "InvalidText", .str "InvalidNumber", .str "InvalidName", .str "InvalidIndex", .str "InvalidClaim", .str "InvalidCell", .str "InvalidBar", .str "UnknownName", .str "NotALine", .str "NotABoard", .str "InvalidBars", .str "InvalidCells", .str "NotClosed", .str "Touches", .str "NotTurned", .str "NotFacing", .str "NotOneRim", .str "TooMany", .str "Broken", .str "InUse", .str "NothingToUndo"]), some (.lv [.bl true, .bl false, .bl false, .bl false, .bl false, .bl false, .bl false, .bl false, .bl false, .bl false, .bl false, .bl false, .bl false, .bl false, .bl false]), none, none]) (h' := h) (ev_sto (ev_op2 (h1 := h) (h2 := h) rfl (ev_lst (h1 := h) (ev_arg (h' := h) (ev_bi (h' := h) rfl (isH_at (l := ["InvalidText", "WrongValue"]) (r := false) (by decide +kernel) (by decide +kernel) (by decide +kernel))) (ev_arg (h' := h) (ev_bi (h' := h) rfl (isH_at (l := ["InvalidText", "WrongValue"]) (r := false) (by decide +kernel) (by decide +kernel) (by decide +kernel))) (ev_arg (h' := h) (ev_bi (h' := h) rfl (isH_at (l := ["InvalidText", "WrongValue"]) (r := false) (by decide +kernel) (by decide +kernel) (by decide +kernel))) (rfl)))) (by decide)) rfl)) (ev_seqN (env' := [some (.hot a d "InvalidText" ["given"] [x]), some (.lv [.str "InvalidText", .str "InvalidNumber", .str "InvalidName", .str "InvalidIndex", .str "InvalidClaim", .str "InvalidCell", .str "InvalidBar", .str "UnknownName", .str "NotALine", .str "NotABoard", .str "InvalidBars", .str "InvalidCells", .str "NotClosed", .str "Touches", .str "NotTurned", .str "NotFacing", .str "NotOneRim", .str "TooMany", .str "Broken", .str "InUse", .str "NothingToUndo"]), some (.lv [.bl true, .bl false, .bl false, .bl false, .bl false, .bl false, .bl false, .bl false, .bl false, .bl false, .bl false, .bl false, .bl false, .bl false, .bl false, .bl false, .bl false, .bl false]), none, none]) (h' := h) (ev_sto (ev_op2 (h1 := h) (h2 := h) rfl (ev_lst (h1 := h) (ev_arg (h' := h) (ev_bi (h' := h) rfl (isH_at (l := ["InvalidText", "WrongValue"]) (r := false) (by decide +kernel) (by decide +kernel) (by decide +kernel))) (ev_arg (h' := h) (ev_bi (h' := h) rfl (isH_at (l := ["InvalidText", "WrongValue"]) (r := false) (by decide +kernel) (by decide +kernel) (by decide +kernel))) (ev_arg (h' := h) (ev_bi (h' := h) rfl (isH_at (l := ["InvalidText", "WrongValue"]) (r := false) (by decide +kernel) (by decide +kernel) (by decide +kernel))) (rfl)))) (by decide)) rfl)) (ev_seqN (env' := [some (.hot a d "InvalidText" ["given"] [x]), some (.lv [.str "InvalidText", .str "InvalidNumber", .str "InvalidName", .str "InvalidIndex", .str "InvalidClaim", .str "InvalidCell", .str "InvalidBar", .str "UnknownName", .str "NotALine", .str "NotABoard", .str "InvalidBars", .str "InvalidCells", .str "NotClosed", .str "Touches", .str "NotTurned", .str "NotFacing", .str "NotOneRim", .str "TooMany", .str "Broken", .str "InUse", .str "NothingToUndo"]), some (.lv [.bl true, .bl false, .bl false, .bl false, .bl false, .bl false, .bl false, .bl false, .bl false, .bl false, .bl false, .bl false, .bl false, .bl false, .bl false, .bl false, .bl false, .bl false, .bl false, .bl false, .bl false]), none, none]) (h' := h) (ev_sto (ev_op2 (h1 := h) (h2 := h) rfl (ev_lst (h1 := h) (ev_arg (h' := h) (ev_bi (h' := h) rfl (isH_at (l := ["InvalidText", "WrongValue"]) (r := false) (by decide +kernel) (by decide +kernel) (by decide +kernel))) (ev_arg (h' := h) (ev_bi (h' := h) rfl (isH_at (l := ["InvalidText", "WrongValue"]) (r := false) (by decide +kernel) (by decide +kernel) (by decide +kernel))) (ev_arg (h' := h) (ev_bi (h' := h) rfl (isH_at (l := ["InvalidText", "WrongValue"]) (r := false) (by decide +kernel) (by decide +kernel) (by decide +kernel))) (rfl)))) (by decide)) rfl)) (ev_seqN (env' := [some (.hot a d "InvalidText" ["given"] [x]), some (.lv [.str "InvalidText", .str "InvalidNumber", .str "InvalidName", .str "InvalidIndex", .str "InvalidClaim", .str "InvalidCell", .str "InvalidBar", .str "UnknownName", .str "NotALine", .str "NotABoard", .str "InvalidBars", .str "InvalidCells", .str "NotClosed", .str "Touches", .str "NotTurned", .str "NotFacing", .str "NotOneRim", .str "TooMany", .str "Broken", .str "InUse", .str "NothingToUndo"]), some (.lv [.bl true, .bl false, .bl false, .bl false, .bl false, .bl false, .bl false, .bl false, .bl false, .bl false, .bl false, .bl false, .bl false, .bl false, .bl false, .bl false, .bl false, .bl false, .bl false, .bl false, .bl false]), some (.lv [.bl true, .bl false]), none]) (h' := h) (ev_sto (ev_lst (h1 := h) (ev_arg (h' := h) (ev_bi (h' := h) rfl (isH_at (l := ["InvalidText", "WrongValue"]) (r := true) (by decide +kernel) (by decide +kernel) (by decide +kernel))) (ev_arg (h' := h) (ev_bi (h' := h) rfl (isH_at (l := ["InvalidText", "WrongValue"]) (r := false) (by decide +kernel) (by decide +kernel) (by decide +kernel))) (rfl))) (by decide))) (ev_seqN (env' := [some (.hot a d "InvalidText" ["given"] [x]), some (.lv [.str "InvalidText", .str "InvalidNumber", .str "InvalidName", .str "InvalidIndex", .str "InvalidClaim", .str "InvalidCell", .str "InvalidBar", .str "UnknownName", .str "NotALine", .str "NotABoard", .str "InvalidBars", .str "InvalidCells", .str "NotClosed", .str "Touches", .str "NotTurned", .str "NotFacing", .str "NotOneRim", .str "TooMany", .str "Broken", .str "InUse", .str "NothingToUndo"]), some (.lv [.bl true, .bl false, .bl false, .bl false, .bl false, .bl false, .bl false, .bl false, .bl false, .bl false, .bl false, .bl false, .bl false, .bl false, .bl false, .bl false, .bl false, .bl false, .bl false, .bl false, .bl false]), some (.lv [.bl true, .bl false]), none]) (h' := h) (by kernel_rfl) (ev_seqN (env' := [some (.hot a d "InvalidText" ["given"] [x]), some (.lv [.str "InvalidText", .str "InvalidNumber", .str "InvalidName", .str "InvalidIndex", .str "InvalidClaim", .str "InvalidCell", .str "InvalidBar", .str "UnknownName", .str "NotALine", .str "NotABoard", .str "InvalidBars", .str "InvalidCells", .str "NotClosed", .str "Touches", .str "NotTurned", .str "NotFacing", .str "NotOneRim", .str "TooMany", .str "Broken", .str "InUse", .str "NothingToUndo"]), some (.lv [.bl true, .bl false, .bl false, .bl false, .bl false, .bl false, .bl false, .bl false, .bl false, .bl false, .bl false, .bl false, .bl false, .bl false, .bl false, .bl false, .bl false, .bl false, .bl false, .bl false, .bl false]), some (.lv [.bl true, .bl false]), some (.int 0)]) (h' := h) (by kernel_rfl) (by kernel_rfl))))))))))))))
  have ht : f__lwp_attribute a d "InvalidText" [.hot a d "InvalidText" ["given"] [x], .str "InvalidText"] h = .ok (r) h2 := ev_fn (n := 2) (m1 := m__lwp_attribute a d "InvalidText") (ev_seqN (env' := [some (.hot a d "InvalidText" ["given"] [x]), some (.str "InvalidText")]) (h' := h) (by kernel_rfl) (ev_seqN (env' := [some (.hot a d "InvalidText" ["given"] [x]), some (.str "InvalidText")]) (h' := h) (by kernel_rfl) (ev_seqN (env' := [some (.hot a d "InvalidText" ["given"] [x]), some (.str "InvalidText")]) (h' := h) (by kernel_rfl) (ev_seqN (env' := [some (.hot a d "InvalidText" ["given"] [x]), some (.str "InvalidText")]) (h' := h) (by kernel_rfl) (ev_ret (ev_iF (h' := h) (by kernel_rfl) (ev_bi (ev_arg (hfld_at (x := x) (by decide +kernel) rfl rfl) rfl) q)))))))
  exact ev_seqN (ev_sto (ev_call (ds := [.hot a d "InvalidText" ["given"] [x]]) (h' := h) rfl rfl hs)) (ev_ret (ev_tup (ev_arg (h' := h) rfl (ev_arg (ev_call (ds := [.hot a d "InvalidText" ["given"] [x], .str "InvalidText"]) (h' := h) rfl rfl ht) rfl)) (show 2 ≤ sizeLine by decide)))
theorem tfs__lwp_told_NotClosed (a : Addr) (d : Option Addr) (x : Dt) (h h2 : Ah) (r : Dt) (q : bReprA [x] h = .ok r h2) : su__lwp_told a d "NotClosed" (slotE 4 2 (.hot a d "NotClosed" ["place"] [x])) h = .ok (.rt (.tup [.str "NotClosed", r])) h2 := by
  have hs : f__lwp_sort a d "NotClosed" [.hot a d "NotClosed" ["place"] [x]] h = .ok (.str "NotClosed") h := ev_fn (n := 5) (m1 := m__lwp_sort a d "NotClosed") (ev_seqN (env' := [some (.hot a d "NotClosed" ["place"] [x]), some (.lv [.str "InvalidText", .str "InvalidNumber", .str "InvalidName", .str "InvalidIndex", .str "InvalidClaim", .str "InvalidCell", .str "InvalidBar"]), none, none, none]) (h' := h) (by kernel_rfl) (ev_seqN (env' := [some (.hot a d "NotClosed" ["place"] [x]), some (.lv [.str "InvalidText", .str "InvalidNumber", .str "InvalidName", .str "InvalidIndex", .str "InvalidClaim", .str "InvalidCell", .str "InvalidBar", .str "UnknownName", .str "NotALine", .str "NotABoard", .str "InvalidBars", .str "InvalidCells", .str "NotClosed", .str "Touches"]), none, none, none]) (h' := h) (by kernel_rfl) (ev_seqN (env' := [some (.hot a d "NotClosed" ["place"] [x]), some (.lv [.str "InvalidText", .str "InvalidNumber", .str "InvalidName", .str "InvalidIndex", .str "InvalidClaim", .str "InvalidCell", .str "InvalidBar", .str "UnknownName", .str "NotALine", .str "NotABoard", .str "InvalidBars", .str "InvalidCells", .str "NotClosed", .str "Touches", .str "NotTurned", .str "NotFacing", .str "NotOneRim", .str "TooMany", .str "Broken", .str "InUse", .str "NothingToUndo"]), none, none, none]) (h' := h) (by kernel_rfl) (ev_seqN (env' := [some (.hot a d "NotClosed" ["place"] [x]), some (.lv [.str "InvalidText", .str "InvalidNumber", .str "InvalidName", .str "InvalidIndex", .str "InvalidClaim", .str "InvalidCell", .str "InvalidBar", .str "UnknownName", .str "NotALine", .str "NotABoard", .str "InvalidBars", .str "InvalidCells", .str "NotClosed", .str "Touches", .str "NotTurned", .str "NotFacing", .str "NotOneRim", .str "TooMany", .str "Broken", .str "InUse", .str "NothingToUndo"]), some (.lv [.bl false, .bl false, .bl false]), none, none]) (h' := h) (ev_sto (ev_lst (h1 := h) (ev_arg (h' := h) (ev_bi (h' := h) rfl (isH_at (l := ["NotClosed", "NoAnswer"]) (r := false) (by decide +kernel) (by decide +kernel) (by decide +kernel))) (ev_arg (h' := h) (ev_bi (h' := h) rfl (isH_at (l := ["NotClosed", "NoAnswer"]) (r := false) (by decide +kernel) (by decide +kernel) (by decide +kernel))) (ev_arg (h' := h) (ev_bi (h' := h) rfl (isH_at (l := ["NotClosed", "NoAnswer"]) (r := false) (by decide +kernel) (by decide +kernel) (by decide +kernel))) (rfl)))) (by decide))) (ev_seqN (env' := [some (.hot a d "NotClosed" ["place"] [x]), some (.lv [.str "InvalidText", .str "InvalidNumber", .str "InvalidName", .str "InvalidIndex", .str "InvalidClaim", .str "InvalidCell", .str "InvalidBar", .str "UnknownName", .str "NotALine", .str "NotABoard", .str "InvalidBars", .str "InvalidCells", .str "NotClosed", .str "Touches", .str "NotTurned", .str "NotFacing", .str "NotOneRim", .str "TooMany", .str "Broken", .str "InUse", .str "NothingToUndo"]), some (.lv [.bl false, .bl false, .bl false, .bl false, .bl false, .bl false]), none, none]) (h' := h) (ev_sto (ev_op2 (h1 := h) (h2 := h) rfl (ev_lst (h1 := h) (ev_arg (h' := h) (ev_bi (h' := h) rfl (isH_at (l := ["NotClosed", "NoAnswer"]) (r := false) (by decide +kernel) (by decide +kernel) (by decide +kernel))) (ev_arg (h' := h) (ev_bi (h' := h) rfl (isH_at (l := ["NotClosed", "NoAnswer"]) (r := false) (by decide +kernel) (by decide +kernel) (by decide +kernel))) (ev_arg (h' := h) (ev_bi (h' := h) rfl (isH_at (l := ["NotClosed", "NoAnswer"]) (r := false) (by decide +kernel) (by decide +kernel) (by decide +kernel))) (rfl)))) (by decide)) rfl)) (ev_seqN (env' := [some (.hot a d "NotClosed" ["place"] [x]), some (.lv [.str "InvalidText", .str "InvalidNumber", .str "InvalidName", .str "InvalidIndex", .str "InvalidClaim", .str "InvalidCell", .str "InvalidBar", .str "UnknownName", .str "NotALine", .str "NotABoard", .str "InvalidBars", .str "InvalidCells", .str "NotClosed", .str "Touches", .str "NotTurned", .str "NotFacing", .str "NotOneRim", .str "TooMany", .str "Broken", .str "InUse", .str "NothingToUndo"]), some (.lv [.bl false, .bl false, .bl false, .bl false, .bl false, .bl false, .bl false, .bl false, .bl false]), none, none]) (h' := h) (ev_sto (ev_op2 (h1 := h) (h2 := h) rfl (ev_lst (h1 := h) (ev_arg (h' := h) (ev_bi (h' := h) rfl (isH_at (l := ["NotClosed", "NoAnswer"]) (r := false) (by decide +kernel) (by decide +kernel) (by decide +kernel))) (ev_arg (h' := h) (ev_bi (h' := h) rfl (isH_at (l := ["NotClosed", "NoAnswer"]) (r := false) (by decide +kernel) (by decide +kernel) (by decide +kernel))) (ev_arg (h' := h) (ev_bi (h' := h) rfl (isH_at (l := ["NotClosed", "NoAnswer"]) (r := false) (by decide +kernel) (by decide +kernel) (by decide +kernel))) (rfl)))) (by decide)) rfl)) (ev_seqN (env' := [some (.hot a d "NotClosed" ["place"] [x]), some (.lv [.str "InvalidText", .str "InvalidNumber", .str "InvalidName", .str "InvalidIndex", .str "InvalidClaim", .str "InvalidCell", .str "InvalidBar", .str "UnknownName", .str "NotALine", .str "NotABoard", .str "InvalidBars", .str "InvalidCells", .str "NotClosed", .str "Touches", .str "NotTurned", .str "NotFacing", .str "NotOneRim", .str "TooMany", .str "Broken", .str "InUse", .str "NothingToUndo"]), some (.lv [.bl false, .bl false, .bl false, .bl false, .bl false, .bl false, .bl false, .bl false, .bl false, .bl false, .bl false, .bl false]), none, none]) (h' := h) (ev_sto (ev_op2 (h1 := h) (h2 := h) rfl (ev_lst (h1 := h) (ev_arg (h' := h) (ev_bi (h' := h) rfl (isH_at (l := ["NotClosed", "NoAnswer"]) (r := false) (by decide +kernel) (by decide +kernel) (by decide +kernel))) (ev_arg (h' := h) (ev_bi (h' := h) rfl (isH_at (l := ["NotClosed", "NoAnswer"]) (r := false) (by decide +kernel) (by decide +kernel) (by decide +kernel))) (ev_arg (h' := h) (ev_bi (h' := h) rfl (isH_at (l := ["NotClosed", "NoAnswer"]) (r := false) (by decide +kernel) (by decide +kernel) (by decide +kernel))) (rfl)))) (by decide)) rfl)) (ev_seqN (env' := [some (.hot a d "NotClosed" ["place"] [x]), some (.lv [.str "InvalidText", .str "InvalidNumber", .str "InvalidName", .str "InvalidIndex", .str "InvalidClaim", .str "InvalidCell", .str "InvalidBar", .str "UnknownName", .str "NotALine", .str "NotABoard", .str "InvalidBars", .str "InvalidCells", .str "NotClosed", .str "Touches", .str "NotTurned", .str "NotFacing", .str "NotOneRim", .str "TooMany", .str "Broken", .str "InUse", .str "NothingToUndo"]), some (.lv [.bl false, .bl false, .bl false, .bl false, .bl false, .bl false, .bl false, .bl false, .bl false, .bl false, .bl false, .bl false, .bl true, .bl false, .bl false]), none, none]) (h' := h) (ev_sto (ev_op2 (h1 := h) (h2 := h) rfl (ev_lst (h1 := h) (ev_arg (h' := h) (ev_bi (h' := h) rfl (isH_at (l := ["NotClosed", "NoAnswer"]) (r := true) (by decide +kernel) (by decide +kernel) (by decide +kernel))) (ev_arg (h' := h) (ev_bi (h' := h) rfl (isH_at (l := ["NotClosed", "NoAnswer"]) (r := false) (by decide +kernel) (by decide +kernel) (by decide +kernel))) (ev_arg (h' := h) (ev_bi (h' := h) rfl (isH_at (l := ["NotClosed", "NoAnswer"]) (r := false) (by decide +kernel) (by decide +kernel) (by decide +kernel))) (rfl)))) (by decide)) rfl)) (ev_seqN (env' := [some (.hot a d "NotClosed" ["place"] [x]), some (.lv [.str "InvalidText", .str "InvalidNumber", .str "InvalidName", .str "InvalidIndex", .str "InvalidClaim", .str "InvalidCell", .str "InvalidBar", .str "UnknownName", .str "NotALine", .str "NotABoard", .str "InvalidBars", .str "InvalidCells", .str "NotClosed", .str "Touches", .str "NotTurned", .str "NotFacing", .str "NotOneRim", .str "TooMany", .str "Broken", .str "InUse", .str "NothingToUndo"]), some (.lv [.bl false, .bl false, .bl false, .bl false, .bl false, .bl false, .bl false, .bl false, .bl false, .bl false, .bl false, .bl false, .bl true, .bl false, .bl false, .bl false, .bl false, .bl false]), none, none]) (h' := h) (ev_sto (ev_op2 (h1 := h) (h2 := h) rfl (ev_lst (h1 := h) (ev_arg (h' := h) (ev_bi (h' := h) rfl (isH_at (l := ["NotClosed", "NoAnswer"]) (r := false) (by decide +kernel) (by decide +kernel) (by decide +kernel))) (ev_arg (h' := h) (ev_bi (h' := h) rfl (isH_at (l := ["NotClosed", "NoAnswer"]) (r := false) (by decide +kernel) (by decide +kernel) (by decide +kernel))) (ev_arg (h' := h) (ev_bi (h' := h) rfl (isH_at (l := ["NotClosed", "NoAnswer"]) (r := false) (by decide +kernel) (by decide +kernel) (by decide +kernel))) (rfl)))) (by decide)) rfl)) (ev_seqN (env' := [some (.hot a d "NotClosed" ["place"] [x]), some (.lv [.str "InvalidText", .str "InvalidNumber", .str "InvalidName", .str "InvalidIndex", .str "InvalidClaim", .str "InvalidCell", .str "InvalidBar", .str "UnknownName", .str "NotALine", .str "NotABoard", .str "InvalidBars", .str "InvalidCells", .str "NotClosed", .str "Touches", .str "NotTurned", .str "NotFacing", .str "NotOneRim", .str "TooMany", .str "Broken", .str "InUse", .str "NothingToUndo"]), some (.lv [.bl false, .bl false, .bl false, .bl false, .bl false, .bl false, .bl false, .bl false, .bl false, .bl false, .bl false, .bl false, .bl true, .bl false, .bl false, .bl false, .bl false, .bl false, .bl false, .bl false, .bl false]), none, none]) (h' := h) (ev_sto (ev_op2 (h1 := h) (h2 := h) rfl (ev_lst (h1 := h) (ev_arg (h' := h) (ev_bi (h' := h) rfl (isH_at (l := ["NotClosed", "NoAnswer"]) (r := false) (by decide +kernel) (by decide +kernel) (by decide +kernel))) (ev_arg (h' := h) (ev_bi (h' := h) rfl (isH_at (l := ["NotClosed", "NoAnswer"]) (r := false) (by decide +kernel) (by decide +kernel) (by decide +kernel))) (ev_arg (h' := h) (ev_bi (h' := h) rfl (isH_at (l := ["NotClosed", "NoAnswer"]) (r := false) (by decide +kernel) (by decide +kernel) (by decide +kernel))) (rfl)))) (by decide)) rfl)) (ev_seqN (env' := [some (.hot a d "NotClosed" ["place"] [x]), some (.lv [.str "InvalidText", .str "InvalidNumber", .str "InvalidName", .str "InvalidIndex", .str "InvalidClaim", .str "InvalidCell", .str "InvalidBar", .str "UnknownName", .str "NotALine", .str "NotABoard", .str "InvalidBars", .str "InvalidCells", .str "NotClosed", .str "Touches", .str "NotTurned", .str "NotFacing", .str "NotOneRim", .str "TooMany", .str "Broken", .str "InUse", .str "NothingToUndo"]), some (.lv [.bl false, .bl false, .bl false, .bl false, .bl false, .bl false, .bl false, .bl false, .bl false, .bl false, .bl false, .bl false, .bl true, .bl false, .bl false, .bl false, .bl false, .bl false, .bl false, .bl false, .bl false]), some (.lv [.bl false, .bl true]), none]) (h' := h) (ev_sto (ev_lst (h1 := h) (ev_arg (h' := h) (ev_bi (h' := h) rfl (isH_at (l := ["NotClosed", "NoAnswer"]) (r := false) (by decide +kernel) (by decide +kernel) (by decide +kernel))) (ev_arg (h' := h) (ev_bi (h' := h) rfl (isH_at (l := ["NotClosed", "NoAnswer"]) (r := true) (by decide +kernel) (by decide +kernel) (by decide +kernel))) (rfl))) (by decide))) (ev_seqN (env' := [some (.hot a d "NotClosed" ["place"] [x]), some (.lv [.str "InvalidText", .str "InvalidNumber", .str "InvalidName", .str "InvalidIndex", .str "InvalidClaim", .str "InvalidCell", .str "InvalidBar", .str "UnknownName", .str "NotALine", .str "NotABoard", .str "InvalidBars", .str "InvalidCells", .str "NotClosed", .str "Touches", .str "NotTurned", .str "NotFacing", .str "NotOneRim", .str "TooMany", .str "Broken", .str "InUse", .str "NothingToUndo"]), some (.lv [.bl false, .bl false, .bl false, .bl false, .bl false, .bl false, .bl false, .bl false, .bl false, .bl false, .bl false, .bl false, .bl true, .bl false, .bl false, .bl false, .bl false, .bl false, .bl false, .bl false, .bl false]), some (.lv [.bl false, .bl true]), none]) (h' := h) (by kernel_rfl) (ev_seqN (env' := [some (.hot a d "NotClosed" ["place"] [x]), some (.lv [.str "InvalidText", .str "InvalidNumber", .str "InvalidName", .str "InvalidIndex", .str "InvalidClaim", .str "InvalidCell", .str "InvalidBar", .str "UnknownName", .str "NotALine", .str "NotABoard", .str "InvalidBars", .str "InvalidCells", .str "NotClosed", .str "Touches", .str "NotTurned", .str "NotFacing", .str "NotOneRim", .str "TooMany", .str "Broken", .str "InUse", .str "NothingToUndo"]), some (.lv [.bl false, .bl false, .bl false, .bl false, .bl false, .bl false, .bl false, .bl false, .bl false, .bl false, .bl false, .bl false, .bl true, .bl false, .bl false, .bl false, .bl false, .bl false, .bl false, .bl false, .bl false]), some (.lv [.bl false, .bl true]), some (.int 12)]) (h' := h) (by kernel_rfl) (by kernel_rfl))))))))))))))
  have ht : f__lwp_attribute a d "NotClosed" [.hot a d "NotClosed" ["place"] [x], .str "NotClosed"] h = .ok (r) h2 := ev_fn (n := 2) (m1 := m__lwp_attribute a d "NotClosed") (ev_seqN (env' := [some (.hot a d "NotClosed" ["place"] [x]), some (.str "NotClosed")]) (h' := h) (by kernel_rfl) (ev_seqN (env' := [some (.hot a d "NotClosed" ["place"] [x]), some (.str "NotClosed")]) (h' := h) (by kernel_rfl) (ev_seqN (env' := [some (.hot a d "NotClosed" ["place"] [x]), some (.str "NotClosed")]) (h' := h) (by kernel_rfl) (ev_seqR (ev_ifT (h' := h) (by kernel_rfl) (ev_ret (ev_bi (ev_arg (hfld_at (x := x) (by decide +kernel) rfl rfl) rfl) q)))))))
  exact ev_seqN (ev_sto (ev_call (ds := [.hot a d "NotClosed" ["place"] [x]]) (h' := h) rfl rfl hs)) (ev_ret (ev_tup (ev_arg (h' := h) rfl (ev_arg (ev_call (ds := [.hot a d "NotClosed" ["place"] [x], .str "NotClosed"]) (h' := h) rfl rfl ht) rfl)) (show 2 ≤ sizeLine by decide)))
theorem tfs__lwp_told_Touches (a : Addr) (d : Option Addr) (x : Dt) (h h2 : Ah) (r : Dt) (q : bReprA [x] h = .ok r h2) : su__lwp_told a d "Touches" (slotE 4 2 (.hot a d "Touches" ["place"] [x])) h = .ok (.rt (.tup [.str "Touches", r])) h2 := by
  have hs : f__lwp_sort a d "Touches" [.hot a d "Touches" ["place"] [x]] h = .ok (.str "Touches") h := ev_fn (n := 5) (m1 := m__lwp_sort a d "Touches") (ev_seqN (env' := [some (.hot a d "Touches" ["place"] [x]), some (.lv [.str "InvalidText", .str "InvalidNumber", .str "InvalidName", .str "InvalidIndex", .str "InvalidClaim", .str "InvalidCell", .str "InvalidBar"]), none, none, none]) (h' := h) (by kernel_rfl) (ev_seqN (env' := [some (.hot a d "Touches" ["place"] [x]), some (.lv [.str "InvalidText", .str "InvalidNumber", .str "InvalidName", .str "InvalidIndex", .str "InvalidClaim", .str "InvalidCell", .str "InvalidBar", .str "UnknownName", .str "NotALine", .str "NotABoard", .str "InvalidBars", .str "InvalidCells", .str "NotClosed", .str "Touches"]), none, none, none]) (h' := h) (by kernel_rfl) (ev_seqN (env' := [some (.hot a d "Touches" ["place"] [x]), some (.lv [.str "InvalidText", .str "InvalidNumber", .str "InvalidName", .str "InvalidIndex", .str "InvalidClaim", .str "InvalidCell", .str "InvalidBar", .str "UnknownName", .str "NotALine", .str "NotABoard", .str "InvalidBars", .str "InvalidCells", .str "NotClosed", .str "Touches", .str "NotTurned", .str "NotFacing", .str "NotOneRim", .str "TooMany", .str "Broken", .str "InUse", .str "NothingToUndo"]), none, none, none]) (h' := h) (by kernel_rfl) (ev_seqN (env' := [some (.hot a d "Touches" ["place"] [x]), some (.lv [.str "InvalidText", .str "InvalidNumber", .str "InvalidName", .str "InvalidIndex", .str "InvalidClaim", .str "InvalidCell", .str "InvalidBar", .str "UnknownName", .str "NotALine", .str "NotABoard", .str "InvalidBars", .str "InvalidCells", .str "NotClosed", .str "Touches", .str "NotTurned", .str "NotFacing", .str "NotOneRim", .str "TooMany", .str "Broken", .str "InUse", .str "NothingToUndo"]), some (.lv [.bl false, .bl false, .bl false]), none, none]) (h' := h) (ev_sto (ev_lst (h1 := h) (ev_arg (h' := h) (ev_bi (h' := h) rfl (isH_at (l := ["Touches", "NoAnswer"]) (r := false) (by decide +kernel) (by decide +kernel) (by decide +kernel))) (ev_arg (h' := h) (ev_bi (h' := h) rfl (isH_at (l := ["Touches", "NoAnswer"]) (r := false) (by decide +kernel) (by decide +kernel) (by decide +kernel))) (ev_arg (h' := h) (ev_bi (h' := h) rfl (isH_at (l := ["Touches", "NoAnswer"]) (r := false) (by decide +kernel) (by decide +kernel) (by decide +kernel))) (rfl)))) (by decide))) (ev_seqN (env' := [some (.hot a d "Touches" ["place"] [x]), some (.lv [.str "InvalidText", .str "InvalidNumber", .str "InvalidName", .str "InvalidIndex", .str "InvalidClaim", .str "InvalidCell", .str "InvalidBar", .str "UnknownName", .str "NotALine", .str "NotABoard", .str "InvalidBars", .str "InvalidCells", .str "NotClosed", .str "Touches", .str "NotTurned", .str "NotFacing", .str "NotOneRim", .str "TooMany", .str "Broken", .str "InUse", .str "NothingToUndo"]), some (.lv [.bl false, .bl false, .bl false, .bl false, .bl false, .bl false]), none, none]) (h' := h) (ev_sto (ev_op2 (h1 := h) (h2 := h) rfl (ev_lst (h1 := h) (ev_arg (h' := h) (ev_bi (h' := h) rfl (isH_at (l := ["Touches", "NoAnswer"]) (r := false) (by decide +kernel) (by decide +kernel) (by decide +kernel))) (ev_arg (h' := h) (ev_bi (h' := h) rfl (isH_at (l := ["Touches", "NoAnswer"]) (r := false) (by decide +kernel) (by decide +kernel) (by decide +kernel))) (ev_arg (h' := h) (ev_bi (h' := h) rfl (isH_at (l := ["Touches", "NoAnswer"]) (r := false) (by decide +kernel) (by decide +kernel) (by decide +kernel))) (rfl)))) (by decide)) rfl)) (ev_seqN (env' := [some (.hot a d "Touches" ["place"] [x]), some (.lv [.str "InvalidText", .str "InvalidNumber", .str "InvalidName", .str "InvalidIndex", .str "InvalidClaim", .str "InvalidCell", .str "InvalidBar", .str "UnknownName", .str "NotALine", .str "NotABoard", .str "InvalidBars", .str "InvalidCells", .str "NotClosed", .str "Touches", .str "NotTurned", .str "NotFacing", .str "NotOneRim", .str "TooMany", .str "Broken", .str "InUse", .str "NothingToUndo"]), some (.lv [.bl false, .bl false, .bl false, .bl false, .bl false, .bl false, .bl false, .bl false, .bl false]), none, none]) (h' := h) (ev_sto (ev_op2 (h1 := h) (h2 := h) rfl (ev_lst (h1 := h) (ev_arg (h' := h) (ev_bi (h' := h) rfl (isH_at (l := ["Touches", "NoAnswer"]) (r := false) (by decide +kernel) (by decide +kernel) (by decide +kernel))) (ev_arg (h' := h) (ev_bi (h' := h) rfl (isH_at (l := ["Touches", "NoAnswer"]) (r := false) (by decide +kernel) (by decide +kernel) (by decide +kernel))) (ev_arg (h' := h) (ev_bi (h' := h) rfl (isH_at (l := ["Touches", "NoAnswer"]) (r := false) (by decide +kernel) (by decide +kernel) (by decide +kernel))) (rfl)))) (by decide)) rfl)) (ev_seqN (env' := [some (.hot a d "Touches" ["place"] [x]), some (.lv [.str "InvalidText", .str "InvalidNumber", .str "InvalidName", .str "InvalidIndex", .str "InvalidClaim", .str "InvalidCell", .str "InvalidBar", .str "UnknownName", .str "NotALine", .str "NotABoard", .str "InvalidBars", .str "InvalidCells", .str "NotClosed", .str "Touches", .str "NotTurned", .str "NotFacing", .str "NotOneRim", .str "TooMany", .str "Broken", .str "InUse", .str "NothingToUndo"]), some (.lv [.bl false, .bl false, .bl false, .bl false, .bl false, .bl false, .bl false, .bl false, .bl false, .bl false, .bl false, .bl false]), none, none]) (h' := h) (ev_sto (ev_op2 (h1 := h) (h2 := h) rfl (ev_lst (h1 := h) (ev_arg (h' := h) (ev_bi (h' := h) rfl (isH_at (l := ["Touches", "NoAnswer"]) (r := false) (by decide +kernel) (by decide +kernel) (by decide +kernel))) (ev_arg (h' := h) (ev_bi (h' := h) rfl (isH_at (l := ["Touches", "NoAnswer"]) (r := false) (by decide +kernel) (by decide +kernel) (by decide +kernel))) (ev_arg (h' := h) (ev_bi (h' := h) rfl (isH_at (l := ["Touches", "NoAnswer"]) (r := false) (by decide +kernel) (by decide +kernel) (by decide +kernel))) (rfl)))) (by decide)) rfl)) (ev_seqN (env' := [some (.hot a d "Touches" ["place"] [x]), some (.lv [.str "InvalidText", .str "InvalidNumber", .str "InvalidName", .str "InvalidIndex", .str "InvalidClaim", .str "InvalidCell", .str "InvalidBar", .str "UnknownName", .str "NotALine", .str "NotABoard", .str "InvalidBars", .str "InvalidCells", .str "NotClosed", .str "Touches", .str "NotTurned", .str "NotFacing", .str "NotOneRim", .str "TooMany", .str "Broken", .str "InUse", .str "NothingToUndo"]), some (.lv [.bl false, .bl false, .bl false, .bl false, .bl false, .bl false, .bl false, .bl false, .bl false, .bl false, .bl false, .bl false, .bl false, .bl true, .bl false]), none, none]) (h' := h) (ev_sto (ev_op2 (h1 := h) (h2 := h) rfl (ev_lst (h1 := h) (ev_arg (h' := h) (ev_bi (h' := h) rfl (isH_at (l := ["Touches", "NoAnswer"]) (r := false) (by decide +kernel) (by decide +kernel) (by decide +kernel))) (ev_arg (h' := h) (ev_bi (h' := h) rfl (isH_at (l := ["Touches", "NoAnswer"]) (r := true) (by decide +kernel) (by decide +kernel) (by decide +kernel))) (ev_arg (h' := h) (ev_bi (h' := h) rfl (isH_at (l := ["Touches", "NoAnswer"]) (r := false) (by decide +kernel) (by decide +kernel) (by decide +kernel))) (rfl)))) (by decide)) rfl)) (ev_seqN (env' := [some (.hot a d "Touches" ["place"] [x]), some (.lv [.str "InvalidText", .str "InvalidNumber", .str "InvalidName", .str "InvalidIndex", .str "InvalidClaim", .str "InvalidCell", .str "InvalidBar", .str "UnknownName", .str "NotALine", .str "NotABoard", .str "InvalidBars", .str "InvalidCells", .str "NotClosed", .str "Touches", .str "NotTurned", .str "NotFacing", .str "NotOneRim", .str "TooMany", .str "Broken", .str "InUse", .str "NothingToUndo"]), some (.lv [.bl false, .bl false, .bl false, .bl false, .bl false, .bl false, .bl false, .bl false, .bl false, .bl false, .bl false, .bl false, .bl false, .bl true, .bl false, .bl false, .bl false, .bl false]), none, none]) (h' := h) (ev_sto (ev_op2 (h1 := h) (h2 := h) rfl (ev_lst (h1 := h) (ev_arg (h' := h) (ev_bi (h' := h) rfl (isH_at (l := ["Touches", "NoAnswer"]) (r := false) (by decide +kernel) (by decide +kernel) (by decide +kernel))) (ev_arg (h' := h) (ev_bi (h' := h) rfl (isH_at (l := ["Touches", "NoAnswer"]) (r := false) (by decide +kernel) (by decide +kernel) (by decide +kernel))) (ev_arg (h' := h) (ev_bi (h' := h) rfl (isH_at (l := ["Touches", "NoAnswer"]) (r := false) (by decide +kernel) (by decide +kernel) (by decide +kernel))) (rfl)))) (by decide)) rfl)) (ev_seqN (env' := [some (.hot a d "Touches" ["place"] [x]), some (.lv [.str "InvalidText", .str "InvalidNumber", .str "InvalidName", .str "InvalidIndex", .str "InvalidClaim", .str "InvalidCell", .str "InvalidBar", .str "UnknownName", .str "NotALine", .str "NotABoard", .str "InvalidBars", .str "InvalidCells", .str "NotClosed", .str "Touches", .str "NotTurned", .str "NotFacing", .str "NotOneRim", .str "TooMany", .str "Broken", .str "InUse", .str "NothingToUndo"]), some (.lv [.bl false, .bl false, .bl false, .bl false, .bl false, .bl false, .bl false, .bl false, .bl false, .bl false, .bl false, .bl false, .bl false, .bl true, .bl false, .bl false, .bl false, .bl false, .bl false, .bl false, .bl false]), none, none]) (h' := h) (ev_sto (ev_op2 (h1 := h) (h2 := h) rfl (ev_lst (h1 := h) (ev_arg (h' := h) (ev_bi (h' := h) rfl (isH_at (l := ["Touches", "NoAnswer"]) (r := false) (by decide +kernel) (by decide +kernel) (by decide +kernel))) (ev_arg (h' := h) (ev_bi (h' := h) rfl (isH_at (l := ["Touches", "NoAnswer"]) (r := false) (by decide +kernel) (by decide +kernel) (by decide +kernel))) (ev_arg (h' := h) (ev_bi (h' := h) rfl (isH_at (l := ["Touches", "NoAnswer"]) (r := false) (by decide +kernel) (by decide +kernel) (by decide +kernel))) (rfl)))) (by decide)) rfl)) (ev_seqN (env' := [some (.hot a d "Touches" ["place"] [x]), some (.lv [.str "InvalidText", .str "InvalidNumber", .str "InvalidName", .str "InvalidIndex", .str "InvalidClaim", .str "InvalidCell", .str "InvalidBar", .str "UnknownName", .str "NotALine", .str "NotABoard", .str "InvalidBars", .str "InvalidCells", .str "NotClosed", .str "Touches", .str "NotTurned", .str "NotFacing", .str "NotOneRim", .str "TooMany", .str "Broken", .str "InUse", .str "NothingToUndo"]), some (.lv [.bl false, .bl false, .bl false, .bl false, .bl false, .bl false, .bl false, .bl false, .bl false, .bl false, .bl false, .bl false, .bl false, .bl true, .bl false, .bl false, .bl false, .bl false, .bl false, .bl false, .bl false]), some (.lv [.bl false, .bl true]), none]) (h' := h) (ev_sto (ev_lst (h1 := h) (ev_arg (h' := h) (ev_bi (h' := h) rfl (isH_at (l := ["Touches", "NoAnswer"]) (r := false) (by decide +kernel) (by decide +kernel) (by decide +kernel))) (ev_arg (h' := h) (ev_bi (h' := h) rfl (isH_at (l := ["Touches", "NoAnswer"]) (r := true) (by decide +kernel) (by decide +kernel) (by decide +kernel))) (rfl))) (by decide))) (ev_seqN (env' := [some (.hot a d "Touches" ["place"] [x]), some (.lv [.str "InvalidText", .str "InvalidNumber", .str "InvalidName", .str "InvalidIndex", .str "InvalidClaim", .str "InvalidCell", .str "InvalidBar", .str "UnknownName", .str "NotALine", .str "NotABoard", .str "InvalidBars", .str "InvalidCells", .str "NotClosed", .str "Touches", .str "NotTurned", .str "NotFacing", .str "NotOneRim", .str "TooMany", .str "Broken", .str "InUse", .str "NothingToUndo"]), some (.lv [.bl false, .bl false, .bl false, .bl false, .bl false, .bl false, .bl false, .bl false, .bl false, .bl false, .bl false, .bl false, .bl false, .bl true, .bl false, .bl false, .bl false, .bl false, .bl false, .bl false, .bl false]), some (.lv [.bl false, .bl true]), none]) (h' := h) (by kernel_rfl) (ev_seqN (env' := [some (.hot a d "Touches" ["place"] [x]), some (.lv [.str "InvalidText", .str "InvalidNumber", .str "InvalidName", .str "InvalidIndex", .str "InvalidClaim", .str "InvalidCell", .str "InvalidBar", .str "UnknownName", .str "NotALine", .str "NotABoard", .str "InvalidBars", .str "InvalidCells", .str "NotClosed", .str "Touches", .str "NotTurned", .str "NotFacing", .str "NotOneRim", .str "TooMany", .str "Broken", .str "InUse", .str "NothingToUndo"]), some (.lv [.bl false, .bl false, .bl false, .bl false, .bl false, .bl false, .bl false, .bl false, .bl false, .bl false, .bl false, .bl false, .bl false, .bl true, .bl false, .bl false, .bl false, .bl false, .bl false, .bl false, .bl false]), some (.lv [.bl false, .bl true]), some (.int 13)]) (h' := h) (by kernel_rfl) (by kernel_rfl))))))))))))))
  have ht : f__lwp_attribute a d "Touches" [.hot a d "Touches" ["place"] [x], .str "Touches"] h = .ok (r) h2 := ev_fn (n := 2) (m1 := m__lwp_attribute a d "Touches") (ev_seqN (env' := [some (.hot a d "Touches" ["place"] [x]), some (.str "Touches")]) (h' := h) (by kernel_rfl) (ev_seqN (env' := [some (.hot a d "Touches" ["place"] [x]), some (.str "Touches")]) (h' := h) (by kernel_rfl) (ev_seqN (env' := [some (.hot a d "Touches" ["place"] [x]), some (.str "Touches")]) (h' := h) (by kernel_rfl) (ev_seqR (ev_ifT (h' := h) (by kernel_rfl) (ev_ret (ev_bi (ev_arg (hfld_at (x := x) (by decide +kernel) rfl rfl) rfl) q)))))))
  exact ev_seqN (ev_sto (ev_call (ds := [.hot a d "Touches" ["place"] [x]]) (h' := h) rfl rfl hs)) (ev_ret (ev_tup (ev_arg (h' := h) rfl (ev_arg (ev_call (ds := [.hot a d "Touches" ["place"] [x], .str "Touches"]) (h' := h) rfl rfl ht) rfl)) (show 2 ≤ sizeLine by decide)))
theorem tf_ok__lwp_told (C : Fc w K mg) : ∀ z h v h', tf__lwp_told z h = .ok v h' → PySem.W.exmAny K (.ref (He.ga K z.cls)) [.ref (He.ga K "WrongValue"), .ref (He.ga K "NoAnswer")] = some true ∧ ∀ a d, su__lwp_told a d z.cls (slotE 4 2 (.hot a d z.cls z.ns z.ds)) h = .ok (.rt v) h' := by
  intro z h v h' e
  obtain ⟨c, ns, ds⟩ := z
  unfold tf__lwp_told at e
  dsimp only at e ⊢
  split at e
  · rename_i n x
    split at e
    · rename_i hm
      cases q : bReprA [x] h with
      | ok r h2 =>
        rw [q] at e
        cases e
        simp only [tft, List.mem_cons, Prod.mk.injEq, List.not_mem_nil, or_false] at hm
        rcases hm with ⟨rfl, rfl⟩ | ⟨rfl, rfl⟩ | ⟨rfl, rfl⟩
        · exact ⟨C.ex_InvalidText, fun a d => tfs__lwp_told_InvalidText a d x h _ r q⟩
        · exact ⟨C.ex_NotClosed, fun a d => tfs__lwp_told_NotClosed a d x h _ r q⟩
        · exact ⟨C.ex_Touches, fun a d => tfs__lwp_told_Touches a d x h _ r q⟩
      | exn _ _ => rw [q] at e; cases e
      | no => rw [q] at e; cases e
    · cases e
  · split at e
    · rename_i hm
      cases e
      simp only [tf0, List.mem_cons, List.not_mem_nil, or_false] at hm
      skip
    · cases e
  · cases e
abbrev N__law_right : List Str := ["_law_purse_here", "_law_turn", "_law_good", "_law_lines", "_law_again", "_law_said"]
theorem sc__lwp_right : FnScope N__law_right ["_law_purse_here"] (defScope st__lwp_right) := ⟨rfl, rfl, rfl, by decide +kernel, rfl, by decide +kernel, by decide +kernel⟩
theorem go__lwp_right (C : Fc w K mg) (B : Lams base K mg) {fd : FuncData} (F : FnPa K "_law_right" "_law_right" st__lwp_right fd) : FnG P w K mg base 10 (He.ga K "_law_right") fd ["_law_purse_here"] f__lwp_right := by
  have h__lwp_text := ok__lwp_text (P := P) (base := base) C B
  have h__lwp_drawn := ok__lwp_drawn (P := P) (base := base) C B
  have h__lwp_bent := ok__lwp_bent (P := P) (base := base) C B
  have h__lwp_shuffled := ok__lwp_shuffled (P := P) (base := base) C B
  have h__lwp_odd := ok__lwp_odd (P := P) (base := base) C B
  have h_LineX___init__ := ok_LineX___init__ (P := P) (base := base) C B
  have h_Line___str__ := ok_Line___str__ (P := P) (base := base) C B
  have h__lwp_sort := ok__lwp_sort (P := P) (base := base) C B
  have h__lwp_attribute := ok__lwp_attribute (P := P) (base := base) C B
  have h__lwp_due := ok__lwp_due (P := P) (base := base) C B
  obtain ⟨fd__lwp_told, F__law_told⟩ := C.d__lwp_told
  have kx_LineX___init__ := kwx_LineX___init__ (P := P) (base := base) C B
  refine fnGL F sc__lwp_right (fun A outer s H E hgd hr => ?_)
  exact (mss_cons (ms_for (p := (.nm 1)) PassesOwn.never rfl (mi_range1 rfl C.n_range (ma_cons me_int ma_nil)) (pg_name (i := 1) sc__lwp_right.nd rfl (Or.inl rfl)) (mss_cons (ms_set (i := 2) sc__lwp_right.nd rfl (Or.inr rfl) (me_callH h__lwp_text hgd hr (ma_cons (me_callH h__lwp_drawn hgd hr (ma_cons (me_var 0) (ma_cons me_int ma_nil))) ma_nil)))
    (mss_out (mso_set (i := 3) sc__lwp_right.nd rfl (Or.inl rfl) (meo_op o_add (me_lc (p := (.nm 4)) (own := [("_law_again", 4)]) rfl sc__lwp_right.nd (by decide) (mi_range1 rfl C.n_range (ma_cons me_int ma_nil)) (blkOk_by (N := N__law_right) (sc := defScope st__lwp_right) (own := [("_law_again", 4)]) (by decide +kernel)) (fun _ _ _ _ _ => (pg_name (i := 4) sc__lwp_right.nd rfl (Or.inl rfl))) (fun _ _ _ _ _ => mts_nil) (fun _ _ _ _ _ => (me_callH h__lwp_bent hgd hr (ma_cons (me_var 0) (ma_cons (me_var 2) ma_nil))))) (meo_lst (mao_cons (me_var 2) (mao_lit o_add (me_var 2) (mat_cons (me_op o_add me_str (me_var 2)) (mat_consTT (met_repl2 (me_var 2)) mat_nil)))))))
    (msst_cons (PST.of (ms_set (i := 3) sc__lwp_right.nd rfl (Or.inl rfl) (me_op o_add (me_var 3) (me_lc (p := (.nm 4)) (own := [("_law_again", 4)]) rfl sc__lwp_right.nd (by decide) (mi_range1 rfl C.n_range (ma_cons me_int ma_nil)) (blkOk_by (N := N__law_right) (sc := defScope st__lwp_right) (own := [("_law_again", 4)]) (by decide +kernel)) (fun _ _ _ _ _ => (pg_name (i := 4) sc__lwp_right.nd rfl (Or.inl rfl))) (fun _ _ _ _ _ => mts_nil) (fun _ _ _ _ _ => (me_callH h__lwp_shuffled hgd hr (ma_cons (me_var 0) (ma_cons (me_var 2) ma_nil))))))))
    (msst_cons (mst_set (i := 3) sc__lwp_right.nd rfl (Or.inl rfl) (met_op o_add (me_var 3) (met_lst (mat_cons (me_bm0 (fun _ _ _ r v h => isSt_ok r v h) PySem.F.plainAttrs_str PySem.F.slot_str_upper PySem.F.type_str_upper m_upper (me_var 2)) (mat_consTT (met_repl2 (me_var 2)) (mat_consTT (met_repl2 (me_var 2)) mat_nil))))))
    (msst_cons (mst_set (i := 3) sc__lwp_right.nd rfl (Or.inl rfl) (met_op o_add (me_var 3) (met_lst (mat_consTT (met_repl2 (me_var 2)) (mat_cons (me_op o_add (me_op o_add (me_var 2) me_str) (me_var 2)) mat_nil)))))
    (PSsT.of (mss_cons (ms_set (i := 3) sc__lwp_right.nd rfl (Or.inl rfl) (me_op o_add (me_var 3) (me_lst (ma_cons me_str (ma_cons me_str (ma_cons me_str (ma_cons me_str (ma_cons me_str (ma_cons me_str ma_nil)))))))))
    (mss_cons (ms_set (i := 3) sc__lwp_right.nd rfl (Or.inl rfl) (me_op o_add (me_var 3) (me_lst (ma_cons me_str (ma_cons me_str ma_nil)))))
    (mss_cons (ms_set (i := 3) sc__lwp_right.nd rfl (Or.inl rfl) (me_op o_add (me_var 3) (me_lst (ma_cons me_str (ma_cons me_str (ma_cons me_str (ma_cons me_str ma_nil)))))))
    (mss_cons (ms_set (i := 3) sc__lwp_right.nd rfl (Or.inl rfl) (me_op o_add (me_var 3) (me_lst (ma_cons (me_op o_add me_str (me_op o_mul me_str me_int)) (ma_cons me_str ma_nil)))))
    (mss_cons (ms_set (i := 3) sc__lwp_right.nd rfl (Or.inl rfl) (me_op o_add (me_var 3) (me_lst (ma_cons me_str (ma_cons me_str (ma_cons me_str ma_nil))))))
    (mss_cons (ms_set (i := 3) sc__lwp_right.nd rfl (Or.inl rfl) (me_op o_add (me_var 3) (me_lst (ma_cons me_str (ma_cons me_str ma_nil)))))
    (mss_cons (ms_for (p := (.nm 5)) PassesOwn.never rfl (mi_list (me_op o_add (me_var 3) (me_lst (ma_cons (me_callH h__lwp_odd hgd hr (ma_cons (me_var 0) ma_nil)) (ma_cons (me_lst (ma_cons (me_var 2) ma_nil)) (ma_cons me_int (ma_cons (me_tup (ma_cons (me_var 2) ma_nil)) ma_nil))))))) (pg_name (i := 5) sc__lwp_right.nd rfl (Or.inr rfl)) (mss_one (ms_if (mt_cmp (o_ne (un64 hr)) (me_told (k := 7) (x := "_law_told") (a := "_law_job") (b := "_law_gave") (n := "_law_e") (x1 := "WrongValue") (x2 := "NoAnswer") (c1 := .ref (He.ga K "WrongValue")) (c2 := .ref (He.ga K "NoAnswer")) (ib := 1) (ie := 2) (mb := (bi (nx (strO "Line" f_Line___str__)) (argC (make "Line" 2 f_LineX___init__ (argC (noXE (var 5)) argN)) argN))) (mret := rt__lwp_told) (msu := su__lwp_told) (tf := tf__lwp_told) (Ng := N__law_told) rfl C.g__lwp_told F__law_told.kp F__law_told (F__law_told.bindsN fun _ _ _ _ _ _ us hl => match us, hl with | [_], _ => rfl) sc__lwp_told rfl rfl rfl rfl (by decide) (by decide) (by decide) rfl C.g_WrongValue rfl C.g_NoAnswer (fun cdv s' H1 pn pp cc dd hr P => by exact (mss_cons (ms_set (i := 3) sc__lwp_told.nd rfl (Or.inl rfl) (me_callHT h__lwp_sort P hgd hr (ma_cons (me_var 2) ma_nil)))
    (mss_one (ms_ret (me_tup (ma_cons (me_var 3) (ma_cons (me_callHT h__lwp_attribute P hgd hr (ma_cons (me_var 2) (ma_cons (me_var 3) ma_nil))) ma_nil))))))) (fun cdv s' H1 => by exact (me_tup (ma_cons me_str (ma_cons (me_var 1) ma_nil)))) (tf_ok__lwp_told C) (B "_law_right" (List.Mem.head _)) rfl (lt_mem (List.Mem.head _)) (lt_one rfl) hgd (hr.mono (by decide)) (LamX.lamS_by (sc := defScope st__lwp_right) (by decide +kernel)) rfl (fun _ _ _ _ _ => rfl) (fun A outer s H E f c' hgd hr => by exact (me_Ty (cr_noX (b_strO h_Line___str__ hgd hr)) rfl C.n_str boot_str (ma_cons (me_makeXH h_LineX___init__ lamN_takes hgd hr (ma_cons (me_noX (E' := E0) (me_var 5)) ma_nil)) ma_nil)))) (me_callH h__lwp_due hgd hr (ma_cons (me_var 5) ma_nil)) (nomark _)) (mss_one (ms_ret me_bl)) mss_nil)))
    (mss_one (ms_if (mt_cmp (o_ne (un64 hr)) (me_told (k := 7) (x := "_law_told") (a := "_law_job") (b := "_law_gave") (n := "_law_e") (x1 := "WrongValue") (x2 := "NoAnswer") (c1 := .ref (He.ga K "WrongValue")) (c2 := .ref (He.ga K "NoAnswer")) (ib := 1) (ie := 2) (mb := (bi (nx (strO "Line" f_Line___str__)) (argC (makeK "Line" 2 [0] f_LineX___init__ (argC (noXE (var 2)) argN)) argN))) (mret := rt__lwp_told) (msu := su__lwp_told) (tf := tf__lwp_told) (Ng := N__law_told) rfl C.g__lwp_told F__law_told.kp F__law_told (F__law_told.bindsN fun _ _ _ _ _ _ us hl => match us, hl with | [_], _ => rfl) sc__lwp_told rfl rfl rfl rfl (by decide) (by decide) (by decide) rfl C.g_WrongValue rfl C.g_NoAnswer (fun cdv s' H1 pn pp cc dd hr P => by exact (mss_cons (ms_set (i := 3) sc__lwp_told.nd rfl (Or.inl rfl) (me_callHT h__lwp_sort P hgd hr (ma_cons (me_var 2) ma_nil)))
    (mss_one (ms_ret (me_tup (ma_cons (me_var 3) (ma_cons (me_callHT h__lwp_attribute P hgd hr (ma_cons (me_var 2) (ma_cons (me_var 3) ma_nil))) ma_nil))))))) (fun cdv s' H1 => by exact (me_tup (ma_cons me_str (ma_cons (me_var 1) ma_nil)))) (tf_ok__lwp_told C) (B "_law_right" (List.Mem.head _)) rfl (lt_mem (List.Mem.head _)) (lt_one rfl) hgd (hr.mono (by decide)) (LamX.lamS_by (sc := defScope st__lwp_right) (by decide +kernel)) rfl (fun _ _ _ _ _ => rfl) (fun A outer s H E f c' hgd hr => by exact (me_Ty (cr_noX (b_strO h_Line___str__ hgd hr)) rfl C.n_str boot_str (ma_cons (me_makeXK kx_LineX___init__ lamN_takes hgd hr (mkE_cons (me_noX (E' := E0) (me_var 2)) mkE_nil)) ma_nil)))) (me_tup (ma_cons me_str (ma_cons (me_var 2) ma_nil))) (nomark _)) (mss_one (ms_ret me_bl)) mss_nil))))))))))))))))
    (mss_one (ms_ret me_bl)))
theorem ok__lwp_right (C : Fc w K mg) (B : Lams base K mg) : FnH P w K mg base 10 "_law_right" ["_law_purse_here"] f__lwp_right := by
  obtain ⟨fd, F⟩ := C.d__lwp_right
  exact ⟨⟨fd, go__lwp_right C B F, F.bindsN fun _ _ _ _ _ _ us hl => match us, hl with | [_], _ => rfl⟩, F.kp, C.g__lwp_right⟩
abbrev N_law : List Str := ["_law_script", "_law_spot"]
theorem sc_law : FnScope N_law ["_law_script"] (defScope st_law) := ⟨rfl, rfl, rfl, by decide +kernel, rfl, by decide +kernel, by decide +kernel⟩
theorem go_law (C : Fc w K mg) (B : Lams base K mg) {fd : FuncData} (F : FnPa K "law" "law" st_law fd) : FnG P w K mg base 11 (He.ga K "law") fd ["_law_script"] f_law := by
  have h__lwp_right := ok__lwp_right (P := P) (base := base) C B
  have h__lwp_purse := ok__lwp_purse (P := P) (base := base) C B
  refine fnG F sc_law (fun cdv A outer s H E hgd hr => ?_)
  exact (mss_one (ms_ret (me_B (b_all rfl) rfl C.n_all boot_all (ma_cons (me_lc (p := (.nm 1)) (own := [("_law_spot", 1)]) rfl sc_law.nd (by decide) (mi_range1 rfl C.n_range (ma_cons (me_B (b_max2 rfl) rfl C.n_max boot_max (ma_cons me_int (ma_cons (me_B (b_min2 rfl) rfl C.n_min boot_min (ma_cons (me_B b_len rfl C.n_len boot_len (ma_cons (me_var 0) ma_nil)) (ma_cons me_int ma_nil))) ma_nil))) ma_nil)) (blkOk_by (N := N_law) (sc := defScope st_law) (own := [("_law_spot", 1)]) (by decide +kernel)) (fun _ _ _ _ _ => (pg_name (i := 1) sc_law.nd rfl (Or.inl rfl))) (fun _ _ _ _ _ => mts_nil) (fun _ _ _ _ _ => (me_callH h__lwp_right hgd hr (ma_cons (me_callH h__lwp_purse hgd hr (ma_cons (me_var 0) (ma_cons (me_var 1) ma_nil))) ma_nil)))) ma_nil))))
end
end K51
set_option Elab.async false
set_option linter.all false
set_option maxRecDepth 100000
set_option maxHeartbeats 0
namespace K51
open PySem PySem.Spec PyProof.Rows L2 Mo
theorem facts {w : World} {K : PySem.W.Frag} {h : Heap} {mg : Str → Option Value} (X : K.In h) (G : h.Ns mainGlobals mg) (c : SaysY hfa hfn hts hlam hbs hpr w h K) : Fc w K mg := by
  have d := c.x.t.d
  have b := c.x.more
  simp only [hbs, Bool.and_eq_true] at b
  exact {
    d__lwp_purse := d.def_ 0 (d := dd__lwp_purse) rfl
    d__lwp_draw := d.def_ 1 (d := dd__lwp_draw) rfl
    d__lwp_shift := d.def_ 2 (d := dd__lwp_shift) rfl
    d__lwp_spots := d.def_ 3 (d := dd__lwp_spots) rfl
    d__lwp_level := d.def_ 4 (d := dd__lwp_level) rfl
    d__lwp_touch := d.def_ 5 (d := dd__lwp_touch) rfl
    d__lwp_begun := d.def_ 6 (d := dd__lwp_begun) rfl
    d__lwp_cells := d.def_ 7 (d := dd__lwp_cells) rfl
    d__lwp_mixed := d.def_ 8 (d := dd__lwp_mixed) rfl
    d__lwp_woven := d.def_ 9 (d := dd__lwp_woven) rfl
    d__lwp_two := d.def_ 10 (d := dd__lwp_two) rfl
    d__lwp_round := d.def_ 11 (d := dd__lwp_round) rfl
    d__lwp_drawn := d.def_ 12 (d := dd__lwp_drawn) rfl
    d__lwp_text := d.def_ 13 (d := dd__lwp_text) rfl
    d__lwp_sign_of_text := d.def_ 14 (d := dd__lwp_sign_of_text) rfl
    d__lwp_bent := d.def_ 15 (d := dd__lwp_bent) rfl
    d__lwp_pick := d.def_ 16 (d := dd__lwp_pick) rfl
    d__lwp_shuffled := d.def_ 17 (d := dd__lwp_shuffled) rfl
    d__lwp_odd := d.def_ 18 (d := dd__lwp_odd) rfl
    d_stretch_of := d.def_ 19 (d := dd_stretch_of) rfl
    d_stretches_of := d.def_ 20 (d := dd_stretches_of) rfl
    d_is_level := d.def_ 21 (d := dd_is_level) rfl
    d_steps_of := d.def_ 22 (d := dd_steps_of) rfl
    d_places_of_names := d.def_ 23 (d := dd_places_of_names) rfl
    d_is_plain := d.def_ 24 (d := dd_is_plain) rfl
    d_first_touch := d.def_ 25 (d := dd_first_touch) rfl
    d_turned_left := d.def_ 26 (d := dd_turned_left) rfl
    d_quarters_of := d.def_ 27 (d := dd_quarters_of) rfl
    d__lwp_is_word := d.def_ 28 (d := dd__lwp_is_word) rfl
    d__lwp_due := d.def_ 29 (d := dd__lwp_due) rfl
    d__lwp_sort := d.def_ 30 (d := dd__lwp_sort) rfl
    d__lwp_attribute := d.def_ 31 (d := dd__lwp_attribute) rfl
    d__lwp_right := d.def_ 32 (d := dd__lwp_right) rfl
    d_law := d.def_ 33 (d := dd_law) rfl
    d__lwp_told := d.def_ 34 (d := dd__lwp_told) rfl
    d_InvalidText___init__ := d.def_ 35 (d := dd_InvalidText___init__) rfl
    d_NotClosed___init__ := d.def_ 36 (d := dd_NotClosed___init__) rfl
    d_Touches___init__ := d.def_ 37 (d := dd_Touches___init__) rfl
    d_LineX___init__ := d.def_ 38 (d := dd_LineX___init__) rfl
    d_Line___str__ := d.def_ 39 (d := dd_Line___str__) rfl
    g__lwp_purse := He.glo_ok X G (d.fact 0 (f := .glo "_law_purse") rfl)
    g__lwp_draw := He.glo_ok X G (d.fact 1 (f := .glo "_law_draw") rfl)
    g__lwp_shift := He.glo_ok X G (d.fact 2 (f := .glo "_law_shift") rfl)
    g__lwp_spots := He.glo_ok X G (d.fact 3 (f := .glo "_law_spots") rfl)
    g__lwp_level := He.glo_ok X G (d.fact 4 (f := .glo "_law_level") rfl)
    g__lwp_touch := He.glo_ok X G (d.fact 5 (f := .glo "_law_touch") rfl)
    g__lwp_begun := He.glo_ok X G (d.fact 6 (f := .glo "_law_begun") rfl)
    g__lwp_cells := He.glo_ok X G (d.fact 7 (f := .glo "_law_cells") rfl)
    g__lwp_mixed := He.glo_ok X G (d.fact 8 (f := .glo "_law_mixed") rfl)
    g__lwp_woven := He.glo_ok X G (d.fact 9 (f := .glo "_law_woven") rfl)
    g__lwp_two := He.glo_ok X G (d.fact 10 (f := .glo "_law_two") rfl)
    g__lwp_round := He.glo_ok X G (d.fact 11 (f := .glo "_law_round") rfl)
    g__lwp_drawn := He.glo_ok X G (d.fact 12 (f := .glo "_law_drawn") rfl)
    g__lwp_text := He.glo_ok X G (d.fact 13 (f := .glo "_law_text") rfl)
    g__lwp_sign_of_text := He.glo_ok X G (d.fact 14 (f := .glo "_law_sign_of_text") rfl)
    g__lwp_bent := He.glo_ok X G (d.fact 15 (f := .glo "_law_bent") rfl)
    g__lwp_pick := He.glo_ok X G (d.fact 16 (f := .glo "_law_pick") rfl)
    g__lwp_shuffled := He.glo_ok X G (d.fact 17 (f := .glo "_law_shuffled") rfl)
    g__lwp_odd := He.glo_ok X G (d.fact 18 (f := .glo "_law_odd") rfl)
    g_stretch_of := He.glo_ok X G (d.fact 19 (f := .glo "stretch_of") rfl)
    g_stretches_of := He.glo_ok X G (d.fact 20 (f := .glo "stretches_of") rfl)
    g_is_level := He.glo_ok X G (d.fact 21 (f := .glo "is_level") rfl)
    g_steps_of := He.glo_ok X G (d.fact 22 (f := .glo "steps_of") rfl)
    g_places_of_names := He.glo_ok X G (d.fact 23 (f := .glo "places_of") rfl)
    g_is_plain := He.glo_ok X G (d.fact 24 (f := .glo "is_plain") rfl)
    g_first_touch := He.glo_ok X G (d.fact 25 (f := .glo "first_touch") rfl)
    g_turned_left := He.glo_ok X G (d.fact 26 (f := .glo "turned_left") rfl)
    g_quarters_of := He.glo_ok X G (d.fact 27 (f := .glo "quarters_of") rfl)
    g__lwp_is_word := He.glo_ok X G (d.fact 28 (f := .glo "_law_is_word") rfl)
    g__lwp_due := He.glo_ok X G (d.fact 29 (f := .glo "_law_due") rfl)
    g__lwp_sort := He.glo_ok X G (d.fact 30 (f := .glo "_law_sort") rfl)
    g__lwp_attribute := He.glo_ok X G (d.fact 31 (f := .glo "_law_attribute") rfl)
    g__lwp_right := He.glo_ok X G (d.fact 32 (f := .glo "_law_right") rfl)
    g_law := He.glo_ok X G (d.fact 33 (f := .glo "law") rfl)
    g__lwp_told := He.glo_ok X G (d.fact 34 (f := .glo "_law_told") rfl)
    g_SHIFTS := He.glo_ok X G (d.fact 35 (f := .glo "SHIFTS") rfl)
    g_Line := He.glo_ok X G (d.fact 36 (f := .glo "Line") rfl)
    g_Broken := He.glo_ok X G (d.fact 37 (f := .glo "Broken") rfl)
    g_InUse := He.glo_ok X G (d.fact 38 (f := .glo "InUse") rfl)
    g_InvalidBar := He.glo_ok X G (d.fact 39 (f := .glo "InvalidBar") rfl)
    g_InvalidBars := He.glo_ok X G (d.fact 40 (f := .glo "InvalidBars") rfl)
    g_InvalidCell := He.glo_ok X G (d.fact 41 (f := .glo "InvalidCell") rfl)
    g_InvalidCells := He.glo_ok X G (d.fact 42 (f := .glo "InvalidCells") rfl)
    g_InvalidClaim := He.glo_ok X G (d.fact 43 (f := .glo "InvalidClaim") rfl)
    g_InvalidIndex := He.glo_ok X G (d.fact 44 (f := .glo "InvalidIndex") rfl)
    g_InvalidName := He.glo_ok X G (d.fact 45 (f := .glo "InvalidName") rfl)
    g_InvalidNumber := He.glo_ok X G (d.fact 46 (f := .glo "InvalidNumber") rfl)
    g_InvalidText := He.glo_ok X G (d.fact 47 (f := .glo "InvalidText") rfl)
    g_NoAnswer := He.glo_ok X G (d.fact 48 (f := .glo "NoAnswer") rfl)
    g_NotABoard := He.glo_ok X G (d.fact 49 (f := .glo "NotABoard") rfl)
    g_NotALine := He.glo_ok X G (d.fact 50 (f := .glo "NotALine") rfl)
    g_NotClosed := He.glo_ok X G (d.fact 51 (f := .glo "NotClosed") rfl)
    g_NotFacing := He.glo_ok X G (d.fact 52 (f := .glo "NotFacing") rfl)
    g_NotOneRim := He.glo_ok X G (d.fact 53 (f := .glo "NotOneRim") rfl)
    g_NotTurned := He.glo_ok X G (d.fact 54 (f := .glo "NotTurned") rfl)
    g_NothingToUndo := He.glo_ok X G (d.fact 55 (f := .glo "NothingToUndo") rfl)
    g_TooMany := He.glo_ok X G (d.fact 56 (f := .glo "TooMany") rfl)
    g_Touches := He.glo_ok X G (d.fact 57 (f := .glo "Touches") rfl)
    g_UnknownName := He.glo_ok X G (d.fact 58 (f := .glo "UnknownName") rfl)
    g_WrongValue := He.glo_ok X G (d.fact 59 (f := .glo "WrongValue") rfl)
    n_abs := He.free_ok X G (d.fact 60 (f := .free "abs") rfl)
    n_all := He.free_ok X G (d.fact 61 (f := .free "all") rfl)
    n_any := He.free_ok X G (d.fact 62 (f := .free "any") rfl)
    n_divmod := He.free_ok X G (d.fact 63 (f := .free "divmod") rfl)
    n_enumerate := He.free_ok X G (d.fact 64 (f := .free "enumerate") rfl)
    n_int := He.free_ok X G (d.fact 65 (f := .free "int") rfl)
    n_isinstance := He.free_ok X G (d.fact 66 (f := .free "isinstance") rfl)
    n_len := He.free_ok X G (d.fact 67 (f := .free "len") rfl)
    n_list := He.free_ok X G (d.fact 68 (f := .free "list") rfl)
    n_max := He.free_ok X G (d.fact 69 (f := .free "max") rfl)
    n_min := He.free_ok X G (d.fact 70 (f := .free "min") rfl)
    n_range := He.free_ok X G (d.fact 71 (f := .free "range") rfl)
    n_repr := He.free_ok X G (d.fact 72 (f := .free "repr") rfl)
    n_str := He.free_ok X G (d.fact 73 (f := .free "str") rfl)
    n_sum := He.free_ok X G (d.fact 74 (f := .free "sum") rfl)
    c_MOST_STEPS := He.int_ok X G (d.fact 75 (f := .int "MOST_STEPS" 120) rfl)
    c_WAYS := He.str_ok X G (d.fact 76 (f := .str "WAYS" "enws") rfl)
    cls_Line := He.cls_ok (d.fact 77 (f := .cls "Line") rfl)
    na_InvalidText_given := He.noat_ok (d.fact 78 (f := .noat "InvalidText" "given") rfl)
    na_Line_rounds := He.noat_ok (d.fact 79 (f := .noat "Line" "rounds") rfl)
    na_Line_spots := He.noat_ok (d.fact 80 (f := .noat "Line" "spots") rfl)
    na_Line_ways := He.noat_ok (d.fact 81 (f := .noat "Line" "ways") rfl)
    na_Line_written := He.noat_ok (d.fact 82 (f := .noat "Line" "written") rfl)
    na_NotClosed_place := He.noat_ok (d.fact 83 (f := .noat "NotClosed" "place") rfl)
    na_Touches_place := He.noat_ok (d.fact 84 (f := .noat "Touches" "place") rfl)
    mk_Line := He.mkr_ok (d.fact 85 (f := .mkr "Line") rfl)
    t_SHIFTS := ⟨c.x.t.tab 0 rfl, b.1.1.1.1.1.1.1.1.1.1.1.1.1.1.1.1.1.1.1.1⟩
    ra_InvalidText := raB_ok b.1.1.1.1.1.1.1.1.1.1.1.1.1.1.1.1.1.1.1.2
    ra_NotClosed := raB_ok b.1.1.1.1.1.1.1.1.1.1.1.1.1.1.1.1.1.1.2
    ra_Touches := raB_ok b.1.1.1.1.1.1.1.1.1.1.1.1.1.1.1.1.1.2
    ex_InvalidText := of_decide_eq_true b.1.1.1.1.1.1.1.1.1.1.1.1.1.1.1.1.2
    ex_NotClosed := of_decide_eq_true b.1.1.1.1.1.1.1.1.1.1.1.1.1.1.1.2
    ex_Touches := of_decide_eq_true b.1.1.1.1.1.1.1.1.1.1.1.1.1.1.2
    sp_Line___str__ := spB_ok b.1.1.1.1.1.1.1.1.1.1.1.1.1.2
    xc_InvalidText := xcB_ok b.1.1.1.1.1.1.1.1.1.1.1.1.2
    xi_InvalidText := xiB_ok b.1.1.1.1.1.1.1.1.1.1.1.2
    xc_NotClosed := xcB_ok b.1.1.1.1.1.1.1.1.1.1.2
    xi_NotClosed := xiB_ok b.1.1.1.1.1.1.1.1.1.2
    xc_Touches := xcB_ok b.1.1.1.1.1.1.1.1.2
    xi_Touches := xiB_ok b.1.1.1.1.1.1.1.2
    xs := isXsB_ok b.1.1.1.1.1.1.2
    xf_given := xfsB_ok b.1.1.1.1.1.2
    xf_index := xfsB_ok b.1.1.1.1.2
    xf_number := xfsB_ok b.1.1.1.2
    xf_place := xfsB_ok b.1.1.2
    xf_told := xfsB_ok b.1.2
    sm := b.2 }
end K51
open PySem PySem.W PySem.Calls PyProof.Rows
theorem K51_of (hlaw : ∀ ns : List Int, ns.length ≤ 63 → ∃ h', K51.f_law [.wl (ns.map Mo.Dt.int)] [] = .ok (.bl true) h') : PySem.Challenge.rw_rimsheets_k03_line_texts_bent.Holds := by
  w_on; o_law
  refine HandSHeadRun.head_any (r := OpenLaw.row PySem.Challenge.rw_rimsheets_k03_line_texts_bent) (q := view (OpenLaw.row PySem.Challenge.rw_rimsheets_k03_line_texts_bent).prog [66]) (H := K51.hk) (ob := K51.hob) (M := 14000) (loose := K51.hlo) (d := HandSHeadRun.topDef (OpenLaw.row PySem.Challenge.rw_rimsheets_k03_line_texts_bent).prog 66) (kwd := []) K51.hob_eq
    (by kernel_rfl) (fun s => by kernel_rfl) K51.hrun (by kernel_rfl) (by kernel_rfl) (by kernel_rfl) (by rfl) (by first | assumption | decide +kernel) (by decide +kernel) ⟨rfl, rfl, rfl, rfl, rfl, by decide +kernel⟩ ?hw ?hc
  case hw => w_witness2
  case hc =>
    refine Mo.walk_G (l := PySem.Challenge.rw_rimsheets_k03_line_texts_bent) (n := 63) (k := 11) (x := "_law_script") rfl (by decide) (by kernel_rfl) ⟨rfl, by decide, by decide⟩ ?F
    intro w mg fa h Y G hmg0
    obtain ⟨K, KX, c⟩ := Y
    have hmg : mg ("law" : PySem.Str) = some (.ref fa) := by
      have e : (HandSHeadRun.topDef (OpenLaw.row PySem.Challenge.rw_rimsheets_k03_line_texts_bent).prog 66).name = ("law" : PySem.Str) := by kernel_rfl
      rw [← e]
      exact hmg0
    have C := K51.facts KX G c
    obtain ⟨fd, F⟩ := C.d_law
    have e := hmg.symm.trans C.g_law
    cases e
    have b := L2.FunD.bindsA (ps := ["_law_script"]) F fun _ _ _ _ _ _ us hl => match us, hl with | [_], _ => rfl
    exact ⟨K, fd, K51.f_law, KX, c.lam rfl, fun s v => b s [v] rfl, hlaw, fun base _ _ B => K51.go_law C B F⟩
theorem PySem.Challenge.cw_rimsheets_k03_line_texts_bent_holds : PySem.Challenge.rw_rimsheets_k03_line_texts_bent.Holds :=
  K51_of Mo.law_ok
