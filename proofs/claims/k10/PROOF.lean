import PyProof.Rows.All
import Wide.All
import OpenK.AllK
import Wide.FinOn
import HandS.Conv
import HandS.Deep
import HandS.DictTup
import HandS.Exc
import HandS.ExcIs
import HandS.ExcOwn
import HandS.ExcValue
import HandS.ForMost
import HandS.IsInst
import HandS.ListItems
import HandS.More
import HandS.NoneIn
import HandS.Set
import HandS.SortInts
import HandS.Style
import HandS.TupAny
import HandS.Walk
import HandS.WordsExc
import KE.DataMinMax
import KE.DatumOrd
import KE.KDictLaw
import KE.KDictPairs
import KE.KDictSum
import KE.KEqNest
import KE.KItemsList
import KE.KRevSl
import KE.RegKIsAll
import PyProof.EqKinds
import PyProof.NeKinds
import PyProof.Rows.SetFrom
import PyProof.Rows.StrMeet
import PyProof.TupleOfGen
import PySem.Challenge.RW_roadtracks_k10_whole_ways
set_option Elab.async false
set_option linter.all false
set_option maxRecDepth 100000
set_option maxHeartbeats 4000000
/-! The ghost layer: Python values as plain data trees (D), mutable things as numbered cells. -/
namespace Gh
open PySem L2

/-- plain data; a cell; a caught exception of an own class; a written tuple of texts; the script -/
inductive D where
  | non | bl (b : Bool) | int (i : Int) | str (x : Str)
  | lst (xs : List D) | tup (xs : List D)
  | dic (kvs : List (Key × D)) | dit (kvs : List (List Key × D))
  | cel (k : Nat) | exc (c : Str) | wrt (zs : List Str) | scr (ns : List Int) | tpz (xs : List D)

/-- a mutable thing -/
inductive Cell where
  | lst (xs : List D) | dic (kvs : List (Key × D)) | dit (kvs : List (List Key × D)) | ins (c : Str) (fs : List (Str × D))

abbrev GH := List Cell

inductive R (α : Type) where
  | ok (a : α) (G : GH) | ex (c : Str) (G : GH) | stuck

@[simp] def R.bind {α β : Type} (r : R α) (k : α → GH → R β) : R β := match r with
  | .ok a G => k a G
  | .ex c G => .ex c G
  | .stuck => .stuck

/-- what a slot holds: data, or an owned mutable thing -/
inductive SV where
  | v (d : D) | own (c : Cell)
abbrev En := List (Option SV)
/-- the semantics of an expression; of an argument list; of a statement -/
abbrev EF := En → GH → R D
abbrev AF := En → GH → R (List D)
inductive Fl where
  | nx (ρ : En) | rt (d : D) | bk (ρ : En) | ct (ρ : En) | ex (c : Str) (ρ : En)
abbrev SF := En → GH → R Fl

/-! ### what stands for what -/
def SL (_ : PySem.W.Frag) (S : Hp) (a : Addr) (vs : List V) : Prop := S a = some (.lst vs)
def ST (_ : PySem.W.Frag) (S : Hp) (a : Addr) (vs : List V) : Prop := S a = some (.tup vs)
/-- the object of an exception of the class at C -/
def IsExc (C a : Addr) (h : Heap) : Prop := ∃ o vs, h.get? a = some o ∧ o.cls = .ref C ∧ o.dict = none ∧ o.data = .fields vs
/-- a tuple's object, without a dict -/
def PlainT (o : Obj) : Prop := o.cls = .type "tuple" ∧ o.dict = none
structure Ct where
  K : PySem.W.Frag
  cl : Str → Addr
mutual
inductive Rep (c : Ct) (S : Hp) (A : List Addr) : V → D → Prop
  | non : Rep c S A .non .non
  | bl (b : Bool) : Rep c S A (.bl b) (.bl b)
  | int (i : Int) : Rep c S A (.int i) (.int i)
  | str (x : Str) : Rep c S A (.str x) (.str x)
  | lst {a : Addr} {vs : List V} {ds : List D} : SL c.K S a vs → Reps c S A vs ds → Rep c S A (.ref a) (.lst ds)
  | tup {a : Addr} {vs : List V} {ds : List D} : ST c.K S a vs → Reps c S A vs ds → Rep c S A (.ref a) (.tup ds)
  | dic {a : Addr} {kvs : List (Key × V)} {kds : List (Key × D)} : S a = some (.dK kvs) → kvs.map Prod.fst = kds.map Prod.fst → Reps c S A (kvs.map Prod.snd) (kds.map Prod.snd) → Rep c S A (.ref a) (.dic kds)
  | dit {a : Addr} {kvs : List (List Key × V)} {kds : List (List Key × D)} : S a = some (.dT kvs) → kvs.map Prod.fst = kds.map Prod.fst → Reps c S A (kvs.map Prod.snd) (kds.map Prod.snd) → Rep c S A (.ref a) (.dit kds)
  | cel {a : Addr} {k : Nat} : A[k]? = some a → Rep c S A (.ref a) (.cel k)
  | exc {a : Addr} {n : Str} : S a = some (.ext (IsExc (c.cl n) a)) → Rep c S A (.ref a) (.exc n)
  | wrt {a : Addr} {zs : List Str} : SqT c.K (fun _ => none) a (zs.map V.str) → Rep c S A (.ref a) (.wrt zs)
  | scr {a : Addr} {ns : List Int} : SqL c.K S a (ns.map V.int) → Rep c S A (.ref a) (.scr ns)
  | tpz {a : Addr} {o : Obj} {vs : List V} {ds : List D} : S a = some (.frz o (.tup vs)) → PlainT o → Reps c S A vs ds → Rep c S A (.ref a) (.tpz ds)
inductive Reps (c : Ct) (S : Hp) (A : List Addr) : List V → List D → Prop
  | nil : Reps c S A [] []
  | cons {v : V} {vs : List V} {d : D} {ds : List D} : Rep c S A v d → Reps c S A vs ds → Reps c S A (v :: vs) (d :: ds)
end

section
variable {c : Ct} {S S' : Hp} {A A' : List Addr} {H : Hp}
def Inc (S S' : Hp) : Prop := ∀ a u, S a = some u → S' a = some u
theorem SL.mono {K : PySem.W.Frag} {a : Addr} {vs : List V} (e : Inc S S') (h : SL K S a vs) : SL K S' a vs := e _ _ h
theorem ST.mono {K : PySem.W.Frag} {a : Addr} {vs : List V} (e : Inc S S') (h : ST K S a vs) : ST K S' a vs := e _ _ h
theorem sqL_inc {K : PySem.W.Frag} {a : Addr} {vs : List V} (e : Inc S S') (h : SqL K S a vs) : SqL K S' a vs := by
  rcases h with (h | ⟨o, h⟩) | h
  · exact .inl (.inl (e _ _ h))
  · exact .inl (.inr ⟨o, e _ _ h⟩)
  · exact .inr h
theorem pre_get {k : Nat} {a : Addr} (p : A <+: A') (h : A[k]? = some a) : A'[k]? = some a := by
  obtain ⟨t, rfl⟩ := p
  obtain ⟨h1, _⟩ := List.getElem?_eq_some_iff.mp h
  rw [List.getElem?_append_left h1]; exact h
mutual
theorem Rep.mono (e : Inc S S') (p : A <+: A') : ∀ {v : V} {d : D}, Rep c S A v d → Rep c S' A' v d
  | _, _, .non => .non
  | _, _, .bl b => .bl b
  | _, _, .int i => .int i
  | _, _, .str x => .str x
  | _, _, .lst h r => .lst (h.mono e) (Reps.mono e p r)
  | _, _, .tup h r => .tup (h.mono e) (Reps.mono e p r)
  | _, _, .dic h k r => .dic (e _ _ h) k (Reps.mono e p r)
  | _, _, .dit h k r => .dit (e _ _ h) k (Reps.mono e p r)
  | _, _, .cel h => .cel (pre_get p h)
  | _, _, .exc h => .exc (e _ _ h)
  | _, _, .wrt h => .wrt h
  | _, _, .scr h => .scr (sqL_inc e h)
  | _, _, .tpz h k r => .tpz (e _ _ h) k (Reps.mono e p r)
theorem Reps.mono (e : Inc S S') (p : A <+: A') : ∀ {vs : List V} {ds : List D}, Reps c S A vs ds → Reps c S' A' vs ds
  | _, _, .nil => .nil
  | _, _, .cons h r => .cons (Rep.mono e p h) (Reps.mono e p r)
end
theorem Reps.length : ∀ {vs : List V} {ds : List D}, Reps c S A vs ds → vs.length = ds.length
  | _, _, .nil => rfl
  | _, _, .cons _ r => by simp [Reps.length r]
theorem Reps.get : ∀ {vs : List V} {ds : List D} {i : Nat} {d : D}, Reps c S A vs ds → ds[i]? = some d → ∃ v, vs[i]? = some v ∧ Rep c S A v d
  | _, _, _, _, .nil, e => by simp at e
  | _, _, 0, _, .cons h _, e => by simp at e; subst e; exact ⟨_, rfl, h⟩
  | _, _, i + 1, d, .cons _ r, e => by
    obtain ⟨v, h1, h2⟩ := Reps.get (i := i) (d := d) r (by simpa using e)
    exact ⟨v, by simpa using h1, h2⟩
theorem Reps.get' : ∀ {vs : List V} {ds : List D} {i : Nat} {v : V}, Reps c S A vs ds → vs[i]? = some v → ∃ d, ds[i]? = some d ∧ Rep c S A v d
  | _, _, _, _, .nil, e => by simp at e
  | _, _, 0, _, .cons h _, e => by simp at e; subst e; exact ⟨_, rfl, h⟩
  | _, _, i + 1, v, .cons _ r, e => by
    obtain ⟨d, h1, h2⟩ := Reps.get' (i := i) (v := v) r (by simpa using e)
    exact ⟨d, by simpa using h1, h2⟩
theorem Reps.append : ∀ {vs ws : List V} {ds es : List D}, Reps c S A vs ds → Reps c S A ws es → Reps c S A (vs ++ ws) (ds ++ es)
  | _, _, _, _, .nil, s => s
  | _, _, _, _, .cons h r, s => .cons h (Reps.append r s)
theorem Reps.take : ∀ {vs : List V} {ds : List D} (n : Nat), Reps c S A vs ds → Reps c S A (vs.take n) (ds.take n)
  | _, _, 0, _ => .nil
  | _, _, _ + 1, .nil => .nil
  | _, _, n + 1, .cons h r => .cons h (Reps.take n r)
theorem Reps.drop : ∀ {vs : List V} {ds : List D} (n : Nat), Reps c S A vs ds → Reps c S A (vs.drop n) (ds.drop n)
  | _, _, 0, r => r
  | _, _, _ + 1, .nil => .nil
  | _, _, n + 1, .cons _ r => Reps.drop n r
theorem Reps.set {x : V} {d : D} (h : Rep c S A x d) : ∀ {vs : List V} {ds : List D} (i : Nat), Reps c S A vs ds → Reps c S A (vs.set i x) (ds.set i d)
  | _, _, _, .nil => .nil
  | _, _, 0, .cons _ r => .cons h r
  | _, _, i + 1, .cons q r => .cons q (Reps.set h i r)
theorem Reps.reverse : ∀ {vs : List V} {ds : List D}, Reps c S A vs ds → Reps c S A vs.reverse ds.reverse
  | _, _, .nil => .nil
  | _, _, .cons h r => by
    rw [List.reverse_cons, List.reverse_cons]
    exact (Reps.reverse r).append (.cons h .nil)
theorem Reps.of_all : ∀ {vs : List V} {ds : List D}, vs.length = ds.length → (∀ (i : Nat) v d, vs[i]? = some v → ds[i]? = some d → Rep c S A v d) → Reps c S A vs ds
  | [], [], _, _ => .nil
  | v :: vs, d :: ds, hl, h => .cons (h 0 v d rfl rfl) (Reps.of_all (by simpa using hl) fun i x y e1 e2 => h (i + 1) x y (by simpa using e1) (by simpa using e2))
  | [], _ :: _, hl, _ => by simp at hl
  | _ :: _, [], hl, _ => by simp at hl

/-! ### what is stable is to be read in the heap -/
/-- dicts may be locked -/
def Dict? : HO → Prop
  | .dK _ => True
  | .dT _ => True
  | _ => False
def Sub (S H : Hp) : Prop := ∀ a u, S a = some u → H a = some u ∨ (Dict? u ∧ ∃ o, H a = some (.frz o u))
theorem Sub.rd (s : Sub S H) {a : Addr} {u : HO} (h : S a = some u) : Rd H a u := (s a u h).elim .inl fun z => .inr z.2
theorem Sub.at (s : Sub S H) {a : Addr} {u : HO} (h : S a = some u) (n : ¬ Dict? u := by exact fun z => z) : H a = some u := (s a u h).elim id fun z => (n z.1).elim
theorem Sub.sqL {K : PySem.W.Frag} {a : Addr} {vs : List V} (e : Sub S H) (h : SqL K S a vs) : SqL K H a vs := by
  rcases h with (h | ⟨o, h⟩) | h
  · exact .inl (.inl (e.at h))
  · exact .inl (.inr ⟨o, e.at h⟩)
  · exact .inr h
theorem Sub.mono (i : Inc S S') (s : Sub S' H) : Sub S H := fun a u e => s a u (i a u e)
theorem sqL_none {K : PySem.W.Frag} {a : Addr} {vs : List V} (h : SqL K (fun _ => none) a vs) : SqL K H a vs := by
  rcases h with (h | ⟨o, h⟩) | h
  · cases h
  · cases h
  · exact .inr h
theorem sqT_none {K : PySem.W.Frag} {a : Addr} {vs : List V} (h : SqT K (fun _ => none) a vs) : SqT K H a vs := by
  rcases h with (h | ⟨o, h⟩) | h
  · cases h
  · cases h
  · exact .inr h
theorem SL.rd {K : PySem.W.Frag} {a : Addr} {vs : List V} (s : Sub S H) (h : SL K S a vs) : H a = some (.lst vs) := s.at h
theorem SL.sq {K : PySem.W.Frag} {a : Addr} {vs : List V} (s : Sub S H) (h : SL K S a vs) : SqL K H a vs := .inl (s.rd h)
theorem ST.sq {K : PySem.W.Frag} {a : Addr} {vs : List V} (s : Sub S H) (h : ST K S a vs) : SqT K H a vs := .inl (s.rd h)

/-! ### cells -/
def CellAt (c : Ct) (S : Hp) (A : List Addr) (H : Hp) (a : Addr) : Cell → Prop
  | .lst ds => ∃ vs, H a = some (.lst vs) ∧ Reps c S A vs ds
  | .dic kds => ∃ kvs, H a = some (.dK kvs) ∧ kvs.map Prod.fst = kds.map Prod.fst ∧ Reps c S A (kvs.map Prod.snd) (kds.map Prod.snd)
  | .dit kds => ∃ kvs, H a = some (.dT kvs) ∧ kvs.map Prod.fst = kds.map Prod.fst ∧ Reps c S A (kvs.map Prod.snd) (kds.map Prod.snd)
  | .ins n fs => ∃ dx fvs, H a = some (.ins (c.cl n) dx fvs) ∧ fvs.map Prod.fst = fs.map Prod.fst ∧ Reps c S A (fvs.map Prod.snd) (fs.map Prod.snd)
theorem CellAt.some {a : Addr} {x : Cell} (h : CellAt c S A H a x) : ∃ o, H a = some o := by
  cases x with
  | lst ds => obtain ⟨vs, e, _⟩ := h; exact ⟨_, e⟩
  | dic ds => obtain ⟨vs, e, _⟩ := h; exact ⟨_, e⟩
  | dit ds => obtain ⟨vs, e, _⟩ := h; exact ⟨_, e⟩
  | ins n fs => obtain ⟨dx, vs, e, _⟩ := h; exact ⟨_, e⟩
theorem CellAt.mono {H' : Hp} {a : Addr} {x : Cell} (e : Inc S S') (p : A <+: A') (k : H' a = H a) (h : CellAt c S A H a x) : CellAt c S' A' H' a x := by
  cases x with
  | lst ds => obtain ⟨vs, q, r⟩ := h; exact ⟨vs, k.trans q, r.mono e p⟩
  | dic ds => obtain ⟨vs, q, z, r⟩ := h; exact ⟨vs, k.trans q, z, r.mono e p⟩
  | dit ds => obtain ⟨vs, q, z, r⟩ := h; exact ⟨vs, k.trans q, z, r.mono e p⟩
  | ins n fs => obtain ⟨dx, vs, q, z, r⟩ := h; exact ⟨dx, vs, k.trans q, z, r.mono e p⟩

structure Fits (c : Ct) (S : Hp) (A : List Addr) (G : GH) (H : Hp) : Prop where
  sub : Sub S H
  len : A.length = G.length
  nd : A.Nodup
  out : ∀ a ∈ A, S a = none
  live : ∀ (k : Nat) a x, A[k]? = some a → G[k]? = some x → CellAt c S A H a x

/-- new, or mine to write -/
def Nw (O : Addr → Prop) (A : List Addr) (H : Hp) (a : Addr) : Prop := H a = none ∨ a ∈ A ∨ O a
/-- a step: O the owned places -/
structure SS (O : Addr → Prop) (S : Hp) (A : List Addr) (H : Hp) (O' : Addr → Prop) (S' : Hp) (A' : List Addr) (H' : Hp) : Prop where
  st : Inc S S'
  pre : A <+: A'
  keep : ∀ a, ¬ Nw O A H a → H' a = H a
  newS : ∀ a u, S' a = some u → S a = some u ∨ Nw O A H a
  newA : ∀ a ∈ A', Nw O A H a
  newO : ∀ a, O' a → Nw O A H a
abbrev No : Addr → Prop := fun _ => False
abbrev ES (S : Hp) (A : List Addr) (H : Hp) (S' : Hp) (A' : List Addr) (H' : Hp) : Prop := SS No S A H No S' A' H'
theorem SS.refl {O : Addr → Prop} : SS O S A H O S A H :=
  ⟨fun _ _ e => e, List.prefix_refl _, fun _ _ => rfl, fun _ _ e => .inl e, fun _ h => .inr (.inl h), fun _ h => .inr (.inr h)⟩
theorem SS.back {O O1 : Addr → Prop} {S1 : Hp} {A1 : List Addr} {H1 : Hp} (x : SS O S A H O1 S1 A1 H1) {a : Addr} (h : Nw O1 A1 H1 a) : Nw O A H a := by
  rcases h with h | h | h
  · apply Classical.byContradiction
    intro n
    have e := x.keep a n
    exact n (.inl (e ▸ h))
  · exact x.newA a h
  · exact x.newO a h
theorem SS.trans {O O1 O2 : Addr → Prop} {S1 S2 : Hp} {A1 A2 : List Addr} {H1 H2 : Hp} (x : SS O S A H O1 S1 A1 H1) (y : SS O1 S1 A1 H1 O2 S2 A2 H2) : SS O S A H O2 S2 A2 H2 where
  st := fun a u e => y.st a u (x.st a u e)
  pre := x.pre.trans y.pre
  keep := fun a n => (y.keep a fun z => n (x.back z)).trans (x.keep a n)
  newS := fun a u e => (y.newS a u e).elim (fun z => x.newS a u z) fun z => .inr (x.back z)
  newA := fun a h => x.back (y.newA a h)
  newO := fun a h => x.back (y.newO a h)
/-- more may be mine -/
theorem SS.wide {O O' P : Addr → Prop} {H' : Hp} (x : SS O S A H O' S' A' H') (h : ∀ a, O a → P a) : SS P S A H O' S' A' H' := by
  have w : ∀ {a}, Nw O A H a → Nw P A H a := fun z => z.elim .inl fun z => .inr (z.elim .inl fun z => .inr (h _ z))
  exact ⟨x.st, x.pre, fun a n => x.keep a fun z => n (w z), fun a u e => (x.newS a u e).elim .inl fun z => .inr (w z), fun a z => w (x.newA a z), fun a z => w (x.newO a z)⟩
theorem SS.drop {O O' P : Addr → Prop} {H' : Hp} (x : SS O S A H O' S' A' H') (h : ∀ a, P a → Nw O A H a) : SS O S A H P S' A' H' := ⟨x.st, x.pre, x.keep, x.newS, x.newA, h⟩

/-! ### slots -/
structure EnvOk (c : Ct) (S : Hp) (A : List Addr) (H : Hp) (σ : St) (ρ : En) : Prop where
  len : σ.length = ρ.length
  val : ∀ (i : Nat) d, ρ[i]? = some (some (.v d)) → ∃ v, σ[i]? = some (some v) ∧ Rep c S A v d
  own : ∀ (i : Nat) x, ρ[i]? = some (some (.own x)) → ∃ a, σ[i]? = some (some (.ref a)) ∧ S a = none ∧ a ∉ A ∧ CellAt c S A H a x
  inj : ∀ (i j : Nat) x y a, ρ[i]? = some (some (.own x)) → ρ[j]? = some (some (.own y)) → σ[i]? = some (some (.ref a)) → σ[j]? = some (some (.ref a)) → i = j
/-- the owned places -/
def Ow (σ : St) (ρ : En) : Addr → Prop := fun a => ∃ (i : Nat) (x : Cell), ρ[i]? = some (some (.own x)) ∧ σ[i]? = some (some (.ref a))
theorem EnvOk.step {σ : St} {ρ : En} {H' : Hp} (e : EnvOk c S A H σ ρ) (x : ES S A H S' A' H') : EnvOk c S' A' H' σ ρ := by
  refine ⟨e.len, fun i d h => ?_, fun i y h => ?_, e.inj⟩
  · obtain ⟨v, h1, h2⟩ := e.val i d h
    exact ⟨v, h1, h2.mono x.st x.pre⟩
  · obtain ⟨a, h1, h2, h3, h4⟩ := e.own i y h
    obtain ⟨o, ho⟩ := h4.some
    have n : ¬ Nw No A H a := by
      rintro (z | z | z)
      · rw [z] at ho; cases ho
      · exact h3 z
      · exact z
    refine ⟨a, h1, ?_, fun z => n (x.newA a z), h4.mono x.st x.pre (x.keep a n)⟩
    cases q : S' a with
    | none => rfl
    | some u =>
      rcases x.newS a u q with z | z
      · rw [h2] at z; cases z
      · exact (n z).elim
end

/-! ### the canonical readings -/
/-- r's answer a, told by b, is wanted of Q; its exception of E -/
def OkG {α β : Type} (c : Ct) (Rp : Hp → List Addr → Hp → β → α → Prop) (S : Hp) (A : List Addr) (H : Hp) (r : R α) (Q : β → Hp → Prop) (E : Str → Hp → Prop) : Prop := match r with
  | .ok a G' => ∀ b S' A' H', ES S A H S' A' H' → Fits c S' A' G' H' → Rp S' A' H' b a → Q b H'
  | .ex n G' => ∀ S' A' H', ES S A H S' A' H' → Fits c S' A' G' H' → E n H'
  | .stuck => False
abbrev rV (c : Ct) (S : Hp) (A : List Addr) (_ : Hp) (v : V) (d : D) : Prop := Rep c S A v d
abbrev rVs (c : Ct) (S : Hp) (A : List Addr) (_ : Hp) (v : List V) (d : List D) : Prop := Reps c S A v d
abbrev rB (_ : Hp) (_ : List Addr) (_ : Hp) (b a : Bool) : Prop := b = a
/-- what is wanted of an exception of the own class n -/
abbrev exW (c : Ct) (W : WX) (σ : St) : Str → Hp → Prop := fun n H' => W (.ref (c.cl n)) none σ H'
def Pd {α β : Type} (c : Ct) (W : WX) (Rp : Hp → List Addr → Hp → β → α → Prop) (f : En → GH → R α) (σ : St) (H : Hp) (Q : β → Hp → Prop) : Prop :=
  ∃ ρ S A G, EnvOk c S A H σ ρ ∧ Fits c S A G H ∧ OkG c Rp S A H (f ρ G) Q (exW c W σ)
abbrev TX (c : Ct) (W : WX) (f : EF) : TE := Pd c W (rV c) f
abbrev TXA (c : Ct) (W : WX) (f : AF) : TA := Pd c W (rVs c) f
abbrev TXB (c : Ct) (W : WX) (f : En → GH → R Bool) : TT := Pd c W rB f
def OkS (c : Ct) (W : WX) (S : Hp) (A : List Addr) (H : Hp) (σ : St) (ρ : En) (r : R Fl) (D : Ends) : Prop := match r with
  | .ok (.nx ρ') G' => ∀ σ' S' A' H', SS (Ow σ ρ) S A H (Ow σ' ρ') S' A' H' → Fits c S' A' G' H' → EnvOk c S' A' H' σ' ρ' → D.nx σ' H'
  | .ok (.bk ρ') G' => ∀ σ' S' A' H', SS (Ow σ ρ) S A H (Ow σ' ρ') S' A' H' → Fits c S' A' G' H' → EnvOk c S' A' H' σ' ρ' → D.bk σ' H'
  | .ok (.ct ρ') G' => ∀ σ' S' A' H', SS (Ow σ ρ) S A H (Ow σ' ρ') S' A' H' → Fits c S' A' G' H' → EnvOk c S' A' H' σ' ρ' → D.ct σ' H'
  | .ok (.ex n ρ') G' => ∀ σ' S' A' H', SS (Ow σ ρ) S A H (Ow σ' ρ') S' A' H' → Fits c S' A' G' H' → EnvOk c S' A' H' σ' ρ' → W (.ref (c.cl n)) none σ' H'
  | .ok (.rt d) G' => ∀ v S' A' H', SS (Ow σ ρ) S A H No S' A' H' → Fits c S' A' G' H' → Rep c S' A' v d → D.rt v H'
  | .ex _ _ => False
  | .stuck => False
def TXS (c : Ct) (W : WX) (g : SF) : TS := fun D σ H => ∃ ρ S A G, EnvOk c S A H σ ρ ∧ Fits c S A G H ∧ OkS c W S A H σ ρ (g ρ G) D
/-- a def's promise -/
def spOf (c : Ct) (n : Nat) (m : List D → GH → R D) : Sp := fun vs H Q E => vs.length = n ∧ ∃ S A G ds, Fits c S A G H ∧ Reps c S A vs ds ∧ OkG c (rV c) S A H (m ds G) Q (fun n H' => E (.ref (c.cl n)) none H')

section
variable {c : Ct} {W : WX} {α β γ δ : Type} {Rp : Hp → List Addr → Hp → β → α → Prop} {Rq : Hp → List Addr → Hp → δ → γ → Prop} {S S' : Hp} {A A' : List Addr} {H H' : Hp} {σ : St} {ρ : En} {G : GH} {E : Str → Hp → Prop}
theorem OkG.step {r : R α} {Q : β → Hp → Prop} (x : ES S A H S' A' H') (h : OkG c Rp S A H r Q E) : OkG c Rp S' A' H' r Q E := by
  cases r with
  | ok a G1 => exact fun b S2 A2 H2 y => h b S2 A2 H2 (x.trans y)
  | ex n G1 => exact fun S2 A2 H2 y => h S2 A2 H2 (x.trans y)
  | stuck => exact h
theorem OkG.imp {r : R α} {Q Q' : β → Hp → Prop} {E' : Str → Hp → Prop} (h : OkG c Rp S A H r Q E) (q : ∀ b H, Q b H → Q' b H) (e : ∀ n H, E n H → E' n H) : OkG c Rp S A H r Q' E' := by
  cases r with
  | ok a G1 => exact fun b S2 A2 H2 y f z => q _ _ (h b S2 A2 H2 y f z)
  | ex n G1 => exact fun S2 A2 H2 y f => e _ _ (h S2 A2 H2 y f)
  | stuck => exact h
theorem Pd.imp {f : En → GH → R α} {Q Q' : β → Hp → Prop} (h : Pd c W Rp f σ H Q) (q : ∀ b H, Q b H → Q' b H) : Pd c W Rp f σ H Q' := by
  obtain ⟨ρ, S, A, G, e, ft, k⟩ := h
  exact ⟨ρ, S, A, G, e, ft, k.imp q fun _ _ z => z⟩
/-- one part of an expression is evaluated; what is left is k of its value -/
theorem go (f : En → GH → R α) {k : α → GH → R γ} {Q : δ → Hp → Prop} (e : EnvOk c S A H σ ρ) (ft : Fits c S A G H) (h : OkG c Rq S A H ((f ρ G).bind k) Q (exW c W σ)) :
    Pd c W Rp f σ H (fun b H1 => ∃ S' A' G' a, ES S A H S' A' H1 ∧ EnvOk c S' A' H1 σ ρ ∧ Fits c S' A' G' H1 ∧ Rp S' A' H1 b a ∧ OkG c Rq S' A' H1 (k a G') Q (exW c W σ)) := by
  refine ⟨ρ, S, A, G, e, ft, ?_⟩
  cases r : f ρ G with
  | ok a G1 =>
    rw [r] at h
    exact fun b S2 A2 H2 x f2 rp => ⟨S2, A2, G1, a, x, e.step x, f2, rp, OkG.step x h⟩
  | ex n G1 =>
    rw [r] at h
    exact h
  | stuck =>
    rw [r] at h
    exact h.elim
/-- an answer that is there -/
theorem OkG.here {a : α} {b : β} {Q : β → Hp → Prop} (h : OkG c Rp S A H (.ok a G) Q E) (ft : Fits c S A G H) (r : Rp S A H b a) : Q b H := h b S A H SS.refl ft r
/-! ### a new object that is stable -/
theorem inc_upd {p : Addr} {o : HO} (h : S p = none) : Inc S (upd S p o) := fun a u e => by
  rw [upd_ne (ne_of_none e h)]; exact e
theorem Fits.nonS (ft : Fits c S A G H) {p : Addr} (h : H p = none) : S p = none := by
  cases e : S p with
  | none => rfl
  | some u =>
    rcases ft.sub p u e with z | ⟨_, o, z⟩
    · rw [h] at z; cases z
    · rw [h] at z; cases z
theorem Fits.notIn (ft : Fits c S A G H) {p : Addr} (h : H p = none) : p ∉ A := fun z => by
  obtain ⟨k, hk, e⟩ := List.getElem_of_mem z
  have hg : k < G.length := by rw [← ft.len]; exact hk
  obtain ⟨o, ho⟩ := (ft.live k p G[k] (by rw [List.getElem?_eq_getElem hk, e]) (by rw [List.getElem?_eq_getElem hg])).some
  rw [h] at ho; cases ho
theorem Fits.new (ft : Fits c S A G H) {p : Addr} {o : HO} (h : H p = none) : Fits c (upd S p o) A G (upd H p o) where
  sub := fun a u e => by
    by_cases z : a = p
    · subst z; rw [upd_same] at e; cases e; exact .inl upd_same
    · rw [upd_ne z] at e
      rcases ft.sub a u e with q | ⟨n, w, q⟩
      · exact .inl (by rw [upd_ne z]; exact q)
      · exact .inr ⟨n, w, by rw [upd_ne z]; exact q⟩
  len := ft.len
  nd := ft.nd
  out := fun a ha => (upd_ne fun z => ft.notIn h (by rw [← z]; exact ha)).trans (ft.out a ha)
  live := fun k a x h1 h2 => by
    have ha : a ∈ A := List.mem_of_getElem? h1
    exact (ft.live k a x h1 h2).mono (inc_upd (ft.nonS h)) (List.prefix_refl _) (upd_ne fun z => ft.notIn h (by rw [← z]; exact ha))
theorem es_new (ft : Fits c S A G H) {p : Addr} {o : HO} (h : H p = none) : ES S A H (upd S p o) A (upd H p o) where
  st := inc_upd (ft.nonS h)
  pre := List.prefix_refl _
  keep := fun a n => upd_ne fun z => n (.inl (by rw [z]; exact h))
  newS := fun a u e => by
    by_cases z : a = p
    · exact .inr (.inl (by rw [z]; exact h))
    · rw [upd_ne z] at e; exact .inl e
  newA := fun a h => .inr (.inl h)
  newO := fun a h => h.elim
theorem OkG.new {d : D} {p : Addr} {o : HO} {Q : VK} (h : OkG c (rV c) S A H (.ok d G) Q E) (ft : Fits c S A G H) (hp : H p = none) (r : Rep c (upd S p o) A (.ref p) d) : Q (.ref p) (upd H p o) :=
  h _ _ _ _ (es_new ft hp) (ft.new hp) r
end

/-! ### weakening a reading -/
section
variable {X : Cx}
theorem _root_.L2.PE.imp {e : Expr} {t t' : TE} (h : PE X e t) (q : ∀ σ H Q, t' σ H Q → t σ H Q) : PE X e t' := ⟨fun pins s σ H Q I z => h.run pins s σ H Q I (q σ H Q z)⟩
theorem _root_.L2.PT.imp {e : Expr} {t t' : TT} (h : PT X e t) (q : ∀ σ H Q, t' σ H Q → t σ H Q) : PT X e t' := ⟨fun pins s σ H Q I z => h.run pins s σ H Q I (q σ H Q z)⟩
theorem _root_.L2.PW.imp {e : Expr} {t t' : TT} (h : PW X e t) (q : ∀ σ H Q, t' σ H Q → t σ H Q) : PW X e t' := ⟨fun wh pins s σ H Q I z => h.run wh pins s σ H Q I (q σ H Q z)⟩
theorem _root_.L2.PA.imp {e : List Expr} {t t' : TA} (h : PA X e t) (q : ∀ σ H Q, t' σ H Q → t σ H Q) : PA X e t' := ⟨fun pos pins s σ H Q I z => h.run pos pins s σ H Q I (q σ H Q z)⟩
theorem _root_.L2.PS.imp {e : Stmt} {t t' : TS} (h : PS X e t) (q : ∀ D σ H, t' D σ H → t D σ H) : PS X e t' := ⟨fun pins s σ H D I z => h.run pins s σ H D I (q D σ H z)⟩
theorem _root_.L2.PSs.imp {e : List Stmt} {t t' : TS} (h : PSs X e t) (q : ∀ D σ H, t' D σ H → t D σ H) : PSs X e t' := ⟨fun pins s σ H D I z => h.run pins s σ H D I (q D σ H z)⟩
end
end Gh

set_option Elab.async false
set_option linter.all false
set_option maxRecDepth 100000
set_option maxHeartbeats 4000000
/-! The ghost layer 2: names, constants, arguments, tests, statements, defs. -/
namespace Gh
open PySem L2

abbrev LIM : Nat := 100000
theorem lim_le {n : Nat} (h : n ≤ LIM) : n ≤ sizeLine := Nat.le_trans h (by decide)
theorem lim_lt {n : Nat} (h : n < LIM) : n < sizeLine := Nat.lt_of_lt_of_le h (by decide)

/-! ### the semantics of pieces -/
def mVar (i : Nat) : EF := fun ρ G => match ρ[i]? with
  | some (some (.v d)) => .ok d G
  | _ => .stuck
def mC (d : D) : EF := fun _ G => .ok d G
def mNil : AF := fun _ G => .ok [] G
def mCons (f : EF) (r : AF) : AF := fun ρ G => (f ρ G).bind fun d G1 => (r ρ G1).bind fun ds G2 => .ok (d :: ds) G2
def oTup (ds : List D) (G : GH) : R D := if ds.length ≤ LIM then .ok (.tup ds) G else .stuck
def oLst (ds : List D) (G : GH) : R D := if ds.length ≤ LIM then .ok (.lst ds) G else .stuck
def mTup (a : AF) : EF := fun ρ G => (a ρ G).bind oTup
def mLst (a : AF) : EF := fun ρ G => (a ρ G).bind oLst
def mOp (o : D → D → GH → R D) (fa fb : EF) : EF := fun ρ G => (fa ρ G).bind fun x G1 => (fb ρ G1).bind fun y G2 => o x y G2
def mUn (o : D → GH → R D) (fa : EF) : EF := fun ρ G => (fa ρ G).bind o
/-- a call by values -/
def mFn (o : List D → GH → R D) (fa : AF) : EF := fun ρ G => (fa ρ G).bind o
abbrev BF := En → GH → R Bool
def oBl (d : D) (G : GH) : R Bool := match d with
  | .bl b => .ok b G
  | _ => .stuck
def mB (f : EF) : BF := fun ρ G => (f ρ G).bind oBl
def mAnd (a b : BF) : BF := fun ρ G => (a ρ G).bind fun x G1 => if x = true then b ρ G1 else .ok false G1
def mOr (a b : BF) : BF := fun ρ G => (a ρ G).bind fun x G1 => if x = true then .ok true G1 else b ρ G1
def mNot (a : BF) : BF := fun ρ G => (a ρ G).bind fun x G1 => .ok (!x) G1
def mAndV (a b : EF) : EF := fun ρ G => (mB a ρ G).bind fun x G1 => if x = true then b ρ G1 else .ok (.bl false) G1
def mOrV (a b : EF) : EF := fun ρ G => (mB a ρ G).bind fun x G1 => if x = true then .ok (.bl true) G1 else b ρ G1
def mNotV (a : EF) : EF := fun ρ G => (mB a ρ G).bind fun x G1 => .ok (.bl (!x)) G1
def mIf (t : BF) (a b : EF) : EF := fun ρ G => (t ρ G).bind fun x G1 => if x = true then a ρ G1 else b ρ G1
/-- what a cell shows -/
def view (G : GH) (d : D) : D := match d with
  | .cel k => (match G[k]? with
    | some (.lst xs) => .lst xs
    | some (.dic kvs) => .dic kvs
    | some (.dit kvs) => .dit kvs
    | _ => .cel k)
  | d => d
def oTru (d : D) (G : GH) : R Bool := match view G d with
  | .non => .ok false G
  | .bl b => .ok b G
  | .int i => .ok (i != 0) G
  | .str x => if x.length ≤ LIM then .ok ((x.length : Int) != 0) G else .stuck
  | .lst xs => .ok (!xs.isEmpty) G
  | .tup xs => .ok (!xs.isEmpty) G
  | .scr ns => .ok (!ns.isEmpty) G
  | _ => .stuck
def mTru (f : EF) : BF := fun ρ G => (f ρ G).bind oTru
def mChain (o o' : D → D → GH → R D) (fa fb fc : EF) : EF := fun ρ G => (fa ρ G).bind fun x G1 => (fb ρ G1).bind fun y G2 => ((o x y G2).bind oBl).bind fun k G3 => if k = true then (fc ρ G3).bind fun z G4 => o' y z G4 else .ok (.bl false) G3

/-! ### statements -/
def sSeq (a b : SF) : SF := fun ρ G => (a ρ G).bind fun f G1 => match f with
  | .nx ρ1 => b ρ1 G1
  | f => .ok f G1
def sNext : SF := fun ρ G => .ok (.nx ρ) G
def sNever : SF := fun _ _ => .stuck
def sBreak : SF := fun ρ G => .ok (.bk ρ) G
def sCont : SF := fun ρ G => .ok (.ct ρ) G
/-- an expression in a statement: its exception is the statement's -/
def inS {α : Type} (r : R α) (ρ : En) (k : α → GH → R Fl) : R Fl := match r with
  | .ok a G => k a G
  | .ex n G => .ok (.ex n ρ) G
  | .stuck => .stuck
def sRet (f : EF) : SF := fun ρ G => inS (f ρ G) ρ fun d G1 => .ok (.rt d) G1
def sRetN : SF := fun _ G => .ok (.rt .non) G
def sDrop (f : EF) : SF := fun ρ G => inS (f ρ G) ρ fun _ G1 => .ok (.nx ρ) G1
def sIf (t : BF) (a b : SF) : SF := fun ρ G => inS (t ρ G) ρ fun x G1 => if x = true then a ρ G1 else b ρ G1
/-- a target's semantics -/
abbrev GF := D → En → GH → R En
def gN (i : Nat) : GF := fun d ρ G => .ok (ρ.set i (some (.v d))) G
def sAsg (f : EF) (g : GF) : SF := fun ρ G => inS (f ρ G) ρ fun d G1 => (g d ρ G1).bind fun ρ1 G2 => .ok (.nx ρ1) G2
/-- a def's body as a function -/
def start (n : Nat) (ds : List D) : En := ds.map (fun d => some (SV.v d)) ++ List.replicate (n - ds.length) none

/-! ### what is only read may be owned -/
def mVarO (i : Nat) : EF := fun ρ G => match ρ[i]? with
  | some (some (.v d)) => .ok d G
  | some (some (.own (.lst xs))) => .ok (.lst xs) G
  | some (some (.own (.dic xs))) => .ok (.dic xs) G
  | some (some (.own (.dit xs))) => .ok (.dit xs) G
  | _ => .stuck
inductive Shows : Cell → D → Prop
  | lst (xs : List D) : Shows (.lst xs) (.lst xs)
  | dic (xs : List (Key × D)) : Shows (.dic xs) (.dic xs)
  | dit (xs : List (List Key × D)) : Shows (.dit xs) (.dit xs)
def RepV (c : Ct) (S : Hp) (A : List Addr) (H : Hp) (v : V) (d : D) : Prop := Rep c S A v d ∨ ∃ a x, v = .ref a ∧ S a = none ∧ a ∉ A ∧ CellAt c S A H a x ∧ Shows x d
abbrev TXO (c : Ct) (W : WX) (f : EF) : TE := Pd c W (RepV c) f
theorem nw_out {A : List Addr} {H : Hp} {p : Addr} {o : HO} (h1 : p ∉ A) (h : H p = some o) : ¬ Nw No A H p := by
  rintro (z | z | z)
  · rw [z] at h; cases h
  · exact h1 z
  · exact z
theorem RepV.mono {c : Ct} {S S' : Hp} {A A' : List Addr} {H H' : Hp} {v : V} {d : D} (x : ES S A H S' A' H') (h : RepV c S A H v d) : RepV c S' A' H' v d := by
  rcases h with h | ⟨a, y, rfl, h1, h2, h3, h4⟩
  · exact .inl (h.mono x.st x.pre)
  · obtain ⟨o, ho⟩ := h3.some
    have n := nw_out h2 ho
    refine .inr ⟨a, y, rfl, ?_, fun z => n (x.newA a z), h3.mono x.st x.pre (x.keep a n), h4⟩
    cases q : S' a with
    | none => rfl
    | some u =>
      rcases x.newS a u q with z | z
      · rw [h1] at z; cases z
      · exact (n z).elim
/-! ### rules: names, constants -/
section
variable {X : Cx} {cl : Str → Addr} {W : WX}
theorem gVar (i : Nat) {x : Str} {pos : Pos} (hN : X.N[i]? = some x := by rfl) (hv : Vis X.env.scope x := by first | exact Or.inl rfl | exact Or.inr (Or.inl rfl) | exact Or.inr (Or.inr rfl)) (hd : (x == ("__debug__" : Str)) = false := by decide)
    (hcd : (x == ("__classdict__" : Str)) = false := by decide) : PE X (.Name x pos) (TX ⟨X.K, cl⟩ W (mVar i)) := (pe_var hN hv hd hcd).imp fun σ H Q ⟨ρ, S, A, G, e, ft, h⟩ => by
  unfold mVar at h
  split at h
  · rename_i d hd
    obtain ⟨v, h1, h2⟩ := e.val i d hd
    exact ⟨v, h1, h.here ft h2⟩
  · exact h.elim
theorem gVarO (i : Nat) {x : Str} {pos : Pos} (hN : X.N[i]? = some x := by rfl) (hv : Vis X.env.scope x := by first | exact Or.inl rfl | exact Or.inr (Or.inl rfl) | exact Or.inr (Or.inr rfl)) (hd : (x == ("__debug__" : Str)) = false := by decide)
    (hcd : (x == ("__classdict__" : Str)) = false := by decide) : PE X (.Name x pos) (TXO ⟨X.K, cl⟩ W (mVarO i)) := (pe_var hN hv hd hcd).imp fun σ H Q ⟨ρ, S, A, G, e, ft, h⟩ => by
  unfold mVarO at h
  split at h
  · rename_i d hd
    obtain ⟨v, h1, h2⟩ := e.val i d hd
    exact ⟨v, h1, h.here ft (.inl h2)⟩
  · rename_i xs hd
    obtain ⟨a, h1, h2, h3, h4⟩ := e.own i _ hd
    exact ⟨.ref a, h1, h.here ft (.inr ⟨a, _, rfl, h2, h3, h4, .lst xs⟩)⟩
  · rename_i xs hd
    obtain ⟨a, h1, h2, h3, h4⟩ := e.own i _ hd
    exact ⟨.ref a, h1, h.here ft (.inr ⟨a, _, rfl, h2, h3, h4, .dic xs⟩)⟩
  · rename_i xs hd
    obtain ⟨a, h1, h2, h3, h4⟩ := e.own i _ hd
    exact ⟨.ref a, h1, h.here ft (.inr ⟨a, _, rfl, h2, h3, h4, .dit xs⟩)⟩
  · exact h.elim
theorem gR {e : Expr} {f : EF} {c : Ct} (h : PE X e (TX c W f)) : PE X e (TXO c W f) := h.imp fun σ H Q ⟨ρ, S, A, G, e, ft, h⟩ => ⟨ρ, S, A, G, e, ft, by
  cases q : f ρ G with
  | ok d G1 => rw [q] at h; exact fun v S' A' H' x f1 r => h v S' A' H' x f1 (.inl r)
  | ex n G1 => rw [q] at h; exact h
  | stuck => rw [q] at h; exact h⟩
theorem tC_of {v : V} {d : D} {σ : St} {H : Hp} {Q : VK} {c : Ct} (r : ∀ S A, Rep c S A v d) (h : TX c W (mC d) σ H Q) : tC v σ H Q := by
  obtain ⟨ρ, S, A, G, e, ft, h⟩ := h
  exact OkG.here (a := d) h ft (r S A)
theorem gInt {i j pos} : PE X (.Constant (.int i) j pos) (TX ⟨X.K, cl⟩ W (mC (.int i))) := pe_int.imp fun _ _ _ => tC_of fun _ _ => .int i
theorem gBl {b j pos} : PE X (.Constant (.bool b) j pos) (TX ⟨X.K, cl⟩ W (mC (.bl b))) := pe_bl.imp fun _ _ _ => tC_of fun _ _ => .bl b
theorem gNon {j pos} : PE X (.Constant .none j pos) (TX ⟨X.K, cl⟩ W (mC .non)) := pe_non.imp fun _ _ _ => tC_of fun _ _ => .non
theorem gStr {x j pos} : PE X (.Constant (.str x) j pos) (TX ⟨X.K, cl⟩ W (mC (.str x))) := pe_str.imp fun _ _ _ => tC_of fun _ _ => .str x
theorem gGlobI {x : Str} {i : Int} {pos : Pos} (hg : Gl X x) (hm : ∃ t, X.mg x = some (.int i t)) (hd : (x == ("__debug__" : Str)) = false := by decide) : PE X (.Name x pos) (TX ⟨X.K, cl⟩ W (mC (.int i))) := by
  obtain ⟨t, hm⟩ := hm
  exact (pe_glob (v := .int i) hg hm ⟨t, rfl⟩ hd).imp fun _ _ _ => tC_of fun _ _ => .int i
theorem gGlobS {x z : Str} {pos : Pos} (hg : Gl X x) (hm : ∃ t, X.mg x = some (.str z t)) (hd : (x == ("__debug__" : Str)) = false := by decide) : PE X (.Name x pos) (TX ⟨X.K, cl⟩ W (mC (.str z))) := by
  obtain ⟨t, hm⟩ := hm
  exact (pe_glob (v := .str z) hg hm ⟨t, rfl⟩ hd).imp fun _ _ _ => tC_of fun _ _ => .str z
/-- a written tuple of texts -/
theorem Reps.strs {c : Ct} {S : Hp} {A : List Addr} : ∀ zs : List Str, Reps c S A (zs.map V.str) (zs.map D.str)
  | [] => .nil
  | z :: r => .cons (.str z) (Reps.strs r)
theorem gGlobT {x : Str} {a : Addr} {zs : List Str} {pos : Pos} (hg : Gl X x) (hm : X.mg x = some (.ref a)) (hs : SqT X.K (fun _ => none) a (zs.map V.str)) (hd : (x == ("__debug__" : Str)) = false := by decide) : PE X (.Name x pos) (TX ⟨X.K, cl⟩ W (mC (.wrt zs))) :=
  (pe_glob (v := .ref a) hg hm rfl hd).imp fun _ _ _ => tC_of fun _ _ => .wrt hs
end

/-! ### rules: arguments, displays, operators -/
section
variable {X : Cx} {cl : Str → Addr} {W : WX} {c : Ct}
theorem gaNil : PA X [] (TXA ⟨X.K, cl⟩ W mNil) := pa_nil.imp fun σ H Q ⟨ρ, S, A, G, e, ft, h⟩ => OkG.here (a := ([] : List D)) h ft .nil
theorem cons_of {fa : EF} {fr : AF} {σ : St} {H : Hp} {Q : List V → Hp → Prop} (h : TXA c W (mCons fa fr) σ H Q) : tCons (TX c W fa) (TXA c W fr) σ H Q := by
  obtain ⟨ρ, S, A, G, e, ft, h⟩ := h
  refine (go fa e ft h).imp fun x H1 ⟨S1, A1, G1, d, x1, e1, f1, r1, h1⟩ => ?_
  refine (go fr e1 f1 h1).imp fun xs H2 ⟨S2, A2, G2, ds, x2, e2, f2, r2, h2⟩ => ?_
  exact h2.here f2 (.cons (r1.mono x2.st x2.pre) r2)
theorem gaCons {e : Expr} {es : List Expr} {fa : EF} {fr : AF} (ha : PE X e (TX ⟨X.K, cl⟩ W fa)) (hr : PA X es (TXA ⟨X.K, cl⟩ W fr)) (hs : starEach (e :: es) X.env = (false, eval e X.env) :: starEach es X.env := by rfl) :
    PA X (e :: es) (TXA ⟨X.K, cl⟩ W (mCons fa fr)) := (pa_cons ha hr hs).imp fun _ _ _ h => cons_of h
theorem gTupE {es : List Expr} {fa : AF} {x1 : Nat} {pos : Pos} (h : PA X es (TXA ⟨X.K, cl⟩ W fa)) : PE X (.Tuple es x1 pos) (TX ⟨X.K, cl⟩ W (mTup fa)) := (pe_tup h).imp fun σ H Q ⟨ρ, S, A, G, e, ft, h⟩ => by
  refine (go fa e ft h).imp fun xs H1 ⟨S1, A1, G1, ds, x1, e1, f1, r1, h1⟩ => ?_
  unfold oTup at h1
  split at h1
  · rename_i hl
    refine ⟨by rw [r1.length]; exact lim_le hl, fun p hp => ?_⟩
    exact h1.new f1 hp (.tup upd_same (r1.mono (inc_upd (f1.nonS hp)) (List.prefix_refl _)))
  · exact h1.elim
theorem gLstE {es : List Expr} {fa : AF} {pos : Pos} (h : PA X es (TXA ⟨X.K, cl⟩ W fa)) : PE X (.List es pos) (TX ⟨X.K, cl⟩ W (mLst fa)) := (pe_lst h).imp fun σ H Q ⟨ρ, S, A, G, e, ft, h⟩ => by
  refine (go fa e ft h).imp fun xs H1 ⟨S1, A1, G1, ds, x1, e1, f1, r1, h1⟩ => ?_
  unfold oLst at h1
  split at h1
  · rename_i hl
    refine ⟨by rw [r1.length]; exact lim_le hl, fun p hp => ?_⟩
    exact h1.new f1 hp (.lst upd_same (r1.mono (inc_upd (f1.nonS hp)) (List.prefix_refl _)))
  · exact h1.elim
/-- an operator by values: its reading r is met by the semantics o -/
def OpS (c : Ct) (r : R2) (o : D → D → GH → R D) : Prop :=
  ∀ (S : Hp) (A : List Addr) (G : GH) (H : Hp) (x y : V) (dx dy : D) (Q : VK) (E : Str → Hp → Prop), Fits c S A G H → RepV c S A H x dx → RepV c S A H y dy → OkG c (rV c) S A H (o dx dy G) Q E → r x y H Q
theorem op_of {r : R2} {o : D → D → GH → R D} {fa fb : EF} {σ : St} {H : Hp} {Q : VK} (hs : OpS c r o) (h : TX c W (mOp o fa fb) σ H Q) : tOp r (TXO c W fa) (TXO c W fb) σ H Q := by
  obtain ⟨ρ, S, A, G, e, ft, h⟩ := h
  refine (go fa e ft h).imp fun x H1 ⟨S1, A1, G1, d, x1, e1, f1, r1, h1⟩ => ?_
  refine (go fb e1 f1 h1).imp fun y H2 ⟨S2, A2, G2, d2, x2, e2, f2, r2, h2⟩ => ?_
  exact hs S2 A2 G2 H2 x y d d2 Q _ f2 (r1.mono x2) r2 h2
theorem gOp {op : Operator} {r : R2} {o : D → D → GH → R D} {a b : Expr} {fa fb : EF} {pos : Pos} (ho : OpR X (binaryOp op) r) (hs : OpS ⟨X.K, cl⟩ r o) (ha : PE X a (TXO ⟨X.K, cl⟩ W fa)) (hb : PE X b (TXO ⟨X.K, cl⟩ W fb)) :
    PE X (.BinOp a op b pos) (TX ⟨X.K, cl⟩ W (mOp o fa fb)) := (pe_op ho ha hb).imp fun _ _ _ h => op_of hs h
theorem gCmp {op : CmpOp} {r : R2} {o : D → D → GH → R D} {a b : Expr} {fa fb : EF} {pos : Pos} (ho : OpR X (compareOp op) r) (hs : OpS ⟨X.K, cl⟩ r o) (ha : PE X a (TXO ⟨X.K, cl⟩ W fa)) (hb : PE X b (TXO ⟨X.K, cl⟩ W fb)) (hm : behindInMarks op b = false) :
    PE X (.Compare a [op] [b] pos) (TX ⟨X.K, cl⟩ W (mOp o fa fb)) := (pe_cmpR ho ha hb hm).imp fun _ _ _ h => op_of hs h
theorem rep_bl {S : Hp} {A : List Addr} {v : V} {b : Bool} (h : Rep c S A v (.bl b)) : v = .bl b := by cases h; rfl
/-- a value that is a bool, as a test -/
theorem test_of {f : EF} {σ : St} {H : Hp} {Q : Bool → Hp → Prop} (h : TXB c W (mB f) σ H Q) : TX c W f σ H fun x H' => ∃ k, x = .bl k ∧ Q k H' := by
  obtain ⟨ρ, S, A, G, e, ft, h⟩ := h
  refine (go f e ft h).imp fun x H1 ⟨S1, A1, G1, d, x1, e1, f1, r1, h1⟩ => ?_
  cases d with
  | bl b => exact ⟨b, rep_bl r1, h1.here f1 rfl⟩
  | _ => exact h1.elim
theorem gtCmp {op : CmpOp} {r : R2} {o : D → D → GH → R D} {a b : Expr} {fa fb : EF} {pos : Pos} (ho : OpR X (compareOp op) r) (hs : OpS ⟨X.K, cl⟩ r o) (ha : PE X a (TXO ⟨X.K, cl⟩ W fa)) (hb : PE X b (TXO ⟨X.K, cl⟩ W fb)) (hm : behindInMarks op b = false) :
    PT X (.Compare a [op] [b] pos) (TXB ⟨X.K, cl⟩ W (mB (mOp o fa fb))) := (pt_cmpR ho ha hb hm).imp fun _ _ _ h => op_of hs (test_of h)
theorem chain_of {r r' : R2} {o o' : D → D → GH → R D} {fa fb fc : EF} {σ : St} {H : Hp} {Q : VK} (hs : OpS c r o) (hs' : OpS c r' o') (h : TX c W (mChain o o' fa fb fc) σ H Q) : tChain r r' (TXO c W fa) (TXO c W fb) (TXO c W fc) σ H Q := by
  obtain ⟨ρ, S, A, G, e, ft, h⟩ := h
  refine (go fa e ft h).imp fun x H1 ⟨S1, A1, G1, d, x1, e1, f1, r1, h1⟩ => ?_
  refine (go fb e1 f1 h1).imp fun y H2 ⟨S2, A2, G2, d2, x2, e2, f2, r2, h2⟩ => ?_
  refine hs S2 A2 G2 H2 x y d d2 _ (exW c W σ) f2 (r1.mono x2) r2 ?_
  cases q : o d d2 G2 with
  | stuck => rw [q] at h2; exact h2.elim
  | ex n G3 => rw [q] at h2; exact h2
  | ok z G3 =>
    rw [q] at h2
    intro v S3 A3 H3 x3 f3 r3
    cases z with
    | bl k =>
      refine ⟨k, rep_bl r3, ?_⟩
      have h3 : OpS c r' o' ∧ OkG c (rV c) S2 A2 H2 (if k = true then (fc ρ G3).bind fun z G4 => o' d2 z G4 else .ok (.bl false) G3) Q (exW c W σ) := ⟨hs', h2⟩
      cases k with
      | true =>
        refine iteT ?_
        refine (go fc (e2.step x3) f3 (OkG.step x3 h3.2)).imp fun z H4 ⟨S4, A4, G4, d4, x4, e4, f4, r4, h4⟩ => ?_
        exact hs' S4 A4 G4 H4 y z d2 d4 Q _ f4 ((RepV.mono x3 r2).mono x4) r4 h4
      | false =>
        refine iteF ?_
        exact (OkG.step x3 h3.2 : OkG c (rV c) S3 A3 H3 (.ok (.bl false) G3) Q _).here f3 (.bl false)
    | _ => exact h2.elim
theorem gChain {op op' : CmpOp} {r r' : R2} {o o' : D → D → GH → R D} {a b e : Expr} {fa fb fc : EF} {pos : Pos} (ho : OpR X (compareOp op) r) (hs : OpS ⟨X.K, cl⟩ r o) (ho' : OpR X (compareOp op') r') (hs' : OpS ⟨X.K, cl⟩ r' o')
    (ha : PE X a (TXO ⟨X.K, cl⟩ W fa)) (hb : PE X b (TXO ⟨X.K, cl⟩ W fb)) (hc : PE X e (TXO ⟨X.K, cl⟩ W fc)) (hm : lastMarks [op, op'] [b, e] = false := by with_unfolding_all rfl) : PE X (.Compare a [op, op'] [b, e] pos) (TX ⟨X.K, cl⟩ W (mChain o o' fa fb fc)) :=
  (pe_chain ho ho' ha hb hc hm).imp fun _ _ _ h => chain_of hs hs' h
theorem gtChain {op op' : CmpOp} {r r' : R2} {o o' : D → D → GH → R D} {a b e : Expr} {fa fb fc : EF} {pos : Pos} (ho : OpR X (compareOp op) r) (hs : OpS ⟨X.K, cl⟩ r o) (ho' : OpR X (compareOp op') r') (hs' : OpS ⟨X.K, cl⟩ r' o')
    (ha : PE X a (TXO ⟨X.K, cl⟩ W fa)) (hb : PE X b (TXO ⟨X.K, cl⟩ W fb)) (hc : PE X e (TXO ⟨X.K, cl⟩ W fc)) (hm : lastMarks [op, op'] [b, e] = false := by with_unfolding_all rfl) : PT X (.Compare a [op, op'] [b, e] pos) (TXB ⟨X.K, cl⟩ W (mB (mChain o o' fa fb fc))) :=
  (pt_chain ho ho' ha hb hc hm).imp fun _ _ _ h => chain_of hs hs' (test_of h)

/-! ### truth -/
/-- a list, a tuple that d shows -/
theorem look_lst {S : Hp} {A : List Addr} {G : GH} {H : Hp} {v : V} {d : D} {ds : List D} (ft : Fits c S A G H) (r : RepV c S A H v d) (e : view G d = .lst ds) : ∃ a vs, v = .ref a ∧ H a = some (.lst vs) ∧ Reps c S A vs ds := by
  rcases r.symm with ⟨a, x, rfl, h1, h2, h3, h4⟩ | r
  · cases h4 with
    | lst xs =>
      have e' : xs = ds := by simpa [view] using e
      subst e'
      obtain ⟨vs, q1, q2⟩ := h3
      exact ⟨a, vs, rfl, q1, q2⟩
    | _ => simp [view] at e
  cases r with
  | lst h q =>
    rename_i a vs es
    have e' : es = ds := by simpa [view] using e
    subst e'
    exact ⟨_, _, rfl, h.rd ft.sub, q⟩
  | cel h =>
    rename_i a k
    simp only [view] at e
    cases g : G[k]? with
    | none => rw [g] at e; cases e
    | some x =>
      rw [g] at e
      have l := ft.live k a x h g
      cases x with
      | lst xs =>
        have e' : xs = ds := by simpa using e
        subst e'
        obtain ⟨vs, h1, h2⟩ := l
        exact ⟨a, vs, rfl, h1, h2⟩
      | _ => cases e
  | _ => simp [view] at e
theorem look_tup {S : Hp} {A : List Addr} {G : GH} {H : Hp} {v : V} {d : D} {ds : List D} (ft : Fits c S A G H) (r : RepV c S A H v d) (e : view G d = .tup ds) : ∃ a vs, v = .ref a ∧ SqT c.K H a vs ∧ Reps c S A vs ds := by
  rcases r.symm with ⟨a, x, rfl, h1, h2, h3, h4⟩ | r
  · cases h4 <;> simp [view] at e
  cases r with
  | tup h q =>
    rename_i a vs es
    have e' : es = ds := by simpa [view] using e
    subst e'
    exact ⟨_, _, rfl, h.sq ft.sub, q⟩
  | cel h =>
    rename_i a k
    simp only [view] at e
    cases g : G[k]? with
    | none => rw [g] at e; cases e
    | some x => rw [g] at e; cases x <;> cases e
  | _ => simp [view] at e
theorem view_flat {G : GH} {d e : D} (h : view G d = e) (hf : ∀ k, e ≠ .cel k) (h1 : ∀ xs, e ≠ .lst xs) (h2 : ∀ xs, e ≠ .dic xs) (h3 : ∀ xs, e ≠ .dit xs) : d = e := by
  cases d with
  | cel k =>
    simp only [view] at h
    cases g : G[k]? with
    | none => rw [g] at h; exact (hf k h.symm).elim
    | some x =>
      rw [g] at h
      cases x with
      | lst xs => exact (h1 _ h.symm).elim
      | dic xs => exact (h2 _ h.symm).elim
      | dit xs => exact (h3 _ h.symm).elim
      | ins n fs => exact (hf k h.symm).elim
  | _ => exact h
theorem look_scr {S : Hp} {A : List Addr} {G : GH} {H : Hp} {v : V} {d : D} {ns : List Int} (ft : Fits c S A G H) (r : RepV c S A H v d) (h : view G d = .scr ns) : ∃ a, v = .ref a ∧ SqL c.K H a (ns.map V.int) := by
  have := view_flat h (by intros; simp) (by intros; simp) (by intros; simp) (by intros; simp)
  subst this
  rcases r with r | ⟨a, x, rfl, h1, h2, h3, h4⟩
  · cases r with
    | scr h => exact ⟨_, rfl, ft.sub.sqL h⟩
  · cases h4
theorem view_int {S : Hp} {A : List Addr} {G : GH} {H : Hp} {v : V} {d : D} {i : Int} (r : RepV c S A H v d) (h : view G d = .int i) : v = .int i := by
  have := view_flat h (by intros; simp) (by intros; simp) (by intros; simp) (by intros; simp)
  subst this
  rcases r with r | ⟨a, x, rfl, h1, h2, h3, h4⟩
  · cases r; rfl
  · cases h4
theorem view_str {S : Hp} {A : List Addr} {G : GH} {H : Hp} {v : V} {d : D} {i : Str} (r : RepV c S A H v d) (h : view G d = .str i) : v = .str i := by
  have := view_flat h (by intros; simp) (by intros; simp) (by intros; simp) (by intros; simp)
  subst this
  rcases r with r | ⟨a, x, rfl, h1, h2, h3, h4⟩
  · cases r; rfl
  · cases h4
theorem view_bl {S : Hp} {A : List Addr} {G : GH} {H : Hp} {v : V} {d : D} {i : Bool} (r : RepV c S A H v d) (h : view G d = .bl i) : v = .bl i := by
  have := view_flat h (by intros; simp) (by intros; simp) (by intros; simp) (by intros; simp)
  subst this
  rcases r with r | ⟨a, x, rfl, h1, h2, h3, h4⟩
  · cases r; rfl
  · cases h4
theorem view_non {S : Hp} {A : List Addr} {G : GH} {H : Hp} {v : V} {d : D} (r : RepV c S A H v d) (h : view G d = .non) : v = .non := by
  have := view_flat h (by intros; simp) (by intros; simp) (by intros; simp) (by intros; simp)
  subst this
  rcases r with r | ⟨a, x, rfl, h1, h2, h3, h4⟩
  · cases r; rfl
  · cases h4
theorem isEmpty_len {α β : Type} {xs : List α} {ys : List β} (h : xs.length = ys.length) : xs.isEmpty = ys.isEmpty := by
  cases xs <;> cases ys <;> simp_all
theorem tru_of {f : EF} {σ : St} {H : Hp} {Q : Bool → Hp → Prop} (h : TXB c W (mTru f) σ H Q) : TXO c W f σ H fun x H' => ∃ k, TruV c.K x H' k ∧ Q k H' := by
  obtain ⟨ρ, S, A, G, e, ft, h⟩ := h
  refine (go f e ft h).imp fun x H1 ⟨S1, A1, G1, d, x1, e1, f1, r1, h1⟩ => ?_
  unfold oTru at h1
  split at h1
  · rename_i q; rw [view_non r1 q]; exact ⟨false, rfl, h1.here f1 rfl⟩
  · rename_i q; rw [view_bl r1 q]; exact ⟨_, rfl, h1.here f1 rfl⟩
  · rename_i q; rw [view_int r1 q]; exact ⟨_, rfl, h1.here f1 rfl⟩
  · rename_i q
    split at h1
    · rename_i hl
      rw [view_str r1 q]; exact ⟨_, ⟨lim_le hl, rfl⟩, h1.here f1 rfl⟩
    · exact h1.elim
  · rename_i q
    obtain ⟨a, vs, rfl, h2, h3⟩ := look_lst f1 r1 q
    exact ⟨_, .inl ⟨vs, .inl (.inl h2), rfl⟩, by rw [isEmpty_len h3.length]; exact h1.here f1 rfl⟩
  · rename_i q
    obtain ⟨a, vs, rfl, h2, h3⟩ := look_tup f1 r1 q
    exact ⟨_, .inr (.inl ⟨vs, h2, rfl⟩), by rw [isEmpty_len h3.length]; exact h1.here f1 rfl⟩
  · rename_i q
    obtain ⟨a, rfl, h2⟩ := look_scr f1 r1 q
    exact ⟨_, .inl ⟨_, h2, rfl⟩, by rw [isEmpty_len (List.length_map _)]; exact h1.here f1 rfl⟩
  · exact h1.elim
theorem gtTru {a : Expr} {f : EF} (ha : PE X a (TXO ⟨X.K, cl⟩ W f)) (he : ∀ whole, isTrue a X.env whole = (do let v ← whole; standAt a.pos; holding [v] (truthy v)) := by intro _; rfl) : PT X a (TXB ⟨X.K, cl⟩ W (mTru f)) :=
  (pt_truth ha he).imp fun _ _ _ h => tru_of h

/-! ### and, or, not, if -/
theorem and_of {a b : BF} {σ : St} {H : Hp} {Q : Bool → Hp → Prop} (h : TXB c W (mAnd a b) σ H Q) : tAnd (TXB c W a) (TXB c W b) σ H Q := by
  obtain ⟨ρ, S, A, G, e, ft, h⟩ := h
  refine (go a e ft h).imp fun x H1 ⟨S1, A1, G1, d, x1, e1, f1, r1, h1⟩ => ?_
  subst r1
  cases x with
  | true => exact iteT ⟨ρ, S1, A1, G1, e1, f1, h1⟩
  | false => exact iteF (OkG.here (a := false) h1 f1 rfl)
theorem or_of {a b : BF} {σ : St} {H : Hp} {Q : Bool → Hp → Prop} (h : TXB c W (mOr a b) σ H Q) : tOr (TXB c W a) (TXB c W b) σ H Q := by
  obtain ⟨ρ, S, A, G, e, ft, h⟩ := h
  refine (go a e ft h).imp fun x H1 ⟨S1, A1, G1, d, x1, e1, f1, r1, h1⟩ => ?_
  subst r1
  cases x with
  | false => exact iteF ⟨ρ, S1, A1, G1, e1, f1, h1⟩
  | true => exact iteT (OkG.here (a := true) h1 f1 rfl)
theorem not_of {a : BF} {σ : St} {H : Hp} {Q : Bool → Hp → Prop} (h : TXB c W (mNot a) σ H Q) : tNot (TXB c W a) σ H Q := by
  obtain ⟨ρ, S, A, G, e, ft, h⟩ := h
  refine (go a e ft h).imp fun x H1 ⟨S1, A1, G1, d, x1, e1, f1, r1, h1⟩ => ?_
  subst r1
  exact OkG.here h1 f1 rfl
variable {a b : Expr} {rest : List Expr} {pos : Pos} {fa fb : BF}
theorem gwAnd1 (ha : PT X a (TXB ⟨X.K, cl⟩ W fa)) : PW X (.BoolOp .And [a] pos) (TXB ⟨X.K, cl⟩ W fa) := pw_and1 ha
theorem gwOr1 (ha : PT X a (TXB ⟨X.K, cl⟩ W fa)) : PW X (.BoolOp .Or [a] pos) (TXB ⟨X.K, cl⟩ W fa) := pw_or1 ha
theorem gwAnd (ha : PT X a (TXB ⟨X.K, cl⟩ W fa)) (hb : PW X (.BoolOp .And (b :: rest) pos) (TXB ⟨X.K, cl⟩ W fb)) : PW X (.BoolOp .And (a :: b :: rest) pos) (TXB ⟨X.K, cl⟩ W (mAnd fa fb)) := (pw_and ha hb).imp fun _ _ _ h => and_of h
theorem gwOr (ha : PT X a (TXB ⟨X.K, cl⟩ W fa)) (hb : PW X (.BoolOp .Or (b :: rest) pos) (TXB ⟨X.K, cl⟩ W fb)) : PW X (.BoolOp .Or (a :: b :: rest) pos) (TXB ⟨X.K, cl⟩ W (mOr fa fb)) := (pw_or ha hb).imp fun _ _ _ h => or_of h
theorem gtNot (ha : PT X a (TXB ⟨X.K, cl⟩ W fa)) : PT X (.UnaryOp .Not a pos) (TXB ⟨X.K, cl⟩ W (mNot fa)) := (pt_not ha).imp fun _ _ _ h => not_of h
variable {ea eb : EF}
theorem gOne {op} (h : PE X a (TX ⟨X.K, cl⟩ W ea)) : PE X (.BoolOp op [a] pos) (TX ⟨X.K, cl⟩ W ea) := pe_one h
theorem gAndV (ha : PE X a (TX ⟨X.K, cl⟩ W ea)) (hb : PE X (.BoolOp .And (b :: rest) pos) (TX ⟨X.K, cl⟩ W eb)) : PE X (.BoolOp .And (a :: b :: rest) pos) (TX ⟨X.K, cl⟩ W (mAndV ea eb)) := (pe_and ha hb).imp fun σ H Q ⟨ρ, S, A, G, e, ft, h⟩ => by
  refine (test_of (Q := fun x H1 => if x = true then TX ⟨X.K, cl⟩ W eb σ H1 Q else Q (.bl false) H1) ?_).imp fun _ _ z => z
  refine (go (mB ea) e ft h).imp fun x H1 ⟨S1, A1, G1, d, x1, e1, f1, r1, h1⟩ => ?_
  subst r1
  cases x with
  | true => exact iteT ⟨ρ, S1, A1, G1, e1, f1, h1⟩
  | false => exact iteF (OkG.here (a := D.bl false) h1 f1 (.bl false))
theorem gOrV (ha : PE X a (TX ⟨X.K, cl⟩ W ea)) (hb : PE X (.BoolOp .Or (b :: rest) pos) (TX ⟨X.K, cl⟩ W eb)) : PE X (.BoolOp .Or (a :: b :: rest) pos) (TX ⟨X.K, cl⟩ W (mOrV ea eb)) := (pe_or ha hb).imp fun σ H Q ⟨ρ, S, A, G, e, ft, h⟩ => by
  refine (test_of (Q := fun x H1 => if x = true then Q (.bl true) H1 else TX ⟨X.K, cl⟩ W eb σ H1 Q) ?_).imp fun _ _ z => z
  refine (go (mB ea) e ft h).imp fun x H1 ⟨S1, A1, G1, d, x1, e1, f1, r1, h1⟩ => ?_
  subst r1
  cases x with
  | false => exact iteF ⟨ρ, S1, A1, G1, e1, f1, h1⟩
  | true => exact iteT (OkG.here (a := D.bl true) h1 f1 (.bl true))
theorem gNotV (ha : PE X a (TX ⟨X.K, cl⟩ W ea)) : PE X (.UnaryOp .Not a pos) (TX ⟨X.K, cl⟩ W (mNotV ea)) := (pe_not ha).imp fun σ H Q ⟨ρ, S, A, G, e, ft, h⟩ => by
  refine (test_of (Q := fun x H1 => Q (.bl (!x)) H1) ?_).imp fun _ _ z => z
  refine (go (mB ea) e ft h).imp fun x H1 ⟨S1, A1, G1, d, x1, e1, f1, r1, h1⟩ => ?_
  subst r1
  exact OkG.here h1 f1 (.bl _)
theorem gIf {t : Expr} {ft : BF} (hc : PT X t (TXB ⟨X.K, cl⟩ W ft)) (ha : PE X a (TX ⟨X.K, cl⟩ W ea)) (hb : PE X b (TX ⟨X.K, cl⟩ W eb)) : PE X (.IfExp t a b pos) (TX ⟨X.K, cl⟩ W (mIf ft ea eb)) := (pe_ifExp hc ha hb).imp fun σ H Q ⟨ρ, S, A, G, e, fi, h⟩ => by
  refine (go ft e fi h).imp fun x H1 ⟨S1, A1, G1, d, x1, e1, f1, r1, h1⟩ => ?_
  subst r1
  cases x with
  | true => exact iteT ⟨ρ, S1, A1, G1, e1, f1, h1⟩
  | false => exact iteF ⟨ρ, S1, A1, G1, e1, f1, h1⟩
end
end Gh

set_option Elab.async false
set_option linter.all false
set_option maxRecDepth 100000
set_option maxHeartbeats 4000000
/-! The ghost layer 3: statements, targets, loops, comprehensions, calls, defs. -/
namespace Gh
open PySem L2
section
variable {c : Ct} {W : WX} {S S' : Hp} {A A' : List Addr} {H H' : Hp} {σ σ' : L2.St} {ρ ρ' : En} {G : GH}
theorem ES.ow (x : ES S A H S' A' H') (O : Addr → Prop) : SS O S A H O S' A' H' := (x.wide fun _ z => z.elim).drop fun _ z => .inr (.inr z)
theorem OkS.sstep {r : R Fl} {D : Ends} (x : SS (Ow σ ρ) S A H (Ow σ' ρ') S' A' H') (h : OkS c W S A H σ ρ r D) : OkS c W S' A' H' σ' ρ' r D := by
  cases r with
  | ok f G1 =>
    cases f with
    | nx q => exact fun σ2 S2 A2 H2 y => h σ2 S2 A2 H2 (x.trans y)
    | bk q => exact fun σ2 S2 A2 H2 y => h σ2 S2 A2 H2 (x.trans y)
    | ct q => exact fun σ2 S2 A2 H2 y => h σ2 S2 A2 H2 (x.trans y)
    | ex n q => exact fun σ2 S2 A2 H2 y => h σ2 S2 A2 H2 (x.trans y)
    | rt d => exact fun v S2 A2 H2 y => h v S2 A2 H2 (x.trans y)
  | ex n G1 => exact h
  | stuck => exact h
theorem OkS.step {r : R Fl} {D : Ends} (x : ES S A H S' A' H') (h : OkS c W S A H σ ρ r D) : OkS c W S' A' H' σ ρ r D := h.sstep (x.ow _)
/-- an expression in a statement -/
theorem goS {α β : Type} {Rp : Hp → List Addr → Hp → β → α → Prop} (f : En → GH → R α) {k : α → GH → R Fl} {D : Ends} (e : EnvOk c S A H σ ρ) (ft : Fits c S A G H) (h : OkS c W S A H σ ρ (inS (f ρ G) ρ k) D) :
    Pd c W Rp f σ H (fun b H1 => ∃ S' A' G' a, ES S A H S' A' H1 ∧ EnvOk c S' A' H1 σ ρ ∧ Fits c S' A' G' H1 ∧ Rp S' A' H1 b a ∧ OkS c W S' A' H1 σ ρ (k a G') D) := by
  refine ⟨ρ, S, A, G, e, ft, ?_⟩
  cases r : f ρ G with
  | ok a G1 =>
    rw [r] at h
    exact fun b S2 A2 H2 x f2 rp => ⟨S2, A2, G1, a, x, e.step x, f2, rp, OkS.step x h⟩
  | ex n G1 =>
    rw [r] at h
    exact fun S2 A2 H2 x f2 => h σ S2 A2 H2 (x.ow _) f2 (e.step x)
  | stuck =>
    rw [r] at h
    exact h.elim
theorem OkS.nx {D : Ends} (h : OkS c W S A H σ ρ (.ok (.nx ρ) G) D) (e : EnvOk c S A H σ ρ) (ft : Fits c S A G H) : D.nx σ H := h σ S A H SS.refl ft e
/-- a sequence: what stands behind b's end -/
theorem OkS.seq {r : R Fl} {k : En → GH → R Fl} {D : Ends} (h : OkS c W S A H σ ρ (r.bind fun f G1 => match f with | .nx ρ1 => k ρ1 G1 | f => .ok f G1) D) :
    OkS c W S A H σ ρ r { D with nx := fun σ1 H1 => ∃ ρ1 S1 A1 G1, SS (Ow σ ρ) S A H (Ow σ1 ρ1) S1 A1 H1 ∧ EnvOk c S1 A1 H1 σ1 ρ1 ∧ Fits c S1 A1 G1 H1 ∧ OkS c W S1 A1 H1 σ1 ρ1 (k ρ1 G1) D } := by
  cases r with
  | ok f G1 =>
    cases f with
    | nx q => exact fun σ2 S2 A2 H2 y f2 e2 => ⟨q, S2, A2, G1, y, e2, f2, OkS.sstep y h⟩
    | bk q => exact h
    | ct q => exact h
    | ex n q => exact h
    | rt d => exact h
  | ex n G1 => exact h
  | stuck => exact h
/-- the ends are weakened -/
theorem OkS.ends {r : R Fl} {D D' : Ends} (h : OkS c W S A H σ ρ r D) (h1 : ∀ σ H, D.nx σ H → D'.nx σ H) (h2 : ∀ σ H, D.bk σ H → D'.bk σ H) (h3 : ∀ σ H, D.ct σ H → D'.ct σ H) (h4 : ∀ v H, D.rt v H → D'.rt v H) : OkS c W S A H σ ρ r D' := by
  cases r with
  | ok f G1 =>
    cases f with
    | nx q => exact fun σ2 S2 A2 H2 y f2 e2 => h1 _ _ (h σ2 S2 A2 H2 y f2 e2)
    | bk q => exact fun σ2 S2 A2 H2 y f2 e2 => h2 _ _ (h σ2 S2 A2 H2 y f2 e2)
    | ct q => exact fun σ2 S2 A2 H2 y f2 e2 => h3 _ _ (h σ2 S2 A2 H2 y f2 e2)
    | ex n q => exact h
    | rt d => exact fun v S2 A2 H2 y f2 e2 => h4 _ _ (h v S2 A2 H2 y f2 e2)
  | ex n G1 => exact h
  | stuck => exact h
/-! ### slots set -/
theorem EnvOk.set {v : V} {d : D} (e : EnvOk c S A H σ ρ) (r : Rep c S A v d) (i : Nat) : EnvOk c S A H (σ.set i (some v)) (ρ.set i (some (.v d))) := by
  refine ⟨by simp [e.len], fun j dj h => ?_, fun j x h => ?_, fun j k x y a h1 h2 h3 h4 => ?_⟩
  · rw [List.getElem?_set] at h
    by_cases q : i = j
    · subst q
      simp only [if_true] at h
      split at h
      · rename_i hl
        cases h
        exact ⟨v, by rw [List.getElem?_set]; simp [e.len, hl], r⟩
      · cases h
    · rw [if_neg q] at h
      rw [List.getElem?_set, if_neg q]
      exact e.val j dj h
  · rw [List.getElem?_set] at h
    by_cases q : i = j
    · subst q
      simp only [if_true] at h
      split at h <;> cases h
    · rw [if_neg q] at h
      rw [List.getElem?_set, if_neg q]
      exact e.own j x h
  · rw [List.getElem?_set] at h1 h2 h3 h4
    by_cases q : i = j
    · subst q
      simp only [if_true] at h1
      split at h1 <;> cases h1
    · by_cases q2 : i = k
      · subst q2
        simp only [if_true] at h2
        split at h2 <;> cases h2
      · rw [if_neg q] at h1 h3
        rw [if_neg q2] at h2 h4
        exact e.inj j k x y a h1 h2 h3 h4
theorem ow_set {v : V} {d : D} {i : Nat} {a : Addr} (h : Ow (σ.set i (some v)) (ρ.set i (some (.v d))) a) : Ow σ ρ a := by
  obtain ⟨j, x, h1, h2⟩ := h
  rw [List.getElem?_set] at h1 h2
  by_cases q : i = j
  · subst q
    simp only [if_true] at h1
    split at h1 <;> cases h1
  · rw [if_neg q] at h1 h2
    exact ⟨j, x, h1, h2⟩
theorem SS.set {v : V} {d : D} (i : Nat) {O : Addr → Prop} (x : SS O S A H (Ow σ ρ) S' A' H') : SS O S A H (Ow (σ.set i (some v)) (ρ.set i (some (.v d)))) S' A' H' := x.drop fun a z => x.newO a (ow_set z)
end

/-! ### targets -/
def OkT (c : Ct) (S : Hp) (A : List Addr) (H : Hp) (σ : L2.St) (ρ : En) (r : R En) (Q : L2.St → Hp → Prop) : Prop := match r with
  | .ok ρ' G' => ∀ σ' S' A' H', SS (Ow σ ρ) S A H (Ow σ' ρ') S' A' H' → Fits c S' A' G' H' → EnvOk c S' A' H' σ' ρ' → Q σ' H'
  | _ => False
def TXG (c : Ct) (g : GF) : TG := fun v σ H Q => ∃ ρ S A G d, EnvOk c S A H σ ρ ∧ Fits c S A G H ∧ Rep c S A v d ∧ OkT c S A H σ ρ (g d ρ G) Q
/-- names, from the left -/
def setAll (ρ : En) : List Nat → List D → En
  | i :: is, d :: ds => setAll (ρ.set i (some (.v d))) is ds
  | _, _ => ρ
def setAllσ (σ : L2.St) : List Nat → List V → L2.St
  | i :: is, d :: ds => setAllσ (σ.set i (some d)) is ds
  | _, _ => σ
def gT (is : List Nat) : GF := fun d ρ G => match view G d with
  | .tup ds => if ds.length = is.length then .ok (setAll ρ is ds) G else .stuck
  | .lst ds => if ds.length = is.length then .ok (setAll ρ is ds) G else .stuck
  | _ => .stuck
section
variable {X : Cx} {cl : Str → Addr} {c : Ct} {W : WX} {S S' : Hp} {A A' : List Addr} {H H' : Hp} {σ σ' : L2.St} {ρ ρ' : En} {G : GH}
theorem _root_.L2.PG.imp {e : Expr} {t t' : TG} (h : PG X e t) (q : ∀ v σ H Q, t' v σ H Q → t v σ H Q) : PG X e t' := ⟨fun pins s σ H v u Q I r z => h.run pins s σ H v u Q I r (q v σ H Q z)⟩
theorem gN_of {i : Nat} {v : V} {Q : L2.St → Hp → Prop} (h : TXG c (gN i) v σ H Q) : gName i v σ H Q := by
  obtain ⟨ρ, S, A, G, d, e, ft, r, h⟩ := h
  exact h _ S A H (SS.refl.set i) ft (e.set r i)
theorem ggN {i : Nat} {x : Str} {pos : Pos} (hN : X.N.Nodup) (hi : X.N[i]? = some x := by rfl) (hx : Loc X.env.scope x := by first | exact Or.inl rfl | exact Or.inr rfl) (hf : X.fn x = true ∨ X.env.scope.names.lookup x = some .local := by first | exact .inl rfl | exact .inr rfl | assumption) : PG X (.Name x pos) (TXG ⟨X.K, cl⟩ (gN i)) :=
  (pg_name hN hi hx hf).imp fun _ _ _ _ h => gN_of h
/-- several names -/
def gNames : List Nat → TGs
  | [] => gNil
  | i :: is => gCons (gName i) (gNames is)
theorem gNames_iff : ∀ (is : List Nat) (vs : List V) (σ : L2.St) (H : Hp) (Q : L2.St → Hp → Prop), is.length = vs.length → Q (setAllσ σ is vs) H → gNames is vs σ H Q
  | [], [], _, _, _, _, q => ⟨rfl, q⟩
  | i :: is, v :: vs, σ, H, Q, hl, q => ⟨v, vs, rfl, gNames_iff is vs _ H Q (by simpa using hl) q⟩
  | [], _ :: _, _, _, _, hl, _ => by simp at hl
  | _ :: _, [], _, _, _, hl, _ => by simp at hl
theorem ggs0 : PGs X [] (gNames []) := pgs_nil
theorem ggs1 {i : Nat} {is : List Nat} {x : Str} {pos : Pos} {es : List Expr} (hN : X.N.Nodup) (h2 : PGs X es (gNames is)) (hi : X.N[i]? = some x := by rfl) (hx : Loc X.env.scope x := by first | exact Or.inl rfl | exact Or.inr rfl) (hf : X.fn x = true ∨ X.env.scope.names.lookup x = some .local := by first | exact .inl rfl | exact .inr rfl | assumption)
    (hs : (assignEach (.Name x pos :: es) X.env).map (·.2) = assign (.Name x pos) X.env :: (assignEach es X.env).map (·.2) := by rfl) : PGs X (.Name x pos :: es) (gNames (i :: is)) := pgs_cons (pg_name hN hi hx hf) h2 hs
theorem EnvOk.setAll : ∀ {is : List Nat} {vs : List V} {ds : List D} {σ : L2.St} {ρ : En}, EnvOk c S A H σ ρ → Reps c S A vs ds → EnvOk c S A H (setAllσ σ is vs) (Gh.setAll ρ is ds)
  | [], _, _, _, _, e, _ => by cases ‹Reps c S A _ _› <;> exact e
  | i :: is, _, _, _, _, e, .nil => e
  | i :: is, _, _, _, _, e, .cons h r => EnvOk.setAll (is := is) (e.set h i) r
theorem ow_setAll : ∀ {is : List Nat} {vs : List V} {ds : List D} {σ : L2.St} {ρ : En} {a : Addr}, vs.length = ds.length → Ow (setAllσ σ is vs) (Gh.setAll ρ is ds) a → Ow σ ρ a
  | [], [], [], _, _, _, _, h => h
  | [], _ :: _, _ :: _, _, _, _, _, h => h
  | i :: is, [], [], _, _, _, _, h => h
  | i :: is, v :: vs, d :: ds, _, _, _, hl, h => ow_set (ow_setAll (by simpa using hl) h)
  | _, [], _ :: _, _, _, _, hl, _ => by simp at hl
  | _, _ :: _, [], _, _, _, hl, _ => by simp at hl
theorem gT_of {is : List Nat} {v : V} {Q : L2.St → Hp → Prop} (h : TXG c (gT is) v σ H Q) : (∃ a xs, v = .ref a ∧ SqT c.K H a xs ∧ xs.length = is.length ∧ gNames is xs σ H Q) ∨ ∃ a xs, v = .ref a ∧ SqL c.K H a xs ∧ xs.length = is.length ∧ gNames is xs σ H Q := by
  obtain ⟨ρ, S, A, G, d, e, ft, r, h⟩ := h
  unfold gT at h
  split at h
  · rename_i q
    obtain ⟨a, vs, rfl, h2, h3⟩ := look_tup ft (.inl r) q
    split at h
    · rename_i hl
      refine .inl ⟨a, vs, rfl, h2, h3.length.trans hl, gNames_iff _ _ _ _ _ (by rw [h3.length, hl]) ?_⟩
      exact h _ S A H (SS.refl.drop fun b z => .inr (.inr (ow_setAll h3.length z))) ft (e.setAll h3)
    · exact h.elim
  · rename_i q
    obtain ⟨a, vs, rfl, h2, h3⟩ := look_lst ft (.inl r) q
    split at h
    · rename_i hl
      refine .inr ⟨a, vs, rfl, .inl (.inl h2), h3.length.trans hl, gNames_iff _ _ _ _ _ (by rw [h3.length, hl]) ?_⟩
      exact h _ S A H (SS.refl.drop fun b z => .inr (.inr (ow_setAll h3.length z))) ft (e.setAll h3)
    · exact h.elim
  · exact h.elim
theorem ggT {is : List Nat} {es : List Expr} {k : Nat} {pos : Pos} (hc : X.calm = true) (h : PGs X es (gNames is)) (hn : (assignEach es X.env).length = is.length := by rfl) (hst : (assignEach es X.env).findIdx? (·.1) = none := by rfl) :
    PG X (.Tuple es k pos) (TXG ⟨X.K, cl⟩ (gT is)) := ⟨fun pins s σ H v u Q I r z => by
  rcases gT_of z with z | z
  · exact (pg_tup hc h hn hst).run pins s σ H v u Q I r z
  · exact (pg_unl hc h hn hst).run pins s σ H v u Q I r z⟩

/-! ### plain statements -/
variable {st : Stmt} {rest : List Stmt} {f g : SF} {e : Expr} {fe : EF} {pos : Pos}
theorem gsNil : PSs X [] (TXS ⟨X.K, cl⟩ W sNext) := pss_nil.imp fun D σ H ⟨ρ, S, A, G, e, ft, h⟩ => OkS.nx h e ft
theorem gsCons (h1 : PS X st (TXS ⟨X.K, cl⟩ W f)) (h2 : PSs X rest (TXS ⟨X.K, cl⟩ W g)) : PSs X (st :: rest) (TXS ⟨X.K, cl⟩ W (sSeq f g)) := (pss_cons h1 h2).imp fun D σ H ⟨ρ, S, A, G, e, ft, h⟩ =>
  ⟨ρ, S, A, G, e, ft, (OkS.seq h).ends (fun σ1 H1 ⟨ρ1, S1, A1, G1, _, e1, f1, h1⟩ => ⟨ρ1, S1, A1, G1, e1, f1, h1⟩) (fun _ _ z => z) (fun _ _ z => z) (fun _ _ z => z)⟩
theorem gsOne (h1 : PS X st (TXS ⟨X.K, cl⟩ W f)) : PSs X [st] (TXS ⟨X.K, cl⟩ W f) := pss_one h1
theorem gsNever {sts : List Stmt} : PSs X sts (TXS ⟨X.K, cl⟩ W sNever) := pss_never.imp fun D σ H ⟨ρ, S, A, G, e, ft, h⟩ => h
theorem gNever : PS X st (TXS ⟨X.K, cl⟩ W sNever) := ps_never.imp fun D σ H ⟨ρ, S, A, G, e, ft, h⟩ => h
theorem gPass : PS X (.Pass pos) (TXS ⟨X.K, cl⟩ W sNext) := ps_pass.imp fun D σ H ⟨ρ, S, A, G, e, ft, h⟩ => OkS.nx h e ft
theorem gBreak : PS X (.Break pos) (TXS ⟨X.K, cl⟩ W sBreak) := ps_break.imp fun D σ H ⟨ρ, S, A, G, e, ft, h⟩ => h σ S A H SS.refl ft e
theorem gCont : PS X (.Continue pos) (TXS ⟨X.K, cl⟩ W sCont) := ps_continue.imp fun D σ H ⟨ρ, S, A, G, e, ft, h⟩ => h σ S A H SS.refl ft e
theorem gExpr (he : PE X e (TX ⟨X.K, cl⟩ W fe)) (hs : swapsWith e none pos.line X.env = pure false := by rfl) : PS X (.Expr e pos) (TXS ⟨X.K, cl⟩ W (sDrop fe)) := (ps_expr he hs).imp fun D σ H ⟨ρ, S, A, G, e, ft, h⟩ =>
  (goS fe e ft h).imp fun x H1 ⟨S1, A1, G1, d, x1, e1, f1, r1, h1⟩ => OkS.nx h1 e1 f1
theorem gRet (he : PE X e (TX ⟨X.K, cl⟩ W fe)) : PS X (.Return (some e) pos) (TXS ⟨X.K, cl⟩ W (sRet fe)) := (ps_ret he).imp fun D σ H ⟨ρ, S, A, G, e, ft, h⟩ =>
  (goS fe e ft h).imp fun x H1 ⟨S1, A1, G1, d, x1, e1, f1, r1, h1⟩ => h1 x S1 A1 H1 (SS.refl.drop fun _ z => z.elim) f1 r1
theorem gRetN : PS X (.Return none pos) (TXS ⟨X.K, cl⟩ W sRetN) := ps_retN.imp fun D σ H ⟨ρ, S, A, G, e, ft, h⟩ => h .non S A H (SS.refl.drop fun _ z => z.elim) ft .non
theorem gsIf {t : Expr} {a b : List Stmt} {ft : BF} (hc : PT X t (TXB ⟨X.K, cl⟩ W ft)) (ha : PSs X a (TXS ⟨X.K, cl⟩ W f)) (hb : PSs X b (TXS ⟨X.K, cl⟩ W g)) : PS X (.If t a b pos) (TXS ⟨X.K, cl⟩ W (sIf ft f g)) := (ps_if hc ha hb).imp fun D σ H ⟨ρ, S, A, G, e, fi, h⟩ =>
  (goS ft e fi h).imp fun x H1 ⟨S1, A1, G1, d, x1, e1, f1, r1, h1⟩ => by
    subst r1
    cases x with
    | true => exact iteT ⟨ρ, S1, A1, G1, e1, f1, h1⟩
    | false => exact iteF ⟨ρ, S1, A1, G1, e1, f1, h1⟩
theorem asg_of {D : Ends} {fe : EF} {gf : GF} (h : TXS c W (sAsg fe gf) D σ H) : tAsg (TX c W fe) (TXG c gf) D σ H := by
  obtain ⟨ρ, S, A, G, e, ft, h⟩ := h
  refine (goS fe e ft h).imp fun x H1 ⟨S1, A1, G1, d, x1, e1, f1, r1, h1⟩ => ⟨ρ, S1, A1, G1, d, e1, f1, r1, ?_⟩
  cases q : gf d ρ G1 with
  | ok ρ1 G2 => rw [q] at h1; exact h1
  | ex n G2 => rw [q] at h1; exact h1.elim
  | stuck => rw [q] at h1; exact h1.elim
theorem gAsg {tg e : Expr} {fe : EF} {gf : GF} (he : PE X e (TX ⟨X.K, cl⟩ W fe)) (hg : PG X tg (TXG ⟨X.K, cl⟩ gf)) (hs : swapsWithSole [tg] e pos.line X.env = pure false := by rfl) (hw : swappedStores [tg] e X.env = pure none := by rfl)
    (h1 : (assignEach [tg] X.env).map (·.2) = [assign tg X.env] := by rfl) : PS X (.Assign [tg] e pos) (TXS ⟨X.K, cl⟩ W (sAsg fe gf)) := (ps_asg he hg hs hw h1).imp fun _ _ _ h => asg_of h
theorem gSet {i : Nat} {x : Str} {e : Expr} {fe : EF} {pos' : Pos} (hN : X.N.Nodup) (he : PE X e (TX ⟨X.K, cl⟩ W fe)) (hi : X.N[i]? = some x := by rfl) (hx : Loc X.env.scope x := by first | exact Or.inl rfl | exact Or.inr rfl) (hs : swapsWith e (some (.Name x pos')) pos.line X.env = pure false := by rfl) (hf : X.fn x = true ∨ X.env.scope.names.lookup x = some .local := by first | exact .inl rfl | exact .inr rfl | assumption) :
    PS X (.Assign [.Name x pos'] e pos) (TXS ⟨X.K, cl⟩ W (sAsg fe (gN i))) := (ps_set hN hi hx he hs hf).imp fun D σ H h => Pd.imp (asg_of h) fun x H1 z => gN_of z
/-- a, b = x, y -/
def sPar (i j : Nat) (a : AF) : SF := fun ρ G => inS (a ρ G) ρ fun ds G1 => match ds with
  | [d, e] => .ok (.nx ((ρ.set i (some (.v d))).set j (some (.v e)))) G1
  | _ => .stuck
theorem gPar {i j : Nat} {x y : Str} {a b : Expr} {fa : AF} {px py pt : Pos} {kt k2 pt2} (hc : X.calm = true) (hN : X.N.Nodup) (ha : PA X [a, b] (TXA ⟨X.K, cl⟩ W fa)) (hij : i ≠ j := by decide) (hi : X.N[i]? = some x := by rfl) (hj : X.N[j]? = some y := by rfl)
    (hx : X.env.scope.names.lookup x = some .local := by rfl) (hy : X.env.scope.names.lookup y = some .local := by rfl)
    (hw : swappedStores [.Tuple [.Name x px, .Name y py] kt pt] (.Tuple [a, b] k2 pt2) X.env = pure (some [x, y]) := by rfl)
    (hs : swapsWithSole [.Tuple [.Name x px, .Name y py] kt pt] (.Tuple [a, b] k2 pt2) pos.line X.env = pure false := by rfl) :
    PS X (.Assign [.Tuple [.Name x px, .Name y py] kt pt] (.Tuple [a, b] k2 pt2) pos) (TXS ⟨X.K, cl⟩ W (sPar i j fa)) := (ps_par hc hN hi hj hij hx hy ha hw hs).imp fun D σ H ⟨ρ, S, A, G, e, ft, h⟩ => by
  refine (goS fa e ft h).imp fun vs H1 ⟨S1, A1, G1, ds, x1, e1, f1, r1, h1⟩ => ?_
  cases r1 with
  | nil => exact h1.elim
  | cons ra rr =>
    cases rr with
    | nil => exact h1.elim
    | cons rb rr =>
      cases rr with
      | cons _ _ => exact h1.elim
      | nil => exact ⟨_, _, rfl, h1 _ S1 A1 H1 ((SS.refl.set i).set j) f1 ((e1.set ra i).set rb j)⟩
end
end Gh

set_option Elab.async false
set_option linter.all false
set_option maxRecDepth 100000
set_option maxHeartbeats 4000000
/-! The ghost layer 4: loops, comprehensions, defs. -/
namespace Gh
open PySem L2
/-- what is stable stands just so, locks and all -/
def Kp (S H H' : Hp) : Prop := ∀ a u, S a = some u → H' a = H a
/-- J walks over ds while the stable part stands -/
structure WalkD (c : Ct) (S : Hp) (A : List Addr) (H0 : Hp) (J : It) (ds : List D) : Prop where
  goes : ∀ (i : Nat) H, i < ds.length → Sub S H → Kp S H0 H → J.go i H
  stops : ∀ H, Sub S H → Kp S H0 H → J.stop ds.length H
  yields : ∀ (i : Nat) H x H', i < ds.length → Sub S H → J.yld i H x H' → ∀ S1 A1 G1, Inc S S1 → A <+: A1 → Fits c S1 A1 G1 H → ∃ S2 d, ES S1 A1 H S2 A1 H' ∧ Fits c S2 A1 G1 H' ∧ ds[i]? = some d ∧ Rep c S2 A1 x d
abbrev TXI (c : Ct) (W : WX) (fi : AF) : TI := Pd c W (WalkD c) fi
def oIter (d : D) (G : GH) : R (List D) := match d with
  | .lst ds => .ok ds G
  | .tup ds => .ok ds G
  | .str x => .ok (x.cps.toList.map fun n => D.str ⟨#[n]⟩) G
  | _ => .stuck
def mIter (f : EF) : AF := fun ρ G => (f ρ G).bind oIter
def upto (lo : Int) (n : Nat) : List D := (List.range n).map fun (i : Nat) => D.int (lo + (i : Int))
@[irreducible] def inRg (n : Int) : Bool := decide (-(2 ^ 62) ≤ n) && decide (n < 2 ^ 62)
theorem inRg_iff {n : Int} : inRg n = true ↔ (-(2 ^ 62) ≤ n ∧ n < 2 ^ 62) := by unfold inRg; simp only [Bool.and_eq_true, decide_eq_true_eq]
def oRng1 (ds : List D) (G : GH) : R (List D) := match ds with
  | [.int n] => if inRg n = true then .ok (upto 0 n.toNat) G else .stuck
  | _ => .stuck
def oRng2 (ds : List D) (G : GH) : R (List D) := match ds with
  | [.int m, .int n] => if inRg m = true ∧ inRg n = true then .ok (upto m (n - m).toNat) G else .stuck
  | _ => .stuck
def mRng1 (f : AF) : AF := fun ρ G => (f ρ G).bind oRng1
def mRng2 (f : AF) : AF := fun ρ G => (f ρ G).bind oRng2
/-! ### loops -/
def forL (g : GF) (b : SF) : List D → En → GH → R Fl
  | [], ρ, G => .ok (.nx ρ) G
  | d :: r, ρ, G => (g d ρ G).bind fun ρ1 G1 => (b ρ1 G1).bind fun f G2 => match f with
    | .nx ρ2 => forL g b r ρ2 G2
    | .ct ρ2 => forL g b r ρ2 G2
    | .bk ρ2 => .ok (.nx ρ2) G2
    | .rt d => .ok (.rt d) G2
    | .ex n ρ2 => .ok (.ex n ρ2) G2
def sFor (fi : AF) (g : GF) (b : SF) : SF := fun ρ G => inS (fi ρ G) ρ fun ds G1 => forL g b ds ρ G1
/-- at most n turns -/
def whileL (t : BF) (b : SF) : Nat → En → GH → R Fl
  | 0, _, _ => .stuck
  | n + 1, ρ, G => inS (t ρ G) ρ fun x G1 => if x = true then (b ρ G1).bind fun f G2 => match f with
    | .nx ρ2 => whileL t b n ρ2 G2
    | .ct ρ2 => whileL t b n ρ2 G2
    | .bk ρ2 => .ok (.nx ρ2) G2
    | .rt d => .ok (.rt d) G2
    | .ex n ρ2 => .ok (.ex n ρ2) G2
    else .ok (.nx ρ) G1
def sWhile (n : En → GH → Nat) (t : BF) (b : SF) : SF := fun ρ G => whileL t b (n ρ G) ρ G
/-! ### comprehensions -/
def wipeE (ρ : En) : List Nat → En
  | [] => ρ
  | v :: vs => (wipeE ρ vs).set v none
def compL (g : GF) (t : BF) (e : EF) (ρ : En) : List D → GH → R (List D)
  | [], G => .ok [] G
  | d :: r, G => (g d ρ G).bind fun ρ1 G1 => (t ρ1 G1).bind fun b G2 => if b = true then (e ρ1 G2).bind fun y G3 => (compL g t e ρ r G3).bind fun ys G4 => .ok (y :: ys) G4 else compL g t e ρ r G2
def noEx {α : Type} (r : R α) : R α := match r with
  | .ex _ _ => .stuck
  | r => r
def mComp (fi : AF) (g : GF) (t : BF) (e : EF) (vs : List Nat) : AF := fun ρ G => (fi ρ G).bind fun ds G1 => if ds.length < LIM then noEx (compL g t e (wipeE ρ vs) ds G1) else .stuck
def mYes : BF := fun _ G => .ok true G
/-- the wish that nothing is raised -/
abbrev Wn : WX := fun _ _ _ _ => False

section
variable {c : Ct} {W : WX} {S S' : Hp} {A A' : List Addr} {H H' : Hp} {σ σ' : L2.St} {ρ ρ' : En} {G : GH}
theorem Kp.refl : Kp S H H := fun _ _ _ => rfl
theorem Kp.trans {S1 : Hp} {H1 H2 : Hp} (i : Inc S S1) (x : Kp S H H1) (y : Kp S1 H1 H2) : Kp S H H2 := fun a u e => (y a u (i a u e)).trans (x a u e)
theorem SS.kp {O' : Addr → Prop} (x : SS (Ow σ ρ) S A H O' S' A' H') (e : EnvOk c S A H σ ρ) (ft : Fits c S A G H) : Kp S H H' := fun a u q => x.keep a fun z => by
  rcases z with z | z | ⟨i, y, z1, z2⟩
  · rcases ft.sub a u q with w | ⟨_, o, w⟩ <;> (rw [z] at w; cases w)
  · rw [ft.out a z] at q; cases q
  · obtain ⟨b, h1, h2, _⟩ := e.own i y z1
    rw [z2] at h1
    cases h1
    rw [h2] at q; cases q
theorem ES.kp {O' : Addr → Prop} (x : SS No S A H O' S' A' H') (ft : Fits c S A G H) : Kp S H H' := fun a u q => x.keep a fun z => by
  rcases z with z | z | z
  · rcases ft.sub a u q with w | ⟨_, o, w⟩ <;> (rw [z] at w; cases w)
  · rw [ft.out a z] at q; cases q
  · exact z
theorem walkL {a : Addr} {vs : List V} {ds : List D} (h : SL c.K S a vs) (r : Reps c S A vs ds) : WalkD c S A H (Itl c.K a) ds := by
  have e := r.length
  refine ⟨fun i H hi q _ => ⟨vs, vs[i], h.sq q, by simp [show i < vs.length by omega]⟩, fun H q _ => ⟨vs, h.sq q, by omega⟩, fun i H x H' hi q y S1 A1 G1 h1 h2 f1 => ?_⟩
  obtain ⟨e1, y⟩ := y
  subst e1
  obtain ⟨d, hd, rd⟩ := r.get' (y vs (h.sq q))
  exact ⟨S1, d, SS.refl, f1, hd, rd.mono h1 h2⟩
theorem walkT {a : Addr} {vs : List V} {ds : List D} (h : ST c.K S a vs) (r : Reps c S A vs ds) : WalkD c S A H (Itt c.K a) ds := by
  have e := r.length
  refine ⟨fun i H hi q _ => ⟨vs, vs[i], h.sq q, by simp [show i < vs.length by omega]⟩, fun H q _ => ⟨vs, h.sq q, by omega⟩, fun i H x H' hi q y S1 A1 G1 h1 h2 f1 => ?_⟩
  obtain ⟨e1, y⟩ := y
  subst e1
  obtain ⟨d, hd, rd⟩ := r.get' (y vs (h.sq q))
  exact ⟨S1, d, SS.refl, f1, hd, rd.mono h1 h2⟩
theorem walkS {z : Str} : WalkD c S A H (Its z) (z.cps.toList.map fun n => D.str ⟨#[n]⟩) := by
  have w := @walk_str z
  refine ⟨fun i H hi _ _ => w.goes i H (by simpa using hi) trivial, fun H _ _ => by simpa using w.stops H trivial, fun i H x H' hi _ y S1 A1 G1 h1 h2 f1 => ?_⟩
  obtain ⟨e1, n, hn, e2⟩ := w.yields i H x H' (by simpa using hi) trivial y
  subst e1; subst e2
  exact ⟨S1, .str ⟨#[n]⟩, SS.refl, f1, by simp [hn], .str _⟩
theorem walkR {lo : Int} {n : Nat} : WalkD c S A H (Itr lo n) (upto lo n) := by
  have w := @walk_range lo n
  have l : (upto lo n).length = n := by simp [upto]
  refine ⟨fun i H hi _ _ => w.goes i H (by omega) trivial, fun H _ _ => by rw [l]; exact w.stops H trivial, fun i H x H' hi _ y S1 A1 G1 h1 h2 f1 => ?_⟩
  obtain ⟨e1, e2⟩ := w.yields i H x H' (by omega) trivial y
  subst e1; subst e2
  exact ⟨S1, .int (lo + i), SS.refl, f1, by simp [upto, show i < n by omega], .int _⟩
end

section
variable {X : Cx} {cl : Str → Addr} {c : Ct} {W : WX} {S S' : Hp} {A A' : List Addr} {H H' : Hp} {σ σ' : L2.St} {ρ ρ' : En} {G : GH} {tg : Expr}
theorem giSeq {l : Expr} {f : EF} (hl : PE X l (TX ⟨X.K, cl⟩ W f)) : PI X tg l (TXI ⟨X.K, cl⟩ W (mIter f)) := by
  refine ⟨fun pins s σ H R I h => ?_⟩
  obtain ⟨ρ, S, A, G, e, ft, h⟩ := h
  have base := go (Rp := rV ⟨X.K, cl⟩) f e ft h
  cases q : f ρ G with
  | stuck => rw [mIter, q] at h; exact h.elim
  | ex n G1 =>
    rw [mIter, q] at h
    refine (pi_list (tg := tg) hl).run pins s σ H R I ⟨ρ, S, A, G, e, ft, ?_⟩
    rw [q]; exact h
  | ok d G1 =>
    rw [mIter, q] at h
    cases d with
    | lst ds =>
      refine (pi_list (tg := tg) hl).run pins s σ H R I ⟨ρ, S, A, G, e, ft, ?_⟩
      rw [q]
      intro v S1 A1 H1 x1 f1 r1
      cases r1 with
      | lst h1 h2 => exact ⟨_, rfl, ⟨_, h1.sq f1.sub⟩, h _ S1 A1 H1 x1 f1 (walkL (c := ⟨X.K, cl⟩) h1 h2)⟩
    | tup ds =>
      refine (pi_tup (tg := tg) hl).run pins s σ H R I ⟨ρ, S, A, G, e, ft, ?_⟩
      rw [q]
      intro v S1 A1 H1 x1 f1 r1
      cases r1 with
      | tup h1 h2 => exact ⟨_, rfl, ⟨_, h1.sq f1.sub⟩, h _ S1 A1 H1 x1 f1 (walkT (c := ⟨X.K, cl⟩) h1 h2)⟩
    | str z =>
      refine (pi_str (tg := tg) hl).run pins s σ H R I ⟨ρ, S, A, G, e, ft, ?_⟩
      rw [q]
      intro v S1 A1 H1 x1 f1 r1
      cases r1
      exact ⟨_, rfl, h _ S1 A1 H1 x1 f1 walkS⟩
    | _ => exact h.elim
theorem giRng1 {a : Expr} {fa : AF} {p pos : Pos} (hm : X.mg "range" = none) (ha : PA X [a] (TXA ⟨X.K, cl⟩ W fa)) (hg : Gl X "range" := by rfl) (hs : starEach [a] X.env = [(false, eval a X.env)] := by rfl) : PI X tg (.Call (.Name "range" p) [a] [] pos) (TXI ⟨X.K, cl⟩ W (mRng1 fa)) :=
  ⟨fun pins s σ H R I ⟨ρ, S, A, G, e, ft, h⟩ => (pi_range1 hg hm ha hs).run pins s σ H R I ((go fa e ft h).imp fun vs H1 ⟨S1, A1, G1, ds, x1, e1, f1, r1, h1⟩ => by
    unfold oRng1 at h1
    split at h1
    · cases r1 with
      | cons r rr =>
        cases rr; cases r
        split at h1
        · rename_i hb
          exact ⟨_, rfl, (inRg_iff.mp hb).1, (inRg_iff.mp hb).2, h1.here f1 walkR⟩
        · exact h1.elim
    · exact h1.elim)⟩
theorem giRng2 {a b : Expr} {fa : AF} {p pos : Pos} (hm : X.mg "range" = none) (ha : PA X [a, b] (TXA ⟨X.K, cl⟩ W fa)) (hg : Gl X "range" := by rfl) (hs : starEach [a, b] X.env = [(false, eval a X.env), (false, eval b X.env)] := by rfl) (hs2 : starEach [b] X.env = [(false, eval b X.env)] := by rfl) :
    PI X tg (.Call (.Name "range" p) [a, b] [] pos) (TXI ⟨X.K, cl⟩ W (mRng2 fa)) :=
  ⟨fun pins s σ H R I ⟨ρ, S, A, G, e, ft, h⟩ => (pi_range2 hg hm ha hs hs2).run pins s σ H R I ((go fa e ft h).imp fun vs H1 ⟨S1, A1, G1, ds, x1, e1, f1, r1, h1⟩ => by
    unfold oRng2 at h1
    split at h1
    · cases r1 with
      | cons r rr =>
        cases rr with
        | cons r' rr =>
          cases rr; cases r; cases r'
          split at h1
          · rename_i hb
            exact ⟨_, _, rfl, ⟨(inRg_iff.mp hb.1).1, (inRg_iff.mp hb.1).2, (inRg_iff.mp hb.2).1, (inRg_iff.mp hb.2).2⟩, h1.here f1 walkR⟩
          · exact h1.elim
    · exact h1.elim)⟩

/-! ### for -/
theorem OkS.body {r : R Fl} {k : En → GH → R Fl} {D : Ends} (h : OkS c W S A H σ ρ (r.bind fun f G2 => match f with
    | .nx ρ2 => k ρ2 G2
    | .ct ρ2 => k ρ2 G2
    | .bk ρ2 => .ok (.nx ρ2) G2
    | .rt d => .ok (.rt d) G2
    | .ex n ρ2 => .ok (.ex n ρ2) G2) D) {N : L2.St → Hp → Prop}
    (hN : ∀ σ1 H1, (∃ ρ1 S1 A1 G1, SS (Ow σ ρ) S A H (Ow σ1 ρ1) S1 A1 H1 ∧ EnvOk c S1 A1 H1 σ1 ρ1 ∧ Fits c S1 A1 G1 H1 ∧ OkS c W S1 A1 H1 σ1 ρ1 (k ρ1 G1) D) → N σ1 H1) :
    OkS c W S A H σ ρ r { D with nx := N, ct := N, bk := D.nx } := by
  cases r with
  | ok f G1 =>
    cases f with
    | nx q => exact fun σ2 S2 A2 H2 y f2 e2 => hN _ _ ⟨q, S2, A2, G1, y, e2, f2, OkS.sstep y h⟩
    | ct q => exact fun σ2 S2 A2 H2 y f2 e2 => hN _ _ ⟨q, S2, A2, G1, y, e2, f2, OkS.sstep y h⟩
    | bk q => exact h
    | ex n q => exact h
    | rt d => exact h
  | ex n G1 => exact h
  | stuck => exact h
theorem for_of {fi : AF} {g : GF} {b : SF} {D : Ends} (h : TXS c W (sFor fi g b) D σ H) : tFor (TXI c W fi) (TXG c g) (TXS c W b) D σ H := by
  obtain ⟨ρ, S, A, G, e, ft, h⟩ := h
  refine (goS fi e ft h).imp fun J H1 ⟨S1, A1, G1, ds, x1, e1, f1, w, h1⟩ => ?_
  refine ⟨fun i m σ' H' => m = ds.length - i ∧ i ≤ ds.length ∧ ∃ ρ' S' A' G', EnvOk c S' A' H' σ' ρ' ∧ Fits c S' A' G' H' ∧ Inc S1 S' ∧ A1 <+: A' ∧ Kp S1 H1 H' ∧ OkS c W S' A' H' σ' ρ' (forL g b (ds.drop i) ρ' G') D,
    ⟨ds.length, by simp, Nat.zero_le _, ρ, S1, A1, G1, e1, f1, fun _ _ z => z, List.prefix_refl _, Kp.refl, by simpa using h1⟩, ?_⟩
  rintro i m σ2 H2 ⟨rfl, hi, ρ2, S2, A2, G2, e2, f2, i2, p2, k2, h2⟩
  have sb : Sub S1 H2 := f2.sub.mono i2
  by_cases hlt : i < ds.length
  · refine .inr ⟨w.goes i H2 hlt sb k2, fun σ' H' => ∃ m', m' < ds.length - i ∧ m' = ds.length - (i + 1) ∧ i + 1 ≤ ds.length ∧ ∃ ρ' S' A' G', EnvOk c S' A' H' σ' ρ' ∧ Fits c S' A' G' H' ∧ Inc S1 S' ∧ A1 <+: A' ∧ Kp S1 H1 H' ∧ OkS c W S' A' H' σ' ρ' (forL g b (ds.drop (i + 1)) ρ' G') D,
      fun σ' H' z => z, fun x H3 y => ?_⟩
    obtain ⟨S3, d, x3, f3, hd, r3⟩ := w.yields i H2 x H3 hlt sb y S2 A2 G2 i2 p2 f2
    have ed : ds.drop i = d :: ds.drop (i + 1) := by
      rw [List.drop_eq_getElem_cons hlt]
      rw [List.getElem?_eq_getElem hlt] at hd
      rw [Option.some.inj hd]
    rw [ed] at h2
    have h3 := OkS.step x3 h2
    refine ⟨ρ2, S3, A2, G2, d, e2.step x3, f3, r3, ?_⟩
    unfold forL at h3
    cases q : g d ρ2 G2 with
    | stuck => rw [q] at h3; exact h3.elim
    | ex n G4 => rw [q] at h3; exact h3.elim
    | ok ρ4 G4 =>
      rw [q] at h3
      intro σ4 S4 A4 H4 x4 f4 e4
      refine ⟨ρ4, S4, A4, G4, e4, f4, OkS.body (OkS.sstep x4 h3) fun σ5 H5 ⟨ρ5, S5, A5, G5, x5, e5, f5, h5⟩ => ?_⟩
      exact ⟨_, by omega, rfl, hlt, ρ5, S5, A5, G5, e5, f5, fun a u z => x5.st a u (x4.st a u (x3.st a u (i2 a u z))), ((p2.trans x3.pre).trans x4.pre).trans x5.pre, (k2.trans i2 (ES.kp x3 f2)).trans (fun a u z => x3.st a u (i2 a u z)) ((SS.kp x4 (e2.step x3) f3).trans x4.st (SS.kp x5 e4 f4)), h5⟩
  · have ei : i = ds.length := by omega
    subst ei
    rw [List.drop_length] at h2
    exact .inl ⟨w.stops H2 sb k2, OkS.nx h2 e2 f2⟩
theorem gFor {iter : Expr} {body : List Stmt} {fi : AF} {g : GF} {b : SF} {pos : Pos} (hp : PassesOwn (model X.prog X.w) X.A X.env X.xe) (hc : X.calm = true) (hi : PI X tg iter (TXI ⟨X.K, cl⟩ W fi)) (hg : PG X tg (TXG ⟨X.K, cl⟩ g)) (hb : PSs X body (TXS ⟨X.K, cl⟩ W b))
    (hs : ∀ x, foldedSetIterable iter X.env x = pure x := by intro _; rfl) : PS X (.For tg iter body [] pos) (TXS ⟨X.K, cl⟩ W (sFor fi g b)) := (ps_for hp hc hi hg hb hs).imp fun _ _ _ h => for_of h
theorem while_of {t : BF} {b : SF} {n : En → GH → Nat} {D : Ends} (h : TXS c W (sWhile n t b) D σ H) : tWhile (TXB c W t) (TXS c W b) D σ H := by
  obtain ⟨ρ, S, A, G, e, ft, h⟩ := h
  refine ⟨fun m σ' H' => ∃ ρ' S' A' G', EnvOk c S' A' H' σ' ρ' ∧ Fits c S' A' G' H' ∧ OkS c W S' A' H' σ' ρ' (whileL t b m ρ' G') D, ⟨n ρ G, ρ, S, A, G, e, ft, h⟩, ?_⟩
  rintro m σ2 H2 ⟨ρ2, S2, A2, G2, e2, f2, h2⟩
  cases m with
  | zero => exact h2.elim
  | succ m =>
    unfold whileL at h2
    refine (goS t e2 f2 h2).imp fun x H3 ⟨S3, A3, G3, y, x3, e3, f3, r3, h3⟩ => ?_
    subst r3
    cases x with
    | false => exact iteF (OkS.nx h3 e3 f3)
    | true =>
      refine iteT ⟨fun σ' H' => ∃ ρ' S' A' G', EnvOk c S' A' H' σ' ρ' ∧ Fits c S' A' G' H' ∧ OkS c W S' A' H' σ' ρ' (whileL t b m ρ' G') D, fun σ' H' z => ⟨m, Nat.lt_succ_self m, z⟩, ρ2, S3, A3, G3, e3, f3, ?_⟩
      exact OkS.body h3 fun σ5 H5 ⟨ρ5, S5, A5, G5, x5, e5, f5, h5⟩ => ⟨ρ5, S5, A5, G5, e5, f5, h5⟩
theorem gWhile {t : Expr} {body : List Stmt} {ft : BF} {b : SF} {pos : Pos} (n : En → GH → Nat) (hp : PassesOwn (model X.prog X.w) X.A X.env X.xe) (hc : PT X t (TXB ⟨X.K, cl⟩ W ft)) (hb : PSs X body (TXS ⟨X.K, cl⟩ W b)) : PS X (.While t body [] pos) (TXS ⟨X.K, cl⟩ W (sWhile n ft b)) :=
  (ps_while hp hc hb).imp fun _ _ _ h => while_of h
end
end Gh

set_option Elab.async false
set_option linter.all false
set_option maxRecDepth 100000
set_option maxHeartbeats 4000000
/-! The ghost layer 5: new objects (stable, a cell, owned), comprehensions. -/
namespace Gh
open PySem L2
/-- the semantics of an expression that makes a new thing -/
abbrev FF := En → GH → R Cell
def OkF (c : Ct) (S : Hp) (A : List Addr) (H : Hp) (r : R Cell) (Q : VK) (E : Str → Hp → Prop) : Prop := match r with
  | .ok x G' => ∀ p S' A' H', ES S A H S' A' H' → Fits c S' A' G' H' → H p = none → S' p = none → p ∉ A' → CellAt c S' A' H' p x → Q (.ref p) H'
  | .ex n G' => ∀ S' A' H', ES S A H S' A' H' → Fits c S' A' G' H' → E n H'
  | .stuck => False
def TXF (c : Ct) (W : WX) (f : FF) : TE := fun σ H Q => ∃ ρ S A G, EnvOk c S A H σ ρ ∧ Fits c S A G H ∧ OkF c S A H (f ρ G) Q (exW c W σ)
def frz (x : Cell) (G : GH) : R D := match x with
  | .lst xs => .ok (.lst xs) G
  | .dic kvs => .ok (.dic kvs) G
  | .dit kvs => .ok (.dit kvs) G
  | .ins _ _ => .stuck
/-- .. a stable one; a new cell; owned by slot i -/
def mFz (f : FF) : EF := fun ρ G => (f ρ G).bind frz
def mCel (f : FF) : EF := fun ρ G => (f ρ G).bind fun x G1 => .ok (.cel G1.length) (G1 ++ [x])
def sOwn (i : Nat) (f : FF) : SF := fun ρ G => inS (f ρ G) ρ fun x G1 => if i < ρ.length then .ok (.nx (ρ.set i (some (.own x)))) G1 else .stuck
def fLst (a : AF) : FF := fun ρ G => (a ρ G).bind fun ds G1 => if ds.length ≤ LIM then .ok (.lst ds) G1 else .stuck
def fComp (a : AF) : FF := fun ρ G => (a ρ G).bind fun ds G1 => .ok (.lst ds) G1

section
variable {c : Ct} {W : WX} {S S' : Hp} {A A' : List Addr} {H H' : Hp} {σ σ' : L2.St} {ρ ρ' : En} {G G' : GH} {E : Str → Hp → Prop}
theorem Fits.inA (ft : Fits c S A G H) {a : Addr} (ha : a ∈ A) : ∃ o, H a = some o := by
  obtain ⟨k, hk, e⟩ := List.getElem_of_mem ha
  have hg : k < G.length := by rw [← ft.len]; exact hk
  exact (ft.live k a G[k] (by rw [List.getElem?_eq_getElem hk, e]) (by rw [List.getElem?_eq_getElem hg])).some
theorem fresh_of (x : ES S A H S' A' H') (ft : Fits c S' A' G' H') {p : Addr} (h : H' p = none) : H p = none := by
  cases q : H p with
  | none => rfl
  | some o =>
    by_cases ha : p ∈ A
    · obtain ⟨o', e⟩ := ft.inA (x.pre.subset ha)
      rw [h] at e; cases e
    · rw [x.keep p (nw_out ha q), q] at h; cases h
theorem Fits.upd_out (ft : Fits c S A G H) {p : Addr} {o : HO} (h1 : S p = none) (h2 : p ∉ A) : Fits c S A G (upd H p o) where
  sub := fun a u e => by
    have z : a ≠ p := ne_of_none e h1
    rcases ft.sub a u e with q | ⟨n, w, q⟩
    · exact .inl (by rw [upd_ne z]; exact q)
    · exact .inr ⟨n, w, by rw [upd_ne z]; exact q⟩
  len := ft.len
  nd := ft.nd
  out := ft.out
  live := fun k a x e1 e2 => (ft.live k a x e1 e2).mono (fun _ _ z => z) (List.prefix_refl _) (upd_ne fun z => h2 (by rw [← z]; exact List.mem_of_getElem? e1))
theorem SS.upd {O O' : Addr → Prop} (x : SS O S A H O' S' A' H') {p : Addr} {o : HO} (h : Nw O A H p) : SS O S A H O' S' A' (upd H' p o) :=
  ⟨x.st, x.pre, fun a n => (upd_ne fun z => n (by rw [z]; exact h)).trans (x.keep a n), x.newS, x.newA, x.newO⟩
theorem OkF.step {r : R Cell} {Q : VK} (x : ES S A H S' A' H') (ft : Fits c S' A' G H') (h : OkF c S A H r Q E) : OkF c S' A' H' r Q E := by
  cases r with
  | ok y G1 => exact fun p S2 A2 H2 z f2 hp h1 h2 cc => h p S2 A2 H2 (x.trans z) f2 (fresh_of x ft hp) h1 h2 cc
  | ex n G1 => exact fun S2 A2 H2 z f2 => h S2 A2 H2 (x.trans z) f2
  | stuck => exact h
/-- a part of it is evaluated -/
theorem goF {α β : Type} {Rp : Hp → List Addr → Hp → β → α → Prop} (f : En → GH → R α) {k : α → GH → R Cell} {Q : VK} (e : EnvOk c S A H σ ρ) (ft : Fits c S A G H) (h : OkF c S A H ((f ρ G).bind k) Q (exW c W σ)) :
    Pd c W Rp f σ H (fun b H1 => ∃ S' A' G' a, ES S A H S' A' H1 ∧ EnvOk c S' A' H1 σ ρ ∧ Fits c S' A' G' H1 ∧ Rp S' A' H1 b a ∧ OkF c S' A' H1 (k a G') Q (exW c W σ)) := by
  refine ⟨ρ, S, A, G, e, ft, ?_⟩
  cases r : f ρ G with
  | ok a G1 => rw [r] at h; exact fun b S2 A2 H2 x f2 rp => ⟨S2, A2, G1, a, x, e.step x, f2, rp, OkF.step x f2 h⟩
  | ex n G1 => rw [r] at h; exact h
  | stuck => rw [r] at h; exact h.elim
/-- it is there: a new object at p -/
theorem OkF.new {x : Cell} {p : Addr} {o : HO} {Q : VK} (h : OkF c S A H (.ok x G) Q E) (ft : Fits c S A G H) (hp : H p = none) (r : CellAt c S A (upd H p o) p x) : Q (.ref p) (upd H p o) :=
  h p S A _ (SS.refl.upd (.inl hp)) (ft.upd_out (ft.nonS hp) (ft.notIn hp)) hp (ft.nonS hp) (ft.notIn hp) r

/-- owned or new becomes stable -/
theorem Fits.stab (ft : Fits c S A G H) {p : Addr} {o : HO} (h1 : S p = none) (h2 : p ∉ A) (h3 : H p = some o) : Fits c (upd S p o) A G H where
  sub := fun a u e => by
    by_cases z : a = p
    · subst z; rw [upd_same] at e; cases e; exact .inl h3
    · rw [upd_ne z] at e; exact ft.sub a u e
  len := ft.len
  nd := ft.nd
  out := fun a ha => (upd_ne fun z => h2 (by rw [← z]; exact ha)).trans (ft.out a ha)
  live := fun k a x e1 e2 => (ft.live k a x e1 e2).mono (inc_upd h1) (List.prefix_refl _) rfl
theorem SS.stab {O O' : Addr → Prop} (x : SS O S A H O' S' A' H') {p : Addr} {o : HO} (h1 : S' p = none) (h : Nw O A H p) : SS O S A H O' (L2.upd S' p o) A' H' :=
  ⟨fun a u z => inc_upd h1 a u (x.st a u z), x.pre, x.keep, fun a u z => by
    by_cases q : a = p
    · exact .inr (by rw [q]; exact h)
    · rw [upd_ne q] at z; exact x.newS a u z, x.newA, x.newO⟩
theorem cell_frz {x : Cell} {d : D} {p : Addr} (h : CellAt c S A H p x) (e : frz x G = .ok d G') : G' = G ∧ ∃ o, H p = some o ∧ ∀ S2, Inc S S2 → S2 p = some o → Rep c S2 A (.ref p) d := by
  cases x with
  | lst xs =>
    cases e
    obtain ⟨vs, h1, h2⟩ := h
    exact ⟨rfl, _, h1, fun S2 i q => .lst q (h2.mono i (List.prefix_refl _))⟩
  | dic xs =>
    cases e
    obtain ⟨vs, h1, hk, h2⟩ := h
    exact ⟨rfl, _, h1, fun S2 i q => .dic q hk (h2.mono i (List.prefix_refl _))⟩
  | dit xs =>
    cases e
    obtain ⟨vs, h1, hk, h2⟩ := h
    exact ⟨rfl, _, h1, fun S2 i q => .dit q hk (h2.mono i (List.prefix_refl _))⟩
  | ins n fs => cases e
theorem fz_of {f : FF} {Q : VK} (h : TX c W (mFz f) σ H Q) : TXF c W f σ H Q := by
  obtain ⟨ρ, S, A, G, e, ft, h⟩ := h
  refine ⟨ρ, S, A, G, e, ft, ?_⟩
  unfold mFz at h
  cases q : f ρ G with
  | stuck => rw [q] at h; exact h
  | ex n G1 => rw [q] at h; exact h
  | ok x G1 =>
    rw [q] at h
    intro p S1 A1 H1 x1 f1 hp h1 h2 cc
    cases z : frz x G1 with
    | stuck => simp only [R.bind] at h; rw [z] at h; exact h.elim
    | ex n G2 => cases x <;> cases z
    | ok d G2 =>
      simp only [R.bind] at h
      rw [z] at h
      obtain ⟨rfl, o, ho, rr⟩ := cell_frz cc z
      exact h _ _ A1 H1 (x1.stab h1 (.inl hp)) (f1.stab h1 h2 ho) (rr _ (inc_upd h1) upd_same)
theorem nodup_concat {l : List Addr} {a : Addr} (h : l.Nodup) (n : a ∉ l) : (l ++ [a]).Nodup := by
  rw [List.nodup_append]
  exact ⟨h, by simp, fun x hx y hy => by simp at hy; subst hy; rintro rfl; exact n hx⟩
theorem Fits.cell (ft : Fits c S A G H) {p : Addr} {x : Cell} (h1 : S p = none) (h2 : p ∉ A) (h3 : CellAt c S A H p x) : Fits c S (A ++ [p]) (G ++ [x]) H where
  sub := ft.sub
  len := by simp [ft.len]
  nd := nodup_concat ft.nd h2
  out := fun a ha => by
    rcases List.mem_append.mp ha with z | z
    · exact ft.out a z
    · simp at z; subst z; exact h1
  live := fun k a y e1 e2 => by
    have inc : Inc S S := fun _ _ z => z
    have pre : A <+: A ++ [p] := List.prefix_append _ _
    by_cases hk : k < A.length
    · rw [List.getElem?_append_left hk] at e1
      rw [List.getElem?_append_left (by rw [← ft.len]; exact hk)] at e2
      exact (ft.live k a y e1 e2).mono inc pre rfl
    · have hk' : A.length ≤ k := by omega
      rw [List.getElem?_append_right hk'] at e1
      rw [List.getElem?_append_right (by rw [← ft.len]; exact hk'), ← ft.len] at e2
      have h0 : k - A.length = 0 := by
        have := (List.getElem?_eq_some_iff.mp e1).1
        simp at this
        omega
      rw [h0] at e1 e2
      simp at e1 e2
      subst e1; subst e2
      exact h3.mono inc pre rfl
theorem cel_of {f : FF} {Q : VK} (h : TX c W (mCel f) σ H Q) : TXF c W f σ H Q := by
  obtain ⟨ρ, S, A, G, e, ft, h⟩ := h
  refine ⟨ρ, S, A, G, e, ft, ?_⟩
  unfold mCel at h
  cases q : f ρ G with
  | stuck => rw [q] at h; exact h
  | ex n G1 => rw [q] at h; exact h
  | ok x G1 =>
    rw [q] at h
    intro p S1 A1 H1 x1 f1 hp h1 h2 cc
    refine h _ S1 (A1 ++ [p]) H1 ⟨x1.st, x1.pre.trans (List.prefix_append _ _), x1.keep, x1.newS, fun a ha => ?_, x1.newO⟩ (f1.cell h1 h2 cc) (.cel ?_)
    · rcases List.mem_append.mp ha with z | z
      · exact x1.newA a z
      · simp at z; subst z; exact .inl hp
    · rw [← f1.len]; simp
theorem EnvOk.setOwn {p : Addr} {x : Cell} (e : EnvOk c S A H σ ρ) (h1 : S p = none) (h2 : p ∉ A) (h3 : CellAt c S A H p x) (hn : ¬ Ow σ ρ p) (i : Nat) : EnvOk c S A H (σ.set i (some (.ref p))) (ρ.set i (some (.own x))) := by
  refine ⟨by simp [e.len], fun j dj h => ?_, fun j y h => ?_, fun j k y z a e1 e2 e3 e4 => ?_⟩
  · rw [List.getElem?_set] at h
    by_cases q : i = j
    · subst q
      simp only [if_true] at h
      split at h <;> cases h
    · rw [if_neg q] at h
      rw [List.getElem?_set, if_neg q]
      exact e.val j dj h
  · rw [List.getElem?_set] at h
    by_cases q : i = j
    · subst q
      simp only [if_true] at h
      split at h
      · rename_i hl
        cases h
        exact ⟨p, by rw [List.getElem?_set]; simp [e.len, hl], h1, h2, h3⟩
      · cases h
    · rw [if_neg q] at h
      rw [List.getElem?_set, if_neg q]
      exact e.own j y h
  · rw [List.getElem?_set] at e1 e2 e3 e4
    by_cases q : i = j
    · by_cases q2 : i = k
      · omega
      · subst q
        rw [if_neg q2] at e2 e4
        simp only [if_true] at e3
        split at e3
        · cases e3
          exact (hn ⟨k, z, e2, e4⟩).elim
        · cases e3
    · by_cases q2 : i = k
      · subst q2
        rw [if_neg q] at e1 e3
        simp only [if_true] at e4
        split at e4
        · cases e4
          exact (hn ⟨j, y, e1, e3⟩).elim
        · cases e4
      · rw [if_neg q] at e1 e3
        rw [if_neg q2] at e2 e4
        exact e.inj j k y z a e1 e2 e3 e4
theorem ow_setOwn {p : Addr} {x : Cell} {i : Nat} {a : Addr} (h : Ow (σ.set i (some (.ref p))) (ρ.set i (some (.own x))) a) : Ow σ ρ a ∨ a = p := by
  obtain ⟨j, y, h1, h2⟩ := h
  rw [List.getElem?_set] at h1 h2
  by_cases q : i = j
  · subst q
    simp only [if_true] at h2
    split at h2
    · cases h2; exact .inr rfl
    · cases h2
  · rw [if_neg q] at h1 h2
    exact .inl ⟨j, y, h1, h2⟩
theorem EnvOk.owSome (e : EnvOk c S A H σ ρ) {a : Addr} (h : Ow σ ρ a) : (∃ o, H a = some o) ∧ a ∉ A ∧ S a = none := by
  obtain ⟨j, y, h1, h2⟩ := h
  obtain ⟨b, e1, e2, e3, e4⟩ := e.own j y h1
  rw [h2] at e1
  cases e1
  exact ⟨e4.some, e3, e2⟩
theorem own_of {i : Nat} {f : FF} {D : Ends} (h : TXS c W (sOwn i f) D σ H) : tAsg (TXF c W f) (gName i) D σ H := by
  obtain ⟨ρ, S, A, G, e, ft, h⟩ := h
  refine ⟨ρ, S, A, G, e, ft, ?_⟩
  unfold sOwn at h
  cases q : f ρ G with
  | stuck => rw [q] at h; exact h
  | ex n G1 => rw [q] at h; exact fun S2 A2 H2 x f2 => h σ S2 A2 H2 (x.ow _) f2 (e.step x)
  | ok x G1 =>
    rw [q] at h
    intro p S1 A1 H1 x1 f1 hp h1 h2 cc
    simp only [inS] at h
    split at h
    · have hn : ¬ Ow σ ρ p := fun z => by
        obtain ⟨⟨o, ho⟩, _⟩ := e.owSome z
        rw [hp] at ho; cases ho
      refine h _ S1 A1 H1 ((x1.ow (Ow σ ρ)).drop fun a z => ?_) f1 ((e.step x1).setOwn h1 h2 cc hn i)
      rcases ow_setOwn z with z | z
      · exact .inr (.inr z)
      · exact .inl (by rw [z]; exact hp)
    · exact h.elim
end

/-! ### comprehensions -/
section
variable {c : Ct} {W : WX} {S S' : Hp} {A A' : List Addr} {H H' : Hp} {σ σ' : L2.St} {ρ ρ' : En} {G : GH}
theorem wipe_get (σ : L2.St) (j : Nat) : ∀ vs : List Nat, (wipe σ vs)[j]? = if j ∈ vs then (σ[j]?).map (fun _ => none) else σ[j]?
  | [] => by simp [wipe]
  | v :: vs => by
    unfold wipe
    rw [List.getElem?_set, wipe_length, wipe_get σ j vs]
    by_cases q : v = j
    · subst q
      simp only [if_true, List.mem_cons, true_or]
      split
      · rename_i h; simp [h]
      · rename_i h; rw [List.getElem?_eq_none (by omega)]; rfl
    · rw [if_neg q]
      by_cases h : j ∈ vs
      · rw [if_pos h, if_pos (List.mem_cons_of_mem _ h)]
      · rw [if_neg h, if_neg (by simp [Ne.symm q, h])]
theorem wipeE_get (ρ : En) (j : Nat) : ∀ vs : List Nat, (wipeE ρ vs)[j]? = if j ∈ vs then (ρ[j]?).map (fun _ => none) else ρ[j]?
  | [] => by simp [wipeE]
  | v :: vs => by
    have hl : ∀ vs : List Nat, (wipeE ρ vs).length = ρ.length := fun vs => by
      induction vs with
      | nil => rfl
      | cons w ws ih => simp [wipeE, ih]
    unfold wipeE
    rw [List.getElem?_set, hl, wipeE_get ρ j vs]
    by_cases q : v = j
    · subst q
      simp only [if_true, List.mem_cons, true_or]
      split
      · rename_i h; simp [h]
      · rename_i h; rw [List.getElem?_eq_none (by omega)]; rfl
    · rw [if_neg q]
      by_cases h : j ∈ vs
      · rw [if_pos h, if_pos (List.mem_cons_of_mem _ h)]
      · rw [if_neg h, if_neg (by simp [Ne.symm q, h])]
theorem wipe_set {i : Nat} {x : Option V} {vs : List Nat} (h : i ∈ vs) : wipe (σ.set i x) vs = wipe σ vs := by
  apply List.ext_getElem?
  intro j
  rw [wipe_get, wipe_get, List.getElem?_set]
  by_cases q : i = j
  · subst q
    rw [if_pos h, if_pos h]
    simp only [if_true]
    split
    · rename_i hl; simp [hl]
    · rename_i hl; rw [List.getElem?_eq_none (by omega)]
  · rw [if_neg q]
theorem wipe_wipe (vs : List Nat) : wipe (wipe σ vs) vs = wipe σ vs := by
  apply List.ext_getElem?
  intro j
  rw [wipe_get, wipe_get]
  split
  · cases σ[j]? <;> rfl
  · rfl
theorem EnvOk.wipe (e : EnvOk c S A H σ ρ) (vs : List Nat) : EnvOk c S A H (L2.wipe σ vs) (wipeE ρ vs) := by
  have hl : ∀ vs : List Nat, (wipeE ρ vs).length = ρ.length := fun vs => by
    induction vs with
    | nil => rfl
    | cons w ws ih => simp [wipeE, ih]
  have key : ∀ (j : Nat) x, (wipeE ρ vs)[j]? = some (some x) → ρ[j]? = some (some x) ∧ j ∉ vs := fun j x h => by
    rw [wipeE_get] at h
    split at h
    · cases q : ρ[j]? <;> rw [q] at h <;> cases h
    · exact ⟨h, by assumption⟩
  have key2 : ∀ (j : Nat) x, (L2.wipe σ vs)[j]? = some (some x) → σ[j]? = some (some x) := fun j x h => (wipe_some h).1
  refine ⟨by rw [wipe_length, hl, e.len], fun j d h => ?_, fun j x h => ?_, fun j k x y a h1 h2 h3 h4 => ?_⟩
  · obtain ⟨h1, h2⟩ := key j _ h
    obtain ⟨v, h3, h4⟩ := e.val j d h1
    exact ⟨v, by rw [wipe_get, if_neg h2]; exact h3, h4⟩
  · obtain ⟨h1, h2⟩ := key j _ h
    obtain ⟨a, h3, h4⟩ := e.own j x h1
    exact ⟨a, by rw [wipe_get, if_neg h2]; exact h3, h4⟩
  · exact e.inj j k x y a (key j _ h1).1 (key k _ h2).1 (key2 _ _ h3) (key2 _ _ h4)
/-- a comprehension's target: its reading gR, its semantics g, which sets slots of vs alone -/
def CT (c : Ct) (gR : TG) (g : GF) (vs : List Nat) : Prop :=
  ∀ (σ : L2.St) (ρ ρ' : En) (S : Hp) (A : List Addr) (G G' : GH) (H : Hp) (x : V) (d : D) (Q : L2.St → Hp → Prop), EnvOk c S A H σ ρ → Fits c S A G H → Rep c S A x d → g d ρ G = .ok ρ' G' →
    (∀ σ', EnvOk c S A H σ' ρ' → wipe σ' vs = wipe σ vs → Q σ' H) → G' = G ∧ gR x σ H Q
theorem ctN {i : Nat} {vs : List Nat} (h : i ∈ vs) : CT c (gName i) (gN i) vs := fun σ ρ ρ' S A G G' H x d Q e ft r q k => by
  cases q
  exact ⟨rfl, k _ (e.set r i) (wipe_set h)⟩
theorem wipe_setAll {vs : List Nat} : ∀ {is : List Nat} {xs : List V} {σ : L2.St}, (∀ i ∈ is, i ∈ vs) → wipe (setAllσ σ is xs) vs = wipe σ vs
  | [], _, _, _ => by unfold setAllσ; rfl
  | i :: is, [], _, _ => rfl
  | i :: is, x :: xs, σ, h => (wipe_setAll (is := is) fun j hj => h j (List.mem_cons_of_mem _ hj)).trans (wipe_set (h i List.mem_cons_self))
/-- a tuple of names; the items are tuples -/
def gTt (is : List Nat) : GF := fun d ρ G => match d with
  | .tup ds => if ds.length = is.length then .ok (setAll ρ is ds) G else .stuck
  | _ => .stuck
theorem ctT {is vs : List Nat} (h : ∀ i ∈ is, i ∈ vs) : CT c (L2.gTup c.K is.length (gNames is)) (gTt is) vs := fun σ ρ ρ' S A G G' H x d Q e ft r q k => by
  unfold gTt at q
  split at q
  · split at q
    · rename_i hl
      cases q
      cases r with
      | tup h1 h2 => exact ⟨rfl, _, _, rfl, h1.sq ft.sub, h2.length.trans hl, gNames_iff _ _ _ _ _ (by rw [h2.length, hl]) (k _ (e.setAll h2) (wipe_setAll h))⟩
    · cases q
  · cases q
theorem noEx_bind {α β : Type} {r : R α} {k : α → GH → R β} (h : noEx (r.bind k) ≠ .stuck) : ∃ a G, r = .ok a G ∧ noEx (k a G) ≠ .stuck := by
  cases r with
  | ok a G => exact ⟨a, G, rfl, h⟩
  | ex n G => exact (h rfl).elim
  | stuck => exact (h rfl).elim
theorem comp_of {fi : AF} {g : GF} {t : BF} {fe : EF} {vs : List Nat} {gR : TG} {Q : VK} (hg : CT c gR g vs) (h : TXF c W (fComp (mComp fi g t fe vs)) σ H Q) : tLc (TXI c W fi) gR (TXB c Wn t) (TX c Wn fe) vs σ H Q := by
  obtain ⟨ρ, S, A, G, e, ft, h⟩ := h
  have h0 : OkF c S A H ((fi ρ G).bind fun ds G1 => (if ds.length < LIM then noEx (compL g t fe (wipeE ρ vs) ds G1) else .stuck).bind fun ds G1 => .ok (.lst ds) G1) Q (exW c W σ) := by
    have e : ((fi ρ G).bind fun ds G1 => (if ds.length < LIM then noEx (compL g t fe (wipeE ρ vs) ds G1) else .stuck).bind fun ds G1 => .ok (Cell.lst ds) G1) = fComp (mComp fi g t fe vs) ρ G := by
      unfold fComp mComp
      cases fi ρ G <;> rfl
    rw [e]; exact h
  refine (goF fi e ft h0).imp fun J H1 ⟨S1, A1, G1, ds, x1, e1, f1, w, h1⟩ => ?_
  intro Dl hD
  split at h1
  case isFalse => exact h1.elim
  case isTrue hlim =>
  have hok : ∃ ys G', compL g t fe (wipeE ρ vs) ds G1 = .ok ys G' := by
    cases q : compL g t fe (wipeE ρ vs) ds G1 with
    | ok a G => exact ⟨a, G, rfl⟩
    | ex n G => rw [q] at h1; exact h1.elim
    | stuck => rw [q] at h1; exact h1.elim
  obtain ⟨ys, Gz, hys⟩ := hok
  rw [hys] at h1
  refine ⟨fun i m H' => m = ds.length - i ∧ i ≤ ds.length ∧ ∃ S' A' G' acc da r, ES S1 A1 H1 S' A' H' ∧ Fits c S' A' G' H' ∧ S' Dl = none ∧ Dl ∉ A' ∧ H' Dl = some (.lst acc) ∧ Reps c S' A' acc da ∧ da.length ≤ i ∧ compL g t fe (wipeE ρ vs) (ds.drop i) G' = .ok r Gz ∧ ys = da ++ r,
    ⟨ds.length, by simp, Nat.zero_le _, S1, A1, G1, [], [], ys, SS.refl.upd (.inl hD), f1.upd_out (f1.nonS hD) (f1.notIn hD), f1.nonS hD, f1.notIn hD, upd_same, .nil, Nat.le_refl _, by simpa using hys, rfl⟩, ?_⟩
  rintro i m H2 ⟨rfl, hi, S2, A2, G2, acc, da, r, x2, f2, sD, aD, hDl, ra, hda, hr, rfl⟩
  have sb : Sub S1 H2 := f2.sub.mono x2.st
  by_cases hlt : i < ds.length
  case neg =>
    have ei : i = ds.length := by omega
    subst ei
    rw [List.drop_length] at hr
    cases hr
    refine .inl ⟨w.stops H2 sb (ES.kp x2 f1), ?_⟩
    rw [List.append_nil] at h1
    exact h1 Dl S2 A2 H2 x2 f2 hD sD aD ⟨acc, hDl, ra⟩
  refine .inr ⟨w.goes i H2 hlt sb (ES.kp x2 f1), fun H' => ∃ m', m' < ds.length - i ∧ m' = ds.length - (i + 1) ∧ i + 1 ≤ ds.length ∧ ∃ S' A' G' acc da' r', ES S1 A1 H1 S' A' H' ∧ Fits c S' A' G' H' ∧ S' Dl = none ∧ Dl ∉ A' ∧ H' Dl = some (.lst acc) ∧ Reps c S' A' acc da' ∧ da'.length ≤ i + 1 ∧ compL g t fe (wipeE ρ vs) (ds.drop (i + 1)) G' = .ok r' Gz ∧ da ++ r = da' ++ r',
      fun H' z => z, fun x H3 y => ?_⟩
  obtain ⟨S3, d, x3, f3, hd, r3⟩ := w.yields i H2 x H3 hlt sb y S2 A2 G2 x2.st x2.pre f2
  have ed : ds.drop i = d :: ds.drop (i + 1) := by
    rw [List.drop_eq_getElem_cons hlt]
    rw [List.getElem?_eq_getElem hlt] at hd
    rw [Option.some.inj hd]
  rw [ed] at hr
  have keepD : ∀ {Sa Sb : Hp} {Aa Ab : List Addr} {Ha Hb : Hp}, ES Sa Aa Ha Sb Ab Hb → Sa Dl = none → Dl ∉ Aa → Ha Dl = some (.lst acc) → Sb Dl = none ∧ Dl ∉ Ab ∧ Hb Dl = some (.lst acc) := fun {Sa Sb Aa Ab Ha Hb} z z1 z2 z3 => by
    have n := nw_out z2 z3
    refine ⟨?_, fun q => n (z.newA _ q), (z.keep _ n).trans z3⟩
    cases q : Sb Dl with
    | none => rfl
    | some u =>
      rcases z.newS _ u q with z | z
      · rw [z1] at z; cases z
      · exact (n z).elim
  obtain ⟨s3, a3, l3⟩ := keepD x3 sD aD hDl
  have e3 : EnvOk c S3 A2 H3 (wipe σ vs) (wipeE ρ vs) := ((e1.step x2).step x3).wipe vs
  unfold compL at hr
  cases q : g d (wipeE ρ vs) G2 with
  | stuck => rw [q] at hr; cases hr
  | ex n G4 => rw [q] at hr; cases hr
  | ok ρ4 G4 =>
    rw [q] at hr
    have := hg (wipe σ vs) (wipeE ρ vs) ρ4 S3 A2 G2 G4 H3 x d (fun σ2 H2 => wipe σ2 vs = wipe σ vs ∧ TXB c Wn t σ2 H2 fun b H3 => if b = true then TX c Wn fe σ2 H3 fun y H4 => ∃ acc, H4 Dl = some (.lst acc) ∧ acc.length < sizeLine ∧ (fun H' => ∃ m', m' < ds.length - i ∧ m' = ds.length - (i + 1) ∧ i + 1 ≤ ds.length ∧ ∃ S' A' G' acc da' r', ES S1 A1 H1 S' A' H' ∧ Fits c S' A' G' H' ∧ S' Dl = none ∧ Dl ∉ A' ∧ H' Dl = some (.lst acc) ∧ Reps c S' A' acc da' ∧ da'.length ≤ i + 1 ∧ compL g t fe (wipeE ρ vs) (ds.drop (i + 1)) G' = .ok r' Gz ∧ da ++ r = da' ++ r') (upd H4 Dl (.lst (acc ++ [y]))) else (fun H' => ∃ m', m' < ds.length - i ∧ m' = ds.length - (i + 1) ∧ i + 1 ≤ ds.length ∧ ∃ S' A' G' acc da' r', ES S1 A1 H1 S' A' H' ∧ Fits c S' A' G' H' ∧ S' Dl = none ∧ Dl ∉ A' ∧ H' Dl = some (.lst acc) ∧ Reps c S' A' acc da' ∧ da'.length ≤ i + 1 ∧ compL g t fe (wipeE ρ vs) (ds.drop (i + 1)) G' = .ok r' Gz ∧ da ++ r = da' ++ r') H3)
      e3 f3 r3 q fun σ4 e4 w4 => ?_
    · exact this.2
    · have eG : G4 = G2 := (hg (wipe σ vs) (wipeE ρ vs) ρ4 S3 A2 G2 G4 H3 x d (fun _ _ => True) e3 f3 r3 q fun _ _ _ => trivial).1
      subst eG
      refine ⟨w4.trans (wipe_wipe vs), ρ4, S3, A2, G4, e4, f3, ?_⟩
      simp only [R.bind] at hr
      cases qt : t ρ4 G4 with
      | stuck => rw [qt] at hr; cases hr
      | ex n G5 => rw [qt] at hr; cases hr
      | ok b G5 =>
        rw [qt] at hr
        intro b' S5 A5 H5 x5 f5 eb
        subst eb
        obtain ⟨s5, a5, l5⟩ := keepD x5 s3 a3 l3
        have xx5 : ES S1 A1 H1 S5 A5 H5 := (x2.trans x3).trans x5
        cases b' with
        | false =>
          refine iteF ?_
          have hr : compL g t fe (wipeE ρ vs) (ds.drop (i + 1)) G5 = .ok r Gz := hr
          exact ⟨_, by omega, rfl, hlt, S5, A5, G5, acc, da, r, xx5, f5, s5, a5, l5, (ra.mono x3.st x3.pre).mono x5.st x5.pre, by omega, hr, rfl⟩
        | true =>
          refine iteT ?_
          have hr : ((fe ρ4 G5).bind fun y G3 => (compL g t fe (wipeE ρ vs) (ds.drop (i + 1)) G3).bind fun ys G4 => .ok (y :: ys) G4) = R.ok r Gz := hr
          refine ⟨ρ4, S5, A5, G5, e4.step x5, f5, ?_⟩
          cases qe : fe ρ4 G5 with
          | stuck => rw [qe] at hr; cases hr
          | ex n G6 => rw [qe] at hr; cases hr
          | ok y' G6 =>
            rw [qe] at hr
            intro yv S6 A6 H6 x6 f6 r6
            obtain ⟨s6, a6, l6⟩ := keepD x6 s5 a5 l5
            have ra6 : Reps c S6 A6 acc da := ((ra.mono x3.st x3.pre).mono x5.st x5.pre).mono x6.st x6.pre
            have hr : ((compL g t fe (wipeE ρ vs) (ds.drop (i + 1)) G6).bind fun ys G4 => .ok (y' :: ys) G4) = R.ok r Gz := hr
            cases qc : compL g t fe (wipeE ρ vs) (ds.drop (i + 1)) G6 with
            | stuck => rw [qc] at hr; cases hr
            | ex n G7 => rw [qc] at hr; cases hr
            | ok r' G7 =>
              rw [qc] at hr
              simp only [R.bind] at hr
              cases hr
              refine ⟨acc, l6, lim_lt (by rw [ra6.length]; omega), _, by omega, rfl, hlt, S6, A6, G6, acc ++ [yv], da ++ [y'], r', (xx5.trans x6).upd (.inl hD), f6.upd_out s6 a6, s6, a6, upd_same, ra6.append (.cons r6 .nil), by simp; omega, qc, by simp⟩
end
end Gh

set_option Elab.async false
set_option linter.all false
set_option maxRecDepth 100000
set_option maxHeartbeats 4000000
/-! The ghost layer 6: comprehensions as rules, defs, calls, objects, owned things. -/
namespace Gh
open PySem L2
/-! ### semantics -/
def endDef (r : R Fl) : R D := match r with
  | .ok (.rt d) G => .ok d G
  | .ok (.nx _) G => .ok .non G
  | .ok (.ex c _) G => .ex c G
  | _ => .stuck
def mDef (np n : Nat) (b : SF) (ds : List D) (G : GH) : R D := if ds.length = np then endDef (b (start n ds) G) else .stuck
def mCall (m : List D → GH → R D) (fa : AF) : EF := fun ρ G => (fa ρ G).bind m
def isIns (cn mn : Str) (o : D) (G : GH) : Bool := match o with
  | .cel k => (match G[k]? with
    | some (.ins n fs) => decide (n = cn) && (fs.lookup mn).isNone
    | _ => false)
  | _ => false
def mMeth (cn mn : Str) (m : List D → GH → R D) (fo : EF) (fa : AF) : EF := fun ρ G => (fo ρ G).bind fun o G1 => if isIns cn mn o G1 = true then (fa ρ G1).bind fun ds G2 => m (o :: ds) G2 else .stuck
def oNon (x : D) (r : D) (G : GH) : R D := match r with
  | .non => .ok x G
  | _ => .stuck
def mMake (cn : Str) (m : List D → GH → R D) (fa : AF) : EF := fun ρ G => (fa ρ G).bind fun ds G1 => (m (.cel G1.length :: ds) (G1 ++ [.ins cn []])).bind fun r G2 => oNon (.cel G1.length) r G2
def oFld (cn f : Str) (o : D) (G : GH) : R D := match o with
  | .cel k => (match G[k]? with
    | some (.ins n fs) => if n = cn then (match fs.lookup f with
      | some d => .ok d G
      | none => .stuck) else .stuck
    | _ => .stuck)
  | _ => .stuck
def mFld (cn f : Str) (fo : EF) : EF := fun ρ G => (fo ρ G).bind (oFld cn f)
def putD (f : Str) (d : D) : List (Str × D) → List (Str × D)
  | [] => [(f, d)]
  | (g, x) :: r => if g = f then (g, d) :: r else (g, x) :: putD f d r
def oSetFld (cn f : Str) (d : D) (o : D) (G : GH) : R Unit := match o with
  | .cel k => (match G[k]? with
    | some (.ins n fs) => if n = cn ∧ fs.length < 1000 then .ok () (G.set k (.ins n (putD f d fs))) else .stuck
    | _ => .stuck)
  | _ => .stuck
def sFldSet (cn f : Str) (fo fe : EF) : SF := fun ρ G => inS (fe ρ G) ρ fun d G1 => inS (fo ρ G1) ρ fun o G2 => (oSetFld cn f d o G2).bind fun _ G3 => .ok (.nx ρ) G3
/-- owned by slot i: append, extend, made stable -/
def sAppO (i : Nat) (fe : EF) : SF := fun ρ G => match ρ[i]? with
  | some (some (.own (.lst xs))) => inS (fe ρ G) ρ fun d G1 => if xs.length < LIM then .ok (.nx (ρ.set i (some (.own (.lst (xs ++ [d])))))) G1 else .stuck
  | _ => .stuck
def sExtO (i : Nat) (f : FF) : SF := fun ρ G => match ρ[i]? with
  | some (some (.own (.lst xs))) => inS (f ρ G) ρ fun y G1 => match y with
    | .lst ys => if xs.length + ys.length ≤ LIM then .ok (.nx (ρ.set i (some (.own (.lst (xs ++ ys)))))) G1 else .stuck
    | _ => .stuck
  | _ => .stuck
def sFrz (i : Nat) (g : SF) : SF := fun ρ G => match ρ[i]? with
  | some (some (.own x)) => (frz x G).bind fun d G1 => g (ρ.set i (some (.v d))) G1
  | _ => .stuck
/-- append to a cell -/
def oApp (o : D) (d : D) (G : GH) : R D := match o with
  | .cel k => (match G[k]? with
    | some (.lst xs) => if xs.length < LIM then .ok .non (G.set k (.lst (xs ++ [d]))) else .stuck
    | _ => .stuck)
  | _ => .stuck
def isL (d : D) : Bool := match d with
  | .lst _ => true
  | _ => false
def mApp (fo fe : EF) : EF := fun ρ G => (fo ρ G).bind fun o G1 => if isL (view G1 o) = true then (fe ρ G1).bind fun d G2 => oApp o d G2 else .stuck
def oPop (o : D) (G : GH) : R D := match o with
  | .cel k => (match G[k]? with
    | some (.lst xs) => (match xs[xs.length - 1]? with
      | some d => .ok d (G.set k (.lst xs.dropLast))
      | none => .stuck)
    | _ => .stuck)
  | _ => .stuck
def mPop (fo : EF) : EF := fun ρ G => (fo ρ G).bind oPop

/-! ### the promise, by the semantics alone -/
def spO (c : Ct) (m : List D → GH → R D) : Sp := fun vs H Q E => ∃ S A G ds, Fits c S A G H ∧ Reps c S A vs ds ∧ OkG c (rV c) S A H (m ds G) Q (fun n H' => E (.ref (c.cl n)) none H')

section
variable {P : Program} {w : World} {K : PySem.W.Frag} {mg : Str → Option Value} {base : Heap} {cl : Str → Addr}
theorem env_start {c : Ct} {S : Hp} {A : List Addr} {H : Hp} {vs : List V} {ds : List D} (N : List Str) (r : Reps c S A vs ds) : EnvOk c S A H (L2.start N vs) (start N.length ds) := by
  have el := r.length
  have noOwn : ∀ (i : Nat) x, (start N.length ds)[i]? = some (some (.own x)) → False := fun i x h => by
    unfold start at h
    by_cases hi : i < ds.length
    · rw [List.getElem?_append_left (by simpa using hi), List.getElem?_map, List.getElem?_eq_getElem hi] at h
      cases h
    · rw [List.getElem?_append_right (by simp; omega)] at h
      rw [List.getElem?_replicate] at h
      split at h <;> cases h
  refine ⟨by simp [L2.start, start, el], fun i d h => ?_, fun i x h => (noOwn i x h).elim, fun i j x y a h => (noOwn i x h).elim⟩
  unfold start at h
  unfold L2.start
  by_cases hi : i < ds.length
  · rw [List.getElem?_append_left (by simpa using hi), List.getElem?_map] at h
    cases q : ds[i]? with
    | none => rw [q] at h; cases h
    | some d' =>
      rw [q] at h
      cases h
      obtain ⟨v, h1, h2⟩ := r.get q
      exact ⟨v, by rw [List.getElem?_append_left (by simp; omega), List.getElem?_map, h1]; rfl, h2⟩
  · rw [List.getElem?_append_right (by simp; omega)] at h
    rw [List.getElem?_replicate] at h
    split at h <;> cases h
theorem ow_start {N : List Str} {vs : List V} {ds : List D} {a : Addr} (h : Ow (L2.start N vs) (start N.length ds) a) : False := by
  obtain ⟨i, x, h, _⟩ := h
  unfold start at h
  by_cases hi : i < ds.length
  · rw [List.getElem?_append_left (by simpa using hi), List.getElem?_map, List.getElem?_eq_getElem hi] at h
    cases h
  · rw [List.getElem?_append_right (by simp; omega)] at h
    rw [List.getElem?_replicate] at h
    split at h <;> cases h
/-- THE RULE of a def -/
theorem gDef {x qual : Str} {st : Stmt} {f : Addr} {fd : FuncData} {N ps : List Str} {k np : Nat} {b : SF} (F : Fun K x qual st f fd) (S : FnScope N ps (defScope st)) (hn : ps.length = np)
    (hbody : ∀ (cdv : Value) (A : Around) (outer : List Env) (s : Shared) (H : Hp) (E : XK), Room k (A.deeper (PyProof.Rows.envOfC qual (defScope st) s.heap.objs.size f cdv)) →
      PSs (cxOf (L2.CX P w) P w K mg base N qual (defScope st) f cdv A outer s H E) (defBody st) (TXS ⟨K, cl⟩ (fun cls d _ H => E cls d H) b)) : FnOk P w K mg base (L2.CX P w) (k + 1) f fd ps (spO ⟨K, cl⟩ (mDef np N.length b)) := by
  refine F.okX S (fun vs H Q E h => ?_) (fun cdv A outer s H vs Q E hr h => ⟨_, hbody cdv A outer s H E hr, ?_⟩)
  · obtain ⟨S', A', G, ds, ft, r, h⟩ := h
    unfold mDef at h
    split at h
    · rename_i hl
      rw [r.length, hl, hn]
    · exact h.elim
  · obtain ⟨S', A', G, ds, ft, r, h⟩ := h
    refine ⟨start N.length ds, S', A', G, env_start N r, ft, ?_⟩
    unfold mDef at h
    split at h
    case isFalse => exact h.elim
    case isTrue hl =>
    have nar : ∀ {O' : Addr → Prop} {S2 : Hp} {A2 : List Addr} {H2 : Hp}, SS (Ow (L2.start N vs) (start N.length ds)) S' A' H O' S2 A2 H2 → ES S' A' H S2 A2 H2 := fun z => (z.wide fun a q => (ow_start q).elim).drop fun _ q => q.elim
    cases q : b (start N.length ds) G with
    | stuck => rw [q] at h; exact h
    | ex n G1 => rw [q] at h; exact h
    | ok fl G1 =>
      rw [q] at h
      cases fl with
      | nx ρ' => exact fun σ2 S2 A2 H2 z f2 e2 => h .non S2 A2 H2 (nar z) f2 .non
      | bk ρ' => exact h.elim
      | ct ρ' => exact h.elim
      | ex n ρ' => exact fun σ2 S2 A2 H2 z f2 e2 => h S2 A2 H2 (nar z) f2
      | rt d => exact fun v S2 A2 H2 z f2 r2 => h v S2 A2 H2 (nar z) f2 r2
end

/-! ### calls -/
section
variable {X : Cx} {cl : Str → Addr} {c : Ct} {W : WX} {S S' : Hp} {A A' : List Addr} {H H' : Hp} {σ σ' : L2.St} {ρ ρ' : En} {G : GH}
theorem call_of {m : List D → GH → R D} {fa : AF} {Q : VK} (h : TX c W (mCall m fa) σ H Q) : tCallS (spO c m) (WE W) (TXA c W fa) σ H Q := by
  obtain ⟨ρ, S, A, G, e, ft, h⟩ := h
  exact (go fa e ft h).imp fun vs H1 ⟨S1, A1, G1, ds, x1, e1, f1, r1, h1⟩ => ⟨S1, A1, G1, ds, f1, r1, h1⟩
theorem gCall {k : Nat} {f : Addr} {fd : FuncData} {ps : List Str} {m : List D → GH → R D} {fa : AF} {x : Str} {p pos : Pos} {e : Expr} {es : List Expr} (F : FnOk X.prog X.w X.K X.mg X.base (L2.CX X.prog X.w) k f fd ps (spO ⟨X.K, cl⟩ m)) (hr : Room k X.A) (hm : X.mg x = some (.ref f)) (hk : PySem.W.keepIn X.K (.ref f) = true) (hb : Binds X.K fd ps [])
    (tk : Takes X W) (ha : PA X (e :: es) (TXA ⟨X.K, cl⟩ W fa)) (hg : Gl X x := by rfl) (hdb : (x == ("__debug__" : Str)) = false := by decide) (he : starEach (e :: es) X.env = (false, eval e X.env) :: starEach es X.env := by rfl) (hpl : (backTo pos (starEach es X.env)).any (·.1) = false := by rfl) :
    PE X (.Call (.Name x p) (e :: es) [] pos) (TX ⟨X.K, cl⟩ W (mCall m fa)) := (pe_callS F hr hg hm hk hb (fun σ => passAt tk σ) ha hdb he hpl).imp fun _ _ _ h => call_of h
/-- an instance that o is -/
theorem ins_of {cn mn : Str} {o : D} {v : V} (ft : Fits c S A G H) (r : Rep c S A v o) (h : isIns cn mn o G = true) : ∃ a k dx fs fvs, v = .ref a ∧ o = .cel k ∧ A[k]? = some a ∧ G[k]? = some (.ins cn fs) ∧ H a = some (.ins (c.cl cn) dx fvs) ∧ fvs.map Prod.fst = fs.map Prod.fst ∧ Reps c S A (fvs.map Prod.snd) (fs.map Prod.snd) ∧ fs.lookup mn = none := by
  unfold isIns at h
  cases o with
  | cel k =>
    cases g : G[k]? with
    | none => simp only [g] at h; cases h
    | some x =>
      simp only [g] at h
      cases x with
      | ins n fs =>
        simp only [Bool.and_eq_true, decide_eq_true_eq] at h
        obtain ⟨rfl, h2⟩ := h
        cases r with
        | cel ha =>
          obtain ⟨dx, fvs, q1, q2, q3⟩ := ft.live k _ _ ha g
          refine ⟨_, k, dx, fs, fvs, rfl, rfl, ha, g, q1, q2, q3, ?_⟩
          cases q : fs.lookup mn with
          | none => rfl
          | some z => rw [q] at h2; cases h2
      | _ => cases h
  | _ => cases h
theorem lookup_none : ∀ {fvs : List (Str × V)} {fs : List (Str × D)} {f : Str}, fvs.map Prod.fst = fs.map Prod.fst → fs.lookup f = none → fvs.lookup f = none
  | [], [], _, _, _ => rfl
  | (g, x) :: r, (g', d) :: r', f, h, e => by
    simp only [List.map_cons, List.cons.injEq] at h
    obtain ⟨rfl, h⟩ := h
    simp only [List.lookup_cons] at e ⊢
    cases q : f == g with
    | true => rw [q] at e; cases e
    | false => rw [q] at e; exact lookup_none h e
  | [], _ :: _, _, h, _ => by simp at h
  | _ :: _, [], _, h, _ => by simp at h
theorem lookup_rep : ∀ {fvs : List (Str × V)} {fs : List (Str × D)} {f : Str} {d : D}, fvs.map Prod.fst = fs.map Prod.fst → Reps c S A (fvs.map Prod.snd) (fs.map Prod.snd) → fs.lookup f = some d → ∃ v, fvs.lookup f = some v ∧ Rep c S A v d
  | [], [], _, _, _, _, e => by cases e
  | (g, x) :: r, (g', d') :: r', f, d, h, rr, e => by
    simp only [List.map_cons, List.cons.injEq] at h
    obtain ⟨rfl, h⟩ := h
    cases rr with
    | cons r1 r2 =>
      simp only [List.lookup_cons] at e ⊢
      cases q : f == g with
      | true => rw [q] at e; cases e; exact ⟨x, rfl, r1⟩
      | false => rw [q] at e; exact lookup_rep h r2 e
  | [], _ :: _, _, _, h, _, _ => by simp at h
  | _ :: _, [], _, _, h, _, _ => by simp at h
theorem put_rep {v : V} {d : D} {f : Str} (r : Rep c S A v d) : ∀ {fvs : List (Str × V)} {fs : List (Str × D)}, fvs.map Prod.fst = fs.map Prod.fst → Reps c S A (fvs.map Prod.snd) (fs.map Prod.snd) →
    (putF f v fvs).map Prod.fst = (putD f d fs).map Prod.fst ∧ Reps c S A ((putF f v fvs).map Prod.snd) ((putD f d fs).map Prod.snd)
  | [], [], _, _ => ⟨rfl, .cons r .nil⟩
  | (g, x) :: q, (g', d') :: q', h, rr => by
    simp only [List.map_cons, List.cons.injEq] at h
    obtain ⟨rfl, h⟩ := h
    cases rr with
    | cons r1 r2 =>
      unfold putF putD
      by_cases e : g = f
      · rw [if_pos e, if_pos e]
        exact ⟨by simp [h], .cons r r2⟩
      · rw [if_neg e, if_neg e]
        obtain ⟨h1, h2⟩ := put_rep r h r2
        exact ⟨by simp [h1], .cons r1 h2⟩
  | [], _ :: _, h, _ => by simp at h
  | _ :: _, [], h, _ => by simp at h
theorem cell_ne (nd : A.Nodup) {i j : Nat} {a : Addr} (h1 : A[i]? = some a) (h2 : A[j]? = some a) : i = j := by
  obtain ⟨q1, e1⟩ := List.getElem?_eq_some_iff.mp h1
  obtain ⟨q2, e2⟩ := List.getElem?_eq_some_iff.mp h2
  exact (List.getElem_inj nd).mp (e1.trans e2.symm)
theorem Fits.setCell (ft : Fits c S A G H) {k : Nat} {a : Addr} {o : HO} {x : Cell} (ha : A[k]? = some a) (hx : CellAt c S A (upd H a o) a x) : Fits c S A (G.set k x) (upd H a o) where
  sub := fun b u e => by
    have z : b ≠ a := fun z => by rw [z, ft.out a (List.mem_of_getElem? ha)] at e; cases e
    rcases ft.sub b u e with q | ⟨n, w, q⟩
    · exact .inl (by rw [upd_ne z]; exact q)
    · exact .inr ⟨n, w, by rw [upd_ne z]; exact q⟩
  len := by rw [List.length_set]; exact ft.len
  nd := ft.nd
  out := ft.out
  live := fun j b y e1 e2 => by
    rw [List.getElem?_set] at e2
    by_cases q : k = j
    · subst q
      rw [ha] at e1
      cases e1
      simp only [if_true] at e2
      split at e2
      · cases e2; exact hx
      · cases e2
    · rw [if_neg q] at e2
      have z : b ≠ a := fun z => q (cell_ne ft.nd ha (z ▸ e1))
      exact (ft.live j b y e1 e2).mono (fun _ _ z => z) (List.prefix_refl _) (upd_ne z)
theorem es_cell {k : Nat} {a : Addr} {o : HO} (ha : A[k]? = some a) : ES S A H S A (upd H a o) := SS.refl.upd (.inr (.inl (List.mem_of_getElem? ha)))
/-- o.f -/
theorem gFld {o : Expr} {cn f : Str} {pos : Pos} {fo : EF} (he : PE X o (TX ⟨X.K, cl⟩ W fo)) (hc : Cls X.K (cl cn)) (hn : NoAttr X.K (cl cn) f) (hb : attributeBase o f X.env (eval o X.env) = eval o X.env := by rfl) : PE X (.Attribute o f pos) (TX ⟨X.K, cl⟩ W (mFld cn f fo)) :=
  (pe_fld he hb).imp fun σ H Q ⟨ρ, S, A, G, e, ft, h⟩ => (go fo e ft h).imp fun v H1 ⟨S1, A1, G1, d, x1, e1, f1, r1, h1⟩ => by
    unfold oFld at h1
    cases d with
    | cel k =>
      cases g : G1[k]? with
      | none => simp only [g] at h1; exact h1.elim
      | some x =>
        simp only [g] at h1
        cases x with
        | ins n fs =>
          simp only at h1
          split at h1
          · rename_i hn'
            subst hn'
            cases q : fs.lookup f with
            | none => simp only [q] at h1; exact h1.elim
            | some d =>
              simp only [q] at h1
              cases r1 with
              | cel ha =>
                obtain ⟨dx, fvs, q1, q2, q3⟩ := f1.live k _ _ ha g
                obtain ⟨v, hv, rv⟩ := lookup_rep q2 q3 q
                exact ⟨_, _, dx, fvs, v, rfl, q1, hc, hn, hv, h1.here f1 rv⟩
          · exact h1.elim
        | _ => exact h1.elim
    | _ => exact h1.elim
theorem gFldSet {o e : Expr} {cn f : Str} {pos pos' : Pos} {fo fe : EF} (hf : cn = cn) (ho : PE X o (TX ⟨X.K, cl⟩ W fo)) (he : PE X e (TX ⟨X.K, cl⟩ W fe)) (hc : Cls X.K (cl cn)) (hn : NoAttr X.K (cl cn) f) (hs : swapsWith e (some (.Attribute o f pos')) pos.line X.env = pure false := by rfl) :
    PS X (.Assign [.Attribute o f pos'] e pos) (TXS ⟨X.K, cl⟩ W (sFldSet cn f fo fe)) := (ps_fld ho he hs).imp fun D σ H ⟨ρ, S, A, G, e, ft, h⟩ =>
  (goS fe e ft h).imp fun y H1 ⟨S1, A1, G1, d, x1, e1, f1, r1, h1⟩ => (goS fo e1 f1 h1).imp fun v H2 ⟨S2, A2, G2, d2, x2, e2, f2, r2, h2⟩ => by
    unfold oSetFld at h2
    cases d2 with
    | cel k =>
      cases g : G2[k]? with
      | none => simp only [g] at h2; exact h2.elim
      | some x =>
        simp only [g] at h2
        cases x with
        | ins n fs =>
          simp only at h2
          split at h2
          · rename_i hn'
            obtain ⟨rfl, hl⟩ := hn'
            cases r2 with
            | cel ha =>
              obtain ⟨dx, fvs, q1, q2, q3⟩ := f2.live k _ _ ha g
              have hl2 : fvs.length = fs.length := by simpa using congrArg List.length q2
              refine ⟨_, _, dx, fvs, rfl, q1, hc, hn, by omega, ?_⟩
              have hp := put_rep (f := f) (Rep.mono x2.st x2.pre r1) q2 q3
              exact h2 σ S2 A2 _ ((es_cell ha).ow _) (f2.setCell ha ⟨dx, _, upd_same, hp.1, hp.2⟩) (e2.step (es_cell ha))
          · exact h2.elim
        | _ => exact h2.elim
    | _ => exact h2.elim
/-- o.m(..), what is raised wished for whatever the slots are -/
theorem meth_of {E : XK} {cn mn : Str} {m : List D → GH → R D} {fo : EF} {fa : AF} {Q : VK} (h : TX c (fun cls d _ H => E cls d H) (mMeth cn mn m fo fa) σ H Q) : tMeth (c.cl cn) mn (spO c m) [] E (TX c (fun cls d _ H => E cls d H) fo) (TXA c (fun cls d _ H => E cls d H) fa) σ H Q := by
  obtain ⟨ρ, S, A, G, e, ft, h⟩ := h
  refine (go fo e ft h).imp fun x H1 ⟨S1, A1, G1, d, x1, e1, f1, r1, h1⟩ => ?_
  split at h1
  case isFalse => exact h1.elim
  case isTrue hins =>
  obtain ⟨a, kk, dx, fs, fvs, rfl, rfl, hA, hG, hH, q2, q3, q4⟩ := ins_of f1 r1 hins
  refine ⟨a, dx, fvs, rfl, hH, lookup_none q2 q4, (go fa e1 f1 h1).imp fun vs H2 ⟨S2, A2, G2, ds, x2, e2, f2, r2, h2⟩ => ?_⟩
  rw [List.append_nil]
  exact ⟨S2, A2, G2, _, f2, .cons (.cel (pre_get x2.pre hA)) r2, h2⟩
theorem gMeth {pl : Sem Bool} {E : XK} {k : Nat} {f : Addr} {fd : FuncData} {ps : List Str} {m : List D → GH → R D} {fo : EF} {fa : AF} {cn mn : Str} {apos pos : Pos} {o e : Expr} {es : List Expr} (he : PE X o (TX ⟨X.K, cl⟩ (fun cls d _ H => E cls d H) fo)) (hc : Cls X.K (cl cn)) (hm : Meth X.K (cl cn) mn f) (F : FnOk X.prog X.w X.K X.mg X.base (L2.CX X.prog X.w) k f fd ps (spO ⟨X.K, cl⟩ m)) (hr : Room k X.A) (hb : Binds X.K fd ps []) (tk : Takes X (fun cls d _ H => E cls d H)) (ha : PA X (e :: es) (TXA ⟨X.K, cl⟩ (fun cls d _ H => E cls d H) fa))
    (hst : starEach (e :: es) X.env = (false, eval e X.env) :: starEach es X.env := by rfl) (hpl : (backTo pos (starEach es X.env)).any (·.1) = false := by rfl)
    (ht : eval (.Call (.Attribute o mn apos) (e :: es) [] pos) X.env = (eval o X.env >>= fun ov => standAt apos.atName >>= fun _ => holding [ov] (getMethod ov mn pl) >>= fun z => callWith pos z.1 z.2 (backTo pos (starEach (e :: es) X.env)) (backToKw pos (keywordEach [] X.env))) := by rfl) :
    PE X (.Call (.Attribute o mn apos) (e :: es) [] pos) (TX ⟨X.K, cl⟩ (fun cls d _ H => E cls d H) (mMeth cn mn m fo fa)) :=
  (pe_meth (pl := pl) he hc hm F hr hb .nil (passes_call tk fun _ _ _ _ h => h) ha hst hpl ht).imp fun _ _ _ h => meth_of h
theorem gMeth0 {pl : Sem Bool} {E : XK} {k : Nat} {f : Addr} {fd : FuncData} {ps : List Str} {m : List D → GH → R D} {fo : EF} {cn mn : Str} {apos pos : Pos} {o : Expr} (he : PE X o (TX ⟨X.K, cl⟩ (fun cls d _ H => E cls d H) fo)) (hc : Cls X.K (cl cn)) (hm : Meth X.K (cl cn) mn f) (F : FnOk X.prog X.w X.K X.mg X.base (L2.CX X.prog X.w) k f fd ps (spO ⟨X.K, cl⟩ m)) (hr : Room k X.A) (hb : Binds X.K fd ps []) (tk : Takes X (fun cls d _ H => E cls d H))
    (ht : eval (.Call (.Attribute o mn apos) [] [] pos) X.env = (eval o X.env >>= fun ov => standAt apos.atName >>= fun _ => holding [ov] (getMethod ov mn pl) >>= fun z => callWith pos z.1 z.2 (backTo pos (starEach [] X.env)) (backToKw pos (keywordEach [] X.env))) := by rfl) :
    PE X (.Call (.Attribute o mn apos) [] [] pos) (TX ⟨X.K, cl⟩ (fun cls d _ H => E cls d H) (mMeth cn mn m fo mNil)) :=
  (pe_meth0 (pl := pl) he hc hm F hr hb .nil (passes_call tk fun _ _ _ _ h => h) ht).imp fun σ H Q h => Pd.imp (meth_of h) fun x H1 ⟨a, dx, fs, h1, h2, h3, h4⟩ => ⟨a, dx, fs, h1, h2, h3, by
    obtain ⟨ρ, S, A, G, e, ft, h⟩ := h4
    exact OkG.here (a := ([] : List D)) h ft .nil⟩

/-! ### what is owned -/
theorem own_upd {i : Nat} {a : Addr} {o : HO} {x y : Cell} (e : EnvOk c S A H σ ρ) (ft : Fits c S A G H) (hx : ρ[i]? = some (some (.own x))) (hi : σ[i]? = some (some (.ref a))) (hy : CellAt c S A (upd H a o) a y) :
    Fits c S A G (upd H a o) ∧ EnvOk c S A (upd H a o) σ (ρ.set i (some (.own y))) ∧ SS (Ow σ ρ) S A H (Ow σ (ρ.set i (some (.own y)))) S A (upd H a o) := by
  obtain ⟨b, h1, h2, h3, h4⟩ := e.own i x hx
  rw [hi] at h1
  cases h1
  have ow : Ow σ ρ a := ⟨i, x, hx, hi⟩
  have hl : i < ρ.length := (List.getElem?_eq_some_iff.mp hx).1
  have oth : ∀ (j : Nat) z b, j ≠ i → ρ[j]? = some (some (.own z)) → σ[j]? = some (some (.ref b)) → b ≠ a := fun j z b hj q1 q2 q3 => hj (e.inj j i z x a q1 hx (q3 ▸ q2) hi)
  refine ⟨ft.upd_out h2 h3, ⟨by simp [e.len], fun j d q => ?_, fun j z q => ?_, fun j k z w b q1 q2 q3 q4 => ?_⟩, (SS.refl.upd (.inr (.inr ow))).drop fun b q => ?_⟩
  · rw [List.getElem?_set] at q
    by_cases z : i = j
    · subst z; simp only [if_true] at q; split at q <;> cases q
    · rw [if_neg z] at q; exact e.val j d q
  · rw [List.getElem?_set] at q
    by_cases hz : i = j
    · subst hz
      simp only [if_true] at q
      rw [if_pos hl] at q
      cases q; exact ⟨a, hi, h2, h3, hy⟩
    · rw [if_neg hz] at q
      obtain ⟨b, r1, r2, r3, r4⟩ := e.own j z q
      exact ⟨b, r1, r2, r3, r4.mono (fun _ _ z => z) (List.prefix_refl _) (upd_ne (oth j z b (Ne.symm hz) q r1))⟩
  · have key : ∀ (j : Nat) z, (ρ.set i (some (.own y)))[j]? = some (some (.own z)) → ∃ z', ρ[j]? = some (some (.own z')) := fun j z q => by
      rw [List.getElem?_set] at q
      by_cases hz : i = j
      · subst hz; exact ⟨x, hx⟩
      · rw [if_neg hz] at q; exact ⟨z, q⟩
    obtain ⟨z1, r1⟩ := key j z q1
    obtain ⟨z2, r2⟩ := key k w q2
    exact e.inj j k z1 z2 b r1 r2 q3 q4
  · obtain ⟨j, z, q1, q2⟩ := q
    rw [List.getElem?_set] at q1
    by_cases hz : i = j
    · subst hz; exact .inr (.inr ⟨i, x, hx, q2⟩)
    · rw [if_neg hz] at q1; exact .inr (.inr ⟨j, z, q1, q2⟩)
theorem gAppO {i : Nat} {x : Str} {px apos cpos spos : Pos} {e : Expr} {fe : EF} (he : PE X e (TX ⟨X.K, cl⟩ W fe)) (hN : X.N[i]? = some x := by rfl) (hv : Vis X.env.scope x := by first | exact Or.inl rfl | exact Or.inr (Or.inl rfl) | exact Or.inr (Or.inr rfl)) (hd : (x == ("__debug__" : Str)) = false := by decide) (hcd : (x == ("__classdict__" : Str)) = false := by decide)
    (hbase : attributeBase (.Name x px) "append" X.env (eval (.Name x px) X.env) = eval (.Name x px) X.env := by rfl)
    (hfew : ((backTo cpos (starEach (e :: []) X.env)).all (fun x => !x.1) && (backToKw cpos (keywordEach [] X.env)).all (fun x => x.1.isSome)
      && decide ((e :: []).length + ([] : List Keyword).length + (if ([] : List Keyword).isEmpty then 0 else 1) < 30)) = true := by rfl)
    (hline : (apos.endLine == cpos.line) = true := by rfl) (hs : starEach (e :: []) X.env = (false, eval e X.env) :: starEach [] X.env := by rfl) (hplain : (backTo cpos (starEach [] X.env)).any (·.1) = false := by rfl)
    (hsw : swapsWith (.Call (.Attribute (.Name x px) "append" apos) [e] [] cpos) none spos.line X.env = pure false := by rfl) :
    PS X (.Expr (.Call (.Attribute (.Name x px) "append" apos) [e] [] cpos) spos) (TXS ⟨X.K, cl⟩ W (sAppO i fe)) := by
  refine (ps_expr (pe_bm PySem.F.plainAttrs_list PySem.F.slot_list_append PySem.F.type_list_append mt_append (pe_var (i := i) hN hv hd hcd) (pa_cons he pa_nil hs) hbase hfew hline hs hplain) hsw).imp fun D σ H ⟨ρ, S, A, G, ev, ft, h⟩ => ?_
  unfold sAppO at h
  split at h
  case h_2 => exact h.elim
  case h_1 xs hx =>
  obtain ⟨a, h1, h2, h3, vs, h4, h5⟩ := ev.own i _ hx
  refine ⟨.ref a, h1, .inl ⟨rfl, vs, .inl (.inl h4)⟩, ?_⟩
  refine (goS fe ev ft h).imp fun y H1 ⟨S1, A1, G1, d, x1, e1, f1, r1, hk⟩ => ?_
  split at hk
  · rename_i hl
    obtain ⟨a', g1, g2, g3, vs', g4, g5⟩ := e1.own i _ hx
    rw [h1] at g1
    cases g1
    refine ⟨a, vs', y, rfl, rfl, g4, lim_lt (by rw [g5.length]; exact hl), ?_⟩
    obtain ⟨u1, u2, u3⟩ := own_upd (y := .lst (xs ++ [d])) e1 f1 hx h1 ⟨vs' ++ [y], upd_same, g5.append (.cons r1 .nil)⟩
    exact hk σ S1 A1 _ u3 u1 u2
  · exact hk.elim
/-- x.extend(a new list) -/
theorem gExtO {i : Nat} {x : Str} {px apos cpos spos : Pos} {e : Expr} {f : FF} (he : PE X e (TXF ⟨X.K, cl⟩ W f)) (hN : X.N[i]? = some x := by rfl) (hv : Vis X.env.scope x := by first | exact Or.inl rfl | exact Or.inr (Or.inl rfl) | exact Or.inr (Or.inr rfl)) (hd : (x == ("__debug__" : Str)) = false := by decide) (hcd : (x == ("__classdict__" : Str)) = false := by decide)
    (hbase : attributeBase (.Name x px) "extend" X.env (eval (.Name x px) X.env) = eval (.Name x px) X.env := by rfl)
    (hfew : ((backTo cpos (starEach (e :: []) X.env)).all (fun x => !x.1) && (backToKw cpos (keywordEach [] X.env)).all (fun x => x.1.isSome)
      && decide ((e :: []).length + ([] : List Keyword).length + (if ([] : List Keyword).isEmpty then 0 else 1) < 30)) = true := by rfl)
    (hline : (apos.endLine == cpos.line) = true := by rfl) (hs : starEach (e :: []) X.env = (false, eval e X.env) :: starEach [] X.env := by rfl) (hplain : (backTo cpos (starEach [] X.env)).any (·.1) = false := by rfl)
    (hsw : swapsWith (.Call (.Attribute (.Name x px) "extend" apos) [e] [] cpos) none spos.line X.env = pure false := by rfl) :
    PS X (.Expr (.Call (.Attribute (.Name x px) "extend" apos) [e] [] cpos) spos) (TXS ⟨X.K, cl⟩ W (sExtO i f)) := by
  refine (ps_expr (pe_bm PySem.F.plainAttrs_list PySem.F.slot_list_extend PySem.F.type_list_extend mt_extend (pe_var (i := i) hN hv hd hcd) (pa_cons he pa_nil hs) hbase hfew hline hs hplain) hsw).imp fun D σ H ⟨ρ, S, A, G, ev, ft, h⟩ => ?_
  unfold sExtO at h
  split at h
  case h_2 => exact h.elim
  case h_1 xs hx =>
  obtain ⟨a, h1, h2, h3, vs, h4, h5⟩ := ev.own i _ hx
  refine ⟨.ref a, h1, .inl ⟨rfl, vs, .inl (.inl h4)⟩, ρ, S, A, G, ev, ft, ?_⟩
  cases q : f ρ G with
  | stuck => rw [q] at h; exact h
  | ex n G1 => rw [q] at h; exact fun S2 A2 H2 x f2 => h σ S2 A2 H2 (x.ow _) f2 (ev.step x)
  | ok y G1 =>
    rw [q] at h
    intro p S1 A1 H1 x1 f1 hp p1 p2 cc
    have e1 := ev.step x1
    have hk := OkS.step x1 h
    simp only [inS] at hk
    cases y with
    | lst ys =>
      simp only at hk
      split at hk
      · rename_i hl
        obtain ⟨a', g1, g2, g3, vs', g4, g5⟩ := e1.own i _ hx
        rw [h1] at g1
        cases g1
        obtain ⟨ws, w1, w2⟩ := cc
        refine ⟨a, p, vs', ws, rfl, rfl, g4, w1, by rw [g5.length, w2.length]; exact lim_le hl, ?_⟩
        obtain ⟨u1, u2, u3⟩ := own_upd (y := .lst (xs ++ ys)) e1 f1 hx h1 ⟨vs' ++ ws, upd_same, g5.append w2⟩
        exact hk σ S1 A1 _ u3 u1 u2
      · exact hk.elim
    | _ => exact hk.elim
/-- what is owned is made stable, ahead of a statement -/
theorem frz_of {i : Nat} {g : SF} {D : Ends} (h : TXS c W (sFrz i g) D σ H) : TXS c W g D σ H := by
  obtain ⟨ρ, S, A, G, ev, ft, h⟩ := h
  unfold sFrz at h
  split at h
  case h_2 => exact h.elim
  case h_1 x hx =>
  obtain ⟨a, h1, h2, h3, h4⟩ := ev.own i _ hx
  cases z : frz x G with
  | stuck => rw [z] at h; exact h.elim
  | ex n G2 => cases x <;> cases z
  | ok d G2 =>
    rw [z] at h
    obtain ⟨rfl, o, ho, rr⟩ := cell_frz h4 z
    have r : Rep c (upd S a o) A (.ref a) d := rr _ (inc_upd h2) upd_same
    have ow : Ow σ ρ a := ⟨i, x, hx, h1⟩
    -- the slots with i's ownership given up
    have e2 : EnvOk c (upd S a o) A H σ (ρ.set i (some (.v d))) := by
      refine ⟨by simp [ev.len], fun j dj q => ?_, fun j y q => ?_, fun j k y w b q1 q2 q3 q4 => ?_⟩
      · rw [List.getElem?_set] at q
        by_cases hz : i = j
        · subst hz
          simp only [if_true] at q
          split at q
          · cases q; exact ⟨.ref a, h1, r⟩
          · cases q
        · rw [if_neg hz] at q
          obtain ⟨v, r1, r2⟩ := ev.val j dj q
          exact ⟨v, r1, r2.mono (inc_upd h2) (List.prefix_refl _)⟩
      · rw [List.getElem?_set] at q
        by_cases hz : i = j
        · subst hz; simp only [if_true] at q; split at q <;> cases q
        · rw [if_neg hz] at q
          obtain ⟨b, r1, r2, r3, r4⟩ := ev.own j y q
          have nb : b ≠ a := fun q3 => hz (ev.inj i j x y a hx q h1 (q3 ▸ r1))
          exact ⟨b, r1, by rw [upd_ne nb]; exact r2, r3, r4.mono (inc_upd h2) (List.prefix_refl _) rfl⟩
      · have key : ∀ (j : Nat) z, (ρ.set i (some (.v d)))[j]? = some (some (.own z)) → ρ[j]? = some (some (.own z)) := fun j z q => by
          rw [List.getElem?_set] at q
          by_cases hz : i = j
          · subst hz; simp only [if_true] at q; split at q <;> cases q
          · rw [if_neg hz] at q; exact q
        exact ev.inj j k y w b (key j y q1) (key k w q2) q3 q4
    refine ⟨ρ.set i (some (.v d)), upd S a o, A, G2, e2, ft.stab h2 h3 ho, OkS.sstep ?_ h⟩
    refine (SS.refl.stab h2 (.inr (.inr ow))).drop fun b q => ?_
    obtain ⟨j, y, q1, q2⟩ := q
    rw [List.getElem?_set] at q1
    by_cases hz : i = j
    · subst hz; simp only [if_true] at q1; split at q1 <;> cases q1
    · rw [if_neg hz] at q1; exact .inr (.inr ⟨j, y, q1, q2⟩)
theorem gFrz {i : Nat} {st : Stmt} {g : SF} (h : PS X st (TXS ⟨X.K, cl⟩ W g)) : PS X st (TXS ⟨X.K, cl⟩ W (sFrz i g)) := h.imp fun _ _ _ z => frz_of z

/-! ### cells: append, pop -/
theorem gApp {o e : Expr} {fo fe : EF} {apos cpos : Pos} (ho : PE X o (TX ⟨X.K, cl⟩ W fo)) (he : PE X e (TX ⟨X.K, cl⟩ W fe))
    (hbase : attributeBase o "append" X.env (eval o X.env) = eval o X.env := by rfl)
    (hfew : ((backTo cpos (starEach (e :: []) X.env)).all (fun x => !x.1) && (backToKw cpos (keywordEach [] X.env)).all (fun x => x.1.isSome)
      && decide ((e :: []).length + ([] : List Keyword).length + (if ([] : List Keyword).isEmpty then 0 else 1) < 30)) = true := by rfl)
    (hline : (apos.endLine == cpos.line) = true := by rfl) (hs : starEach (e :: []) X.env = (false, eval e X.env) :: starEach [] X.env := by rfl) (hplain : (backTo cpos (starEach [] X.env)).any (·.1) = false := by rfl) :
    PE X (.Call (.Attribute o "append" apos) [e] [] cpos) (TX ⟨X.K, cl⟩ W (mApp fo fe)) := by
  refine (pe_bm PySem.F.plainAttrs_list PySem.F.slot_list_append PySem.F.type_list_append mt_append ho (pa_cons he pa_nil hs) hbase hfew hline hs hplain).imp fun σ H Q ⟨ρ, S, A, G, ev, ft, h⟩ => ?_
  refine (go fo ev ft h).imp fun v H1 ⟨S1, A1, G1, d, x1, e1, f1, r1, h1⟩ => ?_
  split at h1
  case isFalse => exact h1.elim
  case isTrue hv =>
  obtain ⟨ds, hds⟩ : ∃ ds, view G1 d = .lst ds := by
    cases q : view G1 d with
    | lst ds => exact ⟨ds, rfl⟩
    | _ => rw [q] at hv; cases hv
  obtain ⟨a, vs, rfl, h2, h3⟩ := look_lst f1 (.inl r1) hds
  refine ⟨.inl ⟨rfl, vs, .inl (.inl h2)⟩, (go fe e1 f1 h1).imp fun y H2 ⟨S2, A2, G2, d2, x2, e2, f2, r2, h4⟩ => ?_⟩
  unfold oApp at h4
  cases d with
  | cel k =>
    cases g : G2[k]? with
    | none => simp only [g] at h4; exact h4.elim
    | some z =>
      simp only [g] at h4
      cases z with
      | lst xs =>
        simp only at h4
        split at h4
        · rename_i hl
          cases r1 with
          | cel ha =>
            have ha2 := pre_get x2.pre ha
            obtain ⟨ws, w1, w2⟩ := f2.live k _ _ ha2 g
            refine ⟨a, ws, y, rfl, rfl, w1, lim_lt (by rw [w2.length]; exact hl), ?_⟩
            exact h4 .non S2 A2 _ (es_cell ha2) (f2.setCell ha2 ⟨_, upd_same, w2.append (.cons r2 .nil)⟩) .non
        · exact h4.elim
      | _ => exact h4.elim
  | _ => exact h4.elim
theorem getLast_rep {vs : List V} {ds : List D} {d : D} (r : Reps c S A vs ds) (h : ds[ds.length - 1]? = some d) : ∃ v, vs[vs.length - 1]? = some v ∧ Rep c S A v d := by
  rw [r.length]
  exact r.get h
theorem gPop {o : Expr} {fo : EF} {apos cpos : Pos} (ho : PE X o (TX ⟨X.K, cl⟩ W fo)) (hbase : attributeBase o "pop" X.env (eval o X.env) = eval o X.env := by rfl) (hline : (apos.endLine == cpos.line) = true := by rfl) :
    PE X (.Call (.Attribute o "pop" apos) [] [] cpos) (TX ⟨X.K, cl⟩ W (mPop fo)) := by
  refine (pe_bm0 PySem.F.plainAttrs_list PySem.F.slot_list_pop PySem.F.type_list_pop mt_pop ho hbase hline).imp fun σ H Q ⟨ρ, S, A, G, ev, ft, h⟩ => ?_
  refine (go fo ev ft h).imp fun v H1 ⟨S1, A1, G1, d, x1, e1, f1, r1, h1⟩ => ?_
  unfold oPop at h1
  cases d with
  | cel k =>
    cases g : G1[k]? with
    | none => simp only [g] at h1; exact h1.elim
    | some z =>
      simp only [g] at h1
      cases z with
      | lst xs =>
        simp only at h1
        cases q : xs[xs.length - 1]? with
        | none => simp only [q] at h1; exact h1.elim
        | some d =>
          simp only [q] at h1
          cases r1 with
          | cel ha =>
            obtain ⟨ws, w1, w2⟩ := f1.live k _ _ ha g
            obtain ⟨y, hy, ry⟩ := getLast_rep w2 q
            refine ⟨.inl ⟨rfl, ws, .inl (.inl w1)⟩, _, ws, y, rfl, rfl, w1, hy, ?_⟩
            refine h1 y S1 A1 _ (es_cell ha) (f1.setCell ha ⟨_, upd_same, ?_⟩) ry
            rw [List.dropLast_eq_take, List.dropLast_eq_take, w2.length]
            exact w2.take _
      | _ => exact h1.elim
  | _ => exact h1.elim
end
end Gh

set_option Elab.async false
set_option linter.all false
set_option maxRecDepth 100000
set_option maxHeartbeats 4000000
/-! The ghost layer 7: new instances, comprehensions as rules. -/
namespace Gh
open PySem L2
section
variable {X : Cx} {cl : Str → Addr} {c : Ct} {W : WX} {S S' : Hp} {A A' : List Addr} {H H' : Hp} {σ σ' : L2.St} {ρ ρ' : En} {G : GH}
theorem make_of {E : XK} {x : Str} {m : List D → GH → R D} {fa : AF} {Q : VK} (h : TX c (fun cls d _ H => E cls d H) (mMake x m fa) σ H Q) : tMake (c.cl x) (spO c m) [] E (TXA c (fun cls d _ H => E cls d H) fa) σ H Q := by
  obtain ⟨ρ, S, A, G, ev, ft, h⟩ := h
  refine (go fa ev ft h).imp fun vs H1 ⟨S1, A1, G1, ds, x1, e1, f1, r1, h1⟩ => fun a dx ha hdx hne => ?_
  rw [List.append_nil]
  have nS : S1 a = none := f1.nonS ha
  have nA : a ∉ A1 := f1.notIn ha
  have f2 : Fits c S1 A1 G1 (upd H1 dx (.own a)) := f1.upd_out (f1.nonS hdx) (f1.notIn hdx)
  have f3 : Fits c S1 A1 G1 (upd (upd H1 dx (.own a)) a (.ins (c.cl x) dx [])) := f2.upd_out nS nA
  have f4 := f3.cell (x := .ins x []) nS nA ⟨dx, [], upd_same, rfl, .nil⟩
  have es1 : ES S1 A1 H1 S1 (A1 ++ [a]) (upd (upd H1 dx (.own a)) a (.ins (c.cl x) dx [])) := by
    refine ⟨fun _ _ z => z, List.prefix_append _ _, fun b n => ?_, fun _ _ z => .inl z, fun b hb => ?_, fun _ z => z.elim⟩
    · rw [upd_ne fun z => n (.inl (by rw [z]; exact ha)), upd_ne fun z => n (.inl (by rw [z]; exact hdx))]
    · rcases List.mem_append.mp hb with z | z
      · exact .inr (.inl z)
      · simp at z; subst z; exact .inl ha
  refine ⟨S1, A1 ++ [a], G1 ++ [.ins x []], .cel G1.length :: ds, f4, .cons (.cel (by rw [← f1.len]; simp)) (r1.mono (fun _ _ z => z) (List.prefix_append _ _)), ?_⟩
  have h2 := OkG.step es1 h1
  cases q : m (.cel G1.length :: ds) (G1 ++ [.ins x []]) with
  | stuck => rw [q] at h2; exact h2
  | ex n G2 => rw [q] at h2; exact h2
  | ok d G2 =>
    rw [q] at h2
    intro v S2 A2 H2 x2 fz rz
    cases d with
    | non =>
      cases rz
      exact ⟨rfl, h2 _ S2 A2 H2 x2 fz (.cel (pre_get x2.pre (by rw [← f1.len]; simp)))⟩
    | _ => exact h2.elim
theorem gMake {E : XK} {k : Nat} {f : Addr} {fd : FuncData} {ps : List Str} {m : List D → GH → R D} {fa : AF} {x : Str} {p pos : Pos} {e : Expr} {es : List Expr} (M : Mk X.K (cl x) f) (F : FnOk X.prog X.w X.K X.mg X.base (L2.CX X.prog X.w) k f fd ps (spO ⟨X.K, cl⟩ m)) (hr : Room (k + 1) X.A) (hm : X.mg x = some (.ref (cl x))) (hb : Binds X.K fd ps []) (tk : Takes X (fun cls d _ H => E cls d H))
    (ha : PA X (e :: es) (TXA ⟨X.K, cl⟩ (fun cls d _ H => E cls d H) fa)) (hg : Gl X x := by rfl) (hdb : (x == ("__debug__" : Str)) = false := by decide) (he : starEach (e :: es) X.env = (false, eval e X.env) :: starEach es X.env := by rfl) (hpl : (backTo pos (starEach es X.env)).any (·.1) = false := by rfl) :
    PE X (.Call (.Name x p) (e :: es) [] pos) (TX ⟨X.K, cl⟩ (fun cls d _ H => E cls d H) (mMake x m fa)) :=
  (pe_make M F hr hg hm hb .nil (passes_call tk fun _ _ _ _ h => h) ha hdb he hpl).imp fun _ _ _ h => make_of h

/-! ### new things -/
theorem gFz {e : Expr} {f : FF} (h : PE X e (TXF ⟨X.K, cl⟩ W f)) : PE X e (TX ⟨X.K, cl⟩ W (mFz f)) := h.imp fun _ _ _ z => fz_of z
theorem gCel {e : Expr} {f : FF} (h : PE X e (TXF ⟨X.K, cl⟩ W f)) : PE X e (TX ⟨X.K, cl⟩ W (mCel f)) := h.imp fun _ _ _ z => cel_of z
theorem gOwn {i : Nat} {x : Str} {e : Expr} {f : FF} {pos pos' : Pos} (hN : X.N.Nodup) (he : PE X e (TXF ⟨X.K, cl⟩ W f)) (hi : X.N[i]? = some x := by rfl) (hx : Loc X.env.scope x := by first | exact Or.inl rfl | exact Or.inr rfl) (hs : swapsWith e (some (.Name x pos')) pos.line X.env = pure false := by rfl) (hf : X.fn x = true ∨ X.env.scope.names.lookup x = some .local := by first | exact .inl rfl | exact .inr rfl | assumption) :
    PS X (.Assign [.Name x pos'] e pos) (TXS ⟨X.K, cl⟩ W (sOwn i f)) := (ps_set hN hi hx he hs hf).imp fun _ _ _ h => own_of h
theorem gLstF {es : List Expr} {fa : AF} {pos : Pos} (h : PA X es (TXA ⟨X.K, cl⟩ W fa)) : PE X (.List es pos) (TXF ⟨X.K, cl⟩ W (fLst fa)) := (pe_lst h).imp fun σ H Q ⟨ρ, S, A, G, e, ft, h⟩ => by
  refine (goF fa e ft h).imp fun xs H1 ⟨S1, A1, G1, ds, x1, e1, f1, r1, h1⟩ => ?_
  split at h1
  · rename_i hl
    exact ⟨by rw [r1.length]; exact lim_le hl, fun p hp => h1.new f1 hp ⟨xs, upd_same, r1⟩⟩
  · exact h1.elim

/-! ### comprehensions -/
variable {elt tg iter : Expr} {ifs : List Expr} {scope : Scope} {own : List (Str × Nat)} {pos : Pos} {fi : AF} {g : GF} {t : BF} {fe : EF} {gR : TG}
theorem gLc (hct : CT ⟨X.K, cl⟩ gR g (own.map (·.2))) (hc : X.calm = true) (hN : X.N.Nodup) (hi : PI X tg iter (TXI ⟨X.K, cl⟩ W fi)) (ok : BlkOk X.N X.env.scope scope own)
    (hg : ∀ (s : Shared) (H : Hp) (C : Addr) (cs : List (Str × Addr)) (fp : List Addr), PG (X.blk s H scope (compEnvC scope cs C X.env) fp) tg gR) (ht : ∀ (s : Shared) (H : Hp) (C : Addr) (cs : List (Str × Addr)) (fp : List Addr), PTs (X.blk s H scope (compEnvC scope cs C X.env) fp) ifs (TXB ⟨X.K, cl⟩ Wn t))
    (he : ∀ (s : Shared) (H : Hp) (C : Addr) (cs : List (Str × Addr)) (fp : List Addr), PE (X.blk s H scope (compEnvC scope cs C X.env) fp) elt (TX ⟨X.K, cl⟩ Wn fe)) (hs : ∀ x, foldedSetIterable iter X.env x = pure x := by intro _; rfl) :
    PE X (.ListComp elt [⟨tg, iter, ifs, 0⟩] scope pos) (TXF ⟨X.K, cl⟩ W (fComp (mComp fi g t fe (own.map (·.2))))) := (pe_lc hc hN hi ok hg ht he hs).imp fun _ _ _ h => comp_of hct h
/-- name = [..] -/
theorem gSetLc {i : Nat} {y : Str} {py spos : Pos} (hct : CT ⟨X.K, cl⟩ gR g (own.map (·.2))) (hc : X.calm = true) (hN : X.N.Nodup) (hy : X.N[i]? = some y) (hyl : X.env.scope.names.lookup y = some .local)
    (hsw : swapsWith (.ListComp elt [⟨tg, iter, ifs, 0⟩] scope pos) (some (.Name y py)) spos.line X.env = pure true) (hi : PI X tg iter (TXI ⟨X.K, cl⟩ W fi)) (ok : BlkOk X.N X.env.scope scope own)
    (hg : ∀ (s : Shared) (H : Hp) (C : Addr) (cs : List (Str × Addr)) (fp : List Addr), PG (X.blk s H scope (compEnvC scope cs C X.env) fp) tg gR) (ht : ∀ (s : Shared) (H : Hp) (C : Addr) (cs : List (Str × Addr)) (fp : List Addr), PTs (X.blk s H scope (compEnvC scope cs C X.env) fp) ifs (TXB ⟨X.K, cl⟩ Wn t))
    (he : ∀ (s : Shared) (H : Hp) (C : Addr) (cs : List (Str × Addr)) (fp : List Addr), PE (X.blk s H scope (compEnvC scope cs C X.env) fp) elt (TX ⟨X.K, cl⟩ Wn fe)) (hs : ∀ x, foldedSetIterable iter X.env x = pure x := by intro _; rfl) :
    PS X (.Assign [.Name y py] (.ListComp elt [⟨tg, iter, ifs, 0⟩] scope pos) spos) (TXS ⟨X.K, cl⟩ W (sAsg (mFz (fComp (mComp fi g t fe (own.map (·.2))))) (gN i))) :=
  (ps_setLc hc hN hy hyl hsw hi ok hg ht he hs).imp fun D σ H h => by
    have h1 : TX ⟨X.K, cl⟩ W (mFz (fComp (mComp fi g t fe (own.map (·.2))))) σ H (fun x H1 => gName i x σ H1 D.nx) := (asg_of h).imp fun _ _ z => gN_of z
    exact comp_of hct (fz_of h1)
/-- .. owned -/
theorem gOwnLc {i : Nat} {y : Str} {py spos : Pos} (hct : CT ⟨X.K, cl⟩ gR g (own.map (·.2))) (hc : X.calm = true) (hN : X.N.Nodup) (hy : X.N[i]? = some y) (hyl : X.env.scope.names.lookup y = some .local)
    (hsw : swapsWith (.ListComp elt [⟨tg, iter, ifs, 0⟩] scope pos) (some (.Name y py)) spos.line X.env = pure true) (hi : PI X tg iter (TXI ⟨X.K, cl⟩ W fi)) (ok : BlkOk X.N X.env.scope scope own)
    (hg : ∀ (s : Shared) (H : Hp) (C : Addr) (cs : List (Str × Addr)) (fp : List Addr), PG (X.blk s H scope (compEnvC scope cs C X.env) fp) tg gR) (ht : ∀ (s : Shared) (H : Hp) (C : Addr) (cs : List (Str × Addr)) (fp : List Addr), PTs (X.blk s H scope (compEnvC scope cs C X.env) fp) ifs (TXB ⟨X.K, cl⟩ Wn t))
    (he : ∀ (s : Shared) (H : Hp) (C : Addr) (cs : List (Str × Addr)) (fp : List Addr), PE (X.blk s H scope (compEnvC scope cs C X.env) fp) elt (TX ⟨X.K, cl⟩ Wn fe)) (hs : ∀ x, foldedSetIterable iter X.env x = pure x := by intro _; rfl) :
    PS X (.Assign [.Name y py] (.ListComp elt [⟨tg, iter, ifs, 0⟩] scope pos) spos) (TXS ⟨X.K, cl⟩ W (sOwn i (fComp (mComp fi g t fe (own.map (·.2)))))) :=
  (ps_setLc hc hN hy hyl hsw hi ok hg ht he hs).imp fun D σ H h => comp_of hct (own_of h)
theorem gtsNil : PTs X [] (TXB c W mYes) := ⟨fun pins s σ H Q I ⟨ρ, S, A, G, e, ft, h⟩ => pts_nil.run pins s σ H Q I (OkG.here (a := true) h ft rfl)⟩
theorem gtsOne {e : Expr} {t : TT} (h : PT X e t) : PTs X [e] t := pts_one h
end
end Gh

set_option Elab.async false
set_option linter.all false
set_option maxRecDepth 100000
set_option maxHeartbeats 4000000
/-! The ghost layer 8: operators and subscripts by values. -/
namespace Gh
open PySem L2
/-! ### semantics -/
def oAdd (x y : D) (G : GH) : R D := match view G x, view G y with
  | .int i, .int j => .ok (.int (i + j)) G
  | .str a, .str b => if a.length + b.length ≤ LIM then .ok (.str (a ++ b)) G else .stuck
  | .lst xs, .lst ys => if xs.length + ys.length ≤ LIM then .ok (.lst (xs ++ ys)) G else .stuck
  | .tup xs, .tup ys => if xs.length + ys.length ≤ LIM then .ok (.tup (xs ++ ys)) G else .stuck
  | _, _ => .stuck
def oSub (x y : D) (G : GH) : R D := match view G x, view G y with
  | .int i, .int j => .ok (.int (i - j)) G
  | _, _ => .stuck
def smallI (i : Int) : Bool := decide (-(2 ^ 64) < i) && decide (i < 2 ^ 64)
def oMul (x y : D) (G : GH) : R D := match view G x, view G y with
  | .int i, .int j => if smallI i || smallI j then .ok (.int (i * j)) G else .stuck
  | .lst xs, .int k => if inRg k = true ∧ xs.length * k.toNat ≤ LIM then .ok (.lst (List.replicate k.toNat xs).flatten) G else .stuck
  | _, _ => .stuck
def oDiv (x y : D) (G : GH) : R D := match view G x, view G y with
  | .int i, .int j => if 0 < j ∧ j < 1073741824 then .ok (.int (i / j)) G else .stuck
  | _, _ => .stuck
def oMod (x y : D) (G : GH) : R D := match view G x, view G y with
  | .int i, .int j => if 0 < j then .ok (.int (i % j)) G else .stuck
  | _, _ => .stuck
def oPow (x y : D) (G : GH) : R D := match view G x, view G y with
  | .int i, .int j => if 0 ≤ j ∧ j ≤ 1000000 ∧ i.natAbs < 2 ^ 64 then .ok (.int (i ^ j.toNat)) G else .stuck
  | _, _ => .stuck
def cmpI (f : Int → Int → Bool) (x y : D) (G : GH) : R D := match view G x, view G y with
  | .int i, .int j => .ok (.bl (f i j)) G
  | _, _ => .stuck
def oLt := cmpI fun i j => decide (i < j)
def oLe := cmpI fun i j => decide (i ≤ j)
def oGt := cmpI fun i j => decide (j < i)
def oGe := cmpI fun i j => decide (j ≤ i)
/-! ### keys -/
def keyOf : D → Option Key
  | .int i => some (.inl i)
  | .str x => some (.inr x)
  | _ => none
def keysOf : List D → Option (List Key)
  | [] => some []
  | d :: r => match keyOf d, keysOf r with
    | some k, some ks => some (k :: ks)
    | _, _ => none
section
variable {κ : Type} [DecidableEq κ]
def valD (kvs : List (κ × D)) (k : κ) : Option D := (kvs.find? fun kv => decide (kv.1 = k)).map (·.2)
def putKD (kvs : List (κ × D)) (k : κ) (v : D) : List (κ × D) :=
  if (kvs.any fun kv => decide (kv.1 = k)) = true then kvs.map (fun kv => if kv.1 = k then (kv.1, v) else kv) else kvs ++ [(k, v)]
end
/-- what a dict shows at a key: none: no dict, or no key at all -/
def dGet (G : GH) (x k : D) : Option (Option D) := match view G x, k with
  | .dic kvs, .tup _ => none
  | .dic kvs, k => (keyOf k).map (valD kvs)
  | .dit kvs, .tup ks => (keysOf ks).map (valD kvs)
  | _, _ => none
/-- an answer that may be lacking -/
def ofO (o : Option D) (G : GH) : R D := match o with
  | some d => .ok d G
  | none => .stuck
@[simp] theorem ofO_some (d : D) (G : GH) : ofO (some d) G = .ok d G := rfl
@[simp] theorem ofO_none (G : GH) : ofO none G = .stuck := rfl
def oIx (x y : D) (G : GH) : R D := match view G x, y with
  | .lst xs, .int i => ofO (atI xs i) G
  | .tup xs, .int i => ofO (atI xs i) G
  | .str z, .int i => if z.length ≤ LIM then ofO ((atI z.cps.toList i).map fun n => D.str ⟨#[n]⟩) G else .stuck
  | .scr ns, .int i => ofO ((atI ns i).map D.int) G
  | _, _ => ofO ((dGet G x y).getD none) G

section
variable {c : Ct} {W : WX} {S S' : Hp} {A A' : List Addr} {H H' : Hp} {σ σ' : L2.St} {ρ ρ' : En} {G : GH} {X : Cx} {cl : Str → Addr}
def rAdd4 (K : PySem.W.Frag) : R2 := fun x y H Q => (rI0 (fun i j => .int (i + j)) x y H Q ∨ (∃ i j, x = .str i ∧ y = .str j ∧ i.length + j.length ≤ sizeLine ∧ Q (.str (i ++ j)) H)) ∨ (rCat x y H Q ∨ rCatA K x y H Q)
theorem op_add4 : OpR X (binaryOp .Add) (rAdd4 X.K) := (op_add.or op_add_str).or (op_cat.or op_catA)
theorem opS_add : OpS c (rAdd4 c.K) oAdd := fun S A G H x y dx dy Q E ft rx ry h => by
  unfold oAdd at h
  split at h
  · rename_i q1 q2
    rw [view_int rx q1, view_int ry q2]
    exact .inl (.inl ⟨_, _, rfl, rfl, h.here ft (.int _)⟩)
  · rename_i q1 q2
    split at h
    · rename_i hl
      rw [view_str rx q1, view_str ry q2]
      exact .inl (.inr ⟨_, _, rfl, rfl, lim_le hl, h.here ft (.str _)⟩)
    · exact h.elim
  · rename_i q1 q2
    split at h
    · rename_i hl
      obtain ⟨a, vs, rfl, h2, h3⟩ := look_lst ft rx q1
      obtain ⟨b, ws, rfl, h4, h5⟩ := look_lst ft ry q2
      exact .inr (.inl ⟨a, b, vs, ws, rfl, rfl, h2, h4, by rw [h3.length, h5.length]; exact lim_le hl, fun p hp => h.new ft hp (.lst upd_same ((h3.append h5).mono (inc_upd (ft.nonS hp)) (List.prefix_refl _)))⟩)
    · exact h.elim
  · rename_i q1 q2
    split at h
    · rename_i hl
      have e1 := view_flat q1 (by intros; simp) (by intros; simp) (by intros; simp) (by intros; simp)
      have e2 := view_flat q2 (by intros; simp) (by intros; simp) (by intros; simp) (by intros; simp)
      obtain ⟨a, vs, rfl, h2, h3⟩ := look_tup ft rx q1
      obtain ⟨b, ws, rfl, h4, h5⟩ := look_tup ft ry q2
      subst e1; subst e2
      have rx' : Rep c S A (.ref a) _ := rx.resolve_right fun ⟨_, _, _, _, _, _, z⟩ => by cases z
      have ry' : Rep c S A (.ref b) _ := ry.resolve_right fun ⟨_, _, _, _, _, _, z⟩ => by cases z
      refine .inr (.inr ⟨a, b, vs, ws, rfl, rfl, h2, h4, by rw [h3.length, h5.length]; exact lim_le hl, fun e => ?_, fun n e => ?_, fun n n' p hp => ?_⟩)
      · subst e
        cases h3
        exact h.here ft ry'
      · subst e
        cases h5
        rw [List.append_nil] at h
        exact h.here ft rx'
      · exact h.new ft hp (.tup upd_same ((h3.append h5).mono (inc_upd (ft.nonS hp)) (List.prefix_refl _)))
    · exact h.elim
  · exact h.elim
theorem opS_I0 {f : Int → Int → Int} {o : D → D → GH → R D} (ho : ∀ x y G, o x y G = match view G x, view G y with | .int i, .int j => .ok (.int (f i j)) G | _, _ => .stuck) : OpS c (rI0 fun i j => .int (f i j)) o := fun S A G H x y dx dy Q E ft rx ry h => by
  rw [ho] at h
  split at h
  · rename_i q1 q2
    rw [view_int rx q1, view_int ry q2]
    exact ⟨_, _, rfl, rfl, h.here ft (.int _)⟩
  · exact h.elim
theorem opS_sub : OpS c (rI0 fun i j => .int (i - j)) oSub := opS_I0 fun _ _ _ => rfl
theorem opS_cmp {f : Int → Int → Bool} : OpS c (rI0 fun i j => .bl (f i j)) (cmpI f) := fun S A G H x y dx dy Q E ft rx ry h => by
  unfold cmpI at h
  split at h
  · rename_i q1 q2
    rw [view_int rx q1, view_int ry q2]
    exact ⟨_, _, rfl, rfl, h.here ft (.bl _)⟩
  · exact h.elim
theorem opS_div : OpS c (rI CDiv fun i j => .int (i / j)) oDiv := fun S A G H x y dx dy Q E ft rx ry h => by
  unfold oDiv at h
  split at h
  · rename_i q1 q2
    split at h
    · rename_i hc
      rw [view_int rx q1, view_int ry q2]
      exact ⟨_, _, rfl, rfl, hc, h.here ft (.int _)⟩
    · exact h.elim
  · exact h.elim
theorem opS_mod : OpS c (rI (fun _ j => 0 < j) fun i j => .int (i % j)) oMod := fun S A G H x y dx dy Q E ft rx ry h => by
  unfold oMod at h
  split at h
  · rename_i q1 q2
    split at h
    · rename_i hc
      rw [view_int rx q1, view_int ry q2]
      exact ⟨_, _, rfl, rfl, hc, h.here ft (.int _)⟩
    · exact h.elim
  · exact h.elim
theorem opS_pow : OpS c (rI CPow fun i j => .int (i ^ j.toNat)) oPow := fun S A G H x y dx dy Q E ft rx ry h => by
  unfold oPow at h
  split at h
  · rename_i q1 q2
    split at h
    · rename_i hc
      rw [view_int rx q1, view_int ry q2]
      exact ⟨_, _, rfl, rfl, hc, h.here ft (.int _)⟩
    · exact h.elim
  · exact h.elim
theorem smallI_c {i j : Int} (h : (smallI i || smallI j) = true) : CMul i j := by
  unfold smallI at h
  simp only [Bool.or_eq_true, Bool.and_eq_true, decide_eq_true_eq] at h
  exact h
end
end Gh

set_option Elab.async false
set_option linter.all false
set_option maxRecDepth 100000
set_option maxHeartbeats 4000000
/-! The ghost layer 9: list * int, dicts by keys, subscripts, slices. -/
namespace Gh
section
open PySem PySem.Spec PyProof.Rows L2
/-- k in d, k not in d by values -/
def rInDk (neg : Bool) : R2 := fun x y H Q => ∃ a o, y = .ref a ∧ DGet H a x o ∧ Q (.bl (if neg then !o.isSome else o.isSome)) H
theorem op_inDk {X : Cx} (hu : X.A.units + 1 < cLine) : OpR X (compareOp .In) (rInDk false) := by
  intro pins s σ H x y v u Q I rx ry h
  obtain ⟨a, o, rfl, g, q⟩ := h
  obtain rfl : u = Value.ref a := ry
  exact d_in hu I g rx fun s3 I3 => ⟨.bl o.isSome, H, I3, rfl, q⟩
theorem op_notInDk {X : Cx} (hu : X.A.units + 1 < cLine) : OpR X (compareOp .NotIn) (rInDk true) := by
  intro pins s σ H x y v u Q I rx ry h
  obtain ⟨a, o, rfl, g, q⟩ := h
  obtain rfl : u = Value.ref a := ry
  exact d_notIn hu I g rx fun s3 I3 => ⟨.bl (!o.isSome), H, I3, rfl, q⟩
end
open PySem L2
section
variable {c : Ct} {W : WX} {S S' : Hp} {A A' : List Addr} {H H' : Hp} {σ σ' : L2.St} {ρ ρ' : En} {G : GH} {X : Cx} {cl : Str → Addr}
def rMul2 : R2 := fun x y H Q => rI CMul (fun i j => .int (i * j)) x y H Q ∨ rRep x y H Q
theorem op_mul2 : OpR X (binaryOp .Mult) rMul2 := op_mul.or op_rep
theorem Reps.rep {vs : List V} {ds : List D} (h : Reps c S A vs ds) : ∀ n : Nat, Reps c S A (List.replicate n vs).flatten (List.replicate n ds).flatten
  | 0 => .nil
  | n + 1 => by
    rw [List.replicate_succ, List.replicate_succ, List.flatten_cons, List.flatten_cons]
    exact h.append (Reps.rep h n)
theorem opS_mul : OpS c rMul2 oMul := fun S A G H x y dx dy Q E ft rx ry h => by
  unfold oMul at h
  split at h
  · rename_i q1 q2
    split at h
    · rename_i hc
      rw [view_int rx q1, view_int ry q2]
      exact .inl ⟨_, _, rfl, rfl, smallI_c hc, h.here ft (.int _)⟩
    · exact h.elim
  · rename_i q1 q2
    split at h
    · rename_i hc
      have hcc := inRg_iff.mp hc.1
      obtain ⟨a, vs, rfl, h2, h3⟩ := look_lst ft rx q1
      rw [view_int ry q2]
      refine .inr ⟨a, _, vs, rfl, rfl, h2, by omega, by omega, ?_, fun p hp => h.new ft hp (.lst upd_same ((h3.rep _).mono (inc_upd (ft.nonS hp)) (List.prefix_refl _)))⟩
      rw [h3.length]
      exact lim_le hc.2
    · exact h.elim
  · exact h.elim

/-! ### dicts by keys -/
section
variable {κ : Type} [DecidableEq κ]
theorem val_rep : ∀ {kvs : List (κ × V)} {kds : List (κ × D)} {k : κ} {d : D}, kvs.map Prod.fst = kds.map Prod.fst → Reps c S A (kvs.map Prod.snd) (kds.map Prod.snd) → valD kds k = some d → ∃ v, valV kvs k = some v ∧ Rep c S A v d
  | [], [], _, _, _, _, e => by cases e
  | (g, x) :: r, (g', d') :: r', k, d, h, rr, e => by
    simp only [List.map_cons, List.cons.injEq] at h
    obtain ⟨rfl, h⟩ := h
    cases rr with
    | cons r1 r2 =>
      by_cases q : g = k
      · subst q
        have e' : d' = d := by simpa [valD, List.find?_cons] using e
        subst e'
        exact ⟨x, valV_pos rfl, r1⟩
      · have e' : valD r' k = some d := by simpa [valD, List.find?_cons, q] using e
        obtain ⟨v, h1, h2⟩ := val_rep h r2 e'
        exact ⟨v, (valV_neg q).trans h1, h2⟩
  | [], _ :: _, _, _, h, _, _ => by simp at h
  | _ :: _, [], _, _, h, _, _ => by simp at h
theorem val_none : ∀ {kvs : List (κ × V)} {kds : List (κ × D)} {k : κ}, kvs.map Prod.fst = kds.map Prod.fst → valD kds k = none → valV kvs k = none
  | [], [], _, _, _ => rfl
  | (g, x) :: r, (g', d') :: r', k, h, e => by
    simp only [List.map_cons, List.cons.injEq] at h
    obtain ⟨rfl, h⟩ := h
    by_cases q : g = k
    · subst q
      simp [valD, List.find?_cons] at e
    · have e' : valD r' k = none := by simpa [valD, List.find?_cons, q] using e
      exact (valV_neg q).trans (val_none h e')
  | [], _ :: _, _, h, _ => by simp at h
  | _ :: _, [], _, h, _ => by simp at h
theorem val_some {kvs : List (κ × V)} {kds : List (κ × D)} {k : κ} (h : kvs.map Prod.fst = kds.map Prod.fst) (r : Reps c S A (kvs.map Prod.snd) (kds.map Prod.snd)) : (valV kvs k).isSome = (valD kds k).isSome := by
  cases e : valD kds k with
  | none => rw [val_none h e]; rfl
  | some d => obtain ⟨v, h1, _⟩ := val_rep h r e; rw [h1]; rfl
theorem putK_rep {kvs : List (κ × V)} {kds : List (κ × D)} {k : κ} {v : V} {d : D} (h : kvs.map Prod.fst = kds.map Prod.fst) (r : Reps c S A (kvs.map Prod.snd) (kds.map Prod.snd)) (rv : Rep c S A v d) :
    (putK kvs k v).map Prod.fst = (putKD kds k d).map Prod.fst ∧ Reps c S A ((putK kvs k v).map Prod.snd) ((putKD kds k d).map Prod.snd) := by
  have ea : (kvs.any fun kv => decide (kv.1 = k)) = kds.any fun kv => decide (kv.1 = k) := by
    have e1 : ∀ {β : Type} (l : List (κ × β)), (l.any fun kv => decide (kv.1 = k)) = (l.map Prod.fst).any fun z => decide (z = k) := fun l => by
      rw [List.any_map]; rfl
    rw [e1, e1, h]
  unfold putK putKD
  rw [ea]
  split
  · have go : ∀ {kvs : List (κ × V)} {kds : List (κ × D)}, kvs.map Prod.fst = kds.map Prod.fst → Reps c S A (kvs.map Prod.snd) (kds.map Prod.snd) →
        (kvs.map (fun kv => if kv.1 = k then (kv.1, v) else kv)).map Prod.fst = (kds.map (fun kv => if kv.1 = k then (kv.1, d) else kv)).map Prod.fst ∧ Reps c S A ((kvs.map (fun kv => if kv.1 = k then (kv.1, v) else kv)).map Prod.snd) ((kds.map (fun kv => if kv.1 = k then (kv.1, d) else kv)).map Prod.snd) := by
      intro kvs
      induction kvs with
      | nil =>
        intro kds h r
        cases kds with
        | nil => exact ⟨rfl, .nil⟩
        | cons _ _ => simp at h
      | cons p q ih =>
        intro kds h r
        cases kds with
        | nil => simp at h
        | cons p' q' =>
          simp only [List.map_cons, List.cons.injEq] at h
          obtain ⟨h0, h⟩ := h
          cases r with
          | cons r1 r2 =>
            obtain ⟨i1, i2⟩ := ih h r2
            simp only [List.map_cons]
            by_cases e : p.1 = k
            · have e' : p'.1 = k := by rw [← h0]; exact e
              rw [if_pos e, if_pos e']
              exact ⟨by rw [i1, h0], .cons rv i2⟩
            · have e' : ¬ p'.1 = k := by rw [← h0]; exact e
              rw [if_neg e, if_neg e']
              exact ⟨by rw [i1, h0], .cons r1 i2⟩
    exact go h r
  · exact ⟨by simp [h], by rw [List.map_append, List.map_append]; exact r.append (.cons rv .nil)⟩
end
theorem key_rep {v : V} {d : D} {k : Key} (r : RepV c S A H v d) (h : keyOf d = some k) : v = kV k := by
  rcases r with r | ⟨a, x, rfl, h1, h2, h3, h4⟩
  · cases r <;> first | (cases h; rfl) | cases h
  · cases h4 <;> cases h
theorem keys_rep : ∀ {vs : List V} {ds : List D} {ks : List Key}, Reps c S A vs ds → keysOf ds = some ks → vs = ks.map kV
  | _, _, _, .nil, h => by cases h; rfl
  | _, _, ks, .cons r1 r2, h => by
    unfold keysOf at h
    split at h
    · rename_i k ks' h1 h2
      cases h
      rw [key_rep (H := fun _ => none) (.inl r1) h1, keys_rep r2 h2]
      rfl
    · cases h
theorem look_dic {v : V} {d : D} {kds : List (Key × D)} (ft : Fits c S A G H) (r : RepV c S A H v d) (e : view G d = .dic kds) : ∃ a kvs, v = .ref a ∧ Rd H a (.dK kvs) ∧ kvs.map Prod.fst = kds.map Prod.fst ∧ Reps c S A (kvs.map Prod.snd) (kds.map Prod.snd) := by
  rcases r.symm with ⟨a, x, rfl, h1, h2, h3, h4⟩ | r
  · cases h4 with
    | dic xs =>
      have e' : xs = kds := by simpa [view] using e
      subst e'
      obtain ⟨vs, q1, q2⟩ := h3
      exact ⟨a, vs, rfl, .inl q1, q2⟩
    | _ => simp [view] at e
  cases r with
  | dic h k q =>
    rename_i a vs es
    have e' : es = kds := by simpa [view] using e
    subst e'
    exact ⟨_, _, rfl, ft.sub.rd h, k, q⟩
  | cel h =>
    rename_i a k
    simp only [view] at e
    cases g : G[k]? with
    | none => rw [g] at e; cases e
    | some x =>
      rw [g] at e
      have l := ft.live k a x h g
      cases x with
      | dic xs =>
        have e' : xs = kds := by simpa using e
        subst e'
        obtain ⟨vs, h1, h2⟩ := l
        exact ⟨a, vs, rfl, .inl h1, h2⟩
      | _ => cases e
  | _ => simp [view] at e
theorem look_dit {v : V} {d : D} {kds : List (List Key × D)} (ft : Fits c S A G H) (r : RepV c S A H v d) (e : view G d = .dit kds) : ∃ a kvs, v = .ref a ∧ Rd H a (.dT kvs) ∧ kvs.map Prod.fst = kds.map Prod.fst ∧ Reps c S A (kvs.map Prod.snd) (kds.map Prod.snd) := by
  rcases r.symm with ⟨a, x, rfl, h1, h2, h3, h4⟩ | r
  · cases h4 with
    | dit xs =>
      have e' : xs = kds := by simpa [view] using e
      subst e'
      obtain ⟨vs, q1, q2⟩ := h3
      exact ⟨a, vs, rfl, .inl q1, q2⟩
    | _ => simp [view] at e
  cases r with
  | dit h k q =>
    rename_i a vs es
    have e' : es = kds := by simpa [view] using e
    subst e'
    exact ⟨_, _, rfl, ft.sub.rd h, k, q⟩
  | cel h =>
    rename_i a k
    simp only [view] at e
    cases g : G[k]? with
    | none => rw [g] at e; cases e
    | some x =>
      rw [g] at e
      have l := ft.live k a x h g
      cases x with
      | dit xs =>
        have e' : xs = kds := by simpa using e
        subst e'
        obtain ⟨vs, h1, h2⟩ := l
        exact ⟨a, vs, rfl, .inl h1, h2⟩
      | _ => cases e
  | _ => simp [view] at e
/-- a key of several parts that stands as a tuple in the heap -/
theorem tup_at {v : V} {ds : List D} {ks : List Key} (ft : Fits c S A G H) (r : RepV c S A H v (.tup ds)) (h : keysOf ds = some ks) : ∃ b, v = .ref b ∧ H b = some (.tup (ks.map kV)) := by
  rcases r with r | ⟨a, x, rfl, h1, h2, h3, h4⟩
  · cases r with
    | tup h1 h2 => exact ⟨_, rfl, by rw [← keys_rep h2 h]; exact ft.sub.at h1⟩
  · cases h4
theorem dget_rep {x y : V} {dx dy : D} {o : Option D} (ft : Fits c S A G H) (rx : RepV c S A H x dx) (ry : RepV c S A H y dy) (h : dGet G dx dy = some o) : ∃ a z, x = .ref a ∧ DGet H a y z ∧ z.isSome = o.isSome ∧ ∀ d, o = some d → ∃ v, z = some v ∧ Rep c S A v d := by
  unfold dGet at h
  split at h
  · cases h
  · rename_i kds q1 q2
    obtain ⟨k, hk, rfl⟩ := Option.map_eq_some_iff.mp h
    obtain ⟨a, kvs, rfl, h1, h2, h3⟩ := look_dic ft rx q1
    refine ⟨a, valV kvs k, rfl, .inl ⟨kvs, k, h1, key_rep ry hk, rfl⟩, val_some h2 h3, fun d e => val_rep h2 h3 e⟩
  · rename_i kds ks q1
    obtain ⟨k, hk, rfl⟩ := Option.map_eq_some_iff.mp h
    obtain ⟨a, kvs, rfl, h1, h2, h3⟩ := look_dit ft rx q1
    obtain ⟨b, rfl, hb⟩ := tup_at ft ry hk
    exact ⟨a, valV kvs k, rfl, .inr ⟨kvs, k, b, h1, rfl, hb, rfl⟩, val_some h2 h3, fun d e => val_rep h2 h3 e⟩
  · cases h
theorem atI_rep {vs : List V} {ds : List D} {i : Int} {d : D} (r : Reps c S A vs ds) (h : atI ds i = some d) : ∃ v, atI vs i = some v ∧ Rep c S A v d := by
  unfold atI at h ⊢
  rw [r.length]
  cases q : ixN ds.length i with
  | none => rw [q] at h; cases h
  | some j => rw [q] at h; exact r.get h
/-- a subscript that is no dict's -/
def oIxS (x y : D) (G : GH) : R D := match view G x, y with
  | .lst xs, .int i => ofO (atI xs i) G
  | .tup xs, .int i => ofO (atI xs i) G
  | .str z, .int i => if z.length ≤ LIM then ofO ((atI z.cps.toList i).map fun n => D.str ⟨#[n]⟩) G else .stuck
  | .scr ns, .int i => ofO ((atI ns i).map D.int) G
  | _, _ => .stuck
def oIxD (x y : D) (G : GH) : R D := ofO ((dGet G x y).getD none) G
theorem ofO_ok {o : Option D} {Q : VK} {E : Str → Hp → Prop} (h : OkG c (rV c) S A H (ofO o G) Q E) : ∃ d, o = some d ∧ OkG c (rV c) S A H (.ok d G) Q E := by
  cases o with
  | none => exact h.elim
  | some d => exact ⟨d, rfl, h⟩
theorem ix_or (x y : D) (G : GH) : oIx x y G = oIxS x y G ∨ oIx x y G = oIxD x y G := by
  unfold oIx oIxS oIxD
  split
  · rename_i q; exact .inl (by simp only [q])
  · rename_i q; exact .inl (by simp only [q])
  · rename_i q; exact .inl (by simp only [q])
  · rename_i q; exact .inl (by simp only [q])
  · exact .inr rfl
theorem atI_map {α β : Type} (f : α → β) (xs : List α) (i : Int) : atI (xs.map f) i = (atI xs i).map f := by
  unfold atI
  rw [List.length_map]
  cases ixN xs.length i with
  | none => rfl
  | some j => simp [List.getElem?_map]
theorem opS_ixS : OpS c (rIx c.K) oIxS := fun S A G H x y dx dy Q E ft rx ry h => by
  unfold oIxS at h
  split at h
  · rename_i q1
    obtain ⟨d, hd, h⟩ := ofO_ok h
    obtain ⟨a, vs, rfl, h2, h3⟩ := look_lst ft rx q1
    obtain ⟨v, hv, rv⟩ := atI_rep h3 hd
    rw [view_int (G := []) ry rfl]
    exact .inl ⟨a, vs, _, v, rfl, rfl, .inl (.inl h2), hv, h.here ft rv⟩
  · rename_i q1
    obtain ⟨d, hd, h⟩ := ofO_ok h
    obtain ⟨a, vs, rfl, h2, h3⟩ := look_tup ft rx q1
    obtain ⟨v, hv, rv⟩ := atI_rep h3 hd
    rw [view_int (G := []) ry rfl]
    exact .inr (.inl ⟨a, vs, _, v, rfl, rfl, h2, hv, h.here ft rv⟩)
  · rename_i q1
    split at h
    · rename_i hl
      obtain ⟨d, hd, h⟩ := ofO_ok h
      obtain ⟨n, hn, rfl⟩ := Option.map_eq_some_iff.mp hd
      rw [view_str rx q1, view_int (G := []) ry rfl]
      exact .inr (.inr ⟨_, _, n, rfl, rfl, lim_le hl, hn, h.here ft (.str _)⟩)
    · exact h.elim
  · rename_i q1
    obtain ⟨d, hd, h⟩ := ofO_ok h
    obtain ⟨n, hn, rfl⟩ := Option.map_eq_some_iff.mp hd
    obtain ⟨a, rfl, h2⟩ := look_scr ft rx q1
    rw [view_int (G := []) ry rfl]
    exact .inl ⟨a, _, _, .int n, rfl, rfl, h2, by rw [atI_map, hn]; rfl, h.here ft (.int n)⟩
  · exact h.elim
theorem gIx {a b : Expr} {fa fb : EF} {pos : Pos} (hu : X.A.units + 1 < cLine) (ha : PE X a (TXO ⟨X.K, cl⟩ W fa)) (hb : PE X b (TXO ⟨X.K, cl⟩ W fb)) (hs : PlainIx b := by exact fun _ _ => rfl) : PE X (.Subscript a b pos) (TX ⟨X.K, cl⟩ W (mOp oIx fa fb)) := by
  refine ⟨fun pins s σ H Q I ⟨ρ, S, A, G, e, ft, h⟩ => ?_⟩
  -- a sequence or a dict: the semantics tells which
  have key : TX ⟨X.K, cl⟩ W (mOp oIxS fa fb) σ H Q ∨ TX ⟨X.K, cl⟩ W (mOp oIxD fa fb) σ H Q := by
    have mk : ∀ o : D → D → GH → R D, mOp oIx fa fb ρ G = mOp o fa fb ρ G → TX ⟨X.K, cl⟩ W (mOp o fa fb) σ H Q := fun o q => ⟨ρ, S, A, G, e, ft, q ▸ h⟩
    cases q1 : fa ρ G with
    | stuck => exact .inl (mk _ (by unfold mOp; rw [q1] <;> rfl))
    | ex n G1 => exact .inl (mk _ (by unfold mOp; rw [q1] <;> rfl))
    | ok x G1 =>
      cases q2 : fb ρ G1 with
      | stuck => exact .inl (mk _ (by unfold mOp; rw [q1]; simp only [R.bind]; rw [q2]))
      | ex n G2 => exact .inl (mk _ (by unfold mOp; rw [q1]; simp only [R.bind]; rw [q2]))
      | ok y G2 =>
        rcases ix_or x y G2 with z | z
        · exact .inl (mk _ (by unfold mOp; rw [q1]; simp only [R.bind]; rw [q2]; exact z))
        · exact .inr (mk _ (by unfold mOp; rw [q1]; simp only [R.bind]; rw [q2]; exact z))
  rcases key with k | k
  · exact (pe_ix ix_seq ha hb hs).run pins s σ H Q I (op_of opS_ixS k)
  · refine (pe_dget hu ha hb hs).run pins s σ H Q I ?_
    obtain ⟨ρ, S, A, G, e, ft, k⟩ := k
    refine (go fa e ft k).imp fun x H1 ⟨S1, A1, G1, d, x1, e1, f1, r1, h1⟩ => ?_
    refine (go fb e1 f1 h1).imp fun y H2 ⟨S2, A2, G2, d2, x2, e2, f2, r2, h2⟩ => ?_
    obtain ⟨z, hz, h2⟩ := ofO_ok h2
    cases q : dGet G2 d d2 with
    | none => rw [q] at hz; cases hz
    | some o =>
      rw [q] at hz
      obtain rfl : o = some z := hz
      obtain ⟨a, o, rfl, g, _, hz⟩ := dget_rep f2 (RepV.mono x2 r1) r2 q
      obtain ⟨v, rfl, rv⟩ := hz z rfl
      exact ⟨a, v, rfl, g, h2.here f2 rv⟩

/-! ### slices -/
def cutD (xs : List D) (lo hi : Option Int) : List D := (xs.drop (HT.sIx xs.length 0 lo)).take (HT.sIx xs.length xs.length hi - HT.sIx xs.length 0 lo)
theorem cut_rep {vs : List V} {ds : List D} (r : Reps c S A vs ds) (lo hi : Option Int) : Reps c S A (cutV vs lo hi) (cutD ds lo hi) := by
  unfold cutV cutD
  rw [r.length]
  exact (r.drop _).take _
/-- an optional part of a slice -/
abbrev OF := En → GH → R (Option Int)
def mNoP : OF := fun _ G => .ok none G
def oInt (d : D) (G : GH) : R (Option Int) := match d with
  | .int i => .ok (some i) G
  | _ => .stuck
def mP (f : EF) : OF := fun ρ G => (f ρ G).bind oInt
abbrev TXP (c : Ct) (W : WX) (f : OF) : TO := Pd c W (fun _ _ _ (b a : Option Int) => b = a) f
theorem _root_.L2.PO.imp {e : Option Expr} {t t' : TO} (h : PO X e t) (q : ∀ σ H Q, t' σ H Q → t σ H Q) : PO X e t' := ⟨fun pins s σ H Q I z => h.run pins s σ H Q I (q σ H Q z)⟩
theorem gpNone : PO X none (TXP ⟨X.K, cl⟩ W mNoP) := po_none.imp fun σ H Q ⟨ρ, S, A, G, e, ft, h⟩ => OkG.here (a := (none : Option Int)) h ft rfl
theorem gpSome {e : Expr} {f : EF} (h : PE X e (TX ⟨X.K, cl⟩ W f)) : PO X (some e) (TXP ⟨X.K, cl⟩ W (mP f)) := (po_some h).imp fun σ H Q ⟨ρ, S, A, G, e, ft, h⟩ => (go f e ft h).imp fun x H1 ⟨S1, A1, G1, d, x1, e1, f1, r1, h1⟩ => by
  cases d with
  | int i => cases r1; exact ⟨i, rfl, h1.here f1 rfl⟩
  | _ => exact h1.elim
/-- list: a new one; tuple -/
def oSl (x : D) (lo hi : Option Int) (G : GH) : R D := match view G x with
  | .lst xs => .ok (.lst (cutD xs lo hi)) G
  | .tup xs => .ok (.tup (cutD xs lo hi)) G
  | _ => .stuck
def mSl (f : EF) (l u : OF) : EF := fun ρ G => (f ρ G).bind fun x G1 => (l ρ G1).bind fun lo G2 => (u ρ G2).bind fun hi G3 => oSl x lo hi G3
def rSl2 (K : PySem.W.Frag) : V → Option Int → Option Int → Hp → VK → Prop := fun x lo hi H Q => rSlL K x lo hi H Q ∨ rSlA K x lo hi H Q
theorem cut_whole {α : Type} (xs : List α) (a b : Nat) (h1 : a = 0) (h2 : b = xs.length) : (xs.drop a).take (b - a) = xs := by
  subst h1; subst h2; simp
theorem gSl {e : Expr} {lo hi : Option Expr} {p2 pos : Pos} {f : EF} {l u : OF} (he : PE X e (TXO ⟨X.K, cl⟩ W f)) (hl : PO X lo (TXP ⟨X.K, cl⟩ W l)) (hh : PO X hi (TXP ⟨X.K, cl⟩ W u)) : PE X (.Subscript e (.Slice lo hi none p2) pos) (TX ⟨X.K, cl⟩ W (mSl f l u)) :=
  (pe_slice (sl_list.or sl_tupA) he hl hh).imp fun σ H Q ⟨ρ, S, A, G, e, ft, h⟩ => (go f e ft h).imp fun x H1 ⟨S1, A1, G1, d, x1, e1, f1, r1, h1⟩ =>
    (go l e1 f1 h1).imp fun lo H2 ⟨S2, A2, G2, lo', x2, e2, f2, r2, h2⟩ => (go u e2 f2 h2).imp fun hi H3 ⟨S3, A3, G3, hi', x3, e3, f3, r3, h3⟩ => by
      subst r2; subst r3
      have rr := (RepV.mono x2 r1).mono x3
      unfold oSl at h3
      split at h3
      · rename_i xs q
        obtain ⟨a, vs, rfl, g2, g3⟩ := look_lst f3 rr q
        exact .inl ⟨a, vs, rfl, .inl (.inl g2), fun p hp => h3.new f3 hp (.lst upd_same ((cut_rep g3 lo hi).mono (inc_upd (f3.nonS hp)) (List.prefix_refl _)))⟩
      · rename_i xs q
        have e1 := view_flat q (by intros; simp) (by intros; simp) (by intros; simp) (by intros; simp)
        obtain ⟨a, vs, rfl, g2, g3⟩ := look_tup f3 rr q
        subst e1
        have rx' : Rep ⟨X.K, cl⟩ S3 A3 (.ref a) _ := rr.resolve_right fun ⟨_, _, _, _, _, _, z⟩ => by cases z
        refine .inr ⟨a, vs, rfl, g2, fun w => ?_, fun w p hp => ?_⟩
        · have : cutD xs lo hi = xs := by
            unfold cutD
            rw [← g3.length]
            exact cut_whole xs _ _ w.1 (w.2.trans g3.length)
          rw [this] at h3
          exact h3.here f3 rx'
        · exact h3.new f3 hp (.tup upd_same ((cut_rep g3 lo hi).mono (inc_upd (f3.nonS hp)) (List.prefix_refl _)))
      · exact h3.elim
end
end Gh

set_option Elab.async false
set_option linter.all false
set_option maxRecDepth 100000
set_option maxHeartbeats 4000000
/-! The ghost layer 10: equality of data. -/
namespace Gh
open PySem L2
mutual
/-- x == y, no dicts within -/
def eqB : D → D → Bool
  | .non, .non => true
  | .bl a, .bl b => a == b
  | .bl a, .int i => (if a then 1 else 0) == i
  | .int i, .bl b => i == (if b then 1 else 0)
  | .int i, .int j => i == j
  | .str a, .str b => a == b
  | .lst xs, .lst ys => eqL xs ys
  | .tup xs, .tup ys => eqL xs ys
  | _, _ => false
def eqL : List D → List D → Bool
  | [], [] => true
  | x :: xs, y :: ys => eqB x y && eqL xs ys
  | _, _ => false
end
mutual
/-- plain data of nesting at most n: no cells, no dicts -/
def pn : Nat → D → Bool
  | _, .non => true
  | _, .bl _ => true
  | _, .int _ => true
  | _, .str x => PyData.strOk x
  | n + 1, .lst xs => pnL n xs
  | n + 1, .tup xs => pnL n xs
  | _, _ => false
def pnL : Nat → List D → Bool
  | _, [] => true
  | n, x :: xs => pn n x && pnL n xs
end
mutual
/-- .. dicts too -/
def pd : Nat → D → Bool
  | _, .non => true
  | _, .bl _ => true
  | _, .int _ => true
  | _, .str _ => true
  | n + 1, .lst xs => pdL n xs
  | n + 1, .tup xs => pdL n xs
  | n + 1, .dic xs => pdL n (xs.map Prod.snd)
  | _, _ => false
def pdL : Nat → List D → Bool
  | _, [] => true
  | n, x :: xs => pd n x && pdL n xs
end
mutual
def toP : D → PyData
  | .non => .none
  | .bl b => .bool b
  | .int i => .int i
  | .str x => .str x
  | .lst xs => .list (toPs xs)
  | .tup xs => .tuple (toPs xs)
  | _ => .none
def toPs : List D → List PyData
  | [] => []
  | x :: xs => toP x :: toPs xs
end
mutual
theorem eqv_toP : ∀ (n : Nat) (x y : D), pn n x = true → pn n y = true → PyData.eqv (toP x) (toP y) = eqB x y
  | n, .non, y, h1, h2 => by cases y <;> cases n <;> simp_all [toP, eqB, PyData.eqv, pn]
  | n, .bl b, y, h1, h2 => by cases y <;> cases n <;> simp_all [toP, eqB, PyData.eqv, pn]
  | n, .int b, y, h1, h2 => by cases y <;> cases n <;> simp_all [toP, eqB, PyData.eqv, pn]
  | n, .str b, y, h1, h2 => by cases y <;> cases n <;> simp_all [toP, eqB, PyData.eqv, pn]
  | n + 1, .lst xs, y, h1, h2 => by
    cases y with
    | lst ys =>
      simp only [toP, eqB, PyData.eqv]
      exact eqv_toPs n xs ys (by simpa [pn] using h1) (by simpa [pn] using h2)
    | _ => simp_all [toP, eqB, PyData.eqv, pn]
  | n + 1, .tup xs, y, h1, h2 => by
    cases y with
    | tup ys =>
      simp only [toP, eqB, PyData.eqv]
      exact eqv_toPs n xs ys (by simpa [pn] using h1) (by simpa [pn] using h2)
    | _ => simp_all [toP, eqB, PyData.eqv, pn]
  | 0, .lst xs, y, h1, h2 => by simp [pn] at h1
  | 0, .tup xs, y, h1, h2 => by simp [pn] at h1
  | n, .dic xs, y, h1, h2 => by cases n <;> simp [pn] at h1
  | n, .dit xs, y, h1, h2 => by cases n <;> simp [pn] at h1
  | n, .cel k, y, h1, h2 => by cases n <;> simp [pn] at h1
  | n, .exc k, y, h1, h2 => by cases n <;> simp [pn] at h1
  | n, .wrt k, y, h1, h2 => by cases n <;> simp [pn] at h1
  | n, .scr k, y, h1, h2 => by cases n <;> simp [pn] at h1
  | n, .tpz k, y, h1, h2 => by cases n <;> simp [pn] at h1
theorem eqv_toPs : ∀ (n : Nat) (xs ys : List D), pnL n xs = true → pnL n ys = true → PyData.eqvAll (toPs xs) (toPs ys) = eqL xs ys
  | n, [], [], _, _ => by simp [toPs, eqL, PyData.eqvAll]
  | n, [], _ :: _, _, _ => by simp [toPs, eqL, PyData.eqvAll]
  | n, _ :: _, [], _, _ => by simp [toPs, eqL, PyData.eqvAll]
  | n, x :: xs, y :: ys, h1, h2 => by
    simp only [pnL, Bool.and_eq_true] at h1 h2
    simp only [toPs, eqL, PyData.eqvAll]
    rw [eqv_toP n x y h1.1 h2.1, eqv_toPs n xs ys h1.2 h2.2]
end
mutual
theorem lay_toP : ∀ (n : Nat) (x : D), pn n x = true → (toP x).canLay0 = true ∧ (toP x).depth ≤ n
  | n, .non, _ => ⟨by simp [toP, PyData.canLay0], by simp [toP, PyData.depth]⟩
  | n, .bl b, _ => ⟨by simp [toP, PyData.canLay0], by simp [toP, PyData.depth]⟩
  | n, .int b, _ => ⟨by simp [toP, PyData.canLay0], by simp [toP, PyData.depth]⟩
  | n, .str b, h => ⟨by cases n <;> simpa [toP, PyData.canLay0, pn] using h, by simp [toP, PyData.depth]⟩
  | n + 1, .lst xs, h => by
    obtain ⟨h1, h2⟩ := lay_toPs n xs (by simpa [pn] using h)
    exact ⟨by simpa [toP, PyData.canLay0] using h1, by simpa [toP, PyData.depth] using h2⟩
  | n + 1, .tup xs, h => by
    obtain ⟨h1, h2⟩ := lay_toPs n xs (by simpa [pn] using h)
    exact ⟨by simpa [toP, PyData.canLay0] using h1, by simpa [toP, PyData.depth] using h2⟩
  | 0, .lst xs, h => by simp [pn] at h
  | 0, .tup xs, h => by simp [pn] at h
  | n, .dic xs, h1 => by cases n <;> simp [pn] at h1
  | n, .dit xs, h1 => by cases n <;> simp [pn] at h1
  | n, .cel k, h1 => by cases n <;> simp [pn] at h1
  | n, .exc k, h1 => by cases n <;> simp [pn] at h1
  | n, .wrt k, h1 => by cases n <;> simp [pn] at h1
  | n, .scr k, h1 => by cases n <;> simp [pn] at h1
  | n, .tpz k, h1 => by cases n <;> simp [pn] at h1
theorem lay_toPs : ∀ (n : Nat) (xs : List D), pnL n xs = true → PyData.canLayAll0 (toPs xs) = true ∧ PyData.depthAll (toPs xs) ≤ n
  | n, [], _ => ⟨by simp [toPs, PyData.canLayAll0], by simp [toPs, PyData.depthAll]⟩
  | n, x :: xs, h => by
    simp only [pnL, Bool.and_eq_true] at h
    obtain ⟨h1, h2⟩ := lay_toP n x h.1
    obtain ⟨h3, h4⟩ := lay_toPs n xs h.2
    exact ⟨by simp [toPs, PyData.canLayAll0, h1, h3], by simp only [toPs, PyData.depthAll]; omega⟩
end
section
variable {c : Ct} {W : WX} {S S' : Hp} {A A' : List Addr} {H H' : Hp} {σ σ' : L2.St} {ρ ρ' : En} {G : GH} {X : Cx} {cl : Str → Addr}
mutual
theorem dp_rep (s : Sub S H) : ∀ (n : Nat) {v : V} {d : D}, Rep c S A v d → pn n d = true → Dp c.K H v (toP d)
  | n, _, _, .non, _ => by simp only [toP]; exact .non
  | n, _, _, .bl b, _ => by simp only [toP]; exact .bl b
  | n, _, _, .int b, _ => by simp only [toP]; exact .int b
  | n, _, _, .str b, _ => by simp only [toP]; exact .str b
  | n + 1, _, _, .lst h r, q => by simp only [toP]; exact .lst (h.sq s) (dps_rep s n r (by simpa [pn] using q))
  | n + 1, _, _, .tup h r, q => by simp only [toP]; exact .tup (h.sq s) (dps_rep s n r (by simpa [pn] using q))
  | 0, _, _, .lst h r, q => by simp [pn] at q
  | 0, _, _, .tup h r, q => by simp [pn] at q
  | n, _, _, .dic _ _ _, q => by cases n <;> simp [pn] at q
  | n, _, _, .dit _ _ _, q => by cases n <;> simp [pn] at q
  | n, _, _, .cel _, q => by cases n <;> simp [pn] at q
  | n, _, _, .exc _, q => by cases n <;> simp [pn] at q
  | n, _, _, .wrt _, q => by cases n <;> simp [pn] at q
  | n, _, _, .scr _, q => by cases n <;> simp [pn] at q
  | n, _, _, .tpz _ _ _, q => by cases n <;> simp [pn] at q
theorem dps_rep (s : Sub S H) : ∀ (n : Nat) {vs : List V} {ds : List D}, Reps c S A vs ds → pnL n ds = true → DpAll c.K H vs (toPs ds)
  | n, _, _, .nil, _ => by simp only [toPs]; exact .nil
  | n, _, _, .cons h r, q => by
    simp only [pnL, Bool.and_eq_true] at q
    simp only [toPs]
    exact .cons (dp_rep s n h q.1) (dps_rep s n r q.2)
end
theorem dpv_rep (ft : Fits c S A G H) {n : Nat} {v : V} {d : D} (r : RepV c S A H v d) (q : pn n (view G d) = true) : Dp c.K H v (toP (view G d)) := by
  cases e : view G d with
  | lst ds =>
    rw [e] at q
    obtain ⟨a, vs, rfl, h2, h3⟩ := look_lst ft r e
    cases n with
    | zero => simp [pn] at q
    | succ n => simp only [toP]; exact .lst (.inl (.inl h2)) (dps_rep ft.sub n h3 (by simpa [pn] using q))
  | dic ds => rw [e] at q; cases n <;> simp [pn] at q
  | dit ds => rw [e] at q; cases n <;> simp [pn] at q
  | cel k => rw [e] at q; cases n <;> simp [pn] at q
  | exc k => rw [e] at q; cases n <;> simp [pn] at q
  | wrt k => rw [e] at q; cases n <;> simp [pn] at q
  | scr k => rw [e] at q; cases n <;> simp [pn] at q
  | tpz k => rw [e] at q; cases n <;> simp [pn] at q
  | tup ds =>
    rw [e] at q
    obtain ⟨a, vs, rfl, h2, h3⟩ := look_tup ft r e
    cases n with
    | zero => simp [pn] at q
    | succ n => simp only [toP]; exact .tup h2 (dps_rep ft.sub n h3 (by simpa [pn] using q))
  | non => rw [view_non r e]; simp only [toP]; exact .non
  | bl b => rw [view_bl r e]; simp only [toP]; exact .bl b
  | int b => rw [view_int r e]; simp only [toP]; exact .int b
  | str b => rw [view_str r e]; simp only [toP]; exact .str b
theorem shaped_of {n : Nat} {d : D} (h : pn n d = true) (hn : n ≤ 64) : SeqAt.shaped (toP d) = true := by
  obtain ⟨h1, h2⟩ := lay_toP n d h
  unfold SeqAt.shaped
  rw [h1, decide_eq_true (by omega)]
  rfl
end
end Gh

set_option Elab.async false
set_option linter.all false
set_option maxRecDepth 100000
set_option maxHeartbeats 4000000
/-! The ghost layer 11: two things of the same data are equal, dicts within too. -/
namespace Gh
theorem nodup_ixK {κ : Type} {N : List κ} (hN : N.Nodup) {i j : Nat} {x : κ} (a : N[i]? = some x) (b : N[j]? = some x) : i = j := by
  obtain ⟨h1, e1⟩ := List.getElem?_eq_some_iff.mp a
  obtain ⟨h2, e2⟩ := List.getElem?_eq_some_iff.mp b
  exact (List.getElem_inj hN).mp (e1.trans e2.symm)
section
open PySem PySem.SeqAt
open AutoSeq1 (wpAny_loadPart')
open MeetsSeq MeetsSeq2 MeetsSeq3
variable {prog : Program} {w : World}
/-- tuples whose items are all equal: != is False -/
theorem tup_alike (l b : Addr) (xs ys : Array Value) (n m : Nat) (d1 d2 : Option Addr) (s1 s2 : Array (Option Value)) (hsz : xs.size = ys.size) :
    MeetsIn prog w (Builtin.«tuple.__ne__» ⟨[.ref l, .ref b], []⟩)
      (fun A R s => s.heap.get? l = some { cls := .type "tuple", dict := d1, data := .seq xs n, slots := s1 } ∧ s.heap.get? b = some { cls := .type "tuple", dict := d2, data := .seq ys m, slots := s2 } ∧
        (∀ p ∈ xs.toList.zip ys.toList, EqIn prog w A.in1 s p.1 p.2 true) ∧ R (.ok (.ret (.bool false))) s) := by
  refine .of_wp fun A R s h => ?_
  obtain ⟨hp, g, d, tk, os⟩ := s
  obtain ⟨h1, h2, hall, hR⟩ := h
  have f2 := AutoSeq1.sub_tuple_tuple
  wp_walk using wpAny_loadPart' h1, wpAny_loadPart' h2, wpAny_forIn_list _ (fun rest q s' => q.1 = none ∧ s' = ⟨hp, g, d, tk, os⟩ ∧ ∀ p ∈ rest, p ∈ xs.toList.zip ys.toList) _
  case turn =>
    rintro ⟨y, x⟩ rest q s' ⟨e1, rfl, e3⟩
    refine wpAny_bind (hall (y, x) (e3 _ List.mem_cons_self) _ _ ?_)
    wp_walk
    exact ⟨rfl, rfl, fun p hp => e3 p (List.mem_cons_of_mem _ hp)⟩
  case fin =>
    rintro ⟨q1, q2⟩ s' ⟨e1, rfl, e3⟩
    simp only at e1
    subst e1
    wp_walk
    exact ⟨_, rfl, by simpa [Builtin.Tuple.tupleCompareSizes, hsz] using hR⟩
  case h => exact ⟨rfl, rfl, fun p hp => hp⟩
theorem ne_tuples {A : Around} {s : Shared} {E Q : Value → Shared → Prop} {l b : Addr} {xs ys : Array Value} (hl : s.heap.IsTuple l xs) (hb : s.heap.IsTuple b ys) (hsz : xs.size = ys.size) (hu : A.units < cLine)
    (he : ∀ p ∈ xs.toList.zip ys.toList, EqIn prog w A.in1 s p.1 p.2 true) (h : Q (.bool false) s) : wpAny (model prog w) A (richCompare .NotEq (.ref l) (.ref b)) Q E s := by
  obtain ⟨⟨c1, d1, t1, s1⟩, o1, k1, n, q1⟩ := id hl
  obtain ⟨⟨c2, d2, t2, s2⟩, o2, k2, m, q2⟩ := id hb
  simp only at k1 q1 k2 q2
  subst k1 q1 k2 q2
  refine wpAny_richCompare_same_room (T := "tuple") (op := .NotEq) ⟨_, o1, rfl⟩ ⟨_, o2, rfl⟩ F.slot_tuple_ne ?_ hu
  exact call_meetsIn F.slot_tuple_ne ⟨_, o1, rfl⟩ F.entry_tuple_ne (F.args_tuple_ne_2 _ _) (tup_alike l b xs ys n m d1 d2 s1 s2 hsz) ⟨o1, o2, he, (fun z => nomatch z), h⟩
end

section
open PySem L2
variable {c : Ct} {S : Hp} {A : List Addr} {H : Hp} {σ : L2.St} {G : GH} {X : Cx} {pins : List (Addr × Obj)} {s : Shared}
theorem kv_get : ∀ {kvs : List (Key × V)} {vs : List (Key × Value)} {k : Key} {v : Value}, KV kvs vs → (k, v) ∈ vs → ∃ (i : Nat) (x : V), kvs[i]? = some (k, x) ∧ vs[i]? = some (k, v) ∧ RelV x v
  | _, _, k, v, .nil, h => by cases h
  | _, _, k, v, .cons r t, h => by
    rename_i p q ps qs
    rcases List.mem_cons.mp h with e | h
    · subst e
      exact ⟨0, p.2, congrArg some (Prod.ext r.1 rfl), rfl, r.2⟩
    · obtain ⟨i, x, h1, h2, h3⟩ := kv_get t h
      exact ⟨i + 1, x, by simpa using h1, by simpa using h2, h3⟩
theorem all_true {α : Type} {l : List α} {f : α → Bool} (h : ∀ x ∈ l, f x = true) : l.all f = true := List.all_eq_true.mpr h
theorem range_all (n : Nat) : ((List.range n).all fun _ => true) = true := all_true fun _ _ => rfl
mutual
theorem eq_same (I : Inv X pins σ H s) (sb : Sub S H) : ∀ (n : Nat) (d : D) {x y : V} {v u : Value}, Rep c S A x d → Rep c S A y d → pd n d = true → RelV x v → RelV y u → PySem.W.EqTree X.prog X.w s n v u true
  | n, .non, _, _, _, _, rx, ry, _, r1, r2 => by
    cases rx; cases ry
    cases (show _ = Value.none from r1); cases (show _ = Value.none from r2)
    exact .same
  | n, .bl b, _, _, _, _, rx, ry, _, r1, r2 => by
    cases rx; cases ry
    cases (show _ = Value.bool b from r1); cases (show _ = Value.bool b from r2)
    exact .same
  | n, .int i, _, _, _, _, rx, ry, _, r1, r2 => by
    cases rx; cases ry
    obtain ⟨t, rfl⟩ := r1
    obtain ⟨t', rfl⟩ := r2
    exact .leaf fun A _ => by simpa using SeqAt.EqAt.int_int (A := A) (s := s) i t i t'
  | n, .str i, _, _, _, _, rx, ry, _, r1, r2 => by
    cases rx; cases ry
    obtain ⟨t, rfl⟩ := r1
    obtain ⟨t', rfl⟩ := r2
    exact .leaf fun A _ => by simpa using SeqAt.EqAt.str_str (A := A) (s := s) i t i t'
  | 0, .lst ds, _, _, _, _, _, _, h, _, _ => by simp [pd] at h
  | 0, .tup ds, _, _, _, _, _, _, h, _, _ => by simp [pd] at h
  | 0, .dic ds, _, _, _, _, _, _, h, _, _ => by simp [pd] at h
  | n + 1, .lst ds, _, _, _, _, rx, ry, h, r1, r2 => by
    cases rx with
    | lst h1 q1 =>
      cases ry with
      | lst h2 q2 =>
        rename_i a vs b ws
        cases (show _ = Value.ref a from r1); cases (show _ = Value.ref b from r2)
        by_cases e : a = b
        · subst e; exact .same
        · obtain ⟨us, g1, p1, _⟩ := I.list (xs := vs) (show SqL X.K H a vs from .inl (sb.rd h1))
          obtain ⟨ts, g2, p2, _⟩ := I.list (xs := ws) (show SqL X.K H b ws from .inl (sb.rd h2))
          have hl : us.toArray.size = ts.toArray.size := by simp only [List.size_toArray]; rw [← g1.length, ← g2.length, q1.length, q2.length]
          have t := PySem.W.EqTree.lists (prog := X.prog) (w := X.w) (n := n) (e := fun _ => true) e p1.isList p2.isList hl fun j j1 j2 => by
            have := eqs_same I sb n ds q1 q2 (by simpa [pd] using h) g1 g2 j (by simpa using j1) (by simpa using j2)
            simpa using this
          rw [range_all] at t
          exact t
  | n + 1, .tup ds, _, _, _, _, rx, ry, h, r1, r2 => by
    cases rx with
    | tup h1 q1 =>
      cases ry with
      | tup h2 q2 =>
        rename_i a vs b ws
        cases (show _ = Value.ref a from r1); cases (show _ = Value.ref b from r2)
        by_cases e : a = b
        · subst e; exact .same
        · obtain ⟨us, g1, p1, _⟩ := I.tuple (xs := vs) (show SqT X.K H a vs from .inl (sb.rd h1))
          obtain ⟨ts, g2, p2, _⟩ := I.tuple (xs := ws) (show SqT X.K H b ws from .inl (sb.rd h2))
          have hl : us.toArray.size = ts.toArray.size := by simp only [List.size_toArray]; rw [← g1.length, ← g2.length, q1.length, q2.length]
          have t := PySem.W.EqTree.tuples (prog := X.prog) (w := X.w) (n := n) (e := fun _ => true) e (show s.heap.IsTuple a us.toArray from p1) (show s.heap.IsTuple b ts.toArray from p2) fun j j1 j2 => by
            have := eqs_same I sb n ds q1 q2 (by simpa [pd] using h) g1 g2 j (by simpa using j1) (by simpa using j2)
            simpa using this
          rw [range_all, hl] at t
          simpa using t
  | n + 1, .dic ds, _, _, _, _, rx, ry, h, r1, r2 => by
    cases rx with
    | dic h1 k1 q1 =>
      cases ry with
      | dic h2 k2 q2 =>
        rename_i a kvs b lvs
        cases (show _ = Value.ref a from r1); cases (show _ = Value.ref b from r2)
        by_cases e : a = b
        · subst e; exact .same
        · obtain ⟨_, ya, va, ra, da⟩ := dk_rd I.hok (sb.rd h1)
          obtain ⟨_, yb, vb, rb, db⟩ := dk_rd I.hok (sb.rd h2)
          have nb : (vb.map (·.1)).Nodup := by obtain ⟨_, _, _, _, _, _, _, _, nb⟩ := id db; exact nb
          have na : (va.map (·.1)).Nodup := by obtain ⟨_, _, _, _, _, _, _, _, nb⟩ := id da; exact nb
          have ek : va.map (·.1) = vb.map (·.1) := by
            rw [← KV.keys ra, ← KV.keys rb]
            exact k1.trans k2.symm
          have t := PySem.W.EqTree.dicts (prog := X.prog) (w := X.w) (knd := mixKind X.prog X.w) (n := n) (e := fun _ => true) e ya yb da db fun k v y hm hv => by
            obtain ⟨i, x, g1, g2, g3⟩ := kv_get ra hm
            obtain ⟨j, x', g4, g5, g6⟩ := kv_get rb (valueAt_mem hv)
            have ij : i = j := by
              have e1 : (va.map (·.1))[i]? = some k := by rw [List.getElem?_map, g2]; rfl
              have e2 : (vb.map (·.1))[j]? = some k := by rw [List.getElem?_map, g5]; rfl
              rw [ek] at e1
              exact nodup_ixK nb e1 e2
            subst ij
            have e1 : (kvs.map Prod.snd)[i]? = some x := by rw [List.getElem?_map, g1]; rfl
            have e2 : (lvs.map Prod.snd)[i]? = some x' := by rw [List.getElem?_map, g4]; rfl
            exact eqs_at I sb n (ds.map Prod.snd) q1 q2 (by simpa [pd] using h) i e1 e2 g3 g6
          have el : va.length = vb.length := by simpa using congrArg List.length ek
          have ea : (va.all fun p => (valueAt vb p.1).isSome && true) = true := all_true fun p hp => by
            rw [Bool.and_true, valueAt_isSome, ← ek]
            exact List.mem_map_of_mem hp
          rw [ea, el] at t
          simpa using t
  | n, .dit _, _, _, _, _, _, _, h, _, _ => by cases n <;> simp [pd] at h
  | n, .cel _, _, _, _, _, _, _, h, _, _ => by cases n <;> simp [pd] at h
  | n, .exc _, _, _, _, _, _, _, h, _, _ => by cases n <;> simp [pd] at h
  | n, .wrt _, _, _, _, _, _, _, h, _, _ => by cases n <;> simp [pd] at h
  | n, .scr _, _, _, _, _, _, _, h, _, _ => by cases n <;> simp [pd] at h
  | n, .tpz _, _, _, _, _, _, _, h, _, _ => by cases n <;> simp [pd] at h
theorem eqs_same (I : Inv X pins σ H s) (sb : Sub S H) : ∀ (n : Nat) (ds : List D) {xs ys : List V} {us ts : List Value}, Reps c S A xs ds → Reps c S A ys ds → pdL n ds = true → Vals xs us → Vals ys ts → ∀ j (h1 : j < us.length) (h2 : j < ts.length), PySem.W.EqTree X.prog X.w s n us[j] ts[j] true
  | n, [], _, _, _, _, .nil, .nil, _, .nil, .nil, j, h1, _ => absurd h1 (Nat.not_lt_zero j)
  | n, d :: ds, _, _, _, _, .cons r1 r2, .cons q1 q2, h, .cons a1 a2, .cons b1 b2, j, h1, h2 => by
    simp only [pdL, Bool.and_eq_true] at h
    cases j with
    | zero => exact eq_same I sb n d r1 q1 h.1 a1 b1
    | succ j => exact eqs_same I sb n ds r2 q2 h.2 a2 b2 j (Nat.lt_of_succ_lt_succ h1) (Nat.lt_of_succ_lt_succ h2)
theorem eqs_at (I : Inv X pins σ H s) (sb : Sub S H) : ∀ (n : Nat) (ds : List D) {xs ys : List V}, Reps c S A xs ds → Reps c S A ys ds → pdL n ds = true → ∀ (j : Nat) {x y : V} {v u : Value}, xs[j]? = some x → ys[j]? = some y → RelV x v → RelV y u → PySem.W.EqTree X.prog X.w s n v u true
  | n, [], _, _, .nil, .nil, _, j, _, _, _, _, e, _, _, _ => by simp at e
  | n, d :: ds, _, _, .cons r1 r2, .cons q1 q2, h, 0, _, _, _, _, e1, e2, g1, g2 => by
    simp only [pdL, Bool.and_eq_true] at h
    simp at e1 e2
    subst e1; subst e2
    exact eq_same I sb n d r1 q1 h.1 g1 g2
  | n, d :: ds, _, _, .cons r1 r2, .cons q1 q2, h, j + 1, _, _, _, _, e1, e2, g1, g2 => by
    simp only [pdL, Bool.and_eq_true] at h
    exact eqs_at I sb n ds r2 q2 h.2 j (by simpa using e1) (by simpa using e2) g1 g2
end
end

/-! ### == and != as rules -/
section
open PySem L2
open Classical in
/-- plain things by their data; things with dicts: of the same data alone -/
noncomputable def oEqN (neg : Bool) (x y : D) (G : GH) : R D :=
  if (pn 60 (view G x) && pn 60 (view G y)) = true then .ok (.bl (if neg then !eqB (view G x) (view G y) else eqB (view G x) (view G y))) G
  else if x = y ∧ pd 60 x = true ∧ (neg = true → ∃ xs, x = .tup xs) then .ok (.bl !neg) G else .stuck
noncomputable def oEq := oEqN false
noncomputable def oNe := oEqN true
variable {c : Ct} {S : Hp} {A : List Addr} {H : Hp} {σ : L2.St} {G : GH} {X : Cx} {pins : List (Addr × Obj)} {s : Shared} {cl : Str → Addr} {W : WX}
/-- two things of the same data -/
def rSame (c : Ct) (neg : Bool) : R2 := fun x y H Q => ∃ S A d, Sub S H ∧ Rep c S A x d ∧ Rep c S A y d ∧ pd 60 d = true ∧ (neg = true → ∃ xs, d = .tup xs) ∧ Q (.bl !neg) H
theorem op_same (hu : X.A.units + 64 < cLine) : OpR X (compareOp .Eq) (rSame ⟨X.K, cl⟩ false) := by
  intro pins s σ H x y v u Q I rx ry h
  obtain ⟨S, A, d, sb, r1, r2, hp, _, q⟩ := h
  have fin : EP X pins σ Q (.bool true) s := ⟨.bl true, H, I, rfl, q⟩
  cases d with
  | lst ds =>
    cases r1 with
    | lst h1 q1 =>
      cases r2 with
      | lst h2 q2 =>
        rename_i a vs b ws
        cases (show v = Value.ref a from rx); cases (show u = Value.ref b from ry)
        obtain ⟨us, g1, p1, _⟩ := I.list (xs := vs) (.inl (sb.rd h1))
        obtain ⟨ts, g2, p2, _⟩ := I.list (xs := ws) (.inl (sb.rd h2))
        refine PySem.W.eq_listsT (n := 59) (e := fun _ => true) p1.isList p2.isList (by simp only [List.size_toArray]; rw [← g1.length, ← g2.length, q1.length, q2.length]) (fun j j1 j2 => ?_) (by omega) (by rw [range_all]; exact fin)
        have := eqs_same I sb 59 ds q1 q2 (by simpa [pd] using hp) g1 g2 j (by simpa using j1) (by simpa using j2)
        simpa using this
  | tup ds =>
    cases r1 with
    | tup h1 q1 =>
      cases r2 with
      | tup h2 q2 =>
        rename_i a vs b ws
        cases (show v = Value.ref a from rx); cases (show u = Value.ref b from ry)
        obtain ⟨us, g1, p1, _⟩ := I.tuple (xs := vs) (.inl (sb.rd h1))
        obtain ⟨ts, g2, p2, _⟩ := I.tuple (xs := ws) (.inl (sb.rd h2))
        have hl : us.toArray.size = ts.toArray.size := by simp only [List.size_toArray]; rw [← g1.length, ← g2.length, q1.length, q2.length]
        refine PySem.W.eq_tuplesT (n := 59) (e := fun _ => true) (show s.heap.IsTuple a us.toArray from p1) (show s.heap.IsTuple b ts.toArray from p2) (fun j j1 j2 => ?_) (by omega) (by rw [range_all, hl]; simpa using fin)
        have := eqs_same I sb 59 ds q1 q2 (by simpa [pd] using hp) g1 g2 j (by simpa using j1) (by simpa using j2)
        simpa using this
  | dic ds =>
    have t := eq_same I sb 60 _ r1 r2 hp rx ry
    cases r1 with
    | dic h1 k1 q1 =>
      cases r2 with
      | dic h2 k2 q2 =>
        rename_i a kvs b lvs
        cases (show v = Value.ref a from rx); cases (show u = Value.ref b from ry)
        obtain ⟨_, ya, va, ra, da⟩ := dk_rd I.hok (sb.rd h1)
        obtain ⟨_, yb, vb, rb, db⟩ := dk_rd I.hok (sb.rd h2)
        have nb : (vb.map (·.1)).Nodup := by obtain ⟨_, _, _, _, _, _, _, _, nb⟩ := id db; exact nb
        have ek : va.map (·.1) = vb.map (·.1) := by
          rw [← KV.keys ra, ← KV.keys rb]
          exact k1.trans k2.symm
        have el : va.length = vb.length := by simpa using congrArg List.length ek
        have ea : (va.all fun p => (valueAt vb p.1).isSome && true) = true := all_true fun p hp => by
          rw [Bool.and_true, valueAt_isSome, ← ek]
          exact List.mem_map_of_mem hp
        refine PySem.W.eq_dictsT (knd := mixKind X.prog X.w) (n := 59) (e := fun _ => true) ya yb da db (fun k v y hm hv => ?_) (by omega) (by rw [ea, el]; simpa using fin)
        obtain ⟨i, x, g1, g2, g3⟩ := kv_get ra hm
        obtain ⟨j, x', g4, g5, g6⟩ := kv_get rb (valueAt_mem hv)
        have ij : i = j := by
          have e1 : (va.map (·.1))[i]? = some k := by rw [List.getElem?_map, g2]; rfl
          have e2 : (vb.map (·.1))[j]? = some k := by rw [List.getElem?_map, g5]; rfl
          rw [ek] at e1
          exact nodup_ixK nb e1 e2
        subst ij
        have e1 : (kvs.map Prod.snd)[i]? = some x := by rw [List.getElem?_map, g1]; rfl
        have e2 : (lvs.map Prod.snd)[i]? = some x' := by rw [List.getElem?_map, g4]; rfl
        exact eqs_at I sb 59 (ds.map Prod.snd) q1 q2 (by simpa [pd] using hp) i e1 e2 g3 g6
  | non =>
    cases r1; cases r2
    exact op_eqD hu pins s σ H .non .non v u Q I rx ry ⟨.none, .none, .non, .non, rfl, rfl, by simpa [PyData.eqv] using q⟩
  | bl b =>
    cases r1; cases r2
    exact op_eq pins s σ H (.bl b) (.bl b) v u Q I rx ry ⟨rfl, by simpa using q⟩
  | int b =>
    cases r1; cases r2
    exact op_eq pins s σ H (.int b) (.int b) v u Q I rx ry ⟨rfl, by simpa using q⟩
  | str b =>
    cases r1; cases r2
    exact op_eq pins s σ H (.str b) (.str b) v u Q I rx ry ⟨rfl, by simpa using q⟩
  | dit _ => simp [pd] at hp
  | cel _ => simp [pd] at hp
  | exc _ => simp [pd] at hp
  | wrt _ => simp [pd] at hp
  | scr _ => simp [pd] at hp
  | tpz _ => simp [pd] at hp
theorem zip_get {xs ys : List Value} {p : Value × Value} (h : p ∈ xs.zip ys) : ∃ (j : Nat) (h1 : j < xs.length) (h2 : j < ys.length), p = (xs[j], ys[j]) := by
  obtain ⟨j, hj, e⟩ := List.getElem_of_mem h
  rw [List.length_zip] at hj
  exact ⟨j, by omega, by omega, by rw [← e, List.getElem_zip]⟩
theorem op_sameN (hu : X.A.units + 64 < cLine) : OpR X (compareOp .NotEq) (rSame ⟨X.K, cl⟩ true) := by
  intro pins s σ H x y v u Q I rx ry h
  obtain ⟨S, A, d, sb, r1, r2, hp, ht, q⟩ := h
  have fin : EP X pins σ Q (.bool false) s := ⟨.bl false, H, I, rfl, q⟩
  obtain ⟨ds, rfl⟩ := ht rfl
  cases r1 with
  | tup h1 q1 =>
    cases r2 with
    | tup h2 q2 =>
      rename_i a vs b ws
      cases (show v = Value.ref a from rx); cases (show u = Value.ref b from ry)
      obtain ⟨us, g1, p1, _⟩ := I.tuple (xs := vs) (.inl (sb.rd h1))
      obtain ⟨ts, g2, p2, _⟩ := I.tuple (xs := ws) (.inl (sb.rd h2))
      refine ne_tuples (show s.heap.IsTuple a us.toArray from p1) (show s.heap.IsTuple b ts.toArray from p2) (by simp only [List.size_toArray]; rw [← g1.length, ← g2.length, q1.length, q2.length]) (by omega) (fun p hp2 => ?_) fin
      obtain ⟨j, j1, j2, rfl⟩ := zip_get hp2
      exact (eqs_same I sb 59 ds q1 q2 (by simpa [pd] using hp) g1 g2 j j1 j2).at X.A.in1 (by show X.A.units + 1 + 59 < cLine; omega)
def rEq2 (c : Ct) : R2 := fun x y H Q => rEqD c.K x y H Q ∨ rSame c false x y H Q
def rNe2 (c : Ct) : R2 := fun x y H Q => rNeD c.K x y H Q ∨ rSame c true x y H Q
theorem op_eq2 (hu : X.A.units + 64 < cLine) : OpR X (compareOp .Eq) (rEq2 ⟨X.K, cl⟩) := (op_eqD hu).or (op_same hu)
theorem op_ne2 (hu : X.A.units + 64 < cLine) : OpR X (compareOp .NotEq) (rNe2 ⟨X.K, cl⟩) := (op_neD hu).or (op_sameN hu)
theorem shows_rep {a : Addr} {x : Cell} {d : D} {o : HO} (h : CellAt c S A H a x) (hs : Shows x d) (ho : H a = some o) {S' : Hp} (i : Inc S S') (e : S' a = some o) : Rep c S' A (.ref a) d := by
  cases hs with
  | lst xs =>
    obtain ⟨vs, q1, q2⟩ := h
    rw [ho] at q1; cases q1
    exact .lst e (q2.mono i (List.prefix_refl _))
  | dic xs =>
    obtain ⟨vs, q1, hk, q2⟩ := h
    rw [ho] at q1; cases q1
    exact .dic e hk (q2.mono i (List.prefix_refl _))
  | dit xs =>
    obtain ⟨vs, q1, hk, q2⟩ := h
    rw [ho] at q1; cases q1
    exact .dit e hk (q2.mono i (List.prefix_refl _))
/-- what is owned may be looked at as stable -/
theorem both_stab {x y : V} {dx dy : D} (ft : Fits c S A G H) (rx : RepV c S A H x dx) (ry : RepV c S A H y dy) : ∃ S', Sub S' H ∧ Rep c S' A x dx ∧ Rep c S' A y dy := by
  have one : ∀ {S : Hp} {v : V} {d : D}, Fits c S A G H → RepV c S A H v d → ∃ S', Fits c S' A G H ∧ Rep c S' A v d ∧ Inc S S' ∧ ∀ {z : V} {e : D}, RepV c S A H z e → RepV c S' A H z e := by
    intro S v d ft r
    rcases r with r | ⟨a, w, rfl, h1, h2, h3, h4⟩
    · exact ⟨S, ft, r, fun _ _ z => z, fun z => z⟩
    · obtain ⟨o, ho⟩ := h3.some
      refine ⟨upd S a o, ft.stab h1 h2 ho, shows_rep h3 h4 ho (inc_upd h1) upd_same, inc_upd h1, fun {z e} rz => ?_⟩
      rcases rz with rz | ⟨b, w', rfl, g1, g2, g3, g4⟩
      · exact .inl (rz.mono (inc_upd h1) (List.prefix_refl _))
      · by_cases q : b = a
        · subst q
          exact .inl (shows_rep g3 g4 ho (inc_upd h1) upd_same)
        · exact .inr ⟨b, w', rfl, by rw [upd_ne q]; exact g1, g2, g3.mono (inc_upd h1) (List.prefix_refl _) rfl, g4⟩
  obtain ⟨S1, f1, r1, i1, k1⟩ := one ft rx
  obtain ⟨S2, f2, r2, i2, k2⟩ := one f1 (k1 ry)
  exact ⟨S2, f2.sub, r1.mono i2 (List.prefix_refl _), r2⟩
theorem opS_eq : OpS c (rEq2 c) oEq := fun S A G H x y dx dy Q E ft rx ry h => by
  unfold oEq oEqN at h
  split at h
  · rename_i hq
    simp only [Bool.and_eq_true] at hq
    refine .inl ⟨_, _, dpv_rep ft rx hq.1, dpv_rep ft ry hq.2, shaped_of hq.1 (by decide), shaped_of hq.2 (by decide), ?_⟩
    rw [eqv_toP 60 _ _ hq.1 hq.2]
    exact h.here ft (.bl _)
  · split at h
    · rename_i hq
      obtain ⟨rfl, hp, ht⟩ := hq
      obtain ⟨S', h1, h2, h3⟩ := both_stab ft rx ry
      exact .inr ⟨S', A, dx, h1, h2, h3, hp, ht, h.here ft (.bl _)⟩
    · exact h.elim
theorem opS_ne : OpS c (rNe2 c) oNe := fun S A G H x y dx dy Q E ft rx ry h => by
  unfold oNe oEqN at h
  split at h
  · rename_i hq
    simp only [Bool.and_eq_true] at hq
    refine .inl ⟨_, _, dpv_rep ft rx hq.1, dpv_rep ft ry hq.2, shaped_of hq.1 (by decide), shaped_of hq.2 (by decide), ?_⟩
    rw [eqv_toP 60 _ _ hq.1 hq.2]
    exact h.here ft (.bl _)
  · split at h
    · rename_i hq
      obtain ⟨rfl, hp, ht⟩ := hq
      obtain ⟨S', h1, h2, h3⟩ := both_stab ft rx ry
      exact .inr ⟨S', A, dx, h1, h2, h3, hp, ht, h.here ft (.bl _)⟩
    · exact h.elim
end
end Gh

set_option Elab.async false
set_option linter.all false
set_option maxRecDepth 100000
set_option maxHeartbeats 4000000
/-! The ghost layer 12: in, is, isinstance, built-in functions. -/
namespace Gh
open PySem L2
/-! ### semantics -/
def flatD : D → Bool
  | .non => true
  | .bl _ => true
  | .int _ => true
  | .str _ => true
  | _ => false
def oInN (neg : Bool) (x y : D) (G : GH) : R D := match view G y with
  | .lst ys => if pn 60 x && pnL 59 ys then .ok (.bl (if neg then !(ys.any fun z => eqB z x) else ys.any fun z => eqB z x)) G else .stuck
  | .tup ys => if flatD x && ys.all flatD then .ok (.bl (if neg then !(ys.any fun z => eqB z x) else ys.any fun z => eqB z x)) G else .stuck
  | .wrt zs => if flatD x then .ok (.bl (if neg then !(zs.any fun z => eqB (.str z) x) else zs.any fun z => eqB (.str z) x)) G else .stuck
  | .str z => (match x with
    | .str w => if w.cps.size = 1 then .ok (.bl (if neg then !decide (w.cps.getD 0 0 ∈ z.cps.toList) else decide (w.cps.getD 0 0 ∈ z.cps.toList))) G else .stuck
    | _ => .stuck)
  | _ => (match dGet G y x with
    | some o => .ok (.bl (if neg then !o.isSome else o.isSome)) G
    | none => .stuck)
def oIn := oInN false
def oNotIn := oInN true
def isNon : D → Bool
  | .non => true
  | _ => false
def oIsN (neg : Bool) (x y : D) (G : GH) : R D := match y with
  | .non => .ok (.bl (if neg then !isNon x else isNon x)) G
  | .bl b => (match x with
    | .bl a => .ok (.bl (if neg then !(a == b) else a == b)) G
    | _ => .stuck)
  | _ => .stuck
def oIs := oIsN false
def oIsNot := oIsN true
/-- a plain thing's type -/
def tyD (G : GH) (d : D) : Option String := match view G d with
  | .non => some "NoneType"
  | .bl _ => some "bool"
  | .int _ => some "int"
  | .str _ => some "str"
  | .lst _ => some "list"
  | .tup _ => some "tuple"
  | .dic _ => some "dict"
  | _ => none
def subT (a b : String) : Bool := a == b || (a == "bool" && b == "int")
def oIsi (T : String) (d : D) (G : GH) : R D := match tyD G d with
  | some a => .ok (.bl (subT a T)) G
  | none => .stuck
def oLen (d : D) (G : GH) : R D := match view G d with
  | .lst xs => .ok (.int xs.length) G
  | .tup xs => .ok (.int xs.length) G
  | .scr xs => .ok (.int xs.length) G
  | .str x => if x.length ≤ LIM then .ok (.int x.length) G else .stuck
  | .dic xs => .ok (.int xs.length) G
  | _ => .stuck
def oAbs (d : D) (G : GH) : R D := match d with
  | .int i => .ok (.int (if i < 0 then -i else i)) G
  | _ => .stuck
def oMin2 (x y : D) (G : GH) : R D := match x, y with
  | .int i, .int j => .ok (.int (if j < i then j else i)) G
  | _, _ => .stuck
def oMax2 (x y : D) (G : GH) : R D := match x, y with
  | .int i, .int j => .ok (.int (if j > i then j else i)) G
  | _, _ => .stuck
def intsOf : List D → Option (List Int)
  | [] => some []
  | .int i :: r => (intsOf r).map (i :: ·)
  | _ => none
def blsOf : List D → Option (List Bool)
  | [] => some []
  | .bl i :: r => (blsOf r).map (i :: ·)
  | _ => none
def strsOf : List D → Option (List Str)
  | [] => some []
  | .str i :: r => (strsOf r).map (i :: ·)
  | _ => none
def oSum (d : D) (G : GH) : R D := match view G d with
  | .lst xs => ofO ((intsOf xs).map fun ns => .int ns.sum) G
  | _ => .stuck
def oAll (d : D) (G : GH) : R D := match view G d with
  | .lst xs => ofO ((blsOf xs).map fun bs => .bl (bs.all id)) G
  | _ => .stuck
def minL : Int → List Int → Int
  | i, [] => i
  | i, j :: r => minL (if j < i then j else i) r
def maxL : Int → List Int → Int
  | i, [] => i
  | i, j :: r => maxL (if i < j then j else i) r
def oMinL (d : D) (G : GH) : R D := match view G d with
  | .lst xs => (match intsOf xs with
    | some (i :: r) => .ok (.int (minL i r)) G
    | _ => .stuck)
  | _ => .stuck
def oMaxL (d : D) (G : GH) : R D := match view G d with
  | .lst xs => (match intsOf xs with
    | some (i :: r) => .ok (.int (maxL i r)) G
    | _ => .stuck)
  | _ => .stuck
def oToInt (d : D) (G : GH) : R D := match d with
  | .int i => .ok (.int i) G
  | .bl b => .ok (.int (if b then 1 else 0)) G
  | _ => .stuck
/-- list(xs), tuple(xs) -/
def fList (f : EF) : FF := fun ρ G => (f ρ G).bind fun d G1 => match view G1 d with
  | .lst xs => .ok (.lst xs) G1
  | .tup xs => .ok (.lst xs) G1
  | _ => .stuck
def oTuple (d : D) (G : GH) : R D := match view G d with
  | .lst xs => .ok (.tup xs) G
  | .tup xs => .ok (.tup xs) G
  | _ => .stuck

section
variable {c : Ct} {W : WX} {S S' : Hp} {A A' : List Addr} {H H' : Hp} {σ σ' : L2.St} {ρ ρ' : En} {G : GH} {X : Cx} {cl : Str → Addr}
/-! ### in -/
theorem flat_rep {v : V} {d : D} (r : RepV c S A H v d) (h : flatD d = true) : flatV v = true ∧ Rep c S A v d := by
  rcases r with r | ⟨a, x, rfl, h1, h2, h3, h4⟩
  · cases r <;> first | exact ⟨rfl, by constructor⟩ | cases h
  · cases h4 <;> cases h
theorem eqV_rep {x y : V} {dx dy : D} (r1 : Rep c S A x dx) (r2 : Rep c S A y dy) (h1 : flatD dx = true) (h2 : flatD dy = true) : eqV x y = eqB dx dy := by
  cases r1 <;> first | cases h1 | skip
  all_goals (cases r2 <;> first | cases h2 | skip)
  all_goals simp [eqV, eqB]
theorem flat_reps : ∀ {vs : List V} {ds : List D}, Reps c S A vs ds → ds.all flatD = true → vs.all flatV = true
  | _, _, .nil, _ => rfl
  | _, _, .cons h r, q => by
    simp only [List.all_cons, Bool.and_eq_true] at q ⊢
    exact ⟨(flat_rep (H := fun _ => none) (.inl h) q.1).1, flat_reps r q.2⟩
theorem inV_reps {x : V} {d : D} (hx : Rep c S A x d) (fx : flatD d = true) : ∀ {vs : List V} {ds : List D}, Reps c S A vs ds → ds.all flatD = true → inV x vs = ds.any fun z => eqB z d
  | _, _, .nil, _ => rfl
  | _, _, .cons h r, q => by
    simp only [List.all_cons, Bool.and_eq_true] at q
    have := inV_reps hx fx r q.2
    unfold inV at this ⊢
    simp only [List.any_cons]
    rw [this, eqV_rep h hx q.1 fx]
def rInU (c : Ct) (neg : Bool) (rD : R2) (rSign : R2) : R2 := fun x y H Q => (rD x y H Q ∨ rIn c.K neg x y H Q) ∨ (rSign x y H Q ∨ rInDk neg x y H Q)
def rSg (neg : Bool) : R2 := fun x y H Q => ∃ (n : Nat) (z : Str), x = .str ⟨#[n]⟩ ∧ y = .str z ∧ Q (.bl (if neg then !decide (n ∈ z.cps.toList) else decide (n ∈ z.cps.toList))) H
theorem op_inU (hu : X.A.units + 65 < cLine) : OpR X (compareOp .In) (rInU ⟨X.K, cl⟩ false (rInD X.K) (rSg false)) := ((op_inD hu).or op_in_seq).or (OpR.or op_in_sign (op_inDk (by omega)))
theorem op_notInU (hu : X.A.units + 65 < cLine) : OpR X (compareOp .NotIn) (rInU ⟨X.K, cl⟩ true (rNotInD X.K) (rSg true)) := ((op_notInD hu).or op_notIn_seq).or (OpR.or op_notIn_sign (op_notInDk (by omega)))
theorem toPs_any (n : Nat) (x : D) (hx : pn n x = true) : ∀ ys : List D, pnL n ys = true → ((toPs ys).any fun z => PyData.eqv z (toP x)) = ys.any fun z => eqB z x
  | [], _ => by simp [toPs]
  | y :: ys, h => by
    simp only [pnL, Bool.and_eq_true] at h
    simp only [toPs, List.any_cons]
    rw [toPs_any n x hx ys h.2, eqv_toP n y x h.1 hx]
theorem pn_mono : ∀ {n m : Nat} {d : D}, n ≤ m → pn n d = true → pn m d = true := by
  have key : ∀ n : Nat, (∀ d : D, ∀ m, n ≤ m → pn n d = true → pn m d = true) := by
    intro n
    induction n with
    | zero =>
      intro d m _ h
      cases d <;> cases m <;> simp_all [pn]
    | succ n ih =>
      have ihL : ∀ (xs : List D) (m : Nat), n ≤ m → pnL n xs = true → pnL m xs = true := by
        intro xs
        induction xs with
        | nil => intro m _ _; simp [pnL]
        | cons x xs ihx =>
          intro m hm h
          simp only [pnL, Bool.and_eq_true] at h ⊢
          exact ⟨ih x m hm h.1, ihx m hm h.2⟩
      intro d m hm h
      cases m with
      | zero => omega
      | succ m =>
        cases d with
        | lst xs => simp only [pn] at h ⊢; exact ihL xs m (by omega) h
        | tup xs => simp only [pn] at h ⊢; exact ihL xs m (by omega) h
        | _ => simp_all [pn]
  exact fun {n m d} h => key n d m h
theorem size1 {w : Str} (h : w.cps.size = 1) : w = ⟨#[w.cps.getD 0 0]⟩ := by
  obtain ⟨⟨l⟩⟩ := w
  cases l with
  | nil => simp at h
  | cons a r =>
    cases r with
    | nil => rfl
    | cons _ _ => simp at h
theorem opS_inU {neg : Bool} {rD : R2} (hD : ∀ (x y : V) (H : Hp) (Q : VK) (d : PyData) (ds : List PyData), Dp c.K H x d → Dp c.K H y (.list ds) → SeqAt.shaped d = true → SeqAt.shaped (.list ds) = true → Q (.bl (if neg then !(ds.any fun z => PyData.eqv z d) else ds.any fun z => PyData.eqv z d)) H → rD x y H Q) :
    OpS c (rInU c neg rD (rSg neg)) (oInN neg) := fun S A G H x y dx dy Q E ft rx ry h => by
  unfold oInN at h
  split at h
  · rename_i ys q
    split at h
    · rename_i hp
      simp only [Bool.and_eq_true] at hp
      have hl : pn 60 (view G dy) = true := by rw [q]; simpa [pn] using hp.2
      have r2 := dpv_rep ft ry hl
      rw [q] at r2 hl
      have vx : view G dx = dx := by cases dx <;> simp_all [pn, view]
      have r1 := dpv_rep (n := 60) ft rx (by rw [vx]; exact hp.1)
      rw [vx] at r1
      simp only [toP] at r2
      refine .inl (.inl (hD x y H Q _ _ r1 r2 (shaped_of hp.1 (by decide)) (by have := shaped_of hl (by decide); simpa [toP] using this) ?_))
      rw [toPs_any 60 dx hp.1 ys (by
        have : pn 61 (.lst ys) = true := pn_mono (by decide) hl
        simpa [pn] using this)]
      exact h.here ft (.bl _)
    · exact h.elim
  · rename_i ys q
    split at h
    · rename_i hp
      simp only [Bool.and_eq_true] at hp
      obtain ⟨f1, r1⟩ := flat_rep rx hp.1
      obtain ⟨a, vs, rfl, h2, h3⟩ := look_tup ft ry q
      refine .inl (.inr ⟨a, vs, rfl, .inr h2, f1, flat_reps h3 hp.2, ?_⟩)
      rw [inV_reps r1 hp.1 h3 hp.2]
      exact h.here ft (.bl _)
    · exact h.elim
  · rename_i zs q
    split at h
    · rename_i hp
      obtain ⟨f1, r1⟩ := flat_rep rx hp
      have := view_flat q (by intros; simp) (by intros; simp) (by intros; simp) (by intros; simp)
      subst this
      have ry' : Rep c S A y (.wrt zs) := ry.resolve_right fun ⟨_, _, _, _, _, _, z⟩ => by cases z
      cases ry' with
      | wrt hw =>
        have fl : ∀ l : List Str, (l.map V.str).all flatV = true := fun l => by simp [flatV]
        refine .inl (.inr ⟨_, _, rfl, .inr (sqT_none hw), f1, fl zs, ?_⟩)
        have e : inV x (zs.map V.str) = zs.any fun z => eqB (.str z) dx := by
          have := inV_reps (c := c) (S := S) (A := A) r1 hp (Reps.strs zs) (by simp [flatD])
          rw [this, List.any_map]
          rfl
        rw [e]
        exact h.here ft (.bl _)
    · exact h.elim
  · rename_i z q
    split at h
    · split at h
      · rename_i w hw
        have e1 : x = .str w := view_str (G := []) rx rfl
        rw [e1, view_str ry q]
        refine .inr (.inl ⟨w.cps.getD 0 0, z, by rw [← size1 hw], rfl, h.here ft (.bl _)⟩)
      · exact h.elim
    · exact h.elim
  · split at h
    · rename_i o ho
      obtain ⟨a, z, rfl, g, hz, _⟩ := dget_rep ft ry rx ho
      refine .inr (.inr ⟨a, z, rfl, g, ?_⟩)
      rw [hz]
      exact h.here ft (.bl _)
    · exact h.elim
theorem opS_in : OpS c (rInU c false (rInD c.K) (rSg false)) oIn := opS_inU fun x y H Q d ds h1 h2 h3 h4 q => ⟨d, ds, h1, h2, h3, h4, q⟩
theorem opS_notIn : OpS c (rInU c true (rNotInD c.K) (rSg true)) oNotIn := opS_inU fun x y H Q d ds h1 h2 h3 h4 q => ⟨d, ds, h1, h2, h3, h4, q⟩

/-! ### is -/
def rIsU (neg : Bool) (rN rB : R2) : R2 := fun x y H Q => rN x y H Q ∨ rB x y H Q
theorem op_isU : OpR X (compareOp .Is) (rIsU false (fun x y H Q => y = .non ∧ Q (.bl (decide (x = .non))) H) rIsB) := op_isN.or op_isBl
theorem op_isNotU : OpR X (compareOp .IsNot) (rIsU true (fun x y H Q => y = .non ∧ Q (.bl (!decide (x = .non))) H) rNotB) := op_notN.or op_notBl
theorem non_rep {v : V} {d : D} (r : RepV c S A H v d) : decide (v = .non) = isNon d := by
  rcases r with r | ⟨a, x, rfl, h1, h2, h3, h4⟩
  · cases r <;> simp [isNon]
  · cases h4 <;> simp [isNon]
theorem opS_isU {neg : Bool} {rN rB : R2} (hN : ∀ (x : V) (H : Hp) (Q : VK), Q (.bl (if neg then !decide (x = .non) else decide (x = .non))) H → rN x .non H Q) (hB : ∀ (a b : Bool) (H : Hp) (Q : VK), Q (.bl (if neg then !decide (a = b) else decide (a = b))) H → rB (.bl a) (.bl b) H Q) : OpS c (rIsU neg rN rB) (oIsN neg) := fun S A G H x y dx dy Q E ft rx ry h => by
  unfold oIsN at h
  split at h
  · have ey : y = .non := view_non (G := []) ry rfl
    rw [ey]
    refine .inl (hN x H Q ?_)
    rw [non_rep rx]
    exact h.here ft (.bl _)
  · have ey := view_bl (G := []) ry rfl
    split at h
    · have ex := view_bl (G := []) rx rfl
      rw [ey, ex]
      refine .inr (hB _ _ H Q ?_)
      rename_i b _ a
      have e : decide (a = b) = (a == b) := by cases a <;> cases b <;> rfl
      rw [e]
      exact h.here ft (.bl _)
    · exact h.elim
  · exact h.elim
theorem opS_is : OpS c (rIsU false (fun x y H Q => y = .non ∧ Q (.bl (decide (x = .non))) H) rIsB) oIs := opS_isU (fun x H Q q => ⟨rfl, q⟩) fun a b H Q q => ⟨a, b, rfl, rfl, q⟩
theorem opS_isNot : OpS c (rIsU true (fun x y H Q => y = .non ∧ Q (.bl (!decide (x = .non))) H) rNotB) oIsNot := opS_isU (fun x H Q q => ⟨rfl, q⟩) fun a b H Q q => ⟨a, b, rfl, rfl, q⟩

/-! ### built-in functions of one and of two arguments -/
def UnS (c : Ct) (r : List V → Hp → VK → Prop) (o : D → GH → R D) : Prop :=
  ∀ (S : Hp) (A : List Addr) (G : GH) (H : Hp) (x : V) (d : D) (Q : VK) (E : Str → Hp → Prop), Fits c S A G H → RepV c S A H x d → OkG c (rV c) S A H (o d G) Q E → r [x] H Q
theorem one_of {r : List V → Hp → VK → Prop} {o : D → GH → R D} {f : EF} {Q : VK} (hs : UnS c r o) (h : TX c W (mUn o f) σ H Q) : tCB r (tCons (TXO c W f) tNil) σ H Q := by
  obtain ⟨ρ, S, A, G, e, ft, h⟩ := h
  exact (go f e ft h).imp fun x H1 ⟨S1, A1, G1, d, x1, e1, f1, r1, h1⟩ => hs S1 A1 G1 H1 x d Q _ f1 r1 h1
theorem gB1 {id : String} {x : Str} {r : List V → Hp → VK → Prop} {o : D → GH → R D} {e : Expr} {f : EF} {p pos : Pos} (hc : CallR X (.builtin id) r) (hs : UnS ⟨X.K, cl⟩ r o) (hm : X.mg x = none) (hv : bootBuiltins x = some (.builtin id)) (ha : PE X e (TXO ⟨X.K, cl⟩ W f)) (hg : Gl X x := by rfl)
    (hn : x ≠ "__name__" := by decide) (hdb : (x == ("__debug__" : Str)) = false := by decide) (h1 : starEach [e] X.env = (false, eval e X.env) :: starEach [] X.env := by rfl) (h2 : (backTo pos (starEach [] X.env)).any (·.1) = false := by rfl) : PE X (.Call (.Name x p) [e] [] pos) (TX ⟨X.K, cl⟩ W (mUn o f)) :=
  (pe_callB hc hg hm hv (pa_cons ha pa_nil h1) hn hdb h1 h2).imp fun _ _ _ h => one_of hs h
theorem gT1 {T : String} {x : Str} {r : List V → Hp → VK → Prop} {o : D → GH → R D} {e : Expr} {f : EF} {p pos : Pos} (hc : CallR X (.type T) r) (hs : UnS ⟨X.K, cl⟩ r o) (hm : X.mg x = none) (hv : bootBuiltins x = some (.type T)) (ha : PE X e (TXO ⟨X.K, cl⟩ W f)) (hg : Gl X x := by rfl)
    (hn : x ≠ "__name__" := by decide) (hdb : (x == ("__debug__" : Str)) = false := by decide) (h1 : starEach [e] X.env = (false, eval e X.env) :: starEach [] X.env := by rfl) (h2 : (backTo pos (starEach [] X.env)).any (·.1) = false := by rfl) : PE X (.Call (.Name x p) [e] [] pos) (TX ⟨X.K, cl⟩ W (mUn o f)) :=
  (pe_callTy hc hg hm hv (pa_cons ha pa_nil h1) hn hdb h1 h2).imp fun _ _ _ h => one_of hs h
def BiS (c : Ct) (r : List V → Hp → VK → Prop) (o : D → D → GH → R D) : Prop :=
  ∀ (S : Hp) (A : List Addr) (G : GH) (H : Hp) (x y : V) (dx dy : D) (Q : VK) (E : Str → Hp → Prop), Fits c S A G H → RepV c S A H x dx → RepV c S A H y dy → OkG c (rV c) S A H (o dx dy G) Q E → r [x, y] H Q
theorem gB2 {id : String} {x : Str} {r : List V → Hp → VK → Prop} {o : D → D → GH → R D} {e e' : Expr} {f f' : EF} {p pos : Pos} (hc : CallR X (.builtin id) r) (hs : BiS ⟨X.K, cl⟩ r o) (hm : X.mg x = none) (hv : bootBuiltins x = some (.builtin id)) (ha : PE X e (TXO ⟨X.K, cl⟩ W f)) (hb : PE X e' (TXO ⟨X.K, cl⟩ W f')) (hg : Gl X x := by rfl)
    (hn : x ≠ "__name__" := by decide) (hdb : (x == ("__debug__" : Str)) = false := by decide) (h1 : starEach [e, e'] X.env = (false, eval e X.env) :: starEach [e'] X.env := by rfl) (h1' : starEach [e'] X.env = (false, eval e' X.env) :: starEach [] X.env := by rfl) (h2 : (backTo pos (starEach [e'] X.env)).any (·.1) = false := by rfl) : PE X (.Call (.Name x p) [e, e'] [] pos) (TX ⟨X.K, cl⟩ W (mOp o f f')) :=
  (pe_callB hc hg hm hv (pa_cons ha (pa_cons hb pa_nil h1') h1) hn hdb h1 h2).imp fun σ H Q ⟨ρ, S, A, G, e, ft, h⟩ => (go f e ft h).imp fun v H1 ⟨S1, A1, G1, d, x1, e1, f1, r1, h1⟩ => (go f' e1 f1 h1).imp fun v' H2 ⟨S2, A2, G2, d2, x2, e2, f2, r2, h2⟩ => hs S2 A2 G2 H2 v v' d d2 Q _ f2 (RepV.mono x2 r1) r2 h2
/-! ### isinstance -/
theorem ty_rep {v : V} {d : D} {a : String} (ft : Fits c S A G H) (r : RepV c S A H v d) (h : tyD G d = some a) : TyX c.K H v (.type a) := by
  unfold tyD at h
  split at h
  · rename_i q; cases h; rw [view_non r q]; exact .base .non
  · rename_i q; cases h; rw [view_bl r q]; exact .base (.bl _)
  · rename_i q; cases h; rw [view_int r q]; exact .base (.int _)
  · rename_i q; cases h; rw [view_str r q]; exact .base (.str _)
  · rename_i q; cases h
    obtain ⟨a, vs, rfl, h2, h3⟩ := look_lst ft r q
    exact .base (.lst h2)
  · rename_i q; cases h
    have e1 := view_flat q (by intros; simp) (by intros; simp) (by intros; simp) (by intros; simp)
    subst e1
    have r' : Rep c S A v _ := r.resolve_right fun ⟨_, _, _, _, _, _, z⟩ => by cases z
    cases r' with
    | tup h1 h2 => exact .base (.tup (ft.sub.at h1))
  · rename_i q; cases h
    obtain ⟨a, vs, rfl, h2, h3⟩ := look_dic ft r q
    rcases h2 with h2 | ⟨o, h2⟩
    · exact .base (.dK h2)
    · exact .fDict h2
  · cases h
def tyNames : List String := ["NoneType", "bool", "int", "str", "list", "tuple", "dict"]
theorem tyD_mem {d : D} {a : String} (h : tyD G d = some a) : a ∈ tyNames := by
  unfold tyD at h
  split at h <;> first | (cases h; decide) | cases h
theorem gIsi {T : String} {e : Expr} {t : Str} {f : EF} {p p2 pos : Pos} (hT : ∀ a ∈ tyNames, kitB a T = some (subT a T)) (hm : X.mg "isinstance" = none) (hm2 : X.mg t = none) (hv2 : bootBuiltins t = some (.type T)) (ha : PE X e (TXO ⟨X.K, cl⟩ W f)) (hg : Gl X "isinstance" := by rfl) (hg2 : Gl X t := by rfl)
    (hn2 : t ≠ "__name__" := by decide) (hd2 : (t == ("__debug__" : Str)) = false := by decide) (h1 : starEach [e, .Name t p2] X.env = (false, eval e X.env) :: starEach [.Name t p2] X.env := by rfl) (h1' : starEach [.Name t p2] X.env = (false, eval (.Name t p2) X.env) :: starEach [] X.env := by rfl) (h2 : (backTo pos (starEach [.Name t p2] X.env)).any (·.1) = false := by rfl) :
    PE X (.Call (.Name "isinstance" p) [e, .Name t p2] [] pos) (TX ⟨X.K, cl⟩ W (mUn (oIsi T) f)) :=
  (pe_callB call_isi hg hm (by decide +kernel) (pa_cons ha (pa_cons (pe_bltn (v := .ty T) hg2 hm2 hv2 rfl hn2 hd2) pa_nil h1') h1) (by decide) (by decide) h1 h2).imp fun σ H Q ⟨ρ, S, A, G, e, ft, h⟩ => (go f e ft h).imp fun v H1 ⟨S1, A1, G1, d, x1, e1, f1, r1, h1⟩ => by
    unfold oIsi at h1
    split at h1
    · rename_i a ha
      exact ⟨v, .ty T, .type a, .type T, subT a T, rfl, .ty T, ty_rep f1 r1 ha, kit_ty (hT a (tyD_mem ha)), h1.here f1 (.bl _)⟩
    · exact h1.elim
theorem isi_int : ∀ a ∈ tyNames, kitB a "int" = some (subT a "int") := by decide +kernel
theorem isi_bool : ∀ a ∈ tyNames, kitB a "bool" = some (subT a "bool") := by decide +kernel
theorem isi_str : ∀ a ∈ tyNames, kitB a "str" = some (subT a "str") := by decide +kernel
theorem isi_tuple : ∀ a ∈ tyNames, kitB a "tuple" = some (subT a "tuple") := by decide +kernel
theorem isi_list : ∀ a ∈ tyNames, kitB a "list" = some (subT a "list") := by decide +kernel
theorem isi_dict : ∀ a ∈ tyNames, kitB a "dict" = some (subT a "dict") := by decide +kernel
/-! ### len, abs, min, max, sum, all, int -/
def rLenU (K : PySem.W.Frag) : List V → Hp → VK → Prop := fun xs H Q => (∃ x n, xs = [x] ∧ LenV K x H n ∧ Q (.int n) H) ∨ ∃ a kvs, xs = [.ref a] ∧ Rd H a (.dK kvs) ∧ Q (.int kvs.length) H
theorem call_lenU : CallR X (.builtin "len") (rLenU X.K) := by
  intro pins s σ H xs us Q I r h
  rcases h with h | ⟨a, kvs, rfl, ha, q⟩
  · exact call_len pins s σ H xs us Q I r h
  · obtain ⟨u, rfl, ru⟩ := vals1 r
    cases (show u = Value.ref a from ru)
    exact d_len I ha fun t s' I' => ⟨.int kvs.length, H, I', ⟨t, rfl⟩, q⟩
theorem unS_len : UnS c (rLenU c.K) oLen := fun S A G H x d Q E ft r h => by
  unfold oLen at h
  split at h
  · rename_i q
    obtain ⟨a, vs, rfl, h2, h3⟩ := look_lst ft r q
    exact .inl ⟨_, vs.length, rfl, .inl ⟨vs, .inl (.inl h2), rfl⟩, by rw [h3.length]; exact h.here ft (.int _)⟩
  · rename_i q
    obtain ⟨a, vs, rfl, h2, h3⟩ := look_tup ft r q
    exact .inl ⟨_, vs.length, rfl, .inr ⟨vs, h2, rfl⟩, by rw [h3.length]; exact h.here ft (.int _)⟩
  · rename_i ns q
    obtain ⟨a, rfl, h2⟩ := look_scr ft r q
    exact .inl ⟨_, (ns.map V.int).length, rfl, .inl ⟨_, h2, rfl⟩, by rw [List.length_map]; exact h.here ft (.int _)⟩
  · rename_i q
    split at h
    · rename_i hl
      rw [view_str r q]
      exact .inl ⟨_, _, rfl, ⟨lim_le hl, rfl⟩, h.here ft (.int _)⟩
    · exact h.elim
  · rename_i xs q
    obtain ⟨a, kvs, rfl, h2, h3, h4⟩ := look_dic ft r q
    have el : kvs.length = xs.length := by simpa using congrArg List.length h3
    exact .inr ⟨a, kvs, rfl, h2, by rw [el]; exact h.here ft (.int _)⟩
  · exact h.elim
theorem unS_abs : UnS c (fun xs H Q => ∃ i, xs = [.int i] ∧ Q (.int (if i < 0 then -i else i)) H) oAbs := fun S A G H x d Q E ft r h => by
  unfold oAbs at h
  split at h
  · rw [view_int (G := []) r rfl]; exact ⟨_, rfl, h.here ft (.int _)⟩
  · exact h.elim
theorem biS_min : BiS c (fun xs H Q => ∃ i j, xs = [.int i, .int j] ∧ Q (.int (if j < i then j else i)) H) oMin2 := fun S A G H x y dx dy Q E ft rx ry h => by
  unfold oMin2 at h
  split at h
  · rw [view_int (G := []) rx rfl, view_int (G := []) ry rfl]; exact ⟨_, _, rfl, h.here ft (.int _)⟩
  · exact h.elim
theorem biS_max : BiS c (fun xs H Q => ∃ i j, xs = [.int i, .int j] ∧ Q (.int (if j > i then j else i)) H) oMax2 := fun S A G H x y dx dy Q E ft rx ry h => by
  unfold oMax2 at h
  split at h
  · rw [view_int (G := []) rx rfl, view_int (G := []) ry rfl]; exact ⟨_, _, rfl, h.here ft (.int _)⟩
  · exact h.elim
theorem ints_rep : ∀ {vs : List V} {ds : List D} {ns : List Int}, Reps c S A vs ds → intsOf ds = some ns → vs = ns.map V.int
  | _, _, _, .nil, h => by cases h; rfl
  | _, _, ns, .cons r1 r2, h => by
    cases r1 with
    | int i =>
      simp only [intsOf] at h
      obtain ⟨ms, h1, rfl⟩ := Option.map_eq_some_iff.mp h
      rw [ints_rep r2 h1]; rfl
    | _ => simp [intsOf] at h
theorem bls_rep : ∀ {vs : List V} {ds : List D} {ns : List Bool}, Reps c S A vs ds → blsOf ds = some ns → vs = ns.map V.bl
  | _, _, _, .nil, h => by cases h; rfl
  | _, _, ns, .cons r1 r2, h => by
    cases r1 with
    | bl i =>
      simp only [blsOf] at h
      obtain ⟨ms, h1, rfl⟩ := Option.map_eq_some_iff.mp h
      rw [bls_rep r2 h1]; rfl
    | _ => simp [blsOf] at h
theorem strs_rep : ∀ {vs : List V} {ds : List D} {ns : List Str}, Reps c S A vs ds → strsOf ds = some ns → vs = ns.map V.str
  | _, _, _, .nil, h => by cases h; rfl
  | _, _, ns, .cons r1 r2, h => by
    cases r1 with
    | str i =>
      simp only [strsOf] at h
      obtain ⟨ms, h1, rfl⟩ := Option.map_eq_some_iff.mp h
      rw [strs_rep r2 h1]; rfl
    | _ => simp [strsOf] at h
theorem unS_sum : UnS c (rSum c.K) oSum := fun S A G H x d Q E ft r h => by
  unfold oSum at h
  split at h
  · rename_i q
    obtain ⟨a, vs, rfl, h2, h3⟩ := look_lst ft r q
    obtain ⟨d', hd, h⟩ := ofO_ok h
    obtain ⟨ns, hn, rfl⟩ := Option.map_eq_some_iff.mp hd
    have ev := ints_rep h3 hn
    subst ev
    exact ⟨a, ns, rfl, .inl (.inl h2), h.here ft (.int _)⟩
  · exact h.elim
theorem unS_all : UnS c (rAll c.K) oAll := fun S A G H x d Q E ft r h => by
  unfold oAll at h
  split at h
  · rename_i q
    obtain ⟨a, vs, rfl, h2, h3⟩ := look_lst ft r q
    obtain ⟨d', hd, h⟩ := ofO_ok h
    obtain ⟨ns, hn, rfl⟩ := Option.map_eq_some_iff.mp hd
    have ev := bls_rep h3 hn
    subst ev
    exact ⟨a, ns, rfl, .inl (.inl h2), h.here ft (.bl _)⟩
  · exact h.elim
theorem minL_spec : ∀ (r : List Int) (i : Int), minL i r ∈ i :: r ∧ ∀ y ∈ i :: r, minL i r ≤ y
  | [], i => ⟨by simp [minL], fun y h => by simp at h; subst h; simp [minL]⟩
  | j :: r, i => by
    obtain ⟨h1, h2⟩ := minL_spec r (if j < i then j else i)
    simp only [minL]
    refine ⟨?_, fun y hy => ?_⟩
    · rcases List.mem_cons.mp h1 with e | e
      · rw [e]; split <;> simp
      · exact List.mem_cons_of_mem _ (List.mem_cons_of_mem _ e)
    · have h0 := h2 (if j < i then j else i) List.mem_cons_self
      have hle : (if j < i then j else i) ≤ i ∧ (if j < i then j else i) ≤ j := by split <;> omega
      rcases List.mem_cons.mp hy with e | e
      · rw [e]; exact Int.le_trans h0 hle.1
      · rcases List.mem_cons.mp e with e | e
        · rw [e]; exact Int.le_trans h0 hle.2
        · exact h2 y (List.mem_cons_of_mem _ e)
theorem maxL_spec : ∀ (r : List Int) (i : Int), maxL i r ∈ i :: r ∧ ∀ y ∈ i :: r, y ≤ maxL i r
  | [], i => ⟨by simp [maxL], fun y h => by simp at h; subst h; simp [maxL]⟩
  | j :: r, i => by
    obtain ⟨h1, h2⟩ := maxL_spec r (if i < j then j else i)
    simp only [maxL]
    refine ⟨?_, fun y hy => ?_⟩
    · rcases List.mem_cons.mp h1 with e | e
      · rw [e]; split <;> simp
      · exact List.mem_cons_of_mem _ (List.mem_cons_of_mem _ e)
    · have h0 := h2 (if i < j then j else i) List.mem_cons_self
      have hle : i ≤ (if i < j then j else i) ∧ j ≤ (if i < j then j else i) := by split <;> omega
      rcases List.mem_cons.mp hy with e | e
      · rw [e]; exact Int.le_trans hle.1 h0
      · rcases List.mem_cons.mp e with e | e
        · rw [e]; exact Int.le_trans hle.2 h0
        · exact h2 y (List.mem_cons_of_mem _ e)
theorem unS_minL : UnS c (rMin c.K) oMinL := fun S A G H x d Q E ft r h => by
  unfold oMinL at h
  split at h
  · rename_i q
    obtain ⟨a, vs, rfl, h2, h3⟩ := look_lst ft r q
    split at h
    · rename_i i r hn
      have ev := ints_rep h3 hn
      subst ev
      refine ⟨a, i :: r, rfl, .inl (.inl h2), by simp, fun m h4 h5 => ?_⟩
      obtain ⟨g1, g2⟩ := minL_spec r i
      have e : m = minL i r := Int.le_antisymm (h5 _ g1) (g2 m h4)
      rw [e]
      exact h.here ft (.int _)
    · exact h.elim
  · exact h.elim
theorem unS_maxL : UnS c (rMax c.K) oMaxL := fun S A G H x d Q E ft r h => by
  unfold oMaxL at h
  split at h
  · rename_i q
    obtain ⟨a, vs, rfl, h2, h3⟩ := look_lst ft r q
    split at h
    · rename_i i r hn
      have ev := ints_rep h3 hn
      subst ev
      refine ⟨a, i :: r, rfl, .inl (.inl h2), by simp, fun m h4 h5 => ?_⟩
      obtain ⟨g1, g2⟩ := maxL_spec r i
      have e : m = maxL i r := Int.le_antisymm (g2 m h4) (h5 _ g1)
      rw [e]
      exact h.here ft (.int _)
    · exact h.elim
  · exact h.elim
theorem unS_toInt : UnS c (fun xs H Q => (∃ i, xs = [.int i] ∧ Q (.int i) H) ∨ ∃ k, xs = [.bl k] ∧ Q (.int (if k then 1 else 0)) H) oToInt := fun S A G H x d Q E ft r h => by
  unfold oToInt at h
  split at h
  · rw [view_int (G := []) r rfl]; exact .inl ⟨_, rfl, h.here ft (.int _)⟩
  · rw [view_bl (G := []) r rfl]; exact .inr ⟨_, rfl, h.here ft (.int _)⟩
  · exact h.elim
/-! ### list(..), tuple(..) -/
theorem gList {x : Str} {e : Expr} {f : EF} {p pos : Pos} (hm : X.mg x = none) (hv : bootBuiltins x = some (.type "list")) (ha : PE X e (TXO ⟨X.K, cl⟩ W f)) (hg : Gl X x := by rfl)
    (hn : x ≠ "__name__" := by decide) (hdb : (x == ("__debug__" : Str)) = false := by decide) (h1 : starEach [e] X.env = (false, eval e X.env) :: starEach [] X.env := by rfl) (h2 : (backTo pos (starEach [] X.env)).any (·.1) = false := by rfl) : PE X (.Call (.Name x p) [e] [] pos) (TXF ⟨X.K, cl⟩ W (fList f)) :=
  (pe_callTy call_list_of hg hm hv (pa_cons ha pa_nil h1) hn hdb h1 h2).imp fun σ H Q ⟨ρ, S, A, G, e, ft, h⟩ => (goF f e ft h).imp fun v H1 ⟨S1, A1, G1, d, x1, e1, f1, r1, h1⟩ => by
    split at h1
    · rename_i q
      obtain ⟨a, vs, rfl, h2, h3⟩ := look_lst f1 r1 q
      exact ⟨a, vs, rfl, .inl (.inl (.inl h2)), fun l hl => h1.new f1 hl ⟨vs, upd_same, h3⟩⟩
    · rename_i q
      obtain ⟨a, vs, rfl, h2, h3⟩ := look_tup f1 r1 q
      exact ⟨a, vs, rfl, .inr h2, fun l hl => h1.new f1 hl ⟨vs, upd_same, h3⟩⟩
    · exact h1.elim
theorem unS_tuple : UnS c (fun xs H Q => ∃ p ys, xs = [.ref p] ∧ ((SqL c.K H p ys ∧ ∀ l, H l = none → Q (.ref l) (upd H l (.tup ys))) ∨ (SqT c.K H p ys ∧ Q (.ref p) H))) oTuple := fun S A G H x d Q E ft r h => by
  unfold oTuple at h
  split at h
  · rename_i q
    obtain ⟨a, vs, rfl, h2, h3⟩ := look_lst ft r q
    exact ⟨a, vs, rfl, .inl ⟨.inl (.inl h2), fun l hl => h.new ft hl (.tup upd_same (h3.mono (inc_upd (ft.nonS hl)) (List.prefix_refl _)))⟩⟩
  · rename_i q
    have e1 := view_flat q (by intros; simp) (by intros; simp) (by intros; simp) (by intros; simp)
    obtain ⟨a, vs, rfl, h2, h3⟩ := look_tup ft r q
    subst e1
    have r' : Rep c S A _ _ := r.resolve_right fun ⟨_, _, _, _, _, _, z⟩ => by cases z
    exact ⟨a, vs, rfl, .inr ⟨h2, h.here ft r'⟩⟩
  · exact h.elim
end
end Gh

set_option Elab.async false
set_option linter.all false
set_option maxRecDepth 100000
set_option maxHeartbeats 4000000
/-! The ghost layer 13: dicts made and written, sorted, index. -/
namespace Gh
open PySem L2
/-! ### semantics -/
def oPut (x k v : D) (G : GH) : R Unit := match x with
  | .cel n => (match G[n]?, k with
    | some (.dic kvs), .tup _ => .stuck
    | some (.dic kvs), k => (match keyOf k with
      | some k => if kvs.length < LIM then .ok () (G.set n (.dic (putKD kvs k v))) else .stuck
      | none => .stuck)
    | some (.dit kvs), .tup ks => (match keysOf ks with
      | some k => if kvs.length < LIM then .ok () (G.set n (.dit (putKD kvs k v))) else .stuck
      | none => .stuck)
    | _, _ => .stuck)
  | _ => .stuck
/-- d[k] = v, d a cell -/
def sPut (fd fk fv : EF) : SF := fun ρ G => inS (fv ρ G) ρ fun v G1 => inS (fd ρ G1) ρ fun x G2 => inS (fk ρ G2) ρ fun k G3 => (oPut x k v G3).bind fun _ G4 => .ok (.nx ρ) G4
def putCell (x : Cell) (k v : D) : Option Cell := match x, k with
  | .dic kvs, .tup _ => none
  | .dic kvs, k => (match keyOf k with
    | some k => if kvs.length < LIM then some (.dic (putKD kvs k v)) else none
    | none => none)
  | .dit kvs, .tup ks => (match keysOf ks with
    | some k => if kvs.length < LIM then some (.dit (putKD kvs k v)) else none
    | none => none)
  | _, _ => none
/-- .. d owned by slot i -/
def sPutO (i : Nat) (fk fv : EF) : SF := fun ρ G => match ρ[i]? with
  | some (some (.own x)) => inS (fv ρ G) ρ fun v G1 => inS (fk ρ G1) ρ fun k G2 => (match putCell x k v with
    | some y => .ok (.nx (ρ.set i (some (.own y)))) G2
    | none => .stuck)
  | _ => .stuck
def fDnewK : FF := fun _ G => .ok (.dic []) G
def fDnewT : FF := fun _ G => .ok (.dit []) G
section
variable {κ : Type} [DecidableEq κ]
def mergeD (kvs more : List (κ × D)) : List (κ × D) := more.foldl (fun acc kv => putKD acc kv.1 kv.2) kvs
end
/-- the pairs of a display -/
def mPairs : List (EF × EF) → En → GH → R (List (Key × D))
  | [], _, G => .ok [] G
  | (fk, fv) :: r, ρ, G => (fk ρ G).bind fun k G1 => (fv ρ G1).bind fun v G2 => (mPairs r ρ G2).bind fun ps G3 => match keyOf k with
    | some k => .ok ((k, v) :: ps) G3
    | none => .stuck
def fDisp (l : List (EF × EF)) : FF := fun ρ G => (mPairs l ρ G).bind fun ps G1 => if ps.length ≤ 15 then .ok (.dic (mergeD [] ps)) G1 else .stuck
/-- items that are pairs -/
def pairsOf : List D → Option (List (Key × D))
  | [] => some []
  | .tup [k, v] :: r => (match keyOf k, pairsOf r with
    | some k, some ps => some ((k, v) :: ps)
    | _, _ => none)
  | _ => none
/-- dict(x) -/
def fDict (f : EF) : FF := fun ρ G => (f ρ G).bind fun d G1 => match view G1 d with
  | .dic kvs => .ok (.dic kvs) G1
  | .lst xs => (match pairsOf xs with
    | some ps => .ok (.dic (mergeD [] ps)) G1
    | none => .stuck)
  | .tpz xs => (match pairsOf xs with
    | some ps => .ok (.dic (mergeD [] ps)) G1
    | none => .stuck)
  | _ => .stuck

section
variable {c : Ct} {W : WX} {S S' : Hp} {A A' : List Addr} {H H' : Hp} {σ σ' : L2.St} {ρ ρ' : En} {G : GH} {X : Cx} {cl : Str → Addr}
/-! ### d[k] = v -/
theorem lim_lt' {n : Nat} (h : n < LIM) : n < sizeLine := lim_lt h
theorem map_len {α β γ : Type} {xs : List (α × β)} {ys : List (α × γ)} (h : xs.map Prod.fst = ys.map Prod.fst) : xs.length = ys.length := by simpa using congrArg List.length h
theorem gPut {o i value : Expr} {fd fk fv : EF} {pos pos' : Pos} (hu : X.A.units + 1 < cLine) (ho : PE X o (TX ⟨X.K, cl⟩ W fd)) (hi : PE X i (TX ⟨X.K, cl⟩ W fk)) (hv : PE X value (TX ⟨X.K, cl⟩ W fv)) (hs : swapsWith value (some (.Subscript o i pos')) pos.line X.env = pure false := by rfl) :
    PS X (.Assign [.Subscript o i pos'] value pos) (TXS ⟨X.K, cl⟩ W (sPut fd fk fv)) := (ps_dput hu ho hi hv hs).imp fun D σ H ⟨ρ, S, A, G, e, ft, h⟩ =>
  (goS fv e ft h).imp fun y H1 ⟨S1, A1, G1, dv, x1, e1, f1, r1, h1⟩ => (goS fd e1 f1 h1).imp fun v H2 ⟨S2, A2, G2, dx, x2, e2, f2, r2, h2⟩ => (goS fk e2 f2 h2).imp fun z H3 ⟨S3, A3, G3, dk, x3, e3, f3, r3, h3⟩ => by
    have rv := (Rep.mono x2.st x2.pre r1).mono x3.st x3.pre
    have rx := Rep.mono x3.st x3.pre r2
    unfold oPut at h3
    split at h3
    case h_2 => exact h3.elim
    case h_1 n =>
    cases rx with
    | cel ha =>
      split at h3
      · exact h3.elim
      · rename_i kds k hg hk'
        split at h3
        · rename_i kk hk
          split at h3
          · rename_i hl
            obtain ⟨kvs, q1, q2, q3⟩ := f3.live _ _ _ ha hg
            obtain rfl := key_rep (H := H3) (.inl r3) hk
            have hp := putK_rep (k := kk) q2 q3 rv
            refine ⟨_, _, rfl, DPut.k q1 (by rw [map_len q2]; exact lim_lt hl), ?_⟩
            exact h3 σ S3 A3 _ ((es_cell ha).ow _) (f3.setCell ha ⟨_, upd_same, hp.1, hp.2⟩) (e3.step (es_cell ha))
          · exact h3.elim
        · exact h3.elim
      · rename_i kds ks hg
        split at h3
        · rename_i kk hk
          split at h3
          · rename_i hl
            obtain ⟨kvs, q1, q2, q3⟩ := f3.live _ _ _ ha hg
            obtain ⟨b, rfl, hb⟩ := tup_at (G := G3) f3 (.inl r3) hk
            have hp := putK_rep (k := kk) q2 q3 rv
            refine ⟨_, _, rfl, DPut.t q1 hb (by rw [map_len q2]; exact lim_lt hl), ?_⟩
            exact h3 σ S3 A3 _ ((es_cell ha).ow _) (f3.setCell ha ⟨_, upd_same, hp.1, hp.2⟩) (e3.step (es_cell ha))
          · exact h3.elim
        · exact h3.elim
      · exact h3.elim
/-! ### new dicts -/
theorem gDnewK {pos : Pos} : PE X (.Dict [] [] pos) (TXF ⟨X.K, cl⟩ W fDnewK) := pe_dnewK.imp fun σ H Q ⟨ρ, S, A, G, e, ft, h⟩ p hp => OkF.new (x := .dic []) h ft hp ⟨[], upd_same, rfl, .nil⟩
theorem gDnewT {pos : Pos} : PE X (.Dict [] [] pos) (TXF ⟨X.K, cl⟩ W fDnewT) := pe_dnewT.imp fun σ H Q ⟨ρ, S, A, G, e, ft, h⟩ p hp => OkF.new (x := .dit []) h ft hp ⟨[], upd_same, rfl, .nil⟩
theorem merge_rep : ∀ {more : List (Key × V)} {mds : List (Key × D)} {kvs : List (Key × V)} {kds : List (Key × D)}, more.map Prod.fst = mds.map Prod.fst → Reps c S A (more.map Prod.snd) (mds.map Prod.snd) → kvs.map Prod.fst = kds.map Prod.fst → Reps c S A (kvs.map Prod.snd) (kds.map Prod.snd) →
    (mergeK kvs more).map Prod.fst = (mergeD kds mds).map Prod.fst ∧ Reps c S A ((mergeK kvs more).map Prod.snd) ((mergeD kds mds).map Prod.snd)
  | [], [], _, _, _, _, h3, h4 => ⟨h3, h4⟩
  | (k, v) :: r, (k', d) :: r', _, _, h1, h2, h3, h4 => by
    simp only [List.map_cons, List.cons.injEq] at h1
    obtain ⟨rfl, h1⟩ := h1
    cases h2 with
    | cons r1 r2 =>
      have hp := putK_rep (k := k) h3 h4 r1
      exact merge_rep (kvs := putK _ k v) (kds := putKD _ k d) h1 r2 hp.1 hp.2
  | [], _ :: _, _, _, h, _, _, _ => by simp at h
  | _ :: _, [], _, _, h, _, _, _ => by simp at h
/-- dict(x): a copy, or of pairs -/
theorem pairs_rep (ft : Fits c S A G H) : ∀ {vs : List V} {ds : List D} {ps : List (Key × D)}, Reps c S A vs ds → pairsOf ds = some ps → ∃ (as : List Addr) (kvs : List (Key × V)), vs = as.map V.ref ∧ Paired (fun p kv => SqT c.K H p [kV kv.1, kv.2]) as kvs ∧ kvs.map Prod.fst = ps.map Prod.fst ∧ Reps c S A (kvs.map Prod.snd) (ps.map Prod.snd) ∧ Paired (fun p kv => H p = some (.tup [kV kv.1, kv.2])) as kvs
  | _, _, _, .nil, h => by cases h; exact ⟨[], [], rfl, .nil, rfl, .nil, .nil⟩
  | _, _, ps, .cons (v := v) (d := d) r1 r2, h => by
    unfold pairsOf at h
    split at h
    · rename_i hh; cases hh
    · rename_i k x r hh
      cases hh
      split at h
      · rename_i kk ps' hk hp
        cases h
        obtain ⟨as, kvs, rfl, h2, h3, h4, h5⟩ := pairs_rep ft r2 hp
        cases r1 with
        | tup ha hr =>
          rename_i a vs
          cases hr with
          | cons q1 q2 =>
            cases q2 with
            | cons q2 q3 =>
              cases q3
              rename_i kv xv
              obtain rfl := key_rep (H := H) (.inl q1) hk
              exact ⟨a :: as, (kk, xv) :: kvs, rfl, .cons (ha.sq ft.sub) h2, by simp [h3], .cons q2 h4, .cons (ft.sub.at ha) h5⟩
      · cases h
    · cases h
end
end Gh

set_option Elab.async false
set_option linter.all false
set_option maxRecDepth 100000
set_option maxHeartbeats 4000000
/-! The ghost layer 14: dict(..), sorted(..), index, displays. -/
namespace Gh
section
open PySem PySem.Spec PyProof.Rows L2
theorem arr_eq {xs ys : List Value} {n m : Nat} {o : Obj} (h1 : o.data = .seq xs.toArray n) (h2 : o.data = .seq ys.toArray m) : xs = ys := by
  rw [h1] at h2
  cases h2
  rfl
/-- dict(t), t a plain tuple of pairs -/
theorem call_dictZ {X : Cx} (hcalm : X.calm = true) : CallR X (.type "dict") (fun xs H Q => ∃ (a : Addr) (o : Obj) (ps : List Addr) (kvs : List (Key × V)), xs = [.ref a] ∧ H a = some (.frz o (.tup (ps.map V.ref))) ∧ PlainT o ∧ Paired (fun p kv => SqT X.K H p [kV kv.1, kv.2]) ps kvs ∧
    ∀ p, H p = none → Q (.ref p) (upd H p (.dK (mergeK [] kvs)))) := by
  intro pins s σ H xs us Q I r q
  obtain ⟨a, o, ps, kvs, ex, ha, hpl, hp, q⟩ := q
  subst ex
  obtain ⟨u, eu, rx⟩ := vals1 r
  subst eu
  cases rx
  obtain ⟨hg, hz, its, rv, o', hg', hc', n, hd'⟩ := I.hok a _ ha
  rw [hg] at hg'
  cases hg'
  have ei := refs_at rv
  subst ei
  rw [List.length_map] at hz
  obtain ⟨prs, rel, hl, hpr⟩ := pairs_of I hp
  have key : ∀ (j : Nat) (q : Key × Value), prs[j]? = some q → ∃ u, IsTup s.heap (ps.getD j 0) #[u, q.2] ∧ keyIs q.1 u = true ∧ ps[j]? = some (ps.getD j 0) := fun j q' e => by
    obtain ⟨b, u, e1, e2, e3⟩ := hpr j q' e
    have eb : ps.getD j 0 = b := by rw [List.getD_eq_getElem?_getD, e1]; rfl
    exact ⟨u, by rw [eb]; exact e2, e3, by rw [eb]; exact e1⟩
  -- the keys' own values
  have hvals : ∃ kps : List (Value × Value), kps.length = prs.length ∧ ∀ (j : Nat) (q : Key × Value), prs[j]? = some q → ∃ u, kps[j]? = some (u, q.2) ∧ IsTup s.heap (ps.getD j 0) #[u, q.2] ∧ keyIs q.1 u = true ∧ ps[j]? = some (ps.getD j 0) := by
    refine ⟨(List.range prs.length).map fun j => if h : j < prs.length then (Classical.choose (key j prs[j] (List.getElem?_eq_getElem h)), (prs[j]).2) else (.none, .none), by simp, fun j q' e => ?_⟩
    obtain ⟨hj, ej⟩ := List.getElem?_eq_some_iff.mp e
    subst ej
    have sp := Classical.choose_spec (key j prs[j] (List.getElem?_eq_getElem hj))
    exact ⟨_, by simp [hj], sp.1, sp.2.1, sp.2.2⟩
  obtain ⟨kps, kl, kk⟩ := hvals
  have hitems : PySem.PairItems s.heap ((ps.map Value.ref).toArray) (fun j => ps.getD j 0) kps := by
    refine ⟨by simp [kl, hl], fun j k v e => ?_⟩
    obtain ⟨hj, _⟩ := List.getElem?_eq_some_iff.mp e
    have hj' : j < prs.length := by omega
    obtain ⟨u, e1, e2, e3, e4⟩ := kk j prs[j] (List.getElem?_eq_getElem hj')
    rw [e] at e1
    cases e1
    obtain ⟨ob, ho, hc, n, hd⟩ := e2
    exact ⟨by rw [List.getElem?_toArray, List.getElem?_map, e4]; rfl, .inl ⟨ob, ho, hc, n, hd⟩⟩
  refine PySem.call_dict_pairs (knd := mixKind X.prog X.w) (kvs := prs) (PySem.PairArg.tuple a ((ps.map Value.ref).toArray) (fun j => ps.getD j 0) kps) (I.ok.hd hcalm) ⟨⟨o, n, hg, hpl.1, hpl.2, hd'⟩, hitems⟩ ⟨kl.symm, fun i key v e => ?_⟩ (by rw [kl, hl]; exact hz) fun h' tk hd2 hk => ?_
  · obtain ⟨hj, _⟩ := List.getElem?_eq_some_iff.mp e
    have hj' : i < prs.length := by omega
    obtain ⟨u, e1, e2, e3, e4⟩ := kk i prs[i] (List.getElem?_eq_getElem hj')
    rw [show kps[i]? = some (key, v) from e] at e1
    cases e1
    exact ⟨prs[i].1, List.getElem?_eq_getElem hj', e3⟩
  · have hm : (s.heap.objs.size == sysModules) = false := beq_eq_false_iff_ne.mpr (Nat.ne_of_gt I.big)
    have hlen : (mergeK [] kvs).length ≤ sizeLine := by
      refine Nat.le_trans (length_mergeK kvs []) ?_
      rw [List.length_nil, Nat.zero_add, rel.length, hl]
      exact hz
    exact ⟨.ref s.heap.objs.size, upd H s.heap.objs.size (.dK (mergeK [] kvs)), I.laid (t' := tk) (fun b ob e => hk b ob (by simp) e) (Nat.le_refl _) (show ObjOk X.prog X.w _ _ _ (.dK (mergeK [] kvs)) from ⟨hlen, hm, merged [] prs, KV.merge rel .nil, hd2⟩), rfl, q _ (I.hok.fresh (Nat.le_refl _))⟩
end
end Gh

set_option Elab.async false
set_option linter.all false
set_option maxRecDepth 100000
set_option maxHeartbeats 4000000
/-! The ghost layer 15: tuple(d.items()), sorted(d.keys()). -/
namespace Gh
section
open PySem PySem.Spec PyProof.Rows L2
variable {X : Cx} {pins : List (Addr × Obj)} {σ : L2.St} {H : Hp} {s : Shared}
/-- the pairs that stand in the heap are tracked -/
theorem pairs_laid {h' : Heap} {tk : Nat} {kvs : List (Key × V)} {vs : List (Key × Value)} {as : List Addr} (I : Inv X pins σ H s) (kv : KV kvs vs) (hk : ∀ b o, s.heap.get? b = some o → h'.get? b = some o) (hl : as.length = vs.length) (hG : PySem.W.KdxG (mixKind X.prog X.w) vs s.heap.objs.size h' as) :
    ∃ H' : Hp, (∀ b o, H b = some o → H' b = some o) ∧ (∀ b, b ∉ as → H' b = H b) ∧ (∀ t ∈ as, H t = none ∧ s.heap.objs.size < t ∧ t < h'.objs.size) ∧ as.Nodup ∧ Paired (fun (t : Addr) (q : Key × V) => H' t = some (.tup [kV q.1, q.2])) as kvs ∧ Inv X pins σ H' { s with heap := h', toks := tk } := by
  have lk : kvs.length = vs.length := Paired.length kv
  have nd : as.Nodup := List.Pairwise.imp (fun {a b} (h : a < b) => Nat.ne_of_lt h) hG.rise
  have new : ∀ t ∈ as, H t = none := fun t ht => I.hok.fresh (Nat.le_of_lt (hG.above t ht))
  have atP := LiI.putT_at as kvs H (by omega) nd
  have off : ∀ b, b ∉ as → LiI.putT H as kvs b = H b := fun b h => LiI.putT_off as kvs H h
  have kp : ∀ b u, H b = some u → LiI.putT H as kvs b = some u := fun b u e => (off b fun z => by rw [new b z] at e; cases e).trans e
  refine ⟨LiI.putT H as kvs, kp, off, fun t ht => ⟨new t ht, hG.above t ht, hG.there ht⟩, nd, atP, ?_⟩
  refine I.call' (ch := []) rfl ⟨fun b o q _ _ _ => hk b o q, fun b o q _ _ _ => ⟨o.slots, hk b o q⟩, fun b o q n _ => ?_, fun b o q _ => ⟨o, hk b o q⟩, fun b xs q => kp b _ q, fun b o u q => kp b _ q, fun b ps q => ⟨#[], by rw [kp b _ q]; simp⟩⟩ (fun b u q => ?_) I.bare fun b z => by simp at z
  · rw [off b fun z => absurd (Heap.lt_size q) (Nat.not_lt.mpr (Nat.le_of_lt (hG.above b z)))]
    exact n
  · by_cases hb : b ∈ as
    · obtain ⟨j, pk, e1, e2, e3⟩ := LiI.paired_ix atP hb
      rw [e3] at q
      cases q
      obtain ⟨key, k, x, f1, f2, f3⟩ := hG.pairs j b e1
      obtain ⟨qv, g1, g2, g3⟩ := LiI.paired_get kv e2
      rw [f1] at g1
      cases g1
      have rk : RelV (kV pk.1) key := by
        rw [g2]
        exact relV_key (show keyIs k key = true from f2)
      exact ⟨by show 2 ≤ sizeLine; decide, [key, x], .cons rk (.cons g3 .nil), ⟨_, f3, rfl, _, rfl⟩⟩
    · rw [off b hb] at q
      exact (I.hok b u q).stay (fun d v _ y => hk d v y) (fun d y => kp d _ y) fun d xs y => kp d _ y
theorem call_tuple_items {A : Around} {E : Value → Shared → Prop} {K : Type} [DecidableEq K] {prog : Program} {w : World} {knd : KeyKind prog w K} {kvs : List (K × Value)} {r d : Addr} {ep : Nat} {Q : Value → Shared → Prop} (hh : A.handled = none) (hv : s.heap.IsItemsView r d) (hm : s.heap.DictAt knd d kvs ep) (hn : kvs.length ≤ sizeLine)
    (hQ : ∀ (h' : Heap) (tk : Nat) (as : List Addr), (∀ b o, s.heap.get? b = some o → h'.get? b = some o) → as.length = kvs.length → PySem.W.KdxG knd kvs s.heap.objs.size h' as → Q (.ref h'.objs.size) { s with heap := h'.push { cls := .type "tuple", data := .seq (as.map Value.ref).toArray }, toks := tk }) :
    wpAny (model prog w) A (call (.type "tuple") [.ref r]) Q E s := by
  refine callType_codes (Q₁ := fun obj s₁ => s₁.TypeIs obj "tuple" ∧ Q obj s₁) F.called_tuple (F.typeCall_tuple_1 _) F.entry_object_init ?_ fun obj s₁ h₁ =>
    ⟨h₁.1, F.args_object_init_2 obj _, object_init_meets F.called_tuple.init.lookup F.called_tuple.made (by decide) prog w A.in1 _ s₁ ⟨h₁.1, rfl, h₁.2⟩⟩
  refine codeAny_of_tree ?_
  refine wpAny_bind (wpAny_of_eq (F.newCall_tuple_1 _) (wpAny_pure ⟨plainId_quiet F.plain_tuple_new _, codeAny_builtin F.entry_tuple_new ?_⟩))
  rw [Around.under_plainId F.plain_tuple_new _]
  have hsub := sub_tuple_self
  have hinit := init_tuple_lookup
  have hmh := madeHere_tuple
  have hTI : s.TypeIs (.ref r) "dict_items" := let ⟨o, ho, hc, _⟩ := hv; ⟨o, ho, hc⟩
  wp_walk using wpAny_typeOf hTI, PySem.W.kdx_collect (A := A.in1.in1) (knd := knd) (kvs := kvs) (ep := ep) hh hv hm hn
  intro h' tk as hk hl hG
  show wpAny _ _ (Builtin.Tuple.tupleExact (as.map Value.ref).toArray >>= fun v => ret v) _ _ _
  unfold Builtin.Tuple.tupleExact
  refine wpAny_bind (wpAny_newObj_type ?_ (by show (as.map Value.ref).toArray.size ≤ sizeLine; simp; omega))
  exact wpAny_pure ⟨⟨_, Heap.get?_push_size _ rfl, rfl⟩, hQ h' tk as hk hl hG⟩
/-- tuple(e.items()): a plain tuple of new pairs -/
def rItemsZ : V → Hp → VK → Prop := fun x H Q => ∃ (d : Addr) (kvs : List (Key × V)), x = .ref d ∧ Rd H d (.dK kvs) ∧
  ∀ (H' : Hp) (p : Addr) (o : Obj) (ts : List Addr), (∀ b u, H b = some u → H' b = some u) → (∀ b, b ∉ ts → b ≠ p → H' b = H b) → H p = none → (∀ t ∈ ts, H t = none) → p ∉ ts → PlainT o → H' p = some (.frz o (.tup (ts.map V.ref))) → Paired (fun (t : Addr) (q : Key × V) => H' t = some (.tup [kV q.1, q.2])) ts kvs → Q (.ref p) H'
theorem pe_tupleItems {e : Expr} {te : TE} {p apos cpos pos : Pos} (hc : X.calm = true) (he : PE X e te) (hg : Gl X "tuple") (hm : X.mg "tuple" = none) (hv : bootBuiltins "tuple" = some (.type "tuple")) (hbase : attributeBase e "items" X.env (eval e X.env) = eval e X.env) (hline : (apos.endLine == cpos.line) = true)
    (hs : starEach [.Call (.Attribute e "items" apos) [] [] cpos] X.env = (false, eval (.Call (.Attribute e "items" apos) [] [] cpos) X.env) :: starEach [] X.env) :
    PE X (.Call (.Name "tuple" p) [.Call (.Attribute e "items" apos) [] [] cpos] [] pos) (fun σ H Q => te σ H fun x H1 => rItemsZ x H1 Q) := by
  refine ⟨fun pins s σ H Q I hq => ?_⟩
  refine wpAny_Call_Name_kw (ld_blt I hg hm hv ?_)
  refine PyProof.Rows.callWith_type1 ?_ hs rfl
  rw [hs]
  refine Calls.spliced_cons (rest := backTo pos (starEach [] X.env)) ?_
  refine wpAny_Call_method (T := "dict") (id := "dict.items") hbase rfl hline F.plainAttrs_dict F.slot_dict_items F.type_dict_items (thn (he.run pins s σ H _ I hq) fun u s1 ⟨x, H1, I1, rx, d, kvs, ex, hd, q⟩ => ?_)
  subst ex
  obtain rfl : u = Value.ref d := rx
  obtain ⟨hz, hs0, vs, kv, hdo⟩ := dk_rd I1.hok hd
  obtain ⟨ep, hat⟩ := hdo.dictAt
  have lk : kvs.length = vs.length := Paired.length kv
  have I2 : Inv X pins σ H1 { s1 with heap := s1.heap.push { cls := .type "dict_items", data := .fields #[.ref d] } } := I1.kept (t' := s1.toks) fun b ob q => Heap.get?_push_of_some _ q
  refine ⟨hdo.typeIs, hdo.mapOf.noDict, method_meetsIn F.slot_dict_items F.entry_dict_items rfl (PySem.evalArgs_none ⟨rfl, hdo.typeIs, F.args_dict_items_1 _, _, meets_dict_items (mixKind X.prog X.w) d hs0, ⟨vs, hdo⟩, Calls.spliced_nil ?_⟩)⟩
  refine call_tuple_items (knd := mixKind X.prog X.w) (kvs := vs) (ep := ep) (I1.ok.hd hc) ⟨_, Heap.get?_push_size _ rfl, rfl, rfl⟩ (hat.push _) (by omega) fun h' tk as hk hl hG => ?_
  obtain ⟨H', k1, k2, k3, k4, k5, J⟩ := pairs_laid (tk := tk) I2 kv hk hl hG
  have hp1 : H' h'.objs.size = none := J.hok.fresh (Nat.le_refl _)
  have hp0 : h'.objs.size ∉ as := fun z => absurd (k3 _ z).2.2 (Nat.lt_irrefl _)
  have hpn : H1 h'.objs.size = none := by rw [← k2 _ hp0]; exact hp1
  have J2 := J.laid (a := h'.objs.size) (o := .frz { cls := .type "tuple", data := .seq (as.map Value.ref).toArray } (.tup (as.map V.ref))) (t' := tk) (h' := h'.push { cls := .type "tuple", data := .seq (as.map Value.ref).toArray }) (fun b o e => Heap.get?_push_of_some _ e) (Nat.le_refl _)
    ⟨Heap.get?_push_size _ rfl, by rw [List.length_map]; omega, as.map Value.ref, LiI.vals_refs as, ⟨_, Heap.get?_push_size _ rfl, rfl, _, rfl⟩⟩
  refine ⟨.ref _, _, J2, rfl, q _ _ _ as (fun b u e => ?_) (fun b h1 h2 => ?_) hpn (fun t ht => (k3 t ht).1) hp0 ⟨rfl, rfl⟩ upd_same ?_⟩
  · rw [upd_ne fun z => by rw [z, hpn] at e; cases e]
    exact k1 b u e
  · rw [upd_ne h2]; exact k2 b h1
  · have mono : ∀ {as : List Addr} {kvs : List (Key × V)}, (h'.objs.size ∉ as) → Paired (fun (t : Addr) (q : Key × V) => H' t = some (.tup [kV q.1, q.2])) as kvs → Paired (fun (t : Addr) (q : Key × V) => upd H' h'.objs.size (.frz { cls := .type "tuple", data := .seq (as.map Value.ref).toArray } (.tup (as.map V.ref))) t = some (.tup [kV q.1, q.2])) as kvs := by
      intro as' kvs' hn hp
      have gen : ∀ (u : HO) {as : List Addr} {kvs : List (Key × V)}, (h'.objs.size ∉ as) → Paired (fun (t : Addr) (q : Key × V) => H' t = some (.tup [kV q.1, q.2])) as kvs → Paired (fun (t : Addr) (q : Key × V) => upd H' h'.objs.size u t = some (.tup [kV q.1, q.2])) as kvs := by
        intro u as kvs hn hp
        induction hp with
        | nil => exact .nil
        | cons h t ih => exact .cons (by rw [upd_ne fun z => hn (by rw [← z]; exact List.mem_cons_self)]; exact h) (ih fun z => hn (List.mem_cons_of_mem _ z))
      exact gen _ hn hp
    exact mono hp0 k5
end
end Gh

set_option Elab.async false
set_option linter.all false
set_option maxRecDepth 100000
set_option maxHeartbeats 4000000
/-! The ghost layer 16: sorted(d.keys()), sorted(tuple), min(tuple), max(tuple), steps of -1. -/
namespace Gh
section
open PySem PySem.Spec PyProof.Rows L2
variable {X : Cx} {pins : List (Addr × Obj)} {σ : L2.St} {H : Hp} {s : Shared}
/-- sorted(e.keys()), texts, fewer than 64 -/
def rSortKeys : V → Hp → VK → Prop := fun x H Q => ∃ (a : Addr) (kvs : List (Key × V)) (ks : List Str), x = .ref a ∧ Rd H a (.dK kvs) ∧ kvs.map (·.1) = ks.map Sum.inr ∧ ks.length < 64 ∧
    ∀ ys p, ys.Perm ks → sortedS ys = true → H p = none → Q (.ref p) (upd H p (.lst (ys.map V.str)))
theorem strs_of {acc vs : List Value} {kvs : List (Key × Value)} {ks : List Str} (hkeys : kvs.map (·.1) = ks.map Sum.inr) (hl : acc.length = ks.length) (h : ∀ (j : Nat) v, acc[j]? = some v → ∃ k x, kvs[j]? = some (k, x) ∧ keyIs k v = true) : StrsAre acc ks := strs_at hl fun j v e => by
  obtain ⟨k, x, e1, e2⟩ := h j v e
  have e3 := congrArg (·[j]?) hkeys
  simp only [List.getElem?_map, e1, Option.map_some] at e3
  cases e4 : ks[j]? with
  | none => rw [e4] at e3; cases e3
  | some y =>
    rw [e4] at e3
    cases Option.some.inj e3
    obtain ⟨t, ev⟩ := Value.isStrOf_shape (x := y) (v := v) e2
    exact ⟨y, t, rfl, ev⟩
theorem pe_sortedKeys {e : Expr} {te : TE} {p apos cpos pos : Pos} (hc : X.calm = true) (he : PE X e te) (hg : Gl X "sorted") (hm : X.mg "sorted" = none) (hv : bootBuiltins "sorted" = some (.builtin "sorted")) (hbase : attributeBase e "keys" X.env (eval e X.env) = eval e X.env) (hline : (apos.endLine == cpos.line) = true)
    (hs : starEach [.Call (.Attribute e "keys" apos) [] [] cpos] X.env = (false, eval (.Call (.Attribute e "keys" apos) [] [] cpos) X.env) :: starEach [] X.env) :
    PE X (.Call (.Name "sorted" p) [.Call (.Attribute e "keys" apos) [] [] cpos] [] pos) (fun σ H Q => te σ H fun x H1 => rSortKeys x H1 Q) := by
  refine ⟨fun pins s σ H Q I hq => ?_⟩
  refine wpAny_Call_Name_kw (ld_blt I hg hm hv ?_)
  refine Calls.callWith_builtin rfl (Calls.evalArgs_plain ?_)
  refine Calls.spliced_cons (rest := backTo pos (starEach [] X.env)) ?_
  refine wpAny_Call_method (T := "dict") (id := "dict.keys") hbase rfl hline F.plainAttrs_dict F.slot_dict_keys F.type_dict_keys (thn (he.run pins s σ H _ I hq) fun u s1 ⟨x, H1, I1, rx, d, kvs, ks, ex, hd, hks, h64, q⟩ => ?_)
  subst ex
  obtain rfl : u = Value.ref d := rx
  obtain ⟨hz, hs0, vs, kv, hdo⟩ := dk_rd I1.hok hd
  obtain ⟨ep, hat⟩ := hdo.dictAt
  have hkeys : vs.map (·.1) = ks.map Sum.inr := kv.keys.symm.trans hks
  have hl : vs.length = ks.length := by simpa using congrArg List.length hkeys
  have I2 : Inv X pins σ H1 { s1 with heap := s1.heap.push { cls := .type "dict_keys", data := .fields #[.ref d] } } := I1.kept (t' := s1.toks) fun b ob q => Heap.get?_push_of_some _ q
  refine ⟨hdo.typeIs, hdo.mapOf.noDict, method_meetsIn F.slot_dict_keys F.entry_dict_keys rfl (PySem.evalArgs_none ⟨rfl, hdo.typeIs, F.args_dict_keys_1 _, _, PySem.W.kdl_meets_keys (mixKind X.prog X.w) d hs0, ⟨vs, hdo⟩, Calls.spliced_nil ?_⟩)⟩
  refine Calls.call_function_entry kind_sorted plain_sorted entry_sorted (args_sorted1 _) ?_
  unfold Builtin.«sorted»
  refine wpAny_bind (m := checkCount "sorted" 1 1 _) (wpAny_pure ?_)
  refine wpAny_bind (PySem.W.kdu_collect (A := X.A.in1) (PySem.W.kdl_keys (knd := mixKind X.prog X.w) (kvs := vs) (ep := ep)) (I1.ok.hd hc) ⟨⟨_, Heap.get?_push_size _ rfl, rfl, rfl⟩, hat.push _⟩ (by rw [hl, sizeLine_eq]; omega) fun h' tk acc hk hacc => ?_)
  have hal : acc.toList.length = ks.length := by rw [Array.length_toList, hacc.1, hl]
  have hS : StrsAre acc.toList ks := strs_of (vs := []) hkeys hal fun j v e => hacc.2 j v (by rw [← Array.getElem?_toList]; exact e)
  have I3 : Inv X pins σ H1 { s1 with heap := h', toks := tk } := I2.kept hk
  have hoL : (h'.push (seqObj "list" acc.toList.toArray 0)).get? h'.objs.size = some (seqObj "list" acc.toList.toArray 0) := Heap.get?_push_size _ rfl
  refine wpAny_bind (wpAny_newList (wpAny_bind (wpAny_holding (wpAny_call_entry (s := { s1 with heap := h'.push (seqObj "list" acc.toList.toArray 0), toks := tk }) slot_list_sort ⟨_, hoL, rfl⟩ entry_list_sort
    (list_sort_treeK strKind_oneLt (s := { s1 with heap := h'.push (seqObj "list" acc.toList.toArray 0), toks := tk }) hoL hS.keysOf (fun v₁ v₂ rest e => keyKind_strs (by rw [← e]; exact hS)) (by rw [hal]; exact h64) fun st' hp hsr => ⟨_, rfl, ?_⟩) (args_list_sort _)))) (by rw [hal, sizeLine_eq]; omega))
  obtain ⟨ys, g1, g2, g3⟩ := sorted_out_str hS hp hsr
  obtain ⟨e', he'⟩ := sortedHeap_at (vs := acc.toList) (out := (arrOf st').map (·.2)) hoL
  have hlen : (ys.map V.str).length ≤ sizeLine := by rw [List.length_map, g2.length_eq, sizeLine_eq]; omega
  refine wpAny_pure ⟨_, rfl, .ref h'.objs.size, upd H1 h'.objs.size (.lst (ys.map V.str)), I3.laid (t' := tk) (fun b u e => ?_) (Nat.le_refl _)
    (show ObjOk X.prog X.w _ _ _ (.lst (ys.map V.str)) from ⟨hlen, ((arrOf st').map (·.2)).toList, e', vals_of_strs g1, by rw [Array.toArray_toList]; exact he'⟩), rfl, q ys _ g2 g3 (I3.hok.fresh (Nat.le_refl _))⟩
  have hb : b < h'.objs.size := Heap.lt_size e
  rw [sortedHeap_old (Nat.ne_of_lt hb) (by rw [size_push']; exact Nat.lt_succ_of_lt hb)]
  exact Heap.get?_push_of_some _ e
/-- sorted(t), a tuple of ints -/
theorem cr_sortedTI : CallR X (.builtin "sorted") (fun vs H Q => ∃ (a : Addr) (ns : List Int), vs = [V.ref a] ∧ SqT X.K H a (ns.map V.int) ∧ ∀ (ns' : List Int) (p : Addr), ns'.Perm ns → ns'.Pairwise (· ≤ ·) → H p = none → Q (.ref p) (upd H p (.lst (ns'.map V.int)))) := by
  intro pins s σ H vs us Q I r h
  obtain ⟨a, ns, rfl, hs, q⟩ := h
  obtain ⟨its, rv, ⟨o, ho, hc, n, hd⟩, hz⟩ := I.tuple hs
  rw [Vals.ref1 r]
  have hi := rv.ints
  have hz' : its.length ≤ sizeLine := by rw [← rv.length]; exact hz
  refine Calls.call_function_entry kind_sorted plain_sorted entry_sorted (args_sorted1 _) ?_
  unfold Builtin.«sorted»
  refine wpAny_bind (m := checkCount "sorted" 1 1 _) (wpAny_pure ?_)
  refine wpAny_bind (wpAny_collect_seq (A := X.A.in1) a (.inr rfl) ho hc hd (fun h' hk => ?_) (by simpa using hz'))
  have I3 : Inv X pins σ H { s with heap := h' } := I.kept (t' := s.toks) hk
  have hoL : (h'.push (seqObj "list" its.toArray 0)).get? h'.objs.size = some (seqObj "list" its.toArray 0) := Heap.get?_push_size _ rfl
  refine wpAny_bind (wpAny_newList (wpAny_bind (wpAny_holding (wpAny_call_entry (s := { s with heap := h'.push (seqObj "list" its.toArray 0) }) slot_list_sort ⟨_, hoL, rfl⟩ entry_list_sort
    (SrtO.list_sort_ord (s := { s with heap := h'.push (seqObj "list" its.toArray 0) }) SrtO.swo_int hoL hz' (fun h2 => SrtO.ints_sortable hi h2) fun out g1 g2 => ⟨_, rfl, ?_⟩) (args_list_sort _)))) (by simpa using hz'))
  obtain ⟨k1, k2, k3⟩ := SrtO.ints_out hi g1 g2
  obtain ⟨e', he'⟩ := sortedHeap_at (vs := its) (out := out.toArray) hoL
  have hlen : ((out.map SrtO.iv).map V.int).length ≤ sizeLine := by
    rw [List.length_map, k2.length_eq]
    rw [List.length_map] at hz
    exact hz
  refine wpAny_pure ⟨_, rfl, .ref h'.objs.size, upd H h'.objs.size (.lst ((out.map SrtO.iv).map V.int)), I3.laid (t' := s.toks) (fun b u e => ?_) (Nat.le_refl _)
    (show ObjOk X.prog X.w _ _ _ (.lst ((out.map SrtO.iv).map V.int)) from ⟨hlen, out, e', vals_of_ints k1, he'⟩), rfl, q _ _ k2 k3 (I3.hok.fresh (Nat.le_refl _))⟩
  have hb : b < h'.objs.size := Heap.lt_size e
  rw [sortedHeap_old (Nat.ne_of_lt hb) (by rw [size_push']; exact Nat.lt_succ_of_lt hb)]
  exact Heap.get?_push_of_some _ e
end
end Gh

set_option Elab.async false
set_option linter.all false
set_option maxRecDepth 100000
set_option maxHeartbeats 4000000
/-! The ghost layer 17: x[lo::-1], min and max of a tuple. -/
namespace Gh
/-- how many items x[i::-1] has -/
def revN (n : Nat) : Option Int → Nat
  | none => n
  | some i => (max (-1) (min (if i < 0 then i + n else i) ((n : Int) - 1)) + 1).toNat
theorem revN_le (n : Nat) (o : Option Int) : revN n o ≤ n := by
  cases o with
  | none => exact Nat.le_refl _
  | some i => simp only [revN]; omega
section
open PySem PySem.Spec PyProof.Rows L2
variable {X : Cx} {pins : List (Addr × Obj)} {σ : L2.St} {H : Hp} {s : Shared}
theorem rev_bounds (lo : Option Int) (n : Nat) : sliceBounds lo none (some (-1)) n = ((revN n lo : Int) - 1, -1, -1) := by
  cases lo with
  | none => exact PySem.W.krv_bounds n
  | some i =>
    have h1 : ¬ ((-1 : Int) > 0) := by decide
    simp only [sliceBounds, revN, Option.getD_some, h1, if_false]
    refine Prod.ext ?_ rfl
    show max (-1) (min (if i < 0 then i + (n : Int) else i) ((n : Int) - 1)) = _
    omega
theorem rev_pick (its : List Value) (lo : Option Int) : slicePick its.toArray lo none (some (-1)) = ((its.take (revN its.length lo)).reverse).toArray := by
  unfold slicePick
  rw [rev_bounds]
  show ((sliceRange ((revN its.toArray.size lo : Int) - 1) (-1) (-1)).filterMap (its.toArray[·]?)).toArray = _
  rw [PySem.W.krv_sliceRange, PySem.W.krv_range, List.filterMap_reverse]
  have h := pick_run its.toArray 0 (revN its.toArray.size lo)
  have e : (List.range (revN its.toArray.size lo)).map (0 + ·) = List.range (revN its.toArray.size lo) := by
    rw [show ((0 + ·) : Nat → Nat) = id from funext fun k => Nat.zero_add k, List.map_id]
  rw [e] at h
  rw [h]
  simp
/-- xs[lo::-1] of a list -/
def rRevL (K : PySem.W.Frag) : V → Option Int → Hp → VK → Prop := fun x lo H Q => ∃ a xs, x = .ref a ∧ SqL K H a xs ∧ ∀ p, H p = none → Q (.ref p) (upd H p (.lst (xs.take (revN xs.length lo)).reverse))
theorem vals_take {xs : List V} {us : List Value} (r : Vals xs us) (n : Nat) : Vals (xs.take n) (us.take n) := Vals.take n r
theorem pe_stepL {e : Expr} {lo : Option Expr} {te : TE} {tl : TO} {k : Nat} {p1 p2 p3 pos : Pos} (he : PE X e te) (hlo : PO X lo tl) :
    PE X (.Subscript e (.Slice lo none (some (.UnaryOp .USub (.Constant (.int 1) k p1) p2)) p3) pos) (fun σ H Q => te σ H fun x H1 => tl σ H1 fun l H2 => rRevL X.K x l H2 Q) := by
  refine ⟨fun pins s σ H Q I h => ?_⟩
  refine Subscript_ (thn (he.run pins s σ H _ I h) fun v s1 ⟨x, H1, I1, r1, q1⟩ => ?_)
  have hst : PO X (some (.UnaryOp .USub (.Constant (.int 1) k p1) p2)) (tPart (tUn (rU fun i => .int (-i)) (tC (.int 1)))) := po_some (pe_un un_neg pe_int)
  refine wpAny_Slice (thn (hlo.run pins s1 σ H1 _ I1 q1) fun vl s2 ⟨l, H2, I2, pl, a, xs, ex, hx, q⟩ => ?_)
  subst ex
  cases r1
  refine thn (po_none.run pins s2 σ H2 (fun o H3 => o = none ∧ H3 = H2) I2 ⟨rfl, rfl⟩) fun vu s3 ⟨u, H3, I3, pu, eu, e3⟩ => ?_
  subst eu e3
  refine thn (hst.run pins s3 σ H3 (fun o H4 => o = some (-1) ∧ H4 = H3) I3 ⟨1, rfl, -1, rfl, rfl, rfl⟩) fun vs s4 ⟨o, H4, I4, ps, eo, e4⟩ => ?_
  subst eo e4
  have I5 : Inv X pins σ H4 { s4 with heap := s4.heap.push { cls := .type "slice", data := .fields #[vl, vu, vs] } } := I4.kept (t' := s4.toks) fun b ob q => Heap.get?_push_of_some _ q
  obtain ⟨its, r, ht, hz⟩ := I5.list hx
  have hlen := r.length
  refine tail_any (slice := .Slice lo none (some (.UnaryOp .USub (.Constant (.int 1) k p1) p2)) p3) (ops := [.ref a, .ref s4.heap.objs.size]) ht.isList.typeIs (PySem.slot_list_getitem.lookup) ?_ (by with_unfolding_all rfl)
  refine wpAny_getItem_list_slice ht.isList (Heap.IsSliceOf.new _ vl vu vs) pl pu ps (by decide) ?_ (by rw [List.size_toArray]; omega)
  rw [rev_pick, ← hlen]
  refine ⟨.ref _, _, I5.laid (t' := s4.toks) (o := .lst (xs.take (revN xs.length l)).reverse) (fun b ob q => Heap.get?_push_of_some _ q) (Nat.le_refl _) ?_, rfl, q _ (I5.hok.fresh (Nat.le_refl _))⟩
  exact ⟨by rw [List.length_reverse, List.length_take]; omega, _, 0, (vals_take r _).reverse, Heap.get?_push_size _ rfl⟩
/-- t[::-1] of a tuple -/
theorem sliceRev_applied {A : Around} {E : Value → Shared → Prop} {prog : Program} {w : World} {sl : Addr} {vl vu vs : Value} {n : Nat} {Q : Int × Int × Nat → Shared → Prop} (hs : s.heap.IsSliceOf sl vl vu vs) (pl : IsPart vl none) (pu : IsPart vu none) (ps : IsPart vs (some (-1)))
    (h : Q ((n : Int) - 1, -1, n) s) : wpAny (model prog w) A (Builtin.Slice.sliceApplied (.ref sl) (pure (n : Int))) Q E s := by
  obtain ⟨os, hos, hcs, hds⟩ := id hs
  unfold Builtin.Slice.sliceApplied Builtin.Slice.sliceFields
  refine wpAny_bind (wpAny_bind (wpAny_field hos hds (x := vl) rfl (wpAny_bind (wpAny_field hos hds (x := vu) rfl (wpAny_bind (wpAny_field hos hds (x := vs) rfl (wpAny_pure ?_)))))))
  refine wpAny_bind (HT.slicePart_ ps ?_)
  show wpAny _ _ (if ((-1 : Int) == 0) = true then _ else _) _ _ s
  rw [if_neg (by decide)]
  refine wpAny_bind (HT.slicePart_ pl (wpAny_bind (HT.slicePart_ pu (wpAny_bind (wpAny_pure ?_)))))
  have e : Builtin.Slice.slicePlaces ((n : Int) - 1) (-1) (-1) = n := by
    unfold Builtin.Slice.slicePlaces
    have h1 : ¬ ((-1 : Int) > 0) := by decide
    simp only [h1, if_false]
    split
    · rw [show (- -1 : Int) = 1 by decide, Int.ediv_one]; omega
    · omega
  show wpAny _ _ (pure ((n : Int) - 1, (-1 : Int), Builtin.Slice.slicePlaces ((n : Int) - 1) (-1) (-1))) _ _ s
  rw [e]
  exact wpAny_pure h
theorem rev_filter (xs : Array Value) : ((List.range xs.size).filterMap fun (m : Nat) => xs[((xs.size : Int) - 1 + (m : Int) * -1).toNat]?) = xs.toList.reverse := by
  have e : ((List.range xs.size).filterMap fun (m : Nat) => xs[((xs.size : Int) - 1 + (m : Int) * -1).toNat]?) = ((List.range xs.size).map fun k => xs.size - 1 - k).filterMap (xs[·]?) := by
    rw [List.filterMap_map]
    congr 1
    funext m
    show _ = xs[xs.size - 1 - m]?
    by_cases hm : m < xs.size
    · have : ((xs.size : Int) - 1 + (m : Int) * -1).toNat = xs.size - 1 - m := by omega
      rw [this]
    · have h1 : ((xs.size : Int) - 1 + (m : Int) * -1).toNat = 0 := by omega
      have h2 : xs.size - 1 - m = 0 := by omega
      rw [h1, h2]
  rw [e, PySem.W.krv_range, List.filterMap_reverse, PySem.W.krv_all]
theorem getItem_tuple_rev {A : Around} {E : Value → Shared → Prop} {prog : Program} {w : World} {t sl : Addr} {items : Array Value} {vl vu vs : Value} {Q : Value → Shared → Prop} (ht : IsTup s.heap t items) (hs : s.heap.IsSliceOf sl vl vu vs) (pl : IsPart vl none) (pu : IsPart vu none) (ps : IsPart vs (some (-1)))
    (h : Q (.ref s.heap.objs.size) { s with heap := s.heap.push { cls := .type "tuple", data := .seq items.toList.reverse.toArray } }) (hsz : items.size ≤ sizeLine) : wpAny (model prog w) A (getItem (.ref t) (.ref sl)) Q E s := by
  have htake : sizeOk (.seq items.toList.reverse.toArray) := by
    show items.toList.reverse.toArray.size ≤ sizeLine
    simpa using hsz
  obtain ⟨os, hos, hcs, hds⟩ := id hs
  have hTs : s.TypeIs (.ref sl) "slice" := ⟨os, hos, hcs⟩
  unfold getItem
  try with_reducible refine wpAny_holding ?_
  first | refine wpAny_bind (wpAny_pure ?_) | skip
  refine wpAny_bind (wpAny_sequenceKey ht.typeIs (by decide) (wpAny_bind (wpAny_callSpecial?_slot (name := Str.ofString "__getitem__") ht.typeIs PyProof.Rows.slot_tuple_getitem
    (wpAny_call_entry PyProof.Rows.slot_tuple_getitem ht.typeIs entry_tuple_getitem ?_ (args_tuple_getitem _ _)))))
  refine wpAny_bind (m := Builtin.Tuple.tupleItemsOf (.ref t)) (tupleItemsOf_ ht (wpAny_bind (wpAny_typeOf hTs ?_)))
  rw [if_pos (by decide)]
  refine wpAny_bind (sliceRev_applied hs pl pu ps ?_)
  have hno : ¬ ((((items.size : Int) - 1) == 0 && (-1 : Int) == 1 && items.size == items.size) = true) := by
    rw [show ((-1 : Int) == 1) = false by decide]; simp
  show wpAny _ _ (if (((items.size : Int) - 1) == 0 && (-1 : Int) == 1 && items.size == items.size) = true then _ else _) _ _ s
  rw [if_neg hno, rev_filter]
  first
    | exact wpAny_bind (m := Builtin.Tuple.tupleExact _) (wpAny_newObj_type (wpAny_pure ⟨_, rfl, wpAny_pure h⟩) htake)
    | exact wpAny_bind (m := Builtin.Tuple.tupleExact _) (wpAny_newObj_type (wpAny_bind (wpAny_pure (wpAny_pure ⟨_, rfl, wpAny_pure h⟩))) htake)
    | exact wpAny_bind (wpAny_bind (m := Builtin.Tuple.tupleExact _) (wpAny_newObj_type (wpAny_pure (wpAny_pure ⟨_, rfl, wpAny_pure h⟩)) htake))
    | exact wpAny_bind (wpAny_bind (m := Builtin.Tuple.tupleExact _) (wpAny_newObj_type (wpAny_pure ⟨_, rfl, wpAny_pure h⟩) htake))
def rRevT (K : PySem.W.Frag) : V → Hp → VK → Prop := fun x H Q => ∃ a xs, x = .ref a ∧ SqT K H a xs ∧ ∀ p, H p = none → Q (.ref p) (upd H p (.tup xs.reverse))
theorem pe_revT {e : Expr} {te : TE} {k : Nat} {p1 p2 p3 pos : Pos} (he : PE X e te) : PE X (.Subscript e (.Slice none none (some (.UnaryOp .USub (.Constant (.int 1) k p1) p2)) p3) pos) (fun σ H Q => te σ H fun x H1 => rRevT X.K x H1 Q) := by
  refine ⟨fun pins s σ H Q I h => ?_⟩
  refine Subscript_ (thn (he.run pins s σ H _ I h) fun v s1 ⟨x, H1, I1, r1, a, xs, ex, hx, q⟩ => ?_)
  have hst : PO X (some (.UnaryOp .USub (.Constant (.int 1) k p1) p2)) (tPart (tUn (rU fun i => .int (-i)) (tC (.int 1)))) := po_some (pe_un un_neg pe_int)
  subst ex
  cases r1
  refine wpAny_Slice (thn (po_none.run pins s1 σ H1 (fun o H2 => o = none ∧ H2 = H1) I1 ⟨rfl, rfl⟩) fun vl s2 ⟨l, H2, I2, pl, el, e2⟩ => ?_)
  subst el e2
  refine thn (po_none.run pins s2 σ H2 (fun o H3 => o = none ∧ H3 = H2) I2 ⟨rfl, rfl⟩) fun vu s3 ⟨u, H3, I3, pu, eu, e3⟩ => ?_
  subst eu e3
  refine thn (hst.run pins s3 σ H3 (fun o H4 => o = some (-1) ∧ H4 = H3) I3 ⟨1, rfl, -1, rfl, rfl, rfl⟩) fun vs s4 ⟨o, H4, I4, ps, eo, e4⟩ => ?_
  subst eo e4
  have I5 : Inv X pins σ H4 { s4 with heap := s4.heap.push { cls := .type "slice", data := .fields #[vl, vu, vs] } } := I4.kept (t' := s4.toks) fun b ob q => Heap.get?_push_of_some _ q
  obtain ⟨its, r, ht, hz⟩ := I5.tuple hx
  have hlen := r.length
  refine tail_any (slice := .Slice none none (some (.UnaryOp .USub (.Constant (.int 1) k p1) p2)) p3) (ops := [.ref a, .ref s4.heap.objs.size]) ht.typeIs (PyProof.Rows.slot_tuple_getitem.lookup) ?_ (by with_unfolding_all rfl)
  refine getItem_tuple_rev ht (Heap.IsSliceOf.new _ vl vu vs) pl pu ps ?_ (by rw [List.size_toArray]; omega)
  refine ⟨.ref _, _, I5.laid (t' := s4.toks) (o := .tup xs.reverse) (fun b ob q => Heap.get?_push_of_some _ q) (Nat.le_refl _) ?_, rfl, q _ (I5.hok.fresh (Nat.le_refl _))⟩
  exact ⟨by rw [List.length_reverse]; exact hz, _, r.reverse, IsTup.new _ _⟩
end
end Gh

set_option Elab.async false
set_option linter.all false
set_option maxRecDepth 100000
set_option maxHeartbeats 4000000
/-! The ghost layer 18: the rules for dicts made, sorted things, turned things, index. -/
namespace Gh
section
open PySem PySem.Spec PyProof.Rows L2
variable {X : Cx} {pins : List (Addr × Obj)} {σ : L2.St} {H : Hp} {s : Shared}
theorem dp_ints {K : PySem.W.Frag} {H : Hp} : ∀ ns : List Int, DpAll K H (ns.map V.int) (ns.map PyData.int)
  | [] => .nil
  | n :: ns => .cons (.int n) (dp_ints ns)
theorem depth_ints : ∀ ns : List Int, PyData.depthAll (ns.map PyData.int) = 0
  | [] => by simp [PyData.depthAll]
  | n :: ns => by simp [PyData.depthAll, PyData.depth, depth_ints ns]
theorem alike_ints (ns : List Int) : PySem.W.AlikeAll (ns.map PyData.int) := by
  refine ⟨fun x hx y hy => ?_, fun x hx => ?_⟩
  · obtain ⟨i, _, rfl⟩ := List.mem_map.mp hx
    obtain ⟨j, _, rfl⟩ := List.mem_map.mp hy
    simp [PySem.W.alike]
  · obtain ⟨i, _, rfl⟩ := List.mem_map.mp hx
    simp
theorem cr_minT (hc : X.calm = true) (hu : X.A.units + 1 < cLine) : CallR X (.builtin "min") (fun vs H Q => ∃ (a : Addr) (n : Int) (ns : List Int), vs = [V.ref a] ∧ SqT X.K H a ((n :: ns).map V.int) ∧ Q (.int (ns.foldl min n)) H) := by
  intro pins s σ H vs us Q I r h
  obtain ⟨a, n, ns, rfl, hs, q⟩ := h
  obtain ⟨its, rv, hl, _⟩ := I.tuple hs
  rw [Vals.ref1 r]
  obtain ⟨as, ra⟩ := Dp.readsAll I _ _ its (dp_ints (n :: ns)) rv
  refine PySem.W.min_tuple_data (vs := its.toArray) (x := .int n) (xs := ns.map PyData.int) (I.ok.hd hc) hl (by simpa using ra) (alike_ints (n :: ns)) (by have := depth_ints (n :: ns); simp only [List.map_cons] at this; omega) fun i v h' tk bs _ rd hk => ?_
  rw [PySem.W.minD_ints] at rd
  cases rd
  exact ⟨.int _, H, I.kept hk, ⟨_, rfl⟩, q⟩
theorem cr_maxT (hc : X.calm = true) (hu : X.A.units + 1 < cLine) : CallR X (.builtin "max") (fun vs H Q => ∃ (a : Addr) (n : Int) (ns : List Int), vs = [V.ref a] ∧ SqT X.K H a ((n :: ns).map V.int) ∧ Q (.int (ns.foldl max n)) H) := by
  intro pins s σ H vs us Q I r h
  obtain ⟨a, n, ns, rfl, hs, q⟩ := h
  obtain ⟨its, rv, hl, _⟩ := I.tuple hs
  rw [Vals.ref1 r]
  obtain ⟨as, ra⟩ := Dp.readsAll I _ _ its (dp_ints (n :: ns)) rv
  refine PySem.W.max_tuple_data (vs := its.toArray) (x := .int n) (xs := ns.map PyData.int) (I.ok.hd hc) hl (by simpa using ra) (alike_ints (n :: ns)) (by have := depth_ints (n :: ns); simp only [List.map_cons] at this; omega) fun i v h' tk bs _ rd hk => ?_
  rw [PySem.W.maxD_ints] at rd
  cases rd
  exact ⟨.int _, H, I.kept hk, ⟨_, rfl⟩, q⟩
end
open PySem L2
/-! ### semantics -/
def oMinT (d : D) (G : GH) : R D := match d with
  | .tup xs => (match intsOf xs with
    | some (n :: ns) => .ok (.int (ns.foldl min n)) G
    | _ => .stuck)
  | _ => .stuck
def oMaxT (d : D) (G : GH) : R D := match d with
  | .tup xs => (match intsOf xs with
    | some (n :: ns) => .ok (.int (ns.foldl max n)) G
    | _ => .stuck)
  | _ => .stuck
def insI (i : Int) : List Int → List Int
  | [] => [i]
  | j :: r => if i ≤ j then i :: j :: r else j :: insI i r
def sortI : List Int → List Int
  | [] => []
  | i :: r => insI i (sortI r)
def fSortI (f : EF) : FF := fun ρ G => (f ρ G).bind fun d G1 => match view G1 d with
  | .lst xs => (match intsOf xs with
    | some ns => .ok (.lst ((sortI ns).map D.int)) G1
    | none => .stuck)
  | .tup xs => (match intsOf xs with
    | some ns => .ok (.lst ((sortI ns).map D.int)) G1
    | none => .stuck)
  | _ => .stuck
/-- x ≤ y, texts -/
def leS (x y : Str) : Bool := !PySem.Spec.ltCps y.cps.toList x.cps.toList
def insS (i : Str) : List Str → List Str
  | [] => [i]
  | j :: r => if leS i j = true then i :: j :: r else j :: insS i r
def sortS : List Str → List Str
  | [] => []
  | i :: r => insS i (sortS r)
def keyStrs : List (Key × D) → Option (List Str)
  | [] => some []
  | (.inr x, _) :: r => (keyStrs r).map (x :: ·)
  | _ => none
def keyD : Key → D
  | .inl i => .int i
  | .inr x => .str x
/-- tuple(d.items()) -/
def oItems (d : D) (G : GH) : R D := match view G d with
  | .dic kvs => .ok (.tpz (kvs.map fun kv => .tup [keyD kv.1, kv.2])) G
  | _ => .stuck
def fRevL (f : EF) (l : OF) : FF := fun ρ G => (f ρ G).bind fun d G1 => (l ρ G1).bind fun lo G2 => match view G2 d with
  | .lst xs => .ok (.lst (xs.take (revN xs.length lo)).reverse) G2
  | _ => .stuck
def oRevT (d : D) (G : GH) : R D := match d with
  | .tup xs => .ok (.tup xs.reverse) G
  | _ => .stuck
def findD (x : D) : List D → Option Nat
  | [] => none
  | y :: r => if eqB y x = true then some 0 else (findD x r).map (· + 1)
def oIndex (x y : D) (G : GH) : R D := match view G x with
  | .lst xs => if pn 60 y && pnL 59 xs then (match findD y xs with
    | some j => .ok (.int j) G
    | none => .stuck) else .stuck
  | _ => .stuck
def mKeys (i : Nat) : AF := fun ρ G => match ρ[i]? with
  | some (some (.v (.dic kds))) => .ok (kds.map fun kv => keyD kv.1) G
  | _ => .stuck
/-! ### sorting -/
theorem insI_perm (i : Int) : ∀ l, (insI i l).Perm (i :: l)
  | [] => .refl _
  | j :: r => by
    unfold insI
    split
    · exact .refl _
    · exact ((insI_perm i r).cons j).trans (.swap i j r)
theorem sortI_perm : ∀ l, (sortI l).Perm l
  | [] => .refl _
  | i :: r => (insI_perm i _).trans ((sortI_perm r).cons i)
theorem insI_sorted (i : Int) : ∀ l : List Int, l.Pairwise (· ≤ ·) → (insI i l).Pairwise (· ≤ ·)
  | [], _ => by simp [insI]
  | j :: r, h => by
    unfold insI
    have h' := List.pairwise_cons.mp h
    split
    · rename_i hij
      exact List.pairwise_cons.mpr ⟨fun x hx => by
        rcases List.mem_cons.mp hx with e | e
        · rw [e]; exact hij
        · exact Int.le_trans hij (h'.1 x e), h⟩
    · rename_i hij
      refine List.pairwise_cons.mpr ⟨fun x hx => ?_, insI_sorted i r h'.2⟩
      rcases List.mem_cons.mp ((insI_perm i r).mem_iff.mp hx) with e | e
      · rw [e]; omega
      · exact h'.1 x e
theorem sortI_sorted : ∀ l, (sortI l).Pairwise (· ≤ ·)
  | [] => .nil
  | i :: r => insI_sorted i _ (sortI_sorted r)
theorem perm_sorted_eq : ∀ {l m : List Int}, l.Perm m → l.Pairwise (· ≤ ·) → m.Pairwise (· ≤ ·) → l = m
  | [], m, p, _, _ => (List.Perm.nil_eq p)
  | a :: l, [], p, _, _ => by simp at p
  | a :: l, b :: m, p, h1, h2 => by
    have g1 := List.pairwise_cons.mp h1
    have g2 := List.pairwise_cons.mp h2
    have e : a = b := by
      have a1 := p.mem_iff.mp (List.mem_cons_self (a := a) (l := l))
      have b1 := p.mem_iff.mpr (List.mem_cons_self (a := b) (l := m))
      have ab : a = b ∨ b ≤ a := (List.mem_cons.mp a1).imp id fun h => g2.1 a h
      have ba : b = a ∨ a ≤ b := (List.mem_cons.mp b1).imp id fun h => g1.1 b h
      omega
    subst e
    rw [perm_sorted_eq (List.Perm.cons_inv p) g1.2 g2.2]
theorem lt_anti : ∀ a b : List Nat, PySem.Spec.ltCps a b = false → PySem.Spec.ltCps b a = false → a = b
  | [], [], _, _ => rfl
  | [], _ :: _, h, _ => by simp [PySem.Spec.ltCps] at h
  | _ :: _, [], _, h => by simp [PySem.Spec.ltCps] at h
  | a :: r, b :: t, h1, h2 => by
    simp only [PySem.Spec.ltCps, Bool.or_eq_false_iff, decide_eq_false_iff_not, Bool.and_eq_false_iff] at h1 h2
    have e : a = b := by omega
    subst e
    have h1' := h1.2.resolve_left (by simp)
    have h2' := h2.2.resolve_left (by simp)
    rw [lt_anti r t h1' h2']
theorem lt_trans' : ∀ a b c : List Nat, PySem.Spec.ltCps b a = false → PySem.Spec.ltCps c b = false → PySem.Spec.ltCps c a = false
  | [], _, [], _, _ => rfl
  | [], [], _ :: _, _, _ => rfl
  | [], _ :: _, _ :: _, _, _ => rfl
  | _ :: _, [], _, h, _ => by simp [PySem.Spec.ltCps] at h
  | _ :: _, _ :: _, [], _, h => by simp [PySem.Spec.ltCps] at h
  | a :: r, b :: t, c :: u, h1, h2 => by
    simp only [PySem.Spec.ltCps, Bool.or_eq_false_iff, decide_eq_false_iff_not, Bool.and_eq_false_iff, beq_eq_false_iff_ne] at h1 h2 ⊢
    refine ⟨by omega, ?_⟩
    by_cases e : c = a
    · right
      have e1 : b = a := by omega
      have e2 : c = b := by omega
      exact lt_trans' r t u (h1.2.resolve_left fun z => z e1) (h2.2.resolve_left fun z => z e2)
    · exact .inl e
theorem lt_total : ∀ a b : List Nat, PySem.Spec.ltCps a b = true → PySem.Spec.ltCps b a = false
  | [], [], _ => rfl
  | [], _ :: _, _ => rfl
  | _ :: _, [], h => by simp [PySem.Spec.ltCps] at h
  | a :: r, b :: t, h => by
    simp only [PySem.Spec.ltCps, Bool.or_eq_true, decide_eq_true_eq, Bool.and_eq_true, beq_iff_eq] at h
    simp only [PySem.Spec.ltCps, Bool.or_eq_false_iff, decide_eq_false_iff_not, Bool.and_eq_false_iff, beq_eq_false_iff_ne]
    rcases h with h | ⟨h1, h2⟩
    · exact ⟨by omega, .inl (by omega)⟩
    · exact ⟨by omega, .inr (lt_total r t h2)⟩
theorem str_ext {x y : Str} (h : x.cps.toList = y.cps.toList) : x = y := by
  obtain ⟨⟨l⟩⟩ := x
  obtain ⟨⟨m⟩⟩ := y
  simp at h
  subst h
  rfl
theorem leS_anti {x y : Str} (h1 : leS x y = true) (h2 : leS y x = true) : x = y := by
  simp only [leS, Bool.not_eq_true'] at h1 h2
  exact str_ext (lt_anti _ _ h2 h1)
theorem leS_trans {x y z : Str} (h1 : leS x y = true) (h2 : leS y z = true) : leS x z = true := by
  simp only [leS, Bool.not_eq_true'] at h1 h2 ⊢
  exact lt_trans' _ _ _ h1 h2
theorem leS_total {x y : Str} (h : ¬ leS x y = true) : leS y x = true := by
  simp only [leS, Bool.not_eq_true', Bool.not_eq_false] at h ⊢
  exact lt_total _ _ h
theorem rising_pw : ∀ (r : List Str) (p : Str), PyProof.Rows.risingS p r = true → (p :: r).Pairwise (fun a b => leS a b = true)
  | [], _, _ => by simp
  | x :: r, p, h => by
    simp only [PyProof.Rows.risingS, Bool.and_eq_true] at h
    have ih := rising_pw r x h.2
    refine List.pairwise_cons.mpr ⟨fun z hz => ?_, ih⟩
    rcases List.mem_cons.mp hz with e | e
    · rw [e]; exact h.1
    · exact leS_trans h.1 ((List.pairwise_cons.mp ih).1 z e)
theorem sortedS_pw {l : List Str} (h : PyProof.Rows.sortedS l = true) : l.Pairwise (fun a b => leS a b = true) := by
  cases l with
  | nil => exact .nil
  | cons x r => exact rising_pw r x h
theorem insS_perm (i : Str) : ∀ l, (insS i l).Perm (i :: l)
  | [] => .refl _
  | j :: r => by
    unfold insS
    split
    · exact .refl _
    · exact ((insS_perm i r).cons j).trans (.swap i j r)
theorem sortS_perm : ∀ l, (sortS l).Perm l
  | [] => .refl _
  | i :: r => (insS_perm i _).trans ((sortS_perm r).cons i)
theorem insS_sorted (i : Str) : ∀ l : List Str, l.Pairwise (fun a b => leS a b = true) → (insS i l).Pairwise (fun a b => leS a b = true)
  | [], _ => by simp [insS]
  | j :: r, h => by
    unfold insS
    have h' := List.pairwise_cons.mp h
    split
    · rename_i hij
      exact List.pairwise_cons.mpr ⟨fun x hx => by
        rcases List.mem_cons.mp hx with e | e
        · rw [e]; exact hij
        · exact leS_trans hij (h'.1 x e), h⟩
    · rename_i hij
      refine List.pairwise_cons.mpr ⟨fun x hx => ?_, insS_sorted i r h'.2⟩
      rcases List.mem_cons.mp ((insS_perm i r).mem_iff.mp hx) with e | e
      · rw [e]; exact leS_total hij
      · exact h'.1 x e
theorem sortS_sorted : ∀ l, (sortS l).Pairwise (fun a b => leS a b = true)
  | [] => .nil
  | i :: r => insS_sorted i _ (sortS_sorted r)
theorem perm_sortedS_eq : ∀ {l m : List Str}, l.Perm m → l.Pairwise (fun a b => leS a b = true) → m.Pairwise (fun a b => leS a b = true) → l = m
  | [], m, p, _, _ => (List.Perm.nil_eq p)
  | a :: l, [], p, _, _ => by simp at p
  | a :: l, b :: m, p, h1, h2 => by
    have g1 := List.pairwise_cons.mp h1
    have g2 := List.pairwise_cons.mp h2
    have e : a = b := by
      have a1 := p.mem_iff.mp (List.mem_cons_self (a := a) (l := l))
      have b1 := p.mem_iff.mpr (List.mem_cons_self (a := b) (l := m))
      rcases List.mem_cons.mp a1 with q | q
      · exact q
      · rcases List.mem_cons.mp b1 with q2 | q2
        · exact q2.symm
        · exact leS_anti (g1.1 b q2) (g2.1 a q)
    subst e
    rw [perm_sortedS_eq (List.Perm.cons_inv p) g1.2 g2.2]
/-- sorted(d.keys()) -/
def fSortKeys (f : EF) : FF := fun ρ G => (f ρ G).bind fun d G1 => match view G1 d with
  | .dic kvs => (match keyStrs kvs with
    | some ks => if ks.length < 64 then .ok (.lst ((sortS ks).map D.str)) G1 else .stuck
    | none => .stuck)
  | _ => .stuck
theorem keyStrs_eq : ∀ {kds : List (Key × D)} {ks : List Str}, keyStrs kds = some ks → kds.map Prod.fst = ks.map Sum.inr
  | [], _, h => by cases h; rfl
  | (.inr x, _) :: r, ks, h => by
    simp only [keyStrs] at h
    obtain ⟨ms, h1, rfl⟩ := Option.map_eq_some_iff.mp h
    simp [keyStrs_eq h1]
  | (.inl i, _) :: r, ks, h => by simp [keyStrs] at h
section
variable {c : Ct} {W : WX} {S S' : Hp} {A A' : List Addr} {H H' : Hp} {σ σ' : L2.St} {ρ ρ' : En} {G : GH} {X : Cx} {cl : Str → Addr}
theorem Reps.ofInts {ns : List Int} : Reps c S A (ns.map V.int) (ns.map D.int) := by
  induction ns with
  | nil => exact .nil
  | cons n ns ih => exact .cons (.int n) ih
theorem rep_tup {v : V} {xs : List D} (ft : Fits c S A G H) (r : RepV c S A H v (.tup xs)) : ∃ a vs, v = .ref a ∧ SqT c.K H a vs ∧ Reps c S A vs xs := look_tup ft r rfl
theorem unS_minT : UnS c (fun vs H Q => ∃ (a : Addr) (n : Int) (ns : List Int), vs = [V.ref a] ∧ SqT c.K H a ((n :: ns).map V.int) ∧ Q (.int (ns.foldl min n)) H) oMinT := fun S A G H x d Q E ft r h => by
  unfold oMinT at h
  split at h
  · obtain ⟨a, vs, rfl, h2, h3⟩ := rep_tup ft r
    split at h
    · rename_i n ns hn
      have ev := ints_rep h3 hn
      subst ev
      exact ⟨a, n, ns, rfl, h2, h.here ft (.int _)⟩
    · exact h.elim
  · exact h.elim
theorem unS_maxT : UnS c (fun vs H Q => ∃ (a : Addr) (n : Int) (ns : List Int), vs = [V.ref a] ∧ SqT c.K H a ((n :: ns).map V.int) ∧ Q (.int (ns.foldl max n)) H) oMaxT := fun S A G H x d Q E ft r h => by
  unfold oMaxT at h
  split at h
  · obtain ⟨a, vs, rfl, h2, h3⟩ := rep_tup ft r
    split at h
    · rename_i n ns hn
      have ev := ints_rep h3 hn
      subst ev
      exact ⟨a, n, ns, rfl, h2, h.here ft (.int _)⟩
    · exact h.elim
  · exact h.elim
theorem gSortI {e : Expr} {f : EF} {p pos : Pos} (hm : X.mg "sorted" = none) (hv : bootBuiltins "sorted" = some (.builtin "sorted")) (ha : PE X e (TXO ⟨X.K, cl⟩ W f)) (hg : Gl X "sorted" := by rfl)
    (h1 : starEach [e] X.env = (false, eval e X.env) :: starEach [] X.env := by rfl) (h2 : (backTo pos (starEach [] X.env)).any (·.1) = false := by rfl) : PE X (.Call (.Name "sorted" p) [e] [] pos) (TXF ⟨X.K, cl⟩ W (fSortI f)) :=
  (pe_callB (CallR.or cr_sortedI cr_sortedTI) hg hm hv (pa_cons ha pa_nil h1) (by decide) (by decide) h1 h2).imp fun σ H Q ⟨ρ, S, A, G, e, ft, h⟩ => (goF f e ft h).imp fun v H1 ⟨S1, A1, G1, d, x1, e1, f1, r1, h1⟩ => by
    split at h1
    · rename_i q
      obtain ⟨a, vs, rfl, h2, h3⟩ := look_lst f1 r1 q
      split at h1
      · rename_i ns hn
        have ev := ints_rep h3 hn
        subst ev
        refine .inl ⟨a, ns, rfl, .inl (.inl h2), fun ns' l p1 p2 hl => ?_⟩
        rw [perm_sorted_eq (p1.trans (sortI_perm ns).symm) p2 (sortI_sorted ns)]
        exact h1.new f1 hl ⟨_, upd_same, Reps.ofInts⟩
      · exact h1.elim
    · rename_i q
      obtain ⟨a, vs, rfl, h2, h3⟩ := look_tup f1 r1 q
      split at h1
      · rename_i ns hn
        have ev := ints_rep h3 hn
        subst ev
        refine .inr ⟨a, ns, rfl, h2, fun ns' l p1 p2 hl => ?_⟩
        rw [perm_sorted_eq (p1.trans (sortI_perm ns).symm) p2 (sortI_sorted ns)]
        exact h1.new f1 hl ⟨_, upd_same, Reps.ofInts⟩
      · exact h1.elim
    · exact h1.elim
theorem gSortKeys {e : Expr} {f : EF} {p apos cpos pos : Pos} (hc : X.calm = true) (hm : X.mg "sorted" = none) (hv : bootBuiltins "sorted" = some (.builtin "sorted")) (ha : PE X e (TXO ⟨X.K, cl⟩ W f)) (hg : Gl X "sorted" := by rfl) (hbase : attributeBase e "keys" X.env (eval e X.env) = eval e X.env := by rfl) (hline : (apos.endLine == cpos.line) = true := by rfl)
    (hs : starEach [.Call (.Attribute e "keys" apos) [] [] cpos] X.env = (false, eval (.Call (.Attribute e "keys" apos) [] [] cpos) X.env) :: starEach [] X.env := by rfl) :
    PE X (.Call (.Name "sorted" p) [.Call (.Attribute e "keys" apos) [] [] cpos] [] pos) (TXF ⟨X.K, cl⟩ W (fSortKeys f)) :=
  (pe_sortedKeys hc ha hg hm hv hbase hline hs).imp fun σ H Q ⟨ρ, S, A, G, e, ft, h⟩ => (goF f e ft h).imp fun v H1 ⟨S1, A1, G1, d, x1, e1, f1, r1, h1⟩ => by
    split at h1
    · rename_i q
      obtain ⟨a, kvs, rfl, h2, h3, h4⟩ := look_dic f1 r1 q
      split at h1
      · rename_i ks hk
        split at h1
        · rename_i hl
          refine ⟨a, kvs, ks, rfl, h2, h3.trans (keyStrs_eq hk), hl, fun ys l p1 p2 hl => ?_⟩
          rw [perm_sortedS_eq (p1.trans (sortS_perm ks).symm) (sortedS_pw p2) (sortS_sorted ks)]
          exact h1.new f1 hl ⟨_, upd_same, Reps.strs _⟩
        · exact h1.elim
      · exact h1.elim
    · exact h1.elim
/-! ### tuple(d.items()) -/
theorem keyD_rep (k : Key) : Rep c S A (kV k) (keyD k) := by
  cases k with
  | inl i => exact .int i
  | inr x => exact .str x
theorem Paired.mem {α β : Type} {F : α → β → Prop} {xs : List α} {ys : List β} (h : Paired F xs ys) {x : α} (hx : x ∈ xs) : ∃ y, F x y := by
  induction h with
  | nil => cases hx
  | cons h t ih =>
    rcases List.mem_cons.mp hx with e | e
    · rw [e]; exact ⟨_, h⟩
    · exact ih e
theorem items_rep {S' : Hp} : ∀ {ts : List Addr} {kvs : List (Key × V)} {kds : List (Key × D)}, Paired (fun (t : Addr) (q : Key × V) => S' t = some (.tup [kV q.1, q.2])) ts kvs → kvs.map Prod.fst = kds.map Prod.fst → Reps c S' A (kvs.map Prod.snd) (kds.map Prod.snd) → Reps c S' A (ts.map V.ref) (kds.map fun kv => .tup [keyD kv.1, kv.2])
  | _, _, [], .nil, _, _ => .nil
  | _, _, kd :: kds, .cons h t, e, r => by
    simp only [List.map_cons, List.cons.injEq] at e
    cases r with
    | cons r1 r2 =>
      refine .cons (.tup (vs := [_, _]) h (.cons ?_ (.cons r1 .nil))) (items_rep t e.2 r2)
      rw [e.1]
      exact keyD_rep _
  | _, _, [], .cons _ _, e, _ => by simp at e
  | _, _, _ :: _, .nil, e, _ => by simp at e
theorem gItems {e : Expr} {f : EF} {p apos cpos pos : Pos} (hc : X.calm = true) (hm : X.mg "tuple" = none) (hv : bootBuiltins "tuple" = some (.type "tuple")) (ha : PE X e (TXO ⟨X.K, cl⟩ W f)) (hg : Gl X "tuple" := by rfl) (hbase : attributeBase e "items" X.env (eval e X.env) = eval e X.env := by rfl) (hline : (apos.endLine == cpos.line) = true := by rfl)
    (hs : starEach [.Call (.Attribute e "items" apos) [] [] cpos] X.env = (false, eval (.Call (.Attribute e "items" apos) [] [] cpos) X.env) :: starEach [] X.env := by rfl) :
    PE X (.Call (.Name "tuple" p) [.Call (.Attribute e "items" apos) [] [] cpos] [] pos) (TX ⟨X.K, cl⟩ W (mUn oItems f)) :=
  (pe_tupleItems hc ha hg hm hv hbase hline hs).imp fun σ H Q ⟨ρ, S, A, G, e, ft, h⟩ => (go f e ft h).imp fun v H1 ⟨S1, A1, G1, d, x1, e1, f1, r1, h1⟩ => by
    unfold oItems at h1
    split at h1
    · rename_i kds q
      obtain ⟨a, kvs, rfl, h2, h3, h4⟩ := look_dic f1 r1 q
      refine ⟨a, kvs, rfl, h2, fun H2 p o ts k1 k2 k3 k4 k5 k6 k7 k8 => ?_⟩
      -- the new stable part: all that is new
      have hS0 : ∀ b, H1 b = none → S1 b = none := fun b hb => f1.nonS hb
      let S2 : Hp := fun b => if H1 b = none then H2 b else S1 b
      have sOld : ∀ b u, S1 b = some u → S2 b = some u := fun b u e => by
        have : ¬ H1 b = none := fun z => by rw [hS0 b z] at e; cases e
        simp only [S2, this, if_false]; exact e
      have sNew : ∀ b, H1 b = none → S2 b = H2 b := fun b hb => by simp only [S2, hb, if_true]
      refine h1 (.ref p) S2 A1 H2 ⟨sOld, List.prefix_refl _, fun b n => ?_, fun b u e => ?_, fun b hb => .inr (.inl hb), fun b z => z.elim⟩ ⟨fun b u e => ?_, f1.len, f1.nd, fun b hb => ?_, fun k b x e1 e2 => ?_⟩ (.tpz (vs := ts.map V.ref) (o := o) ?_ k6 ?_)
      · refine k2 b (fun z => n (.inl (k4 b z))) fun z => n (.inl (by rw [z]; exact k3))
      · by_cases hb : H1 b = none
        · exact .inr (.inl hb)
        · simp only [S2, hb, if_false] at e; exact .inl e
      · by_cases hb : H1 b = none
        · rw [sNew b hb] at e; exact .inl e
        · simp only [S2, hb, if_false] at e
          rcases f1.sub b u e with w | ⟨w1, o', w⟩
          · exact .inl (k1 b _ w)
          · exact .inr ⟨w1, o', k1 b _ w⟩
      · obtain ⟨o', ho⟩ := f1.inA hb
        have : ¬ H1 b = none := fun z => by rw [ho] at z; cases z
        simp only [S2, this, if_false]
        exact f1.out b hb
      · have hb := List.mem_of_getElem? e1
        obtain ⟨o', ho⟩ := f1.inA hb
        exact (f1.live k b x e1 e2).mono sOld (List.prefix_refl _) ((k1 b _ ho).trans ho.symm)
      · rw [sNew p k3]; exact k7
      · have pr : Paired (fun (t : Addr) (q : Key × V) => S2 t = some (.tup [kV q.1, q.2])) ts kvs := by
          have gen : ∀ {ts : List Addr} {kvs : List (Key × V)}, (∀ t ∈ ts, H1 t = none) → Paired (fun (t : Addr) (q : Key × V) => H2 t = some (.tup [kV q.1, q.2])) ts kvs → Paired (fun (t : Addr) (q : Key × V) => S2 t = some (.tup [kV q.1, q.2])) ts kvs := by
            intro ts kvs hn hp
            induction hp with
            | nil => exact .nil
            | cons h t ih => exact .cons (by rw [sNew _ (hn _ List.mem_cons_self)]; exact h) (ih fun z hz => hn z (List.mem_cons_of_mem _ hz))
          exact gen k4 k8
        exact items_rep pr h3 (h4.mono sOld (List.prefix_refl _))
    · exact h1.elim
/-! ### dict(x) -/
theorem gDict {e : Expr} {f : EF} {p pos : Pos} (hc : X.calm = true) (hm : X.mg "dict" = none) (hv : bootBuiltins "dict" = some (.type "dict")) (ha : PE X e (TXO ⟨X.K, cl⟩ W f)) (hg : Gl X "dict" := by rfl)
    (h1 : starEach [e] X.env = (false, eval e X.env) :: starEach [] X.env := by rfl) (h2 : (backTo pos (starEach [] X.env)).any (·.1) = false := by rfl) : PE X (.Call (.Name "dict" p) [e] [] pos) (TXF ⟨X.K, cl⟩ W (fDict f)) :=
  (pe_callTy ((CallR.or call_dictD (call_dictP hc)).or (call_dictZ hc)) hg hm hv (pa_cons ha pa_nil h1) (by decide) (by decide) h1 h2).imp fun σ H Q ⟨ρ, S, A, G, e, ft, h⟩ => (goF f e ft h).imp fun v H1 ⟨S1, A1, G1, d, x1, e1, f1, r1, h1⟩ => by
    split at h1
    · rename_i q
      obtain ⟨a, kvs, rfl, h2, h3, h4⟩ := look_dic f1 r1 q
      exact .inl (.inl ⟨a, kvs, rfl, h2, fun l hl => h1.new f1 hl ⟨kvs, upd_same, h3, h4⟩⟩)
    · rename_i q
      obtain ⟨a, vs, rfl, h2, h3⟩ := look_lst f1 r1 q
      split at h1
      · rename_i ps hp
        obtain ⟨as, kvs, rfl, g2, g3, g4, _⟩ := pairs_rep f1 h3 hp
        have hm := merge_rep (c := ⟨X.K, cl⟩) (S := S1) (A := A1) g3 g4 (kvs := []) (kds := []) rfl .nil
        exact .inl (.inr ⟨a, as, kvs, rfl, .inl (.inl h2), g2, fun l hl => h1.new f1 hl ⟨_, upd_same, hm.1, hm.2⟩⟩)
      · exact h1.elim
    · rename_i xs q
      have ed := view_flat q (by intros; simp) (by intros; simp) (by intros; simp) (by intros; simp)
      subst ed
      have r' : Rep _ S1 A1 v (.tpz xs) := r1.resolve_right fun ⟨_, _, _, _, _, _, z⟩ => by cases z
      split at h1
      · rename_i ps hp
        cases r' with
        | tpz hz hpl hr =>
          obtain ⟨as, kvs, rfl, g2, g3, g4, _⟩ := pairs_rep f1 hr hp
          have hm := merge_rep (c := ⟨X.K, cl⟩) (S := S1) (A := A1) g3 g4 (kvs := []) (kds := []) rfl .nil
          exact .inr ⟨_, _, as, kvs, rfl, f1.sub.at hz, hpl, g2, fun l hl => h1.new f1 hl ⟨_, upd_same, hm.1, hm.2⟩⟩
      · exact h1.elim
    · exact h1.elim
/-! ### turned round -/
theorem gRevL {e : Expr} {lo : Option Expr} {f : EF} {l : OF} {k : Nat} {p1 p2 p3 pos : Pos} (he : PE X e (TXO ⟨X.K, cl⟩ W f)) (hlo : PO X lo (TXP ⟨X.K, cl⟩ W l)) :
    PE X (.Subscript e (.Slice lo none (some (.UnaryOp .USub (.Constant (.int 1) k p1) p2)) p3) pos) (TXF ⟨X.K, cl⟩ W (fRevL f l)) :=
  (pe_stepL he hlo).imp fun σ H Q ⟨ρ, S, A, G, e, ft, h⟩ => (goF f e ft h).imp fun v H1 ⟨S1, A1, G1, d, x1, e1, f1, r1, h1⟩ => (goF l e1 f1 h1).imp fun o H2 ⟨S2, A2, G2, o', x2, e2, f2, r2, h2⟩ => by
    subst r2
    split at h2
    · rename_i q
      obtain ⟨a, vs, rfl, g2, g3⟩ := look_lst f2 (RepV.mono x2 r1) q
      refine ⟨a, vs, rfl, .inl (.inl g2), fun p hp => h2.new f2 hp ⟨_, upd_same, ?_⟩⟩
      rw [← g3.length]
      exact (g3.take _).reverse
    · exact h2.elim
theorem gRevT {e : Expr} {f : EF} {k : Nat} {p1 p2 p3 pos : Pos} (he : PE X e (TXO ⟨X.K, cl⟩ W f)) : PE X (.Subscript e (.Slice none none (some (.UnaryOp .USub (.Constant (.int 1) k p1) p2)) p3) pos) (TX ⟨X.K, cl⟩ W (mUn oRevT f)) :=
  (pe_revT he).imp fun σ H Q ⟨ρ, S, A, G, e, ft, h⟩ => (go f e ft h).imp fun v H1 ⟨S1, A1, G1, d, x1, e1, f1, r1, h1⟩ => by
    unfold oRevT at h1
    split at h1
    · obtain ⟨a, vs, rfl, h2, h3⟩ := rep_tup f1 r1
      exact ⟨a, vs, rfl, h2, fun p hp => h1.new f1 hp (.tup upd_same (h3.reverse.mono (inc_upd (f1.nonS hp)) (List.prefix_refl _)))⟩
    · exact h1.elim
end
end Gh

set_option Elab.async false
set_option linter.all false
set_option maxRecDepth 100000
set_option maxHeartbeats 4000000
/-! The ghost layer 19: owned dicts written, displays, index, walks over a dict's keys. -/
namespace Gh
open PySem L2
section
variable {c : Ct} {W : WX} {S S' : Hp} {A A' : List Addr} {H H' : Hp} {σ σ' : L2.St} {ρ ρ' : En} {G : GH} {X : Cx} {cl : Str → Addr}
/-! ### d[k] = v, d owned -/
theorem gPutO {i : Nat} {x : Str} {px : Pos} {ix value : Expr} {fk fv : EF} {pos pos' : Pos} (hu : X.A.units + 1 < cLine) (hi : PE X ix (TX ⟨X.K, cl⟩ W fk)) (hvl : PE X value (TX ⟨X.K, cl⟩ W fv)) (hN : X.N[i]? = some x := by rfl) (hv : Vis X.env.scope x := by first | exact Or.inl rfl | exact Or.inr (Or.inl rfl) | exact Or.inr (Or.inr rfl)) (hd : (x == ("__debug__" : Str)) = false := by decide)
    (hcd : (x == ("__classdict__" : Str)) = false := by decide) (hs : swapsWith value (some (.Subscript (.Name x px) ix pos')) pos.line X.env = pure false := by rfl) :
    PS X (.Assign [.Subscript (.Name x px) ix pos'] value pos) (TXS ⟨X.K, cl⟩ W (sPutO i fk fv)) := (ps_dput hu (pe_var (i := i) hN hv hd hcd) hi hvl hs).imp fun D σ H ⟨ρ, S, A, G, e, ft, h⟩ => by
  unfold sPutO at h
  split at h
  case h_2 => exact h.elim
  case h_1 y hy =>
  obtain ⟨a, h1, h2, h3, h4⟩ := e.own i _ hy
  refine (goS fv e ft h).imp fun v H1 ⟨S1, A1, G1, dv, x1, e1, f1, r1, k1⟩ => ⟨.ref a, h1, (goS fk e1 f1 k1).imp fun z H2 ⟨S2, A2, G2, dk, x2, e2, f2, r2, k2⟩ => ?_⟩
  obtain ⟨a', g1, g2, g3, g4⟩ := e2.own i _ hy
  rw [h1] at g1
  cases g1
  have rv := Rep.mono x2.st x2.pre r1
  split at k2
  case h_2 => exact k2.elim
  case h_1 y' hy' =>
  unfold putCell at hy'
  split at hy'
  · cases hy'
  · rename_i kds k hk'
    split at hy'
    · rename_i kk hk
      split at hy'
      · rename_i hl
        cases hy'
        obtain ⟨kvs, q1, q2, q3⟩ := g4
        obtain rfl := key_rep (H := H2) (.inl r2) hk
        have hp := putK_rep (k := kk) q2 q3 rv
        refine ⟨a, _, rfl, DPut.k q1 (by rw [map_len q2]; exact lim_lt hl), ?_⟩
        obtain ⟨u1, u2, u3⟩ := own_upd (y := .dic (putKD _ kk dv)) e2 f2 hy h1 ⟨_, upd_same, hp.1, hp.2⟩
        exact k2 σ S2 A2 _ u3 u1 u2
      · cases hy'
    · cases hy'
  · rename_i kds ks
    split at hy'
    · rename_i kk hk
      split at hy'
      · rename_i hl
        cases hy'
        obtain ⟨kvs, q1, q2, q3⟩ := g4
        obtain ⟨b, rfl, hb⟩ := tup_at (G := G2) f2 (.inl r2) hk
        have hp := putK_rep (k := kk) q2 q3 rv
        refine ⟨a, _, rfl, DPut.t q1 hb (by rw [map_len q2]; exact lim_lt hl), ?_⟩
        obtain ⟨u1, u2, u3⟩ := own_upd (y := .dit (putKD _ kk dv)) e2 f2 hy h1 ⟨_, upd_same, hp.1, hp.2⟩
        exact k2 σ S2 A2 _ u3 u1 u2
      · cases hy'
    · cases hy'
  · cases hy'
/-! ### index -/
theorem find_spec {x : D} (n : Nat) (hx : pn n x = true) : ∀ {xs : List D} {j : Nat}, pnL n xs = true → findD x xs = some j → ∃ z, (toPs xs)[j]? = some z ∧ PyData.eqv z (toP x) = true ∧ ∀ (m : Nat) (z' : PyData), m < j → (toPs xs)[m]? = some z' → PyData.eqv z' (toP x) = false
  | [], _, _, h => by cases h
  | y :: r, j, hp, h => by
    simp only [pnL, Bool.and_eq_true] at hp
    unfold findD at h
    have ey := eqv_toP n y x hp.1 hx
    split at h
    · rename_i he
      cases h
      exact ⟨toP y, by simp [toPs], ey.trans he, fun m z' hm => absurd hm (Nat.not_lt_zero _)⟩
    · rename_i he
      obtain ⟨k, hk, rfl⟩ := Option.map_eq_some_iff.mp h
      obtain ⟨z, h1, h2, h3⟩ := find_spec n hx hp.2 hk
      refine ⟨z, by simp [toPs, h1], h2, fun m z' hm hz => ?_⟩
      cases m with
      | zero =>
        simp [toPs] at hz
        rw [← hz, ey]
        simpa using he
      | succ m => exact h3 m z' (by omega) (by simpa [toPs] using hz)
theorem gIndex {o e : Expr} {fo fe : EF} {apos cpos : Pos} (hu : X.A.units + 65 < cLine) (ho : PE X o (TXO ⟨X.K, cl⟩ W fo)) (he : PE X e (TXO ⟨X.K, cl⟩ W fe))
    (hbase : attributeBase o "index" X.env (eval o X.env) = eval o X.env := by rfl)
    (hfew : ((backTo cpos (starEach (e :: []) X.env)).all (fun x => !x.1) && (backToKw cpos (keywordEach [] X.env)).all (fun x => x.1.isSome)
      && decide ((e :: []).length + ([] : List Keyword).length + (if ([] : List Keyword).isEmpty then 0 else 1) < 30)) = true := by rfl)
    (hline : (apos.endLine == cpos.line) = true := by rfl) (hs : starEach (e :: []) X.env = (false, eval e X.env) :: starEach [] X.env := by rfl) (hplain : (backTo cpos (starEach [] X.env)).any (·.1) = false := by rfl) :
    PE X (.Call (.Attribute o "index" apos) [e] [] cpos) (TX ⟨X.K, cl⟩ W (fun ρ G => (fo ρ G).bind fun x G1 => if isL (view G1 x) = true then (fe ρ G1).bind fun y G2 => oIndex x y G2 else .stuck)) := by
  refine (pe_bm PySem.F.plainAttrs_list PySem.F.slot_list_index PySem.F.type_list_index (mt_indexD hu) ho (pa_cons he pa_nil hs) hbase hfew hline hs hplain).imp fun σ H Q ⟨ρ, S, A, G, ev, ft, h⟩ => ?_
  refine (go fo ev ft h).imp fun v H1 ⟨S1, A1, G1, d, x1, e1, f1, r1, h1⟩ => ?_
  split at h1
  case isFalse => exact h1.elim
  case isTrue hv =>
  obtain ⟨ds, hds⟩ : ∃ ds, view G1 d = .lst ds := by
    cases q : view G1 d with
    | lst ds => exact ⟨ds, rfl⟩
    | _ => rw [q] at hv; cases hv
  obtain ⟨a, vs, rfl, g2, g3⟩ := look_lst f1 r1 hds
  refine ⟨.inl ⟨rfl, vs, .inl (.inl g2)⟩, (go fe e1 f1 h1).imp fun y H2 ⟨S2, A2, G2, d2, x2, e2, f2, r2, h2⟩ => ?_⟩
  unfold oIndex at h2
  split at h2
  · rename_i xs q
    split at h2
    · rename_i hp
      simp only [Bool.and_eq_true] at hp
      split at h2
      · rename_i j hj
        have hl : pn 60 (view G2 d) = true := by rw [q]; simpa [pn] using hp.2
        have rl := dpv_rep f2 (RepV.mono x2 r1) hl
        rw [q] at rl hl
        have vx : view G2 d2 = d2 := by cases d2 <;> simp_all [pn, view]
        have ry := dpv_rep (n := 60) f2 r2 (by rw [vx]; exact hp.1)
        rw [vx] at ry
        have hL : pnL 60 xs = true := by
          have : pn 61 (.lst xs) = true := pn_mono (by decide) hl
          simpa [pn] using this
        obtain ⟨z, k1, k2, k3⟩ := find_spec 60 hp.1 hL hj
        refine ⟨a, y, toP d2, toPs xs, j, z, rfl, rfl, by simpa [toP] using rl, ry, by have := shaped_of hl (by decide); simpa [toP] using this, shaped_of hp.1 (by decide), k1, k2, k3, h2.here f2 (.int _)⟩
      · exact h2.elim
    · exact h2.elim
  · exact h2.elim
/-! ### displays -/
def mkPs : List (TE × TE) → List (EF × EF) → Ct → WX → Prop
  | [], [], _, _ => True
  | (a, b) :: r, (f, g) :: q, c, W => a = TX c W f ∧ b = TX c W g ∧ mkPs r q c W
  | _, _, _, _ => False
theorem pairs_go {c : Ct} {W : WX} {σ : L2.St} {ρ : En} {p : Addr} {u : HO} : ∀ {trs : List (TE × TE)} {fs : List (EF × EF)} {S : Hp} {A : List Addr} {H : Hp} {G : GH} {Q : List (V × V) → Hp → Prop} {E : Str → Hp → Prop}, mkPs trs fs c W → EnvOk c S A H σ ρ → Fits c S A G H → S p = none → p ∉ A → H p = some u →
    (match mPairs fs ρ G with
      | .ok ps G' => ∀ vs S' A' H', ES S A H S' A' H' → Fits c S' A' G' H' → S' p = none → p ∉ A' → H' p = some u → (vs.map fun q => q.1) = ps.map (fun q => kV q.1) → Reps c S' A' (vs.map Prod.snd) (ps.map Prod.snd) → Q vs H'
      | .ex n G' => ∀ S' A' H', ES S A H S' A' H' → Fits c S' A' G' H' → exW c W σ n H'
      | .stuck => False) → tPairs trs σ H Q
  | [], [], S, A, H, G, Q, E, _, e, ft, h1, h2, h3, h => h [] S A H SS.refl ft h1 h2 h3 rfl .nil
  | (a, b) :: r, (f, g) :: q, S, A, H, G, Q, E, hm, e, ft, h1, h2, h3, h => by
    obtain ⟨rfl, rfl, hm⟩ := hm
    have keepP : ∀ {Sa Sb : Hp} {Aa Ab : List Addr} {Ha Hb : Hp}, ES Sa Aa Ha Sb Ab Hb → Sa p = none → p ∉ Aa → Ha p = some u → Sb p = none ∧ p ∉ Ab ∧ Hb p = some u := fun {Sa Sb Aa Ab Ha Hb} z z1 z2 z3 => by
      have n := nw_out z2 z3
      refine ⟨?_, fun q => n (z.newA _ q), (z.keep _ n).trans z3⟩
      cases q : Sb p with
      | none => rfl
      | some u =>
        rcases z.newS _ u q with z | z
        · rw [z1] at z; cases z
        · exact (n z).elim
    refine ⟨ρ, S, A, G, e, ft, ?_⟩
    unfold mPairs at h
    cases q1 : f ρ G with
    | stuck => rw [q1] at h; exact h
    | ex n G1 => rw [q1] at h; exact h
    | ok k G1 =>
      rw [q1] at h
      intro kv S1 A1 H1 x1 f1 rk
      refine ⟨ρ, S1, A1, G1, e.step x1, f1, ?_⟩
      simp only [R.bind] at h
      cases q2 : g ρ G1 with
      | stuck => rw [q2] at h; exact h
      | ex n G2 => rw [q2] at h; exact fun S' A' H' z f => h S' A' H' (x1.trans z) f
      | ok v G2 =>
        rw [q2] at h
        intro vv S2 A2 H2 x2 f2 rv
        obtain ⟨i1, i2, i3⟩ := keepP (x1.trans x2) h1 h2 h3
        refine pairs_go (E := E) hm ((e.step x1).step x2) f2 i1 i2 i3 ?_
        simp only at h
        cases q3 : mPairs q ρ G2 with
        | stuck => rw [q3] at h; exact h
        | ex n G3 => rw [q3] at h; exact fun S' A' H' z f => h S' A' H' ((x1.trans x2).trans z) f
        | ok ps G3 =>
          rw [q3] at h
          simp only at h
          intro vs S3 A3 H3 x3 f3 j1 j2 j3 hk hr
          cases q4 : keyOf k with
          | none => rw [q4] at h; exact h.elim
          | some kk =>
            rw [q4] at h
            refine h _ S3 A3 H3 ((x1.trans x2).trans x3) f3 j1 j2 j3 ?_ (.cons (rv.mono x3.st x3.pre) hr)
            rw [List.map_cons, List.map_cons, hk, key_rep (H := H1) (.inl rk) q4]
  | [], _ :: _, _, _, _, _, _, _, hm, _, _, _, _, _, _ => hm.elim
  | _ :: _, [], _, _, _, _, _, _, hm, _, _, _, _, _, _ => hm.elim
theorem split_pairs : ∀ {vs : List (V × V)} {ps : List (Key × D)}, (vs.map fun q => q.1) = ps.map (fun q => kV q.1) → ∃ kvs : List (Key × V), vs = kvs.map (fun kv => (kV kv.1, kv.2)) ∧ kvs.map Prod.fst = ps.map Prod.fst ∧ kvs.map Prod.snd = vs.map Prod.snd
  | [], [], _ => ⟨[], rfl, rfl, rfl⟩
  | (a, b) :: vs, (k, d) :: ps, h => by
    simp only [List.map_cons, List.cons.injEq] at h
    obtain ⟨kvs, h1, h2, h3⟩ := split_pairs h.2
    exact ⟨(k, b) :: kvs, by rw [List.map_cons, ← h1, h.1], by simp [h2], by simp [h3]⟩
  | [], _ :: _, h => by simp at h
  | _ :: _, [], h => by simp at h
theorem gDisp {pos : Pos} {keys : List (Option Expr)} {values : List Expr} {trs : List (TE × TE)} {fs : List (EF × EF)} (h : PPs X pos keys values trs) (hm : mkPs trs fs ⟨X.K, cl⟩ W) (hall : keys.all (·.isSome) = true := by rfl) (hl : keys.length = values.length := by rfl) (h0 : keys ≠ [] := by simp) (h15 : keys.length ≤ 15 := by decide) :
    PE X (.Dict keys values pos) (TXF ⟨X.K, cl⟩ W (fDisp fs)) := (pe_disp h hall hl h0 h15).imp fun σ H Q ⟨ρ, S, A, G, e, ft, h⟩ p hp => by
  have e1 : EnvOk ⟨X.K, cl⟩ S A (upd H p (.dK [])) σ ρ := e.step (SS.refl.upd (.inl hp))
  refine pairs_go (E := exW ⟨X.K, cl⟩ W σ) (u := .dK []) hm e1 (ft.upd_out (ft.nonS hp) (ft.notIn hp)) (ft.nonS hp) (ft.notIn hp) upd_same ?_
  unfold fDisp at h
  have x0 : ES S A H S A (upd H p (.dK [])) := SS.refl.upd (.inl hp)
  cases q : mPairs fs ρ G with
  | stuck => rw [q] at h; exact h
  | ex n G1 => rw [q] at h; exact fun S' A' H' z f => h S' A' H' (x0.trans z) f
  | ok ps G1 =>
    rw [q] at h
    simp only [R.bind] at h
    intro vs S1 A1 H1 x1 f1 j1 j2 j3 hk hr
    split at h
    · rename_i h15
      obtain ⟨kvs, k1, k2, k3⟩ := split_pairs hk
      have hm := merge_rep (c := ⟨X.K, cl⟩) (S := S1) (A := A1) k2 (by rw [k3]; exact hr) (kvs := []) (kds := []) rfl .nil
      exact ⟨j3, kvs, k1, by rw [map_len k2]; exact h15, h p S1 A1 _ ((x0.trans x1).upd (.inl hp)) (f1.upd_out j1 j2) hp j1 j2 ⟨_, upd_same, hm.1, hm.2⟩⟩
    · exact h.elim
end
end Gh

set_option Elab.async false
set_option linter.all false
set_option maxRecDepth 100000
set_option maxHeartbeats 4000000
/-! The ghost layer 20: comprehensions over d.keys(). -/
namespace Gh
open PySem L2
section
variable {c : Ct} {W : WX} {S S' : Hp} {A A' : List Addr} {H H' : Hp} {σ σ' : L2.St} {ρ ρ' : En} {G : GH} {X : Cx} {cl : Str → Addr}
theorem walkK {a : Addr} {o : Obj} {kvs : List (Key × V)} {kds : List (Key × D)} (hS : S a = some (.dK kvs)) (hH : H a = some (.frz o (.dK kvs))) (hk : kvs.map Prod.fst = kds.map Prod.fst) : WalkD c S A H (Itk a o kvs) (kds.map fun kv => keyD kv.1) := by
  have hl := map_len hk
  refine ⟨fun i H1 hi _ kp => ⟨(kp a _ hS).trans hH, by simpa [hl] using hi⟩, fun H1 _ kp => ⟨(kp a _ hS).trans hH, by simp [hl]⟩, fun i H1 x H2 hi _ y S1 A1 G1 h1 h2 f1 => ?_⟩
  obtain ⟨e1, k, v, hkv, e2⟩ := y
  subst e1; subst e2
  have hg : (kds.map fun kv => keyD kv.1)[i]? = some (keyD k) := by
    have := congrArg (·[i]?) hk
    simp only [List.getElem?_map, hkv, Option.map_some] at this
    rw [List.getElem?_map]
    cases q : kds[i]? with
    | none => rw [q] at this; cases this
    | some kd => rw [q] at this; simp at this; simp [this]
  exact ⟨S1, _, SS.refl, f1, hg, keyD_rep k⟩
/-- the dict that slot i tells is locked -/
def Lk (σ : L2.St) (i : Nat) (H : Hp) : Prop := ∃ a o kvs, σ[i]? = some (some (.ref a)) ∧ H a = some (.frz o (.dK kvs))
theorem keys_of {i : Nat} {R : It → Hp → Prop} (h : TXI c W (mKeys i) σ H R) (lk : Lk σ i H) : ∃ d o kvs, σ[i]? = some (some (.ref d)) ∧ H d = some (.frz o (.dK kvs)) ∧ R (Itk d o kvs) H := by
  obtain ⟨ρ, S, A, G, e, ft, h⟩ := h
  unfold mKeys at h
  split at h
  · rename_i kds hd
    obtain ⟨v, h1, h2⟩ := e.val i _ hd
    obtain ⟨a, o, kvs, g1, g2⟩ := lk
    rw [h1] at g1
    cases g1
    cases h2 with
    | dic hS hk hr =>
      rename_i kvs'
      have e2 : kvs' = kvs := by
        rcases ft.sub _ _ hS with w | ⟨_, o', w⟩
        · rw [g2] at w; cases w
        · rw [g2] at w; cases w; rfl
      subst e2
      exact ⟨a, o, kvs', h1, g2, h.here ft (walkK hS g2 hk)⟩
  · exact h.elim
theorem upd_upd_self {H : Hp} {a : Addr} {u : HO} (h : H a = some u) : upd H a u = H := by
  funext b
  by_cases q : b = a
  · subst q; rw [upd_same, h]
  · rw [upd_ne q]
theorem Fits.lock (ft : Fits c S A G H) {a : Addr} {o : Obj} {u : HO} (hS : S a = some u) (hd : Dict? u) : Fits c S A G (upd H a (.frz o u)) where
  sub := fun b w e => by
    by_cases q : b = a
    · subst q
      rw [hS] at e
      cases e
      exact .inr ⟨hd, o, upd_same⟩
    · rcases ft.sub b w e with z | ⟨z1, o', z⟩
      · exact .inl (by rw [upd_ne q]; exact z)
      · exact .inr ⟨z1, o', by rw [upd_ne q]; exact z⟩
  len := ft.len
  nd := ft.nd
  out := ft.out
  live := fun k b x e1 e2 => (ft.live k b x e1 e2).mono (fun _ _ z => z) (List.prefix_refl _) (upd_ne fun z => by
    have := ft.out b (List.mem_of_getElem? e1)
    rw [z, hS] at this; cases this)
theorem EnvOk.other (e : EnvOk c S A H σ ρ) {a : Addr} {o : HO} (hS : S a ≠ none) : EnvOk c S A (upd H a o) σ ρ :=
  ⟨e.len, e.val, fun i x h => by
    obtain ⟨b, h1, h2, h3, h4⟩ := e.own i x h
    exact ⟨b, h1, h2, h3, h4.mono (fun _ _ z => z) (List.prefix_refl _) (upd_ne fun z => hS (by rw [← z]; exact h2))⟩, e.inj⟩
/-- a reading of a new thing under the lock, and behind it -/
theorem unlock_okF {r : R Cell} {a : Addr} {o : Obj} {u : HO} {Q : VK} {E : Str → Hp → Prop} (ft : Fits c S A G H) (hS : S a = some u) (hH : H a = some u) (h : OkF c S A H r Q E) (hne : ∀ n G, r ≠ .ex n G) :
    OkF c S A (upd H a (.frz o u)) r (fun v H' => H' a = some (.frz o u) ∧ Q v (upd H' a u)) E := by
  cases r with
  | stuck => exact h
  | ex n G1 => exact (hne n G1 rfl).elim
  | ok x G1 =>
    intro p S1 A1 H1 x1 f1 hp h1 h2 cc
    have ha : a ∉ A := fun z => by rw [ft.out a z] at hS; cases hS
    have n0 : ¬ Nw No A (upd H a (.frz o u)) a := nw_out ha upd_same
    have k0 : H1 a = some (.frz o u) := (x1.keep a n0).trans upd_same
    have hS1 : S1 a = some u := x1.st a u hS
    have pa : p ≠ a := fun z => by rw [z, hS1] at h1; cases h1
    have hpH : H p = none := by rw [upd_ne pa] at hp; exact hp
    have nwE : ∀ {b}, Nw No A (upd H a (.frz o u)) b → Nw No A H b := fun {b} z => by
      rcases z with z | z | z
      · by_cases q : b = a
        · rw [q, upd_same] at z; cases z
        · rw [upd_ne q] at z; exact .inl z
      · exact .inr (.inl z)
      · exact z.elim
    have es : ES S A H S1 A1 (upd H1 a u) := by
      refine ⟨x1.st, x1.pre, fun b n => ?_, fun b w e => (x1.newS b w e).imp id nwE, fun b hb => nwE (x1.newA b hb), fun b z => z.elim⟩
      by_cases q : b = a
      · rw [q, upd_same, hH]
      · rw [upd_ne q, x1.keep b (fun z => n (nwE z)), upd_ne q]
    have ha1 : a ∉ A1 := fun z => by rw [f1.out a z] at hS1; cases hS1
    have f2 : Fits c S1 A1 G1 (upd H1 a u) := by
      refine ⟨fun b w e => ?_, f1.len, f1.nd, f1.out, fun k b y e1 e2 => (f1.live k b y e1 e2).mono (fun _ _ z => z) (List.prefix_refl _) (upd_ne fun z => ha1 (by rw [← z]; exact List.mem_of_getElem? e1))⟩
      by_cases q : b = a
      · rw [q, hS1] at e
        cases e
        rw [q]
        exact .inl upd_same
      · rw [upd_ne q]; exact f1.sub b w e
    exact ⟨k0, h p S1 A1 _ es f2 hpH h1 h2 (cc.mono (fun _ _ z => z) (List.prefix_refl _) (upd_ne pa))⟩
variable {elt tg : Expr} {ifs : List Expr} {scope : Scope} {own : List (Str × Nat)} {pos : Pos} {g : GF} {t : BF} {fe : EF} {gR : TG}
theorem comp_noEx {i : Nat} {vs : List Nat} {n : Str} {G1 : GH} : fComp (mComp (mKeys i) g t fe vs) ρ G ≠ .ex n G1 := by
  have key : ∀ r : R (List D), noEx r ≠ .ex n G1 ∧ (r.bind fun ds G1 => R.ok (Cell.lst ds) G1) = .ex n G1 → r = .ex n G1 := fun r h => by
    cases r with
    | ok a G => exact absurd h.2 (by simp [R.bind])
    | ex m G => have := h.2; simp [R.bind] at this; simp [this]
    | stuck => exact absurd h.2 (by simp [R.bind])
  have hn : ∀ r : R (List D), (noEx r).bind (fun ds G1 => R.ok (Cell.lst ds) G1) ≠ .ex n G1 := fun r => by cases r <;> simp [noEx, R.bind]
  unfold fComp mComp
  cases q : mKeys i ρ G with
  | ok ds G2 =>
    by_cases hl : ds.length < LIM
    · simp only [R.bind, if_pos hl]
      exact hn _
    · simp [R.bind, hl]
  | ex m G2 =>
    unfold mKeys at q
    split at q <;> cases q
  | stuck => simp [R.bind]
/-- [.. for x in name.keys() ..] -/
theorem gLcK {i : Nat} {x : Str} {px apos cpos : Pos} (hct : CT ⟨X.K, cl⟩ gR g (own.map (·.2))) (hc : X.calm = true) (hN : X.N.Nodup) (ok : BlkOk X.N X.env.scope scope own)
    (hg : ∀ (s : Shared) (H : Hp) (C : Addr) (cs : List (Str × Addr)) (fp : List Addr), PG (X.blk s H scope (compEnvC scope cs C X.env) fp) tg gR) (ht : ∀ (s : Shared) (H : Hp) (C : Addr) (cs : List (Str × Addr)) (fp : List Addr), PTs (X.blk s H scope (compEnvC scope cs C X.env) fp) ifs (TXB ⟨X.K, cl⟩ Wn t))
    (he : ∀ (s : Shared) (H : Hp) (C : Addr) (cs : List (Str × Addr)) (fp : List Addr), PE (X.blk s H scope (compEnvC scope cs C X.env) fp) elt (TX ⟨X.K, cl⟩ Wn fe))
    (hi : X.N[i]? = some x := by rfl) (hv : Vis X.env.scope x := by first | exact Or.inl rfl | exact Or.inr (Or.inl rfl) | exact Or.inr (Or.inr rfl)) (hd : (x == ("__debug__" : Str)) = false := by decide) (hcd : (x == ("__classdict__" : Str)) = false := by decide)
    (hbase : attributeBase (.Name x px) "keys" X.env (eval (.Name x px) X.env) = eval (.Name x px) X.env := by rfl) (hline : (apos.endLine == cpos.line) = true := by rfl)
    (hs : ∀ x', foldedSetIterable (.Call (.Attribute (.Name x px) "keys" apos) [] [] cpos) X.env x' = pure x' := by intro _; rfl) :
    PE X (.ListComp elt [⟨tg, .Call (.Attribute (.Name x px) "keys" apos) [] [] cpos, ifs, 0⟩] scope pos) (TXF ⟨X.K, cl⟩ W (fComp (mComp (mKeys i) g t fe (own.map (·.2))))) := by
  have base := pe_lc hc hN (pi_keysM (apos := apos) (cpos := cpos) (tg := tg) (pe_var (pos := px) (i := i) hi hv hd hcd) hbase hline) ok hg ht he hs (pos := pos)
  have conv : ∀ {σ : L2.St} {H : Hp} {Q : VK}, TXF ⟨X.K, cl⟩ W (fComp (mComp (mKeys i) g t fe (own.map (·.2)))) σ H Q → Lk σ i H → tLc (iKeysM fun σ H Q => ∃ v, σ[i]? = some (some v) ∧ Q v H) gR (TXB ⟨X.K, cl⟩ Wn t) (TX ⟨X.K, cl⟩ Wn fe) (own.map (·.2)) σ H Q := fun h lk => by
    obtain ⟨d, o, kvs, q1, q2, q3⟩ := keys_of (comp_of hct h) lk
    exact ⟨.ref d, q1, d, o, kvs, rfl, q2, q3⟩
  refine ⟨fun pins s σ H Q I h => ?_⟩
  obtain ⟨ρ, S, A, G, e, ft, h⟩ := h
  -- the dict in slot i
  have hslot : ∃ kds, ρ[i]? = some (some (.v (.dic kds))) := by
    cases q : mKeys i ρ G with
    | ok ds G1 =>
      unfold mKeys at q
      split at q
      · rename_i kds hk; exact ⟨kds, hk⟩
      · cases q
    | ex n G1 =>
      unfold mKeys at q
      split at q <;> cases q
    | stuck => unfold fComp mComp at h; rw [q] at h; exact h.elim
  obtain ⟨kds, hk⟩ := hslot
  obtain ⟨v, h1, h2⟩ := e.val i _ hk
  cases h2 with
  | dic hS hkk hr =>
    rename_i a kvs
    rcases ft.sub _ _ hS with w | ⟨_, o, w⟩
    · refine (pe_lock base).run pins s σ H Q I ⟨a, .dK kvs, w, trivial, fun od => ?_⟩
      refine conv ⟨ρ, S, A, G, e.other (by rw [hS]; simp), ft.lock hS trivial, ?_⟩ ⟨a, od, kvs, h1, upd_same⟩
      exact unlock_okF ft hS w h fun n G1 => comp_noEx
    · exact base.run pins s σ H Q I (conv ⟨ρ, S, A, G, e, ft, h⟩ ⟨a, o, kvs, h1, w⟩)
end
end Gh

set_option Elab.async false
set_option linter.all false
set_option maxRecDepth 100000
set_option maxHeartbeats 4000000
/-! The ghost layer 21: small words. -/
namespace Gh
open PySem L2
theorem u1 {k : Nat} {A : Around} (hr : Room k A) : A.units + 1 < cLine := by have := hr.un; omega
theorem u64 {k : Nat} {A : Around} (hr : Room k A) : A.units + 64 < cLine := by have := hr.un; omega
theorem u65 {k : Nat} {A : Around} (hr : Room k A) : A.units + 65 < cLine := by have := hr.un; omega
def mIndex (fo fe : EF) : EF := fun ρ G => (fo ρ G).bind fun x G1 => if isL (view G1 x) = true then (fe ρ G1).bind fun y G2 => oIndex x y G2 else .stuck
section
variable {X : Cx} {cl : Str → Addr} {W : WX}
theorem gNegI {i : Int} {k : Nat} {p1 p2 : Pos} : PE X (.UnaryOp .USub (.Constant (.int i) k p1) p2) (TX ⟨X.K, cl⟩ W (mC (.int (-i)))) := (pe_un un_neg pe_int).imp fun σ H Q h => ⟨i, rfl, tC_of (fun _ _ => .int (-i)) h⟩
end
/-- nothing is raised out of the law -/
theorem cx_no {P : Program} {w : World} {outer : List Env} {H : Hp} {s : Shared} {e : Value} {s' : Shared} (h : L2.CX P w outer H s (fun _ _ _ => False) e s') : False := by
  obtain ⟨_, _, _, _, _, _, _, _, _, _, _, _, z⟩ := h
  exact z
/-- the law's promise at a script -/
theorem sp_script {K : PySem.W.Frag} {cl : Str → Addr} {m : List D → GH → R D} {a : Addr} {ns : List Int} {H : Hp} {Q : VK} {E : XK} {G : GH} (hs : SqL K H a (ns.map V.int)) (hm : m [.scr ns] [] = .ok (.bl true) G) (q : ∀ H', Q (.bl true) H') : spO ⟨K, cl⟩ m [.ref a] H Q E := by
  refine ⟨fun b => if b = a then H a else none, [], [], [.scr ns], ⟨fun b u e => ?_, rfl, List.nodup_nil, fun b hb => by simp at hb, fun k b x h => by simp at h⟩, .cons (.scr ?_) .nil, ?_⟩
  · by_cases z : b = a
    · subst z; simp only [if_true] at e; exact .inl e
    · simp only [z, if_false] at e; cases e
  · rcases hs with (h | ⟨o, h⟩) | h
    · exact .inl (.inl (by simp only [if_true]; exact h))
    · exact .inl (.inr ⟨o, by simp only [if_true]; exact h⟩)
    · exact .inr h
  · rw [hm]
    intro v S' A' H' _ _ r
    cases r
    exact q H'
end Gh

set_option Elab.async false
set_option linter.all false
set_option maxRecDepth 100000
set_option maxHeartbeats 4000000
/-! The ghost layer 25: d.get(k, x), list(d.keys()), xs == [], xs != []. -/
namespace Gh
open PySem L2
def isDD : D → Bool
  | .dic _ => true
  | .dit _ => true
  | _ => false
def oGet (x k z : D) (G : GH) : R D := match dGet G x k with
  | some o => .ok (o.getD z) G
  | none => .stuck
def mGet (fd fk fx : EF) : EF := fun ρ G => (fd ρ G).bind fun x G1 => if isDD (view G1 x) = true then (fk ρ G1).bind fun k G2 => (fx ρ G2).bind fun z G3 => oGet x k z G3 else .stuck
def fKeys (f : EF) : FF := fun ρ G => (f ρ G).bind fun d G1 => match view G1 d with
  | .dic kvs => .ok (.lst (kvs.map fun kv => keyD kv.1)) G1
  | _ => .stuck
def oEqE (neg : Bool) (x y : D) (G : GH) : R D := match view G x, view G y with
  | .lst xs, .lst [] => .ok (.bl (if neg then !xs.isEmpty else xs.isEmpty)) G
  | _, _ => .stuck
section
variable {c : Ct} {W : WX} {S S' : Hp} {A A' : List Addr} {H H' : Hp} {σ σ' : L2.St} {ρ ρ' : En} {G : GH} {X : Cx} {cl : Str → Addr}
theorem isD_rep {x : V} {d : D} (ft : Fits c S A G H) (r : RepV c S A H x d) (h : isDD (view G d) = true) : ∃ a, x = .ref a ∧ IsD H a := by
  cases q : view G d with
  | dic kds =>
    obtain ⟨a, kvs, rfl, h1, _⟩ := look_dic ft r q
    exact ⟨a, rfl, .inl ⟨kvs, h1⟩⟩
  | dit kds =>
    obtain ⟨a, kvs, rfl, h1, _⟩ := look_dit ft r q
    exact ⟨a, rfl, .inr ⟨kvs, h1⟩⟩
  | _ => rw [q] at h; cases h
theorem gGet {o e f : Expr} {fo fe fx : EF} {apos cpos : Pos} (hu : X.A.units + 1 < cLine) (ho : PE X o (TXO ⟨X.K, cl⟩ W fo)) (he : PE X e (TX ⟨X.K, cl⟩ W fe)) (hf : PE X f (TX ⟨X.K, cl⟩ W fx)) (m : M2 X o "get" apos e f cpos := by exact ⟨rfl, rfl, rfl, rfl⟩) :
    PE X (.Call (.Attribute o "get" apos) [e, f] [] cpos) (TX ⟨X.K, cl⟩ W (mGet fo fe fx)) := by
  refine (pe_dget2 hu ho he hf m).imp fun σ H Q ⟨ρ, S, A, G, ev, ft, h⟩ => ?_
  refine (go fo ev ft h).imp fun v H1 ⟨S1, A1, G1, d, x1, e1, f1, r1, h1⟩ => ?_
  split at h1
  case isFalse => exact h1.elim
  case isTrue hv =>
  obtain ⟨a, rfl, hd⟩ := isD_rep f1 r1 hv
  refine ⟨a, rfl, hd, ?_⟩
  refine (go fe e1 f1 h1).imp fun y H2 ⟨S2, A2, G2, dk, x2, e2, f2, r2, h2⟩ => ?_
  refine (go fx e2 f2 h2).imp fun z H3 ⟨S3, A3, G3, dz, x3, e3, f3, r3, h3⟩ => ?_
  unfold oGet at h3
  cases q : dGet G3 d dk with
  | none => rw [q] at h3; exact h3.elim
  | some o =>
    rw [q] at h3
    obtain ⟨a', ov, e', g, g1, g2⟩ := dget_rep f3 (RepV.mono x3 (RepV.mono x2 r1)) (.inl (r2.mono x3.st x3.pre)) q
    cases e'
    refine ⟨ov, g, ?_⟩
    cases o with
    | none =>
      have : ov = none := by cases ov <;> simp_all
      subst this
      exact h3.here f3 r3
    | some d' =>
      obtain ⟨v', rfl, rv⟩ := g2 d' rfl
      exact h3.here f3 rv
/-! ### list(d.keys()) -/
end
section
open PySem PySem.Spec PyProof.Rows L2
variable {X : Cx}
theorem pe_listKeys {e : Expr} {te : TE} {p apos cpos pos : Pos} (hc : X.calm = true) (he : PE X e te) (hg : Gl X "list") (hm : X.mg "list" = none) (hv : bootBuiltins "list" = some (.type "list")) (hbase : attributeBase e "keys" X.env (eval e X.env) = eval e X.env) (hline : (apos.endLine == cpos.line) = true)
    (hs : starEach [.Call (.Attribute e "keys" apos) [] [] cpos] X.env = (false, eval (.Call (.Attribute e "keys" apos) [] [] cpos) X.env) :: starEach [] X.env) :
    PE X (.Call (.Name "list" p) [.Call (.Attribute e "keys" apos) [] [] cpos] [] pos) (fun σ H Q => te σ H fun x H1 => ∃ a kvs, x = .ref a ∧ Rd H1 a (.dK kvs) ∧ ∀ p, H1 p = none → Q (.ref p) (upd H1 p (.lst (kvs.map fun kv => kV kv.1)))) := by
  refine ⟨fun pins s σ H Q I wish => ?_⟩
  refine wpAny_Call_Name_kw (ld_blt I hg hm hv (PyProof.Rows.callWith_type1 ?_ hs rfl))
  rw [hs]
  refine Calls.spliced_cons (rest := backTo pos (starEach [] X.env)) ?_
  refine wpAny_Call_method (T := "dict") (id := "dict.keys") hbase rfl hline F.plainAttrs_dict F.slot_dict_keys F.type_dict_keys (thn (he.run pins s σ H _ I wish) fun u s1 ⟨x, H1, I1, rx, d, kvs, ex, hd, q⟩ => ?_)
  subst ex
  obtain rfl : u = Value.ref d := rx
  obtain ⟨hz, hs0, vs, kv, hdo⟩ := dk_rd I1.hok hd
  obtain ⟨ep, hat⟩ := hdo.dictAt
  have hl : kvs.length = vs.length := Paired.length kv
  have I2 : Inv X pins σ H1 { s1 with heap := s1.heap.push { cls := .type "dict_keys", data := .fields #[.ref d] } } := I1.kept (t' := s1.toks) fun b ob q => Heap.get?_push_of_some _ q
  refine ⟨hdo.typeIs, hdo.mapOf.noDict, method_meetsIn F.slot_dict_keys F.entry_dict_keys rfl (PySem.evalArgs_none ⟨rfl, hdo.typeIs, F.args_dict_keys_1 _, _, PySem.W.kdl_meets_keys (mixKind X.prog X.w) d hs0, ⟨vs, hdo⟩, Calls.spliced_nil ?_⟩)⟩
  refine PySem.W.kdl_call (PySem.W.kdl_keys (knd := mixKind X.prog X.w) (kvs := vs) (ep := ep)) (I1.ok.hd hc) ⟨⟨_, Heap.get?_push_size _ rfl, rfl, rfl⟩, hat.push _⟩ (by omega) fun h' tk acc cc hk hS hacc => ?_
  have el : acc.toList.length = acc.size := Array.length_toList
  refine ⟨.ref _, upd H1 _ (.lst (kvs.map fun kv => kV kv.1)), I2.laid hk (Nat.le_refl _) (show ObjOk X.prog X.w _ _ _ (.lst (kvs.map fun kv => kV kv.1)) from ⟨by rw [List.length_map]; omega, acc.toList, cc, ?_, by rw [Array.toArray_toList]; exact hS⟩), rfl, q _ (I2.hok.fresh (Nat.le_refl _))⟩
  refine vals_of_at (by rw [List.length_map, el, hacc.1, hl]) fun j x w h1 h2 => ?_
  obtain ⟨k, y, hky, hi⟩ := hacc.2 j w (by rw [← Array.getElem?_toList]; exact h2)
  have e1 : (kvs.map (·.1))[j]? = some k := by
    rw [KV.keys kv, List.getElem?_map, hky] <;> rfl
  have e2 : (kvs.map fun kv => kV kv.1)[j]? = some (kV k) := by
    rw [show (kvs.map fun kv => kV kv.1) = (kvs.map (·.1)).map kV from by rw [List.map_map] <;> rfl, List.getElem?_map, e1] <;> rfl
  rw [e2] at h1
  cases h1
  exact keyIs_rel hi
/-- xs == [], xs != [] -/
def rEqE (neg : Bool) : R2 := fun x y H Q => ∃ a b vs, x = .ref a ∧ y = .ref b ∧ H a = some (.lst vs) ∧ H b = some (.lst []) ∧ Q (.bl (if neg then !vs.isEmpty else vs.isEmpty)) H
theorem op_eqE (hu : X.A.units + 64 < cLine) : OpR X (compareOp .Eq) (rEqE false) := by
  intro pins s σ H x y v u Q I rx ry h
  obtain ⟨a, b, vs, rfl, rfl, h1, h2, q⟩ := h
  cases (show v = Value.ref a from rx); cases (show u = Value.ref b from ry)
  obtain ⟨us, g1, p1, _⟩ := I.list (xs := vs) (.inl (.inl h1))
  obtain ⟨ts, g2, p2, _⟩ := I.list (xs := []) (.inl (.inl h2))
  have e2 : ts = [] := by cases g2; rfl
  subst e2
  cases vs with
  | nil =>
    have e1 : us = [] := by cases g1; rfl
    subst e1
    exact PySem.W.eq_listsT (n := 0) (e := fun _ => true) p1.isList p2.isList rfl (fun j j1 j2 => absurd j1 (Nat.not_lt_zero j)) (by omega) ⟨.bl true, H, I, rfl, q⟩
  | cons v0 vr =>
    have e1 : us.length = vr.length + 1 := by rw [← g1.length]; rfl
    refine SeqAt.RcAt.lists_lengths p1.isList p2.isList ?_ (by omega) X.prog X.w X.xe _ ⟨.bl false, H, I, rfl, q⟩
    simp only [List.size_toArray, e1, List.length_nil]
    rfl
theorem op_neE (hu : X.A.units + 64 < cLine) : OpR X (compareOp .NotEq) (rEqE true) := by
  intro pins s σ H x y v u Q I rx ry h
  obtain ⟨a, b, vs, rfl, rfl, h1, h2, q⟩ := h
  cases (show v = Value.ref a from rx); cases (show u = Value.ref b from ry)
  obtain ⟨us, g1, p1, _⟩ := I.list (xs := vs) (.inl (.inl h1))
  obtain ⟨ts, g2, p2, _⟩ := I.list (xs := []) (.inl (.inl h2))
  have e2 : ts = [] := by cases g2; rfl
  subst e2
  cases vs with
  | nil =>
    have e1 : us = [] := by cases g1; rfl
    subst e1
    exact SeqAt.RcNeAt.lists (e := fun _ => true) p1.isList p2.isList rfl (by omega) (fun j j1 j2 => absurd j1 (Nat.not_lt_zero j)) X.prog X.w X.xe _ ⟨.bl false, H, I, rfl, q⟩
  | cons v0 vr =>
    have e1 : us.length = vr.length + 1 := by rw [← g1.length]; rfl
    refine SeqAt.RcNeAt.lists_lengths p1.isList p2.isList ?_ (by omega) X.prog X.w X.xe _ ⟨.bl true, H, I, rfl, q⟩
    simp only [List.size_toArray, e1, List.length_nil]
    rfl
end
section
variable {c : Ct} {W : WX} {S S' : Hp} {A A' : List Addr} {H H' : Hp} {σ σ' : L2.St} {ρ ρ' : En} {G : GH} {X : Cx} {cl : Str → Addr}
theorem opS_eqE (neg : Bool) : OpS c (rEqE neg) (oEqE neg) := fun S A G H x y dx dy Q E ft rx ry h => by
  unfold oEqE at h
  split at h
  · rename_i xs q1 q2
    obtain ⟨a, vs, rfl, h2, h3⟩ := look_lst ft rx q1
    obtain ⟨b, ws, rfl, h4, h5⟩ := look_lst ft ry q2
    cases h5
    have e : vs.isEmpty = xs.isEmpty := by
      cases h3 <;> rfl
    refine ⟨a, b, vs, rfl, rfl, h2, h4, ?_⟩
    rw [e]
    exact h.here ft (.bl _)
  · exact h.elim
theorem gKeys {e : Expr} {f : EF} {p apos cpos pos : Pos} (hc : X.calm = true) (hm : X.mg "list" = none) (hv : bootBuiltins "list" = some (.type "list")) (ha : PE X e (TXO ⟨X.K, cl⟩ W f)) (hg : Gl X "list" := by rfl) (hbase : attributeBase e "keys" X.env (eval e X.env) = eval e X.env := by rfl) (hline : (apos.endLine == cpos.line) = true := by rfl)
    (hs : starEach [.Call (.Attribute e "keys" apos) [] [] cpos] X.env = (false, eval (.Call (.Attribute e "keys" apos) [] [] cpos) X.env) :: starEach [] X.env := by rfl) :
    PE X (.Call (.Name "list" p) [.Call (.Attribute e "keys" apos) [] [] cpos] [] pos) (TXF ⟨X.K, cl⟩ W (fKeys f)) :=
  (pe_listKeys hc ha hg hm hv hbase hline hs).imp fun σ H Q ⟨ρ, S, A, G, e, ft, h⟩ => (goF f e ft h).imp fun v H1 ⟨S1, A1, G1, d, x1, e1, f1, r1, h1⟩ => by
    split at h1
    · rename_i kds q
      obtain ⟨a, kvs, rfl, h2, h3, h4⟩ := look_dic f1 r1 q
      refine ⟨a, kvs, rfl, h2, fun p hp => ?_⟩
      refine h1.new f1 hp ⟨_, upd_same, ?_⟩
      have key : ∀ (kvs : List (Key × V)) (kds : List (Key × D)), kvs.map Prod.fst = kds.map Prod.fst → ∀ (S : Hp) (A : List Addr), Reps ⟨X.K, cl⟩ S A (kvs.map fun kv => kV kv.1) (kds.map fun kv => keyD kv.1) := by
        intro kvs
        induction kvs with
        | nil =>
          intro kds h S A
          cases kds with
          | nil => exact .nil
          | cons _ _ => cases h
        | cons kv kvs ih =>
          intro kds h S A
          cases kds with
          | nil => cases h
          | cons kd kds =>
            simp only [List.map_cons, List.cons.injEq] at h
            rw [List.map_cons, List.map_cons, h.1]
            exact .cons (keyD_rep _) (ih kds h.2 S A)
      exact key kvs kds h3 _ _
    · exact h1.elim
end
end Gh

set_option Elab.async false
set_option linter.all false
set_option maxRecDepth 100000
set_option maxHeartbeats 1000000
/-! The ghost layer 27: a caught exception is kept. -/
namespace Gh
section
open PySem PySem.Spec PyProof.Rows L2
variable {X : Cx} {pins : List (Addr × Obj)} {σ : L2.St} {H : Hp} {s : Shared}
theorem isExc_ok {P : Program} {w : World} {H : Hp} {h : Heap} {a C : Addr} {oe : Obj} {vs : Array Value} (e : h.get? a = some oe) (z : Zc (.ref C) none oe) (d : oe.data = .fields vs) : ObjOk P w H h a (.ext (IsExc C a)) :=
  ⟨⟨oe, vs, e, z.1, z.2, d⟩, ⟨oe, e⟩, fun _ _ ⟨o, v, q, r⟩ k => ⟨o, v, k o q, r⟩⟩
/-- an object that is new since the def's entry is tracked from now on -/
theorem Inv.keepX {a : Addr} {oe : Obj} {φ : Heap → Prop} (I : Inv X pins σ H s) (ha : s.heap.get? a = some oe) (na : H a = none) (n0 : X.s_0.heap.get? a = none) (nL : a ≠ X.env.locals) (nc : ∀ v, oe.data ≠ .cell v) (np : ∀ p ∈ X.pn ++ pins, p.1 ≠ a)
    (new : ObjOk X.prog X.w (upd H a (.ext φ)) s.heap a (.ext φ)) : Inv X pins σ (upd H a (.ext φ)) s := by
  have none_ne : ∀ b u, H b = some u → b ≠ a := fun b u e z => by rw [z, na] at e; cases e
  refine ⟨I.ok, I.os, I.bare, ⟨I.base.keep, I.base.slot, fun b o e n hx => ?_, I.base.there, fun b xs e => ?_, fun b o u e => ?_, fun b ps e => ?_⟩, I.loc, I.cell, ?_, fun x c e => ?_, fun p hp => ?_, I.hok.laidN (fun _ _ q => q) na new, I.len⟩
  · rw [upd_ne (fun z => by rw [z, n0] at e; cases e)]
    exact I.base.free b o e n hx
  · have q := I.base.tups b xs e
    rw [upd_ne (none_ne _ _ q)]; exact q
  · have q := I.base.frzs b o u e
    rw [upd_ne (none_ne _ _ q)]; exact q
  · obtain ⟨more, q⟩ := I.base.tbls b ps e
    exact ⟨more, by rw [upd_ne (none_ne _ _ q)]; exact q⟩
  · rw [upd_ne (Ne.symm nL)]; exact I.free
  · have hca : c ≠ a := fun z => by
      obtain ⟨v, o, ho, hd⟩ := I.cell x c e
      rw [z, ha] at ho
      cases ho
      exact nc v hd
    rw [upd_ne hca]; exact I.freeC x c e
  · obtain ⟨p1, p2, p3, p4, p5⟩ := I.pin p hp
    exact ⟨p1, by rw [upd_ne (np p hp)]; exact p2, p3, p4, p5⟩
/-- what the clause 'except x as n: suite' wishes: the exception stays -/
def wKp (K : PySem.W.Frag) (c : Value) (i : Nat) (ts : TS) (D : Ends) : WX := fun cls d σ H =>
  ∃ C, cls = .ref C ∧ d = none ∧ PySem.W.exmOne K cls c = some true ∧ ∀ a, H a = none →
    ts { nx := fun σ' H' => H' a = none ∧ D.nx (σ'.set i none) (upd H' a (.ext (IsExc C a))), rt := fun _ _ => False, bk := fun _ _ => False, ct := fun _ _ => False } (σ.set i (some (.ref a))) H
variable {x n : Str} {c : Value} {i : Nat} {body suite : List Stmt} {st0 : Stmt} {np pos pos' : Pos} {tb : WX → TS} {ts : TS}
theorem ps_keep (hs : X.stack = X.env :: X.outer) (hf : X.env.frame = some X.env.locals) (hex : X.ex = []) (hN : X.N.Nodup) (hi : X.N[i]? = some n) (hln : X.env.kindOf n = some .local) (hc : Names X x c)
    (hb : ∀ (W : WX) (pn : List (Addr × Obj)) (xe : Value → Shared → Prop), Takes (X.tr pn xe) W → PSs (X.tr pn xe) body (tb W))
    (hsu : ∀ (a : Addr) (oe : Obj) (pn : List (Addr × Obj)), PSs (X.suite a ((a, oe) :: pn)) (st0 :: suite) ts) :
    PS X (.Try body [.ExceptHandler (some (.Name x np)) (some n) (st0 :: suite) pos'] [] [] pos) (fun D σ H => tb (wKp X.K c i ts D) D σ H) := by
  refine ⟨fun pins s σ H D I wish => ?_⟩
  have ok := I.ok
  have hfr : X.A.frames = some (X.env :: X.outer) := by rw [ok.frames, hs]
  refine wpAny_Try_except (wpAny_mono ((hb (wKp X.K c i ts D) (X.pn ++ pins) _ ?caught).run [] s σ H D (I.toTry _) wish) ?thru fun _ _ z => z)
  case thru =>
    intro f s1 hsp
    cases f with
    | next => obtain ⟨σ', H', J, q⟩ := hsp; exact wpAny_execs_nil ⟨σ', H', J.ofTry ok, q⟩
    | brk => obtain ⟨σ', H', J, q⟩ := hsp; exact ⟨σ', H', J.ofTry ok, q⟩
    | cont => obtain ⟨σ', H', J, q⟩ := hsp; exact ⟨σ', H', J.ofTry ok, q⟩
    | ret u => obtain ⟨v, σ', H', J, r, q⟩ := hsp; exact ⟨v, σ', H', J.ofTry ok, r, q⟩
  case caught =>
    intro u s' air
    obtain ⟨a, B, sI, pins', σ1, H1, cls, d, rfl, J', nb, up, sky, na, os, ag, C, rfl, rfl, hm, hyes⟩ := air
    have J : Inv X pins σ1 H1 sI := J'.ofTry ok
    rw [show (X.tr (X.pn ++ pins) _).stack = X.env :: X.outer from hs] at sky nb
    refine Sky.land Zc.steady hfr hf sky fun h3 fl3 up3 => ?_
    have J3 : Inv X pins σ1 H1 { s' with heap := h3 } := J.landed (by rw [hs]; exact nb) fl3.1 (up.trans up3) os ag
    obtain ⟨oe3, vs3, he3, hz3, hd3⟩ := fl3.there
    -- where the exception stands
    have nfr : a ∉ frs (X.env :: X.outer) := fun hmem => by
      obtain ⟨_, o', e', hnf⟩ := fl3.2.2.1.mem hmem
      rw [he3] at e'; cases e'
      exact hnf _ hd3
    have nL : a ≠ X.env.locals := fun z => nfr (List.mem_filterMap.mpr ⟨X.env, List.mem_cons_self, by rw [hf, z]⟩)
    have nF : a ∉ X.fs := fun hmem => by
      obtain ⟨e, he, q⟩ := List.mem_filterMap.mp hmem
      exact nfr (List.mem_filterMap.mpr ⟨e, List.mem_cons_of_mem _ he, q⟩)
    have nI : sI.heap.get? a = none := by
      cases e : sI.heap.get? a with
      | none => rfl
      | some o =>
        have q := nb a o e nfr
        rw [fl3.2.1] at q
        cases q
    have n0 : X.s_0.heap.get? a = none := by
      cases e : X.s_0.heap.get? a with
      | none => rfl
      | some o =>
        obtain ⟨o', q⟩ := J.base.there a o e (by rw [hex]; exact fun z => nomatch z)
        rw [nI] at q
        cases q
    have np' : ∀ p ∈ X.pn ++ pins, p.1 ≠ a := fun p hp z => by
      have q := (J.pin p hp).1
      rw [z, nI] at q
      cases q
    have S3 := J3.suite he3 hd3 na nL nF
    refine wpAny_handleBy_cons (codeAny_handlers_test ?_) (by intro q; cases q)
    have LT : PySem.W.Looks (model X.prog X.w) h3 (typeOf (.ref a)) (.ref C) := fun A Q E s k q => wpAny_typeOf_ref (k _ _ he3) (by rw [hz3.1]; exact q)
    have LM := PySem.W.exm_one (M := model X.prog X.w) J3.kIn LT hm
    have named : ∀ {Q : Value → Shared → Prop} {E : Value → Shared → Prop}, Q c { s' with heap := h3 } → wpAny (model X.prog X.w) (X.A.mark (some (.ref a))) (eval (.Name x np) X.env) Q E { s' with heap := h3 } := fun {Q E} q => by
      obtain ⟨hg, hdbg, hm | ⟨hm, hv, hnn⟩⟩ := hc
      · exact ld_glob (X := X.suite a ((a, oe3) :: (X.pn ++ pins))) S3 hg hm q hdbg
      · exact ld_blt (X := X.suite a ((a, oe3) :: (X.pn ++ pins))) S3 hg hm hv q hnn hdbg
    refine named (LM.here (codeAny_handlers_suite_as ?_))
    refine HandSPX.lands_againZ fl3 fun h4 fl4 up4 => ?_
    have J4 : Inv X pins σ1 H1 { s' with heap := h4 } := J.landed (by rw [hs]; exact nb) fl4.1 ((up.trans up3).trans up4) os ag
    obtain ⟨oe4, vs4, he4, hz4, hd4⟩ := fl4.there
    have S4 := J4.suite he4 hd4 na nL nF
    refine store_ok (X := X.suite a ((a, oe4) :: (X.pn ++ pins))) (v := .ref a) S4 hN hi (.inl hln) rfl (fun s5 S5 => ?_) (.inr hln)
    refine wpAny_mono ((hsu a oe4 (X.pn ++ pins)).run [] s5 _ H1 _ S5 (hyes a na)) (fun f s6 hsp => ?_) fun _ _ z => False.elim z
    cases f with
    | next =>
      obtain ⟨σ6, H6, S6, n6, q6⟩ := hsp
      have K6 : Inv X ((a, oe4) :: pins) σ6 H6 s6 := ⟨ok, S6.os, S6.bare, S6.base, S6.loc, S6.cell, S6.free, S6.freeC, fun p hp => S6.pin p (by
        rw [List.append_nil]
        rcases List.mem_append.mp hp with z | z
        · exact List.mem_cons_of_mem _ (List.mem_append_left _ z)
        · rcases List.mem_cons.mp z with z | z
          · rw [z]; exact List.mem_cons_self
          · exact List.mem_cons_of_mem _ (List.mem_append_right _ z)), S6.hok, S6.len⟩
      refine gone_ok K6 hN hi hln fun s7 J7 => ?_
      have p7 := J7.pin (a, oe4) (List.mem_append_right _ List.mem_cons_self)
      have J7' : Inv X pins (σ6.set i none) H6 s7 := ⟨ok, J7.os, J7.bare, J7.base, J7.loc, J7.cell, J7.free, J7.freeC, fun p hp => J7.pin p (by
        rcases List.mem_append.mp hp with z | z
        · exact List.mem_append_left _ z
        · exact List.mem_append_right _ (List.mem_cons_of_mem _ z)), J7.hok, J7.len⟩
      exact ⟨σ6.set i none, _, Gh.Inv.keepX J7' p7.1 p7.2.1 n0 nL p7.2.2.2.2 np' (isExc_ok p7.1 hz4 hd4), q6⟩
    | brk => obtain ⟨_, _, _, q⟩ := hsp; exact q.elim
    | cont => obtain ⟨_, _, _, q⟩ := hsp; exact q.elim
    | ret u => obtain ⟨_, _, _, _, _, q⟩ := hsp; exact q.elim
end
end Gh

set_option Elab.async false
set_option linter.all false
set_option maxRecDepth 100000
set_option maxHeartbeats 1000000
/-! The ghost layer 28: raise, try, isinstance of what was caught. -/
namespace Gh
open PySem L2
def sRaise (n : Str) : SF := fun ρ G => .ok (.ex n ρ) G
/-- try: b / except .. as i: j = i; the classes ks are caught -/
def sTry (ks : List Str) (b : SF) (j i : Nat) : SF := fun ρ G => (b ρ G).bind fun f G1 => match f with
  | .ex n ρ1 => if n ∈ ks ∧ i < ρ1.length then .ok (.nx (((ρ1.set i (some (.v (.exc n)))).set j (some (.v (.exc n)))).set i none)) G1 else .stuck
  | f => .ok f G1
/-- isinstance(e, t) of an exception: ks its classes -/
def oIsx (ks : List (Str × Bool)) (d : D) (G : GH) : R D := match d with
  | .exc n => (match ks.lookup n with
    | some b => .ok (.bl b) G
    | none => .stuck)
  | _ => .stuck
/-- what the text says of an own exception class -/
structure ExcF (K : PySem.W.Frag) (mg : Str → Option Value) (cl : Str → Addr) (bmB : List Value) (newId : String) (x : Str) : Prop where
  g : mg x = some (.ref (cl x))
  q : PySem.W.excIn K (cl x) bmB newId = true
  k : PySem.W.keepIn K (.ref (cl x)) = true
  h1 : PySem.W.subIn K (.ref (cl x)) (.type "BaseException") = some true
  h2 : PySem.W.typeIn K (.ref (cl x)) = some (.type "type")
section
variable {X : Cx} {cl : Str → Addr} {c : Ct} {W : WX} {S S' : Hp} {A A' : List Addr} {H H' : Hp} {σ σ' : L2.St} {ρ ρ' : En} {G : GH}
theorem gRaise {x m : Str} {j : Nat} {p p2 p3 pos : Pos} {bmB : List Value} {B newId initId : String} (hc : X.calm = true) (tk : Takes X W) (F : PySem.ExcBaseFacts B newId initId bmB) (e : ExcF X.K X.mg cl bmB newId x) (hg : Gl X x := by rfl) (hd : (x == ("__debug__" : Str)) = false := by decide) :
    PS X (.Raise (some (.Call (.Name x p) [.Constant (.str m) j p2] [] p3)) none pos) (TXS ⟨X.K, cl⟩ W (sRaise x)) :=
  (ps_raise hc tk (pmk_own F e.q e.g e.k (raises_own e.h1 e.h2) hg hd)).imp fun D σ H ⟨ρ, S, A, G, ev, ft, h⟩ => h σ S A H SS.refl ft ev
theorem EnvOk.unset (e : EnvOk c S A H σ ρ) (i : Nat) : EnvOk c S A H (σ.set i none) (ρ.set i none) := by
  have key : ∀ {j : Nat} {x : SV}, (ρ.set i none)[j]? = some (some x) → i ≠ j ∧ ρ[j]? = some (some x) := fun {j x} h => by
    rw [List.getElem?_set] at h
    by_cases q : i = j
    · subst q
      simp only [if_true] at h
      split at h <;> cases h
    · rw [if_neg q] at h; exact ⟨q, h⟩
  refine ⟨by simp [e.len], fun j d h => ?_, fun j x h => ?_, fun j k x y a h1 h2 h3 h4 => ?_⟩
  · obtain ⟨n, h⟩ := key h
    rw [List.getElem?_set, if_neg n]; exact e.val j d h
  · obtain ⟨n, h⟩ := key h
    rw [List.getElem?_set, if_neg n]; exact e.own j x h
  · obtain ⟨n1, h1⟩ := key h1
    obtain ⟨n2, h2⟩ := key h2
    rw [List.getElem?_set, if_neg n1] at h3
    rw [List.getElem?_set, if_neg n2] at h4
    exact e.inj j k x y a h1 h2 h3 h4
theorem ow_unset {i : Nat} {a : Addr} (h : Ow (σ.set i none) (ρ.set i none) a) : Ow σ ρ a := by
  obtain ⟨j, x, h1, h2⟩ := h
  rw [List.getElem?_set] at h1 h2
  by_cases q : i = j
  · subst q
    simp only [if_true] at h1
    split at h1 <;> cases h1
  · rw [if_neg q] at h1 h2
    exact ⟨j, x, h1, h2⟩
theorem gTry {x n m : Str} {i j : Nat} {cc : Value} {ks : List Str} {b : SF} {body : List Stmt} {np pm pn' pa pos pos' : Pos} (hs : X.stack = X.env :: X.outer) (hf : X.env.frame = some X.env.locals) (hex : X.ex = []) (hN : X.N.Nodup) (hc : Names X x cc) (hcl : ∀ k ∈ ks, PySem.W.exmOne X.K (.ref (cl k)) cc = some true)
    (hb : ∀ (W : WX) (pn : List (Addr × Obj)) (xe : Value → Shared → Prop), Takes (X.tr pn xe) W → PSs (X.tr pn xe) body (TXS ⟨X.K, cl⟩ W b))
    (hi : X.N[i]? = some n := by rfl) (hj : X.N[j]? = some m := by rfl) (hln : X.env.kindOf n = some .local := by rfl) (hlm : X.env.scope.names.lookup m = some .local := by rfl) (hd : (n == ("__debug__" : Str)) = false := by decide) (hcd : (n == ("__classdict__" : Str)) = false := by decide)
    (hsw : swapsWith (.Name n pn') (some (.Name m pm)) pa.line X.env = pure false := by rfl) :
    PS X (.Try body [.ExceptHandler (some (.Name x np)) (some n) [.Assign [.Name m pm] (.Name n pn') pa] pos'] [] [] pos) (TXS ⟨X.K, cl⟩ W (sTry ks b j i)) := by
  refine (ps_keep (i := i) (ts := tAsg (tVar i) (gName j)) (tb := fun W => TXS ⟨X.K, cl⟩ W b) hs hf hex hN hi hln hc hb fun a oe pn => pss_one (ps_set (X := X.suite a ((a, oe) :: pn)) hN hj (.inl hlm) (pe_var hi (.inl hln) hd hcd) hsw (.inr hlm))).imp fun D σ H ⟨ρ, S, A, G, e, ft, h⟩ => ⟨ρ, S, A, G, e, ft, ?_⟩
  unfold sTry at h
  cases q : b ρ G with
  | stuck => rw [q] at h; exact h
  | ex n1 G1 => rw [q] at h; exact h.elim
  | ok fl G1 =>
    rw [q] at h
    cases fl with
    | nx ρ1 => exact h
    | bk ρ1 => exact h
    | ct ρ1 => exact h
    | rt d => exact h
    | ex n1 ρ1 =>
      dsimp only [R.bind] at h
      split at h
      case isFalse => exact h.elim
      case isTrue hk =>
      intro σ1 S1 A1 H1 x1 f1 e1
      refine ⟨cl n1, rfl, rfl, hcl n1 hk.1, fun a ha => ?_⟩
      have hil : i < σ1.length := by rw [e1.len]; exact hk.2
      refine ⟨.ref a, by rw [List.getElem?_set_self hil], ha, ?_⟩
      have z := es_new (o := .ext (IsExc (cl n1) a)) f1 ha
      have r : Rep ⟨X.K, cl⟩ (upd S1 a (.ext (IsExc (cl n1) a))) A1 (.ref a) (.exc n1) := .exc upd_same
      refine h _ _ _ _ ?_ (f1.new ha) ((((e1.step z).set r i).set r j).unset i)
      have y := x1.trans (z.ow _)
      exact y.drop fun b hb => y.newO b (ow_set (ow_set (ow_unset hb)))
/-! ### isinstance of what was caught -/
end
section
open PySem PySem.Spec PyProof.Rows L2
variable {X : Cx} {cl : Str → Addr} {W : WX}
/-- isinstance(e, t), e tracked -/
def rIsX (K : PySem.W.Frag) (cv : Value) : List V → Hp → VK → Prop := fun xs H Q => ∃ (a C : Addr) (cw : V) (b : Bool), xs = [.ref a, cw] ∧ H a = some (.ext (IsExc C a)) ∧ ExcC K C ∧ (∀ u, RelV cw u → u = cv) ∧ PySem.W.kitOne K (.ref C) cv = some b ∧ Q (.bl b) H
theorem call_isX {cv : Value} : CallR X (.builtin "isinstance") (rIsX X.K cv) := by
  intro pins s σ H xs us Q I r h
  obtain ⟨a, C, cw, b, rfl, hH, hC, hcv, e, q⟩ := h
  cases r with
  | cons rx rr =>
    cases rr with
    | cons rt rr =>
      cases rr
      cases rx
      have ec := hcv _ rt
      subst ec
      obtain ⟨⟨oe, vs, g1, g2, g3, g4⟩, _, _⟩ := (show ObjOk X.prog X.w H s.heap a (.ext (IsExc C a)) from I.hok a _ hH)
      have J : PySem.W.InstAt s.heap a oe C none := by
        obtain ⟨oc, od, oda, osl⟩ := oe
        dsimp only at g2 g3 g4
        subst g2 g3 g4
        exact ⟨g1, rfl, rfl, trivial⟩
      exact PySem.W.kia_one (PySem.W.handS_kitx_exc hC.hg hC.hk hC.hs hC.hd hC.ha hC.hn hC.ht hC.hm) I.kIn J e (fun z => nomatch z) fun tk => ⟨.bl b, H, I.kept (t' := tk) fun _ _ z => z, rfl, q⟩
end
section
variable {X : Cx} {cl : Str → Addr} {c : Ct} {W : WX} {S S' : Hp} {A A' : List Addr} {H H' : Hp} {σ σ' : L2.St} {ρ ρ' : En} {G : GH}
theorem exc_rep {v : V} {n : Str} (ft : Fits c S A G H) (r : RepV c S A H v (.exc n)) : ∃ a, v = .ref a ∧ H a = some (.ext (IsExc (c.cl n) a)) := by
  rcases r with r | ⟨_, _, _, _, _, _, z⟩
  · cases r with
    | exc h => exact ⟨_, rfl, ft.sub.at h⟩
  · cases z
/-- isinstance(e, T), T a class of the text -/
theorem gIsxO {ks : List (Str × Bool)} {e : Expr} {t : Str} {C : Addr} {f : EF} {p p2 pos : Pos} (hm : X.mg "isinstance" = none) (hm2 : X.mg t = some (.ref C)) (hE : ∀ n b, ks.lookup n = some b → ExcC X.K (cl n) ∧ PySem.W.kitOne X.K (.ref (cl n)) (.ref C) = some b) (ha : PE X e (TXO ⟨X.K, cl⟩ W f)) (hg : Gl X "isinstance" := by rfl) (hg2 : Gl X t := by rfl)
    (hd2 : (t == ("__debug__" : Str)) = false := by decide) (h1 : starEach [e, .Name t p2] X.env = (false, eval e X.env) :: starEach [.Name t p2] X.env := by rfl) (h1' : starEach [.Name t p2] X.env = (false, eval (.Name t p2) X.env) :: starEach [] X.env := by rfl) (h2 : (backTo pos (starEach [.Name t p2] X.env)).any (·.1) = false := by rfl) :
    PE X (.Call (.Name "isinstance" p) [e, .Name t p2] [] pos) (TX ⟨X.K, cl⟩ W (mUn (oIsx ks) f)) :=
  (pe_callB (call_isX (cv := .ref C)) hg hm (by decide +kernel) (pa_cons ha (pa_cons (pe_glob (v := .ref C) hg2 hm2 rfl hd2) pa_nil h1') h1) (by decide) (by decide) h1 h2).imp fun σ H Q ⟨ρ, S, A, G, e, ft, h⟩ => (go f e ft h).imp fun v H1 ⟨S1, A1, G1, d, x1, e1, f1, r1, h1⟩ => by
    unfold oIsx at h1
    split at h1
    · split at h1
      · rename_i n _ b hb
        obtain ⟨a, rfl, hH⟩ := exc_rep f1 r1
        obtain ⟨z1, z2⟩ := hE _ _ hb
        exact ⟨a, _, .ref C, b, rfl, hH, z1, fun u r => r, z2, h1.here f1 (.bl _)⟩
      · exact h1.elim
    · exact h1.elim
end
end Gh

set_option Elab.async false
set_option linter.all false
set_option maxRecDepth 100000
set_option maxHeartbeats 1000000
/-! The ghost layer 29: kinds.count(True), isinstance(e, ValueError), what is never reached. -/
namespace Gh
section
open PySem PySem.Spec PyProof.Rows L2
variable {X : Cx} {cl : Str → Addr} {W : WX}
def eqbV (k : Bool) : Value → Bool
  | .bool b => b == k
  | _ => false
def rCntB (K : PySem.W.Frag) : V → List V → Hp → VK → Prop := fun x xs H Q => ∃ (p : Addr) (bs : List Bool) (k : Bool), x = .ref p ∧ xs = [.bl k] ∧ SqL K H p (bs.map V.bl) ∧ Q (.int (bs.count k : Nat)) H
theorem bools_of : ∀ {bs : List Bool} {its : List Value}, Vals (bs.map V.bl) its → its = bs.map Value.bool
  | [], _, .nil => rfl
  | b :: bs, _, .cons r rr => by rw [bools_of rr]; cases r; rfl
theorem mt_countB : MtR X "list.count" (rCntB X.K) := by
  intro pins s σ H x xs v us Q I rx rxs h
  obtain ⟨p, bs, k, rfl, rfl, hs, q⟩ := h
  cases rx
  obtain ⟨u, rfl, ru⟩ := rxs.one
  cases ru
  obtain ⟨its, rv, ⟨⟨cls, dd, data, sl⟩, n, ho, hc, hdn, hd⟩, hlen⟩ := I.list hs
  simp only at hc hd
  subst hc hd
  have hi := bools_of rv
  subst hi
  refine call_meets PySem.F.slot_list_count ⟨_, ho, rfl⟩ PySem.F.entry_list_count (PySem.F.args_list_count_2 _ _) (SeqAt.list_countAt p _ n dd sl (.bool k) (eqbV k)) ⟨ho, fun y hy => ?_, ?_⟩
  · have hy' : y ∈ bs.map Value.bool := by simpa using hy
    obtain ⟨b, _, rfl⟩ := List.mem_map.mp hy'
    exact SeqAt.EqAt.bool_bool b k
  · have ec : ∀ l : List Bool, (l.map Value.bool).countP (eqbV k) = l.count k := by
      intro l
      induction l with
      | nil => rfl
      | cons b l ih => rw [List.map_cons, List.countP_cons, ih, List.count_cons]; rfl
    refine ⟨.int (bs.count k : Nat), H, I.tok _, ⟨s.toks, ?_⟩, q⟩
    show Value.int (((bs.map Value.bool).toArray.toList.countP (eqbV k) : Nat) : Int) s.toks = Value.int ((bs.count k : Nat) : Int) s.toks
    rw [show (bs.map Value.bool).toArray.toList = bs.map Value.bool by simp, ec]
end
open PySem L2
def oCount (x y : D) (G : GH) : R D := match view G x, y with
  | .lst xs, .bl k => (match blsOf xs with
    | some bs => .ok (.int (bs.count k : Nat)) G
    | none => .stuck)
  | _, _ => .stuck
def mCount (fo fe : EF) : EF := fun ρ G => (fo ρ G).bind fun x G1 => if isL (view G1 x) = true then (fe ρ G1).bind fun y G2 => oCount x y G2 else .stuck
def mNever : EF := fun _ _ => .stuck
section
variable {X : Cx} {cl : Str → Addr} {c : Ct} {W : WX} {S S' : Hp} {A A' : List Addr} {H H' : Hp} {σ σ' : L2.St} {ρ ρ' : En} {G : GH}
theorem gNeverE {e : Expr} : PE X e (TX ⟨X.K, cl⟩ W mNever) := ⟨fun _ _ _ _ _ _ ⟨_, _, _, _, _, _, h⟩ => h.elim⟩
theorem gCount {o e : Expr} {fo fe : EF} {apos cpos : Pos} (ho : PE X o (TXO ⟨X.K, cl⟩ W fo)) (he : PE X e (TX ⟨X.K, cl⟩ W fe))
    (hbase : attributeBase o "count" X.env (eval o X.env) = eval o X.env := by rfl)
    (hfew : ((backTo cpos (starEach (e :: []) X.env)).all (fun x => !x.1) && (backToKw cpos (keywordEach [] X.env)).all (fun x => x.1.isSome)
      && decide ((e :: []).length + ([] : List Keyword).length + (if ([] : List Keyword).isEmpty then 0 else 1) < 30)) = true := by rfl)
    (hline : (apos.endLine == cpos.line) = true := by rfl) (hs : starEach (e :: []) X.env = (false, eval e X.env) :: starEach [] X.env := by rfl) (hplain : (backTo cpos (starEach [] X.env)).any (·.1) = false := by rfl) :
    PE X (.Call (.Attribute o "count" apos) [e] [] cpos) (TX ⟨X.K, cl⟩ W (mCount fo fe)) := by
  refine (pe_bm PySem.F.plainAttrs_list PySem.F.slot_list_count PySem.F.type_list_count mt_countB ho (pa_cons he pa_nil hs) hbase hfew hline hs hplain).imp fun σ H Q ⟨ρ, S, A, G, ev, ft, h⟩ => ?_
  refine (go fo ev ft h).imp fun v H1 ⟨S1, A1, G1, d, x1, e1, f1, r1, h1⟩ => ?_
  split at h1
  case isFalse => exact h1.elim
  case isTrue hv =>
  obtain ⟨ds, hds⟩ : ∃ ds, view G1 d = .lst ds := by
    cases q : view G1 d with
    | lst ds => exact ⟨ds, rfl⟩
    | _ => rw [q] at hv; cases hv
  obtain ⟨a, vs, rfl, g2, g3⟩ := look_lst f1 r1 hds
  refine ⟨.inl ⟨rfl, vs, .inl (.inl g2)⟩, (go fe e1 f1 h1).imp fun y H2 ⟨S2, A2, G2, d2, x2, e2, f2, r2, h2⟩ => ?_⟩
  unfold oCount at h2
  split at h2
  · rename_i xs k q
    split at h2
    · rename_i bs hb
      obtain ⟨a', ws, ea, k2, k3⟩ := look_lst f2 (RepV.mono x2 r1) q
      cases ea
      cases r2
      rw [bls_rep k3 hb] at k2
      exact ⟨a, bs, k, rfl, rfl, .inl (.inl k2), h2.here f2 (.int _)⟩
    · exact h2.elim
  · exact h2.elim
/-- isinstance(e, T), T a built-in class -/
theorem gIsxB {ks : List (Str × Bool)} {e : Expr} {t : Str} {T : String} {f : EF} {p p2 pos : Pos} (hm : X.mg "isinstance" = none) (hm2 : X.mg t = none) (hv2 : bootBuiltins t = some (.type T)) (hE : ∀ n b, ks.lookup n = some b → ExcC X.K (cl n) ∧ PySem.W.kitOne X.K (.ref (cl n)) (.type T) = some b) (ha : PE X e (TXO ⟨X.K, cl⟩ W f)) (hg : Gl X "isinstance" := by rfl) (hg2 : Gl X t := by rfl)
    (hn2 : t ≠ "__name__" := by decide) (hd2 : (t == ("__debug__" : Str)) = false := by decide) (h1 : starEach [e, .Name t p2] X.env = (false, eval e X.env) :: starEach [.Name t p2] X.env := by rfl) (h1' : starEach [.Name t p2] X.env = (false, eval (.Name t p2) X.env) :: starEach [] X.env := by rfl) (h2 : (backTo pos (starEach [.Name t p2] X.env)).any (·.1) = false := by rfl) :
    PE X (.Call (.Name "isinstance" p) [e, .Name t p2] [] pos) (TX ⟨X.K, cl⟩ W (mUn (oIsx ks) f)) :=
  (pe_callB (call_isX (cv := .type T)) hg hm (by decide +kernel) (pa_cons ha (pa_cons (pe_bltn (v := .ty T) hg2 hm2 hv2 rfl hn2 hd2) pa_nil h1') h1) (by decide) (by decide) h1 h2).imp fun σ H Q ⟨ρ, S, A, G, e, ft, h⟩ => (go f e ft h).imp fun v H1 ⟨S1, A1, G1, d, x1, e1, f1, r1, h1⟩ => by
    unfold oIsx at h1
    split at h1
    · split at h1
      · rename_i n _ b hb
        obtain ⟨a, rfl, hH⟩ := exc_rep f1 r1
        obtain ⟨z1, z2⟩ := hE _ _ hb
        exact ⟨a, _, .ty T, b, rfl, hH, z1, fun u r => r, z2, h1.here f1 (.bl _)⟩
      · exact h1.elim
    · exact h1.elim
end
end Gh

set_option Elab.async false
set_option linter.all false
set_option maxRecDepth 100000
set_option maxHeartbeats 1000000
/-! The ghost layer 30: list(range(a, b)). -/
namespace Gh
open PySem L2
def fRng2 (fa fb : EF) : FF := fun ρ G => (fa ρ G).bind fun x G1 => (fb ρ G1).bind fun y G2 => match x, y with
  | .int a, .int b => if 0 ≤ a ∧ a ≤ 100000 ∧ 0 ≤ b ∧ b ≤ 100000 then .ok (.lst (upto a (b - a).toNat)) G2 else .stuck
  | _, _ => .stuck
section
variable {X : Cx} {cl : Str → Addr} {c : Ct} {W : WX} {S S' : Hp} {A A' : List Addr} {H H' : Hp} {σ σ' : L2.St} {ρ ρ' : En} {G : GH}
theorem rgV_rep (a b : Int) : Reps c S A (rgV a b) (upto a (b - a).toNat) := by
  unfold rgV upto
  generalize List.range (b - a).toNat = l
  induction l with
  | nil => exact .nil
  | cons i l ih => exact .cons (.int _) ih
theorem gRng2 {a b : Expr} {fa fb : EF} {p p' pos pos' : Pos} (hc : X.calm = true) (hm : X.mg "list" = none) (hmr : X.mg "range" = none) (ha : PE X a (TX ⟨X.K, cl⟩ W fa)) (hb : PE X b (TX ⟨X.K, cl⟩ W fb)) (hg : Gl X "list" := by rfl) (hgr : Gl X "range" := by rfl)
    (na : starEach [a, b] X.env = (false, eval a X.env) :: starEach [b] X.env := by rfl) (nb : starEach [b] X.env = (false, eval b X.env) :: starEach [] X.env := by rfl)
    (np : (backTo pos' (starEach [b] X.env)).any (·.1) = false := by rfl)
    (nc : starEach [.Call (.Name "range" p') [a, b] [] pos'] X.env = (false, eval (.Call (.Name "range" p') [a, b] [] pos') X.env) :: starEach [] X.env := by rfl) :
    PE X (.Call (.Name "list" p) [.Call (.Name "range" p') [a, b] [] pos'] [] pos) (TXF ⟨X.K, cl⟩ W (fRng2 fa fb)) := by
  refine (pe_listRg hc hg hm (prg_2 hgr hmr ha hb na nb np) nc).imp fun σ H Q ⟨ρ, S, A, G, e, ft, h⟩ => ?_
  refine (goF fa e ft h).imp fun x H1 ⟨S1, A1, G1, d, x1, e1, f1, r1, h1⟩ => ?_
  refine (goF fb e1 f1 h1).imp fun y H2 ⟨S2, A2, G2, d2, x2, e2, f2, r2, h2⟩ => ?_
  cases d with
  | int i =>
    cases d2 with
    | int j =>
      dsimp only at h2
      split at h2
      · rename_i hq
        cases r1; cases r2
        exact ⟨i, j, rfl, rfl, RgOk.of_le hq.1 (by omega) (by omega) (by omega), fun q hq => h2.new f2 hq ⟨_, upd_same, rgV_rep i j⟩⟩
      · exact h2.elim
    | _ => exact h2.elim
  | _ => exact h2.elim
end
end Gh
namespace Gh
open PySem
theorem lk_n {P : Str → Bool → Prop} : ∀ n b, ([] : List (Str × Bool)).lookup n = some b → P n b := fun n b h => by cases h
theorem lk_c {P : Str → Bool → Prop} {k : Str} {v : Bool} {r : List (Str × Bool)} (h : P k v) (hr : ∀ n b, r.lookup n = some b → P n b) : ∀ n b, ((k, v) :: r).lookup n = some b → P n b := fun n b e => by
  rw [List.lookup_cons] at e
  split at e
  · rename_i q
    have : n = k := by simpa using q
    subst this; cases e; exact h
  · exact hr n b e
theorem mem_n {P : Str → Prop} : ∀ k ∈ ([] : List Str), P k := fun k h => by cases h
theorem mem_c {P : Str → Prop} {x : Str} {r : List Str} (h : P x) (hr : ∀ k ∈ r, P k) : ∀ k ∈ x :: r, P k := fun k hk => by
  rcases List.mem_cons.mp hk with e | e
  · rw [e]; exact h
  · exact hr k e
end Gh

set_option Elab.async false
set_option linter.all false
set_option maxRecDepth 100000
set_option maxHeartbeats 4000000
/-! The ghost layer 22: what a mirror answers, told by a wish (no program in sight from here on). -/
namespace Gh
open PySem
/-- r is an answer that P likes -/
def Post {α : Type} (r : R α) (P : α → GH → Prop) : Prop := match r with
  | .ok a G => P a G
  | _ => False
section
variable {α β : Type} {P : α → GH → Prop} {Q : β → GH → Prop} {r : R α} {k : α → GH → R β} {ρ : En} {G : GH}
theorem Post.ok {a : α} : Post (.ok a G) P ↔ P a G := Iff.rfl
theorem Post.stuck : Post (.stuck : R α) P ↔ False := Iff.rfl
theorem Post.bind : Post (r.bind k) Q ↔ Post r fun a G1 => Post (k a G1) Q := by
  cases r <;> exact Iff.rfl
theorem Post.inS {r : R α} {k : α → GH → R Fl} {Q : Fl → GH → Prop} (h : Post r fun a G1 => Post (k a G1) Q) : Post (Gh.inS r ρ k) Q := by
  cases r with
  | ok a G => exact h
  | ex n G => exact h.elim
  | stuck => exact h.elim
theorem Post.mono {P' : α → GH → Prop} (h : Post r P) (q : ∀ a G, P a G → P' a G) : Post r P' := by
  cases r with
  | ok a G => exact q _ _ h
  | ex n G => exact h
  | stuck => exact h
theorem Post.eq (h : Post r P) : ∃ a G, r = .ok a G ∧ P a G := by
  cases r with
  | ok a G => exact ⟨a, G, rfl, h⟩
  | ex n G => exact h.elim
  | stuck => exact h.elim
theorem Post.of_eq {a : α} {G : GH} (e : r = .ok a G) (h : P a G) : Post r P := by rw [e]; exact h
theorem Post.ite {c : Prop} [Decidable c] {a : R α} : Post (if c then a else .stuck) P ↔ c ∧ Post a P := by
  by_cases h : c
  · simp [h]
  · simp [h, Post]
theorem Post.ofO {o : Option D} {P : D → GH → Prop} : Post (ofO o G) P ↔ ∃ d, o = some d ∧ P d G := by
  cases o <;> simp [Gh.ofO, Post]
end
/-! ### the pieces -/
section
variable {P : D → GH → Prop} {Pl : List D → GH → Prop} {Pb : Bool → GH → Prop} {Pf : Fl → GH → Prop} {Pc : Cell → GH → Prop} {ρ : En} {G : GH} {f g e : EF} {a b : AF} {t u : BF} {x y : SF}
theorem p_var {i : Nat} {d : D} (h : ρ[i]? = some (some (.v d))) (q : P d G) : Post (mVar i ρ G) P := by unfold mVar; rw [h]; exact q
theorem p_varO {i : Nat} {d : D} (h : ρ[i]? = some (some (.v d))) (q : P d G) : Post (mVarO i ρ G) P := by unfold mVarO; rw [h]; exact q
theorem p_varL {i : Nat} {xs : List D} (h : ρ[i]? = some (some (.own (.lst xs)))) (q : P (.lst xs) G) : Post (mVarO i ρ G) P := by unfold mVarO; rw [h]; exact q
theorem p_varD {i : Nat} {xs : List (L2.Key × D)} (h : ρ[i]? = some (some (.own (.dic xs)))) (q : P (.dic xs) G) : Post (mVarO i ρ G) P := by unfold mVarO; rw [h]; exact q
theorem p_c {d : D} (q : P d G) : Post (mC d ρ G) P := q
theorem p_nil (q : Pl [] G) : Post (mNil ρ G) Pl := q
theorem p_cons (h : Post (f ρ G) fun d G1 => Post (a ρ G1) fun ds G2 => Pl (d :: ds) G2) : Post (mCons f a ρ G) Pl := Post.bind.mpr (h.mono fun d G1 h1 => Post.bind.mpr h1)
theorem p_op {o : D → D → GH → R D} (h : Post (f ρ G) fun d G1 => Post (g ρ G1) fun d2 G2 => Post (o d d2 G2) P) : Post (mOp o f g ρ G) P := Post.bind.mpr (h.mono fun d G1 h1 => Post.bind.mpr h1)
theorem p_un {o : D → GH → R D} (h : Post (f ρ G) fun d G1 => Post (o d G1) P) : Post (mUn o f ρ G) P := Post.bind.mpr h
theorem p_call {m : List D → GH → R D} (h : Post (a ρ G) fun ds G1 => Post (m ds G1) P) : Post (mCall m a ρ G) P := Post.bind.mpr h
theorem p_tup (h : Post (a ρ G) fun ds G1 => ds.length ≤ LIM ∧ P (.tup ds) G1) : Post (mTup a ρ G) P := Post.bind.mpr (h.mono fun ds G1 h1 => Post.ite.mpr h1)
theorem p_lst (h : Post (a ρ G) fun ds G1 => ds.length ≤ LIM ∧ P (.lst ds) G1) : Post (mLst a ρ G) P := Post.bind.mpr (h.mono fun ds G1 h1 => Post.ite.mpr h1)
theorem p_fz {F : FF} (h : Post (F ρ G) fun c G1 => Post (frz c G1) P) : Post (mFz F ρ G) P := Post.bind.mpr h
theorem p_cel {F : FF} (h : Post (F ρ G) fun c G1 => P (.cel G1.length) (G1 ++ [c])) : Post (mCel F ρ G) P := Post.bind.mpr h
theorem p_fLst (h : Post (a ρ G) fun ds G1 => ds.length ≤ LIM ∧ Pc (.lst ds) G1) : Post (fLst a ρ G) Pc := Post.bind.mpr (h.mono fun ds G1 h1 => Post.ite.mpr h1)
theorem p_fComp (h : Post (a ρ G) fun ds G1 => Pc (.lst ds) G1) : Post (fComp a ρ G) Pc := Post.bind.mpr h
theorem p_B (h : Post (f ρ G) fun d G1 => ∃ k, d = .bl k ∧ Pb k G1) : Post (mB f ρ G) Pb := Post.bind.mpr (h.mono fun d G1 ⟨k, e, q⟩ => by subst e; exact q)
theorem p_And (h : Post (t ρ G) fun k G1 => if k = true then Post (u ρ G1) Pb else Pb false G1) : Post (mAnd t u ρ G) Pb := Post.bind.mpr (h.mono fun k G1 h1 => by cases k <;> exact h1)
theorem p_Or (h : Post (t ρ G) fun k G1 => if k = true then Pb true G1 else Post (u ρ G1) Pb) : Post (mOr t u ρ G) Pb := Post.bind.mpr (h.mono fun k G1 h1 => by cases k <;> exact h1)
theorem p_Not (h : Post (t ρ G) fun k G1 => Pb (!k) G1) : Post (mNot t ρ G) Pb := Post.bind.mpr h
theorem p_AndV (h : Post (mB f ρ G) fun k G1 => if k = true then Post (g ρ G1) P else P (.bl false) G1) : Post (mAndV f g ρ G) P := Post.bind.mpr (h.mono fun k G1 h1 => by cases k <;> exact h1)
theorem p_OrV (h : Post (mB f ρ G) fun k G1 => if k = true then P (.bl true) G1 else Post (g ρ G1) P) : Post (mOrV f g ρ G) P := Post.bind.mpr (h.mono fun k G1 h1 => by cases k <;> exact h1)
theorem p_NotV (h : Post (mB f ρ G) fun k G1 => P (.bl !k) G1) : Post (mNotV f ρ G) P := Post.bind.mpr h
theorem p_If (h : Post (t ρ G) fun k G1 => if k = true then Post (f ρ G1) P else Post (g ρ G1) P) : Post (mIf t f g ρ G) P := Post.bind.mpr (h.mono fun k G1 h1 => by cases k <;> exact h1)
theorem p_Tru (h : Post (f ρ G) fun d G1 => Post (oTru d G1) Pb) : Post (mTru f ρ G) Pb := Post.bind.mpr h
theorem p_Chain {o o' : D → D → GH → R D} (h : Post (f ρ G) fun d G1 => Post (g ρ G1) fun d2 G2 => Post (o d d2 G2) fun k G3 => ∃ kb, k = .bl kb ∧ if kb = true then Post (e ρ G3) fun d3 G4 => Post (o' d2 d3 G4) P else P (.bl false) G3) : Post (mChain o o' f g e ρ G) P :=
  Post.bind.mpr (h.mono fun d G1 h1 => Post.bind.mpr (h1.mono fun d2 G2 h2 => Post.bind.mpr (Post.bind.mpr (h2.mono fun k G3 ⟨kb, e1, h3⟩ => by
    subst e1
    show Post (if kb = true then _ else _) P
    cases kb
    · exact h3
    · exact Post.bind.mpr h3))))
/-! ### statements -/
theorem p_seq (h : Post (x ρ G) fun fl G1 => match fl with | .nx ρ1 => Post (y ρ1 G1) Pf | fl => Pf fl G1) : Post (sSeq x y ρ G) Pf := Post.bind.mpr (h.mono fun fl G1 h1 => by cases fl <;> exact h1)
theorem p_asg {i : Nat} (h : Post (f ρ G) fun d G1 => Pf (.nx (ρ.set i (some (.v d)))) G1) : Post (sAsg f (gN i) ρ G) Pf := Post.inS h
theorem p_asgT {is : List Nat} (h : Post (f ρ G) fun d G1 => ∃ ds, d = .tup ds ∧ ds.length = is.length ∧ Pf (.nx (setAll ρ is ds)) G1) : Post (sAsg f (gT is) ρ G) Pf := Post.inS (h.mono fun d G1 ⟨ds, e1, e2, q⟩ => by
  subst e1
  show Post ((if ds.length = is.length then R.ok (setAll ρ is ds) G1 else .stuck).bind _) Pf
  rw [if_pos e2]; exact q)
theorem p_ret (h : Post (f ρ G) fun d G1 => Pf (.rt d) G1) : Post (sRet f ρ G) Pf := Post.inS h
theorem p_drop (h : Post (f ρ G) fun _ G1 => Pf (.nx ρ) G1) : Post (sDrop f ρ G) Pf := Post.inS h
theorem p_if (h : Post (t ρ G) fun k G1 => if k = true then Post (x ρ G1) Pf else Post (y ρ G1) Pf) : Post (sIf t x y ρ G) Pf := Post.inS (h.mono fun k G1 h1 => by cases k <;> exact h1)
theorem p_next (h : Pf (.nx ρ) G) : Post (sNext ρ G) Pf := h
theorem p_cont (h : Pf (.ct ρ) G) : Post (sCont ρ G) Pf := h
theorem p_par {i j : Nat} (h : Post (a ρ G) fun ds G1 => ∃ d1 d2, ds = [d1, d2] ∧ Pf (.nx ((ρ.set i (some (.v d1))).set j (some (.v d2)))) G1) : Post (sPar i j a ρ G) Pf := Post.inS (h.mono fun ds G1 ⟨d1, d2, e1, q⟩ => by subst e1; exact q)
theorem p_own {i : Nat} {F : FF} (h : Post (F ρ G) fun c G1 => i < ρ.length ∧ Pf (.nx (ρ.set i (some (.own c)))) G1) : Post (sOwn i F ρ G) Pf := Post.inS (h.mono fun c G1 h1 => Post.ite.mpr h1)
theorem p_appO {i : Nat} {xs : List D} (hi : ρ[i]? = some (some (.own (.lst xs)))) (h : Post (f ρ G) fun d G1 => xs.length < LIM ∧ Pf (.nx (ρ.set i (some (.own (.lst (xs ++ [d])))))) G1) : Post (sAppO i f ρ G) Pf := by
  unfold sAppO; rw [hi]
  exact Post.inS (h.mono fun c G1 h1 => Post.ite.mpr h1)
theorem p_frz {i : Nat} {c : Cell} (hi : ρ[i]? = some (some (.own c))) (h : Post (frz c G) fun d G1 => Post (x (ρ.set i (some (.v d))) G1) Pf) : Post (sFrz i x ρ G) Pf := by
  unfold sFrz; rw [hi]
  exact Post.bind.mpr h
theorem p_def {np n : Nat} {bd : SF} {ds : List D} (hl : ds.length = np) (h : Post (bd (start n ds) G) fun fl G1 => match fl with | .rt d => P d G1 | .nx _ => P .non G1 | _ => False) : Post (mDef np n bd ds G) P := by
  unfold mDef
  rw [if_pos hl]
  obtain ⟨fl, G1, e1, h1⟩ := h.eq
  rw [e1]
  cases fl with
  | rt d => exact h1
  | nx _ => exact h1
  | bk _ => exact h1.elim
  | ct _ => exact h1.elim
  | ex _ _ => exact h1.elim
/-! ### loops and comprehensions -/
theorem p_compL {i : Nat} {fe : EF} {F : D → D} : ∀ {ds : List D} {Pl : List D → GH → Prop}, (∀ d ∈ ds, fe (ρ.set i (some (.v d))) G = .ok (F d) G) → Pl (ds.map F) G → Post (compL (gN i) mYes fe ρ ds G) Pl
  | [], _, _, q => q
  | d :: r, Pl, h, q => by
    unfold compL
    show Post ((fe (ρ.set i (some (.v d))) G).bind _) Pl
    rw [h d List.mem_cons_self]
    show Post ((compL (gN i) mYes fe ρ r G).bind fun ys G4 => .ok (F d :: ys) G4) Pl
    exact Post.bind.mpr (p_compL (ds := r) (fun d' hd => h d' (List.mem_cons_of_mem _ hd)) q)
theorem p_compF {i : Nat} {fe : EF} {ft : BF} {T : D → Bool} {F : D → D} : ∀ {ds : List D} {Pl : List D → GH → Prop}, (∀ d ∈ ds, ft (ρ.set i (some (.v d))) G = .ok (T d) G) → (∀ d ∈ ds, T d = true → fe (ρ.set i (some (.v d))) G = .ok (F d) G) → Pl ((ds.filter T).map F) G → Post (compL (gN i) ft fe ρ ds G) Pl
  | [], _, _, _, q => q
  | d :: r, Pl, h0, h, q => by
    unfold compL
    show Post ((ft (ρ.set i (some (.v d))) G).bind _) Pl
    rw [h0 d List.mem_cons_self]
    show Post (if T d = true then _ else _) Pl
    by_cases ht : T d = true
    · rw [if_pos ht, h d List.mem_cons_self ht]
      show Post ((compL (gN i) ft fe ρ r G).bind fun ys G4 => .ok (F d :: ys) G4) Pl
      refine Post.bind.mpr ?_
      refine p_compF (ds := r) (fun d' hd => h0 d' (List.mem_cons_of_mem _ hd)) (fun d' hd => h d' (List.mem_cons_of_mem _ hd)) ?_
      rw [List.filter_cons_of_pos ht] at q
      exact q
    · rw [if_neg ht]
      refine p_compF (ds := r) (fun d' hd => h0 d' (List.mem_cons_of_mem _ hd)) (fun d' hd => h d' (List.mem_cons_of_mem _ hd)) ?_
      rw [List.filter_cons_of_neg ht] at q
      exact q
theorem p_comp {fi : AF} {g' : GF} {t' : BF} {fe : EF} {vs : List Nat} (h : Post (fi ρ G) fun ds G1 => ds.length < LIM ∧ Post (compL g' t' fe (wipeE ρ vs) ds G1) Pl) : Post (mComp fi g' t' fe vs ρ G) Pl := Post.bind.mpr (h.mono fun ds G1 ⟨h1, h2⟩ => by
  rw [if_pos h1]
  obtain ⟨a, G2, e2, h3⟩ := h2.eq
  rw [e2]; exact h3)
/-- a for loop by an invariant -/
theorem p_forL {g' : GF} {bd : SF} (I : Nat → En → GH → Prop) : ∀ {ds : List D} {n : Nat} {ρ : En} {G : GH}, I n ρ G →
    (∀ (k : Nat) d ρ1 G1, ds[k]? = some d → I (n + k) ρ1 G1 → Post (g' d ρ1 G1) fun ρ2 G2 => Post (bd ρ2 G2) fun fl G3 => match fl with
      | .nx ρ3 => I (n + k + 1) ρ3 G3
      | .ct ρ3 => I (n + k + 1) ρ3 G3
      | _ => False) → (∀ ρ1 G1, I (n + ds.length) ρ1 G1 → Pf (.nx ρ1) G1) → Post (forL g' bd ds ρ G) Pf
  | [], n, ρ, G, i0, _, q => q ρ G i0
  | d :: r, n, ρ, G, i0, h, q => by
    unfold forL
    refine Post.bind.mpr ((h 0 d ρ G rfl i0).mono fun ρ2 G2 h2 => Post.bind.mpr (h2.mono fun fl G3 h3 => ?_))
    have go : ∀ ρ3, I (n + 1) ρ3 G3 → Post (forL g' bd r ρ3 G3) Pf := fun ρ3 i3 => by
      refine p_forL (ds := r) (n := n + 1) I i3 (fun k d' ρ4 G4 hk i4 => ?_) fun ρ4 G4 i4 => q ρ4 G4 ?_
      · have := h (k + 1) d' ρ4 G4 (by simpa using hk) (by rw [show n + (k + 1) = n + 1 + k by omega]; exact i4)
        refine this.mono fun _ _ z => z.mono fun fl G5 z => ?_
        rw [show n + 1 + k + 1 = n + (k + 1) + 1 by omega]
        exact z
      · rw [show n + (d :: r).length = n + 1 + r.length by simp; omega]; exact i4
    cases fl with
    | nx ρ3 => exact go ρ3 h3
    | ct ρ3 => exact go ρ3 h3
    | bk _ => exact h3.elim
    | rt _ => exact h3.elim
    | ex _ _ => exact h3.elim
theorem p_for {fi : AF} {g' : GF} {bd : SF} (h : Post (fi ρ G) fun ds G1 => Post (forL g' bd ds ρ G1) Pf) : Post (sFor fi g' bd ρ G) Pf := Post.inS h
theorem p_iter (h : Post (f ρ G) fun d G1 => (∃ ds, d = .lst ds ∧ Pl ds G1) ∨ ∃ ds, d = .tup ds ∧ Pl ds G1) : Post (mIter f ρ G) Pl := Post.bind.mpr (h.mono fun d G1 h1 => by
  rcases h1 with ⟨ds, e1, q⟩ | ⟨ds, e1, q⟩ <;> (subst e1; exact q))
theorem p_rng1 (h : Post (a ρ G) fun ds G1 => ∃ n : Int, ds = [.int n] ∧ -(2 ^ 62) ≤ n ∧ n < 2 ^ 62 ∧ Pl (upto 0 n.toNat) G1) : Post (mRng1 a ρ G) Pl := Post.bind.mpr (h.mono fun ds G1 ⟨n, e1, h1, h2, q⟩ => by
  subst e1
  show Post (if _ then _ else _) Pl
  rw [if_pos (inRg_iff.mpr ⟨h1, h2⟩)]; exact q)
end
end Gh

set_option Elab.async false
set_option linter.all false
set_option maxRecDepth 100000
set_option maxHeartbeats 4000000
/-! The ghost layer 23: wishes of cells, instances, operators. -/
namespace Gh
open PySem
section
variable {P : D → GH → Prop} {Pb : Bool → GH → Prop} {Pf : Fl → GH → Prop} {Pc : Cell → GH → Prop} {ρ : En} {G : GH} {f g e : EF} {a : AF}
theorem view_lst {k : Nat} {xs : List D} (h : G[k]? = some (.lst xs)) : view G (.cel k) = .lst xs := by simp only [view, h]
theorem view_dicC {k : Nat} {xs : List (L2.Key × D)} (h : G[k]? = some (.dic xs)) : view G (.cel k) = .dic xs := by simp only [view, h]
theorem p_app (h : Post (f ρ G) fun o G1 => ∃ k xs, o = .cel k ∧ G1[k]? = some (.lst xs) ∧ Post (e ρ G1) fun d G2 => ∃ ys, G2[k]? = some (.lst ys) ∧ ys.length < LIM ∧ P .non (G2.set k (.lst (ys ++ [d])))) : Post (mApp f e ρ G) P := by
  refine Post.bind.mpr (h.mono fun o G1 ⟨k, xs, e1, e2, h1⟩ => ?_)
  subst e1
  rw [view_lst e2]
  show Post ((e ρ G1).bind _) P
  refine Post.bind.mpr (h1.mono fun d G2 ⟨ys, e3, e4, q⟩ => ?_)
  simp only [oApp, e3]
  rw [if_pos e4]
  exact q
theorem p_pop (h : Post (f ρ G) fun o G1 => ∃ k xs x, o = .cel k ∧ G1[k]? = some (.lst (xs ++ [x])) ∧ P x (G1.set k (.lst xs))) : Post (mPop f ρ G) P := by
  refine Post.bind.mpr (h.mono fun o G1 ⟨k, xs, x, e1, e2, q⟩ => ?_)
  subst e1
  simp only [oPop, e2]
  simpa [Post] using q
theorem p_fld {cn fn : Str} (h : Post (f ρ G) fun o G1 => ∃ k fs d, o = .cel k ∧ G1[k]? = some (.ins cn fs) ∧ fs.lookup fn = some d ∧ P d G1) : Post (mFld cn fn f ρ G) P := by
  refine Post.bind.mpr (h.mono fun o G1 ⟨k, fs, d, e1, e2, e3, q⟩ => ?_)
  subst e1
  simp only [oFld, e2, if_true, e3]
  exact q
theorem p_fldSet {cn fn : Str} (h : Post (e ρ G) fun d G1 => Post (f ρ G1) fun o G2 => ∃ k fs, o = .cel k ∧ G2[k]? = some (.ins cn fs) ∧ fs.length < 1000 ∧ Pf (.nx ρ) (G2.set k (.ins cn (putD fn d fs)))) : Post (sFldSet cn fn f e ρ G) Pf := by
  refine Post.inS (h.mono fun d G1 h1 => Post.inS (h1.mono fun o G2 ⟨k, fs, e1, e2, e3, q⟩ => ?_))
  subst e1
  simp only [oSetFld, e2, true_and, if_pos e3]
  exact q
theorem p_meth {cn mn : Str} {m : List D → GH → R D} (h : Post (f ρ G) fun o G1 => ∃ k fs, o = .cel k ∧ G1[k]? = some (.ins cn fs) ∧ fs.lookup mn = none ∧ Post (a ρ G1) fun ds G2 => Post (m (.cel k :: ds) G2) P) : Post (mMeth cn mn m f a ρ G) P := by
  refine Post.bind.mpr (h.mono fun o G1 ⟨k, fs, e1, e2, e3, h1⟩ => ?_)
  subst e1
  have hi : isIns cn mn (.cel k) G1 = true := by simp [isIns, e2, e3]
  rw [if_pos hi]
  exact Post.bind.mpr h1
theorem p_make {cn : Str} {m : List D → GH → R D} (h : Post (a ρ G) fun ds G1 => Post (m (.cel G1.length :: ds) (G1 ++ [.ins cn []])) fun d G2 => d = .non ∧ P (.cel G1.length) G2) : Post (mMake cn m a ρ G) P := by
  refine Post.bind.mpr (h.mono fun ds G1 h1 => Post.bind.mpr (h1.mono fun d G2 ⟨e1, q⟩ => ?_))
  subst e1
  exact q
theorem p_put {fd fk fv : EF} (h : Post (fv ρ G) fun v G1 => Post (fd ρ G1) fun x G2 => Post (fk ρ G2) fun k G3 => ∃ n kvs kk, x = .cel n ∧ G3[n]? = some (.dic kvs) ∧ k = .str kk ∧ kvs.length < LIM ∧ Pf (.nx ρ) (G3.set n (.dic (putKD kvs (.inr kk) v)))) : Post (sPut fd fk fv ρ G) Pf := by
  refine Post.inS (h.mono fun v G1 h1 => Post.inS (h1.mono fun x G2 h2 => Post.inS (h2.mono fun k G3 ⟨n, kvs, kk, e1, e2, e3, e4, q⟩ => ?_)))
  subst e1; subst e3
  simp only [oPut, e2, keyOf, if_pos e4]
  exact q
theorem p_putO {i : Nat} {fk fv : EF} {kvs : List (L2.Key × D)} (hi : ρ[i]? = some (some (.own (.dic kvs)))) (h : Post (fv ρ G) fun v G1 => Post (fk ρ G1) fun k G2 => ∃ kk, k = .str kk ∧ kvs.length < LIM ∧ Pf (.nx (ρ.set i (some (.own (.dic (putKD kvs (.inr kk) v)))))) G2) : Post (sPutO i fk fv ρ G) Pf := by
  unfold sPutO
  rw [hi]
  refine Post.inS (h.mono fun v G1 h1 => Post.inS (h1.mono fun k G2 ⟨kk, e1, e2, q⟩ => ?_))
  subst e1
  simp only [putCell, keyOf, if_pos e2]
  exact q
theorem p_len {d : D} {xs : List D} (h : view G d = .lst xs) (q : P (.int xs.length) G) : Post (oLen d G) P := by unfold oLen; rw [h]; exact q
theorem p_lenT {xs : List D} (q : P (.int xs.length) G) : Post (oLen (.tup xs) G) P := q
theorem p_ixL {d : D} {xs : List D} {i : Int} (h : view G d = .lst xs) (q : ∃ x, L2.atI xs i = some x ∧ P x G) : Post (oIx d (.int i) G) P := by
  obtain ⟨x, h1, h2⟩ := q
  unfold oIx
  rw [h]
  simp only [h1]
  exact h2
theorem p_ixT {xs : List D} {i : Int} (q : ∃ x, L2.atI xs i = some x ∧ P x G) : Post (oIx (.tup xs) (.int i) G) P := by
  obtain ⟨x, h1, h2⟩ := q
  show Post (ofO (L2.atI xs i) G) P
  rw [h1]
  exact h2
theorem p_ixD {d : D} {kvs : List (L2.Key × D)} {k : Str} (h : view G d = .dic kvs) (q : ∃ x, valD kvs (.inr k) = some x ∧ P x G) : Post (oIx d (.str k) G) P := by
  obtain ⟨x, h1, h2⟩ := q
  unfold oIx
  rw [h]
  simp only [dGet, h, keyOf, Option.map_some, Option.getD_some, h1]
  exact h2
theorem mod_ok {i j : Int} (h : 0 < j) (q : P (.int (i % j)) G) : Post (oMod (.int i) (.int j) G) P := by
  show Post (if 0 < j then _ else _) P
  rw [if_pos h]; exact q
theorem div_ok {i j : Int} (h : 0 < j) (h2 : j < 1073741824) (q : P (.int (i / j)) G) : Post (oDiv (.int i) (.int j) G) P := by
  show Post (if 0 < j ∧ j < 1073741824 then _ else _) P
  rw [if_pos ⟨h, h2⟩]; exact q
theorem mul_ok {i j : Int} (h : (smallI i || smallI j) = true) (q : P (.int (i * j)) G) : Post (oMul (.int i) (.int j) G) P := by
  show Post (if (smallI i || smallI j) = true then _ else _) P
  rw [if_pos h]; exact q
theorem pow_ok {i j : Int} (h : 0 ≤ j ∧ j ≤ 1000000 ∧ i.natAbs < 2 ^ 64) (q : P (.int (i ^ j.toNat)) G) : Post (oPow (.int i) (.int j) G) P := by
  show Post (if _ then _ else _) P
  rw [if_pos h]; exact q
theorem add_ok {i j : Int} (q : P (.int (i + j)) G) : Post (oAdd (.int i) (.int j) G) P := q
theorem sub_ok {i j : Int} (q : P (.int (i - j)) G) : Post (oSub (.int i) (.int j) G) P := q
theorem lt_ok {i j : Int} (q : P (.bl (decide (i < j))) G) : Post (oLt (.int i) (.int j) G) P := q
theorem le_ok {i j : Int} (q : P (.bl (decide (i ≤ j))) G) : Post (oLe (.int i) (.int j) G) P := q
theorem gt_ok {i j : Int} (q : P (.bl (decide (j < i))) G) : Post (oGt (.int i) (.int j) G) P := q
theorem ge_ok {i j : Int} (q : P (.bl (decide (j ≤ i))) G) : Post (oGe (.int i) (.int j) G) P := q
theorem abs_ok {i : Int} (q : P (.int (if i < 0 then -i else i)) G) : Post (oAbs (.int i) G) P := q
theorem lenL_ok {xs : List D} (q : P (.int xs.length) G) : Post (oLen (.lst xs) G) P := q
theorem lenT_ok {xs : List D} (q : P (.int xs.length) G) : Post (oLen (.tup xs) G) P := q
theorem lenD_ok {xs : List (L2.Key × D)} (q : P (.int xs.length) G) : Post (oLen (.dic xs) G) P := q
theorem min2_ok {i j : Int} (q : P (.int (if j < i then j else i)) G) : Post (oMin2 (.int i) (.int j) G) P := q
theorem max2_ok {i j : Int} (q : P (.int (if j > i then j else i)) G) : Post (oMax2 (.int i) (.int j) G) P := q
theorem ix0_ok {x : D} {xs : List D} (q : P x G) : Post (oIx (.tup (x :: xs)) (.int 0) G) P := by
  refine p_ixT ⟨x, ?_, q⟩
  unfold L2.atI L2.ixN
  rw [if_pos (Int.le_refl 0), if_pos (by simp only [List.length_cons]; omega)]
  rfl
theorem ix1_ok {x y : D} {xs : List D} (q : P y G) : Post (oIx (.tup (x :: y :: xs)) (.int 1) G) P := by
  refine p_ixT ⟨y, ?_, q⟩
  unfold L2.atI L2.ixN
  rw [if_pos (by decide), if_pos (by simp only [List.length_cons]; omega)]
  rfl
theorem ix2_ok {x y z : D} {xs : List D} (q : P z G) : Post (oIx (.tup (x :: y :: z :: xs)) (.int 2) G) P := by
  refine p_ixT ⟨z, ?_, q⟩
  unfold L2.atI L2.ixN
  rw [if_pos (by decide), if_pos (by simp only [List.length_cons]; omega)]
  rfl
theorem isi_ok {T a : String} {d : D} (h : tyD G d = some a) (q : P (.bl (subT a T)) G) : Post (oIsi T d G) P := by
  unfold oIsi; rw [h]; exact q
theorem truB_ok {k : Bool} (q : Pb k G) : Post (oTru (.bl k) G) Pb := q
theorem p_sl {l u : OF} (h : Post (f ρ G) fun d G1 => Post (l ρ G1) fun lo G2 => Post (u ρ G2) fun hi G3 => Post (oSl d lo hi G3) P) : Post (mSl f l u ρ G) P := Post.bind.mpr (h.mono fun d G1 h1 => Post.bind.mpr (h1.mono fun lo G2 h2 => Post.bind.mpr h2))
theorem p_noP {Po : Option Int → GH → Prop} (q : Po none G) : Post (mNoP ρ G) Po := q
theorem p_P {Po : Option Int → GH → Prop} (h : Post (f ρ G) fun d G1 => ∃ i, d = .int i ∧ Po (some i) G1) : Post (mP f ρ G) Po := Post.bind.mpr (h.mono fun d G1 ⟨i, e1, q⟩ => by subst e1; exact q)
theorem slT_ok {xs : List D} {lo hi : Option Int} (q : P (.tup (cutD xs lo hi)) G) : Post (oSl (.tup xs) lo hi G) P := q
theorem slL_ok {xs : List D} {lo hi : Option Int} (q : P (.lst (cutD xs lo hi)) G) : Post (oSl (.lst xs) lo hi G) P := q
theorem inD_ok {x : Str} {d : D} {kvs : List (L2.Key × D)} (h : view G d = .dic kvs) (q : P (.bl (valD kvs (.inr x)).isSome) G) : Post (oIn (.str x) d G) P := by
  unfold oIn oInN
  rw [h]
  simp only [dGet, h, keyOf, Option.map_some]
  exact q
theorem frzL_ok {xs : List D} (q : P (.lst xs) G) : Post (frz (.lst xs) G) P := q
theorem frzD_ok {xs : List (L2.Key × D)} (q : P (.dic xs) G) : Post (frz (.dic xs) G) P := q
theorem q_var {i : Nat} (h : ∃ d, ρ[i]? = some (some (.v d)) ∧ P d G) : Post (mVar i ρ G) P := let ⟨_, a, b⟩ := h; p_var a b
theorem q_varO {i : Nat} (h : ∃ d, mVarO i ρ G = .ok d G ∧ P d G) : Post (mVarO i ρ G) P := let ⟨_, a, b⟩ := h; Post.of_eq a b
theorem q_isi {T : String} {d : D} (h : ∃ a, tyD G d = some a ∧ P (.bl (subT a T)) G) : Post (oIsi T d G) P := let ⟨_, a, b⟩ := h; isi_ok a b
theorem p_ifT {k : Bool} {A B : Prop} (hk : k = true) (h : A) : if k = true then A else B := by rw [if_pos hk]; exact h
theorem p_ifF {k : Bool} {A B : Prop} (hk : k = false) (h : B) : if k = true then A else B := by rw [hk]; exact h
theorem isN_ok {d : D} (q : P (.bl (isNon d)) G) : Post (oIs d .non G) P := q
theorem eqI_ok {i j : Int} (q : P (.bl (decide (i = j))) G) : Post (oEq (.int i) (.int j) G) P := by
  have e : (i == j) = decide (i = j) := by by_cases h : i = j <;> simp [h]
  simp only [oEq, oEqN, view, pn, Bool.and_self, if_true, Bool.false_eq_true, if_false, eqB, e]
  exact q
theorem neI_ok {i j : Int} (q : P (.bl (!decide (i = j))) G) : Post (oNe (.int i) (.int j) G) P := by
  have e : (i == j) = decide (i = j) := by by_cases h : i = j <;> simp [h]
  simp only [oNe, oEqN, view, pn, Bool.and_self, if_true, eqB, e]
  exact q
/-- == and != of one and the same -/
theorem eqSame_ok {d : D} (h : pd 60 d = true) (q : P (.bl true) G) (hp : ¬ (pn 60 (view G d) && pn 60 (view G d)) = true) : Post (oEq d d G) P := by
  unfold oEq oEqN
  rw [if_neg hp, if_pos ⟨rfl, h, fun z => by cases z⟩]
  exact q
theorem neSame_ok {xs : List D} (h : pd 60 (.tup xs) = true) (q : P (.bl false) G) (hp : ¬ (pn 60 (view G (.tup xs)) && pn 60 (view G (.tup xs))) = true) : Post (oNe (.tup xs) (.tup xs) G) P := by
  unfold oNe oEqN
  rw [if_neg hp, if_pos ⟨rfl, h, fun _ => ⟨xs, rfl⟩⟩]
  exact q
end
end Gh

set_option Elab.async false
set_option linter.all false
set_option maxRecDepth 100000
set_option maxHeartbeats 4000000
/-! The ghost layer 24: more wishes: loops that may return, displays. -/
namespace Gh
open PySem
section
variable {P : D → GH → Prop} {Pf : Fl → GH → Prop} {Pc : Cell → GH → Prop} {ρ : En} {G : GH}
/-- a for loop by an invariant; it may return or break -/
theorem p_forR {g' : GF} {bd : SF} (I : Nat → En → GH → Prop) : ∀ {ds : List D} {n : Nat} {ρ : En} {G : GH}, I n ρ G →
    (∀ (k : Nat) d ρ1 G1, ds[k]? = some d → I (n + k) ρ1 G1 → Post (g' d ρ1 G1) fun ρ2 G2 => Post (bd ρ2 G2) fun fl G3 => match fl with
      | .nx ρ3 => I (n + k + 1) ρ3 G3
      | .ct ρ3 => I (n + k + 1) ρ3 G3
      | .bk ρ3 => Pf (.nx ρ3) G3
      | .rt d => Pf (.rt d) G3
      | .ex c ρ3 => Pf (.ex c ρ3) G3) → (∀ ρ1 G1, I (n + ds.length) ρ1 G1 → Pf (.nx ρ1) G1) → Post (forL g' bd ds ρ G) Pf
  | [], n, ρ, G, i0, _, q => q ρ G i0
  | d :: r, n, ρ, G, i0, h, q => by
    unfold forL
    refine Post.bind.mpr ((h 0 d ρ G rfl i0).mono fun ρ2 G2 h2 => Post.bind.mpr (h2.mono fun fl G3 h3 => ?_))
    have go : ∀ ρ3, I (n + 1) ρ3 G3 → Post (forL g' bd r ρ3 G3) Pf := fun ρ3 i3 => by
      refine p_forR (ds := r) (n := n + 1) I i3 (fun k d' ρ4 G4 hk i4 => ?_) fun ρ4 G4 i4 => q ρ4 G4 ?_
      · have := h (k + 1) d' ρ4 G4 (by simpa using hk) (by rw [show n + (k + 1) = n + 1 + k by omega]; exact i4)
        refine this.mono fun _ _ z => z.mono fun fl G5 z => ?_
        rw [show n + 1 + k + 1 = n + (k + 1) + 1 by omega]
        exact z
      · rw [show n + (d :: r).length = n + 1 + r.length by simp; omega]; exact i4
    cases fl with
    | nx ρ3 => exact go ρ3 h3
    | ct ρ3 => exact go ρ3 h3
    | bk _ => exact h3
    | rt _ => exact h3
    | ex _ _ => exact h3
theorem p_pairsN {Pp : List (L2.Key × D) → GH → Prop} (h : Pp [] G) : Post (mPairs [] ρ G) Pp := h
theorem p_pairsC {fk fv : EF} {r : List (EF × EF)} {Pp : List (L2.Key × D) → GH → Prop} (h : Post (fk ρ G) fun k G1 => Post (fv ρ G1) fun v G2 => Post (mPairs r ρ G2) fun ps G3 => ∃ kk, keyOf k = some kk ∧ Pp ((kk, v) :: ps) G3) : Post (mPairs ((fk, fv) :: r) ρ G) Pp := by
  unfold mPairs
  refine Post.bind.mpr (h.mono fun k G1 h1 => Post.bind.mpr (h1.mono fun v G2 h2 => Post.bind.mpr (h2.mono fun ps G3 ⟨kk, e, q⟩ => ?_)))
  rw [e]; exact q
theorem p_disp {l : List (EF × EF)} (h : Post (mPairs l ρ G) fun ps G1 => ps.length ≤ 15 ∧ Pc (.dic (mergeD [] ps)) G1) : Post (fDisp l ρ G) Pc := Post.bind.mpr (h.mono fun ps G1 h1 => Post.ite.mpr h1)
end
end Gh

set_option Elab.async false
set_option linter.all false
/-! Shortest ways: plain facts, no program in sight. -/
namespace Sp
theorem countP_mono {α : Type} {p q : α → Bool} : ∀ (l : List α), (∀ x ∈ l, p x = true → q x = true) → l.countP p ≤ l.countP q
  | [], _ => by simp
  | x :: r, h => by
    have ih := countP_mono r fun y hy => h y (List.mem_cons_of_mem _ hy)
    have hx := h x List.mem_cons_self
    rw [List.countP_cons, List.countP_cons]
    cases hp : p x
    · simp; omega
    · rw [hx hp]; simp; exact ih
theorem countP_lt {α : Type} {p q : α → Bool} {c : α} : ∀ (l : List α), (∀ x ∈ l, p x = true → q x = true) → c ∈ l → q c = true → p c = false → l.countP p < l.countP q
  | [], _, h, _, _ => by cases h
  | x :: r, h, hc, hq, hp => by
    have hr := fun y hy => h y (List.mem_cons_of_mem _ hy)
    rw [List.countP_cons, List.countP_cons]
    rcases List.mem_cons.mp hc with e | e
    · subst e
      have := countP_mono r hr
      rw [hq, hp]; simp; omega
    · have ih := countP_lt r hr e hq hp
      have hx := h x List.mem_cons_self
      cases hp' : p x
      · simp; omega
      · rw [hx hp']; simp; omega
theorem sum_mono {α : Type} {f g : α → Nat} : ∀ (l : List α), (∀ x ∈ l, f x ≤ g x) → (l.map f).sum ≤ (l.map g).sum
  | [], _ => by simp
  | x :: r, h => by
    have ih := sum_mono r fun y hy => h y (List.mem_cons_of_mem _ hy)
    have := h x List.mem_cons_self
    simp only [List.map_cons, List.sum_cons]; omega
theorem sum_lt {α : Type} {f g : α → Nat} {c : α} : ∀ (l : List α), (∀ x ∈ l, f x ≤ g x) → c ∈ l → f c < g c → (l.map f).sum < (l.map g).sum
  | [], _, h, _ => by cases h
  | x :: r, h, hc, hl => by
    have hr := fun y hy => h y (List.mem_cons_of_mem _ hy)
    have := h x List.mem_cons_self
    simp only [List.map_cons, List.sum_cons]
    rcases List.mem_cons.mp hc with e | e
    · subst e
      have := sum_mono r hr
      omega
    · have := sum_lt r hr e hl
      omega
theorem sum_le {α : Type} {f : α → Nat} {B : Nat} : ∀ (l : List α), (∀ x ∈ l, f x ≤ B) → (l.map f).sum ≤ l.length * B
  | [], _ => by simp
  | x :: r, h => by
    have ih := sum_le r fun y hy => h y (List.mem_cons_of_mem _ hy)
    have := h x List.mem_cons_self
    simp only [List.map_cons, List.sum_cons, List.length_cons, Nat.add_mul, Nat.one_mul]; omega
section
variable {N : Type} [DecidableEq N]
/-- a way by directed roads, and its length -/
inductive Walk (E : List (N × N × Int)) : N → N → Int → Prop
  | nil (a : N) : Walk E a a 0
  | cons {a b c : N} {w l : Int} : (a, b, w) ∈ E → Walk E b c l → Walk E a c (w + l)
theorem Walk.one {E : List (N × N × Int)} {a b : N} {w : Int} (h : (a, b, w) ∈ E) : Walk E a b w := by
  have := Walk.cons h (.nil b)
  rwa [Int.add_zero] at this
theorem Walk.app {E : List (N × N × Int)} {a b c : N} {l m : Int} (h : Walk E a b l) (k : Walk E b c m) : Walk E a c (l + m) := by
  induction h with
  | nil a => rwa [Int.zero_add]
  | cons e _ ih =>
    rw [Int.add_assoc]
    exact .cons e (ih k)
theorem Walk.mono {E F : List (N × N × Int)} {a b : N} {l : Int} (s : ∀ e ∈ E, e ∈ F) (h : Walk E a b l) : Walk F a b l := by
  induction h with
  | nil a => exact .nil a
  | cons e _ ih => exact .cons (s _ e) ih
abbrev FAR : Int := 1000000000
/-- a table that no value of is too small -/
structure Snd (E : List (N × N × Int)) (T : N → N → Int) : Prop where
  nn : ∀ a b, 0 ≤ T a b
  rl : ∀ a b, T a b < FAR → Walk E a b (T a b)
/-- the least of all ways -/
structure Dist (E : List (N × N × Int)) (ns : List N) (T : N → N → Int) : Prop extends Snd E T where
  le : ∀ a b l, Walk E a b l → a ∈ ns → T a b ≤ l
def upd (T : N → N → Int) (i j : N) (v : Int) : N → N → Int := fun a b => if a = i ∧ b = j then v else T a b
theorem upd_same (T : N → N → Int) (i j : N) (v : Int) : upd T i j v i j = v := by simp [upd]
theorem upd_ne (T : N → N → Int) {i j a b : N} (v : Int) (h : ¬ (a = i ∧ b = j)) : upd T i j v a b = T a b := by simp [upd, h]
/-- a value made less -/
def rlx (T : N → N → Int) (i j : N) (v : Int) : N → N → Int := upd T i j (if v < T i j then v else T i j)
theorem rlx_le (T : N → N → Int) (i j : N) (v : Int) (a b : N) : rlx T i j v a b ≤ T a b := by
  unfold rlx upd
  split
  · rename_i h; obtain ⟨rfl, rfl⟩ := h; split <;> omega
  · exact Int.le_refl _
theorem rlx_at (T : N → N → Int) (i j : N) (v : Int) : rlx T i j v i j ≤ v := by
  unfold rlx; rw [upd_same]; split <;> omega
theorem Snd.rlx {E : List (N × N × Int)} {T : N → N → Int} (h : Snd E T) {i j : N} {v : Int} (h0 : 0 ≤ v) (hv : v < FAR → Walk E i j v) : Snd E (rlx T i j v) := by
  refine ⟨fun a b => ?_, fun a b => ?_⟩
  · unfold Sp.rlx upd
    split
    · split
      · exact h0
      · exact h.nn _ _
    · exact h.nn _ _
  · unfold Sp.rlx upd
    split
    · rename_i e; obtain ⟨rfl, rfl⟩ := e
      split
      · exact hv
      · exact h.rl _ _
    · exact h.rl _ _
def start : N → N → Int := fun a b => if a = b then 0 else FAR
theorem snd_start {E : List (N × N × Int)} : Snd E (start (N := N)) := by
  refine ⟨fun a b => ?_, fun a b h => ?_⟩
  · unfold start; split <;> decide
  · unfold start at h ⊢
    split at h
    · rename_i e; subst e; rw [if_pos rfl]; exact .nil a
    · exact absurd h (Int.lt_irrefl _)
/-- what all mids of a row have been asked -/
structure Tri (ns : List N) (M : List N) (T : N → N → Int) : Prop where
  dg : ∀ a ∈ ns, T a a = 0
  tr : ∀ k ∈ M, ∀ a ∈ ns, ∀ b ∈ ns, T a b ≤ T a k + T k b
/-- one mid's answer -/
def via (T : N → N → Int) (m : N) : N → N → Int := fun a b => if T a m + T m b < T a b then T a m + T m b else T a b
theorem via_le (T : N → N → Int) (m a b : N) : via T m a b ≤ T a b := by unfold via; split <;> omega
theorem via_at (T : N → N → Int) (m a b : N) : via T m a b ≤ T a m + T m b := by unfold via; split <;> omega
theorem via_or (T : N → N → Int) (m a b : N) : via T m a b = T a b ∨ via T m a b = T a m + T m b := by unfold via; split <;> simp
theorem via_left {T : N → N → Int} {m : N} (h : T m m = 0) (a : N) : via T m a m = T a m := by unfold via; rw [h]; split <;> omega
theorem via_right {T : N → N → Int} {m : N} (h : T m m = 0) (b : N) : via T m m b = T m b := by unfold via; rw [h]; split <;> omega
theorem tri_via {ns M : List N} {T T' : N → N → Int} {m : N} (hm : m ∈ ns) (hM : ∀ k ∈ M, k ∈ ns) (h : Tri ns M T) (nn : ∀ a b, 0 ≤ T a b) (e : ∀ a ∈ ns, ∀ b ∈ ns, T' a b = via T m a b) : Tri ns (m :: M) T' := by
  have hmm := h.dg m hm
  refine ⟨fun a ha => ?_, fun k hk a ha b hb => ?_⟩
  · rw [e a ha a ha]
    have h1 := via_le T m a a
    rw [h.dg a ha] at h1
    have h2 : 0 ≤ via T m a a := by
      rcases via_or T m a a with z | z <;> rw [z]
      · exact nn _ _
      · have := nn a m; have := nn m a; omega
    omega
  · rw [e a ha b hb]
    rcases List.mem_cons.mp hk with z | hk
    · subst z
      rw [e a ha k hm, e k hm b hb, via_left hmm, via_right hmm]
      exact via_at T k a b
    · have hkn := hM k hk
      rw [e a ha k hkn, e k hkn b hb]
      have t1 := h.tr k hk a ha b hb
      have t2 := h.tr k hk m hm b hb
      have t3 := h.tr k hk a ha m hm
      have t4 := h.tr k hk m hm m hm
      have u1 := via_le T m a b
      have u2 := via_at T m a b
      rcases via_or T m a k with z1 | z1 <;> rcases via_or T m k b with z2 | z2 <;> rw [z1, z2] <;> omega
/-- the least of all: all mids asked, no road less -/
theorem dist_of {E : List (N × N × Int)} {ns : List N} {T : N → N → Int} (s : Snd E T) (t : Tri ns ns T) (hE : ∀ a b w, (a, b, w) ∈ E → a ∈ ns ∧ b ∈ ns ∧ T a b ≤ w) : Dist E ns T where
  toSnd := s
  le := fun a b l h => by
    induction h with
    | nil a => intro ha; rw [t.dg a ha]; exact Int.le_refl _
    | cons e hw ih =>
      rename_i a b c w l
      intro ha
      obtain ⟨_, hb, hw'⟩ := hE _ _ _ e
      have hc : c ∈ ns := by
        clear ih e hw'
        induction hw with
        | nil x => exact hb
        | cons e' _ ih' => exact ih' (hE _ _ _ e').2.1
      have := ih hb
      have := t.tr b hb a ha c hc
      omega
theorem walk_end {E : List (N × N × Int)} {ns : List N} (hE : ∀ a b w, (a, b, w) ∈ E → a ∈ ns ∧ b ∈ ns) {a b : N} {l : Int} (h : Walk E a b l) (ha : a ∈ ns) : b ∈ ns := by
  induction h with
  | nil x => exact ha
  | cons e _ ih => exact ih (hE _ _ _ e).2
/-- no least way is very long -/
theorem dist_small {E : List (N × N × Int)} {ns : List N} {T : N → N → Int} (D : Dist E ns T) (hE : ∀ a b w, (a, b, w) ∈ E → a ∈ ns ∧ b ∈ ns ∧ 1 ≤ w ∧ w ≤ 100) (b : N) :
    ∀ (n : Nat) (a : N), a ∈ ns → ns.countP (fun c => decide (T c b < T a b)) ≤ n → T a b < FAR → T a b ≤ 100 * (n : Int) := by
  intro n
  induction n with
  | zero =>
    intro a ha hc hf
    have hw := D.rl a b hf
    generalize hl : T a b = l at hw
    cases hw with
    | nil => omega
    | cons e h2 =>
      rename_i c w l'
      obtain ⟨_, hcn, w1, _⟩ := hE _ _ _ e
      have h3 := D.le c b l' h2 hcn
      have : T c b < T a b := by omega
      have := List.countP_eq_zero.mp (Nat.le_zero.mp hc) c hcn
      simp at this
      omega
  | succ n ih =>
    intro a ha hc hf
    have hw := D.rl a b hf
    generalize hl : T a b = l at hw
    cases hw with
    | nil => have : (0 : Int) ≤ 100 * ((n + 1 : Nat) : Int) := by omega
             exact this
    | cons e h2 =>
      rename_i c w l'
      obtain ⟨_, hcn, w1, w2⟩ := hE _ _ _ e
      have h3 := D.le c b l' h2 hcn
      have h4 : T c b < T a b := by omega
      have h5 : ns.countP (fun x => decide (T x b < T c b)) < ns.countP (fun x => decide (T x b < T a b)) := by
        refine countP_lt (c := c) ns (fun x _ hx => ?_) hcn ?_ ?_
        · simp at hx ⊢; omega
        · simpa using h4
        · simp
      have h6 := ih c hcn (by omega) (by omega)
      have h7 := D.le a b (w + T c b) (.cons e (D.rl c b (by omega))) ha
      omega
/-- a table gone over till nothing gets less is the least, too -/
theorem fix_eq {E : List (N × N × Int)} {ns : List N} {T g : N → N → Int} (D : Dist E ns T) (hE : ∀ a b w, (a, b, w) ∈ E → a ∈ ns ∧ b ∈ ns ∧ 1 ≤ w ∧ w ≤ 100) (hn : ns.length ≤ 16)
    (g0 : ∀ a ∈ ns, g a a ≤ 0) (gx : ∀ a b w, (a, b, w) ∈ E → ∀ c ∈ ns, g a c ≤ g b c + w) (gs : ∀ a b, g a b < 1000000 → Walk E a b (g a b)) (gm : ∀ a b, g a b ≤ 1000000) {a b : N} (ha : a ∈ ns) (hb : b ∈ ns) :
    (T a b < FAR ∧ g a b = T a b ∧ g a b < 1000000) ∨ (FAR ≤ T a b ∧ g a b = 1000000) := by
  have key : ∀ a b l, Walk E a b l → a ∈ ns → b ∈ ns → g a b ≤ l := by
    intro a b l h
    induction h with
    | nil a => intro ha _; exact g0 a ha
    | cons e _ ih =>
      intro ha hc
      have := ih (hE _ _ _ e).2.1 hc
      have := gx _ _ _ e _ hc
      omega
  by_cases hT : T a b < FAR
  · left
    have h1 := key a b _ (D.rl a b hT) ha hb
    have h2 := dist_small D hE b 16 a ha (Nat.le_trans List.countP_le_length hn) hT
    have h3 : g a b < 1000000 := by omega
    have h4 := D.le a b _ (gs a b h3) ha
    exact ⟨hT, by omega, h3⟩
  · right
    refine ⟨by omega, ?_⟩
    have h0 := gm a b
    by_cases h3 : g a b < 1000000
    · have h4 := D.le a b _ (gs a b h3) ha
      have hF : FAR = 1000000000 := rfl
      omega
    · omega
end
end Sp

set_option Elab.async false
set_option linter.all false
set_option maxRecDepth 100000
set_option maxHeartbeats 1000000
/-! The ghost layer 26: wishes of dicts by pairs, of while loops. -/
namespace Gh
open PySem
section
variable {κ : Type} [DecidableEq κ]
theorem val_put (kvs : List (κ × D)) (k k' : κ) (v : D) : valD (putKD kvs k v) k' = if k' = k then some v else valD kvs k' := by
  unfold valD putKD
  by_cases hany : (kvs.any fun kv => decide (kv.1 = k)) = true
  · rw [if_pos hany]
    induction kvs with
    | nil => simp at hany
    | cons kv r ih =>
      rw [List.map_cons]
      by_cases e : kv.1 = k
      · rw [if_pos e]
        by_cases e' : k' = k
        · rw [if_pos e', List.find?_cons_of_pos (by simp [e, e'])]; rfl
        · rw [if_neg e', List.find?_cons_of_neg (by simp; intro z; exact e' (by rw [← z, e])), List.find?_cons_of_neg (by simp; intro z; exact e' (by rw [← z, e]))]
          by_cases hr : (r.any fun kv => decide (kv.1 = k)) = true
          · have := ih hr; rw [if_neg e'] at this; exact this
          · have key : ∀ x ∈ r, (if x.1 = k then (x.1, v) else x) = x := fun x hx => by
              rw [if_neg]
              intro z
              exact hr (List.any_eq_true.mpr ⟨x, hx, by simpa using z⟩)
            rw [List.map_congr_left key, List.map_id']
      · rw [if_neg e]
        have hr : (r.any fun kv => decide (kv.1 = k)) = true := by simpa [e] using hany
        have := ih hr
        by_cases e2 : kv.1 = k'
        · rw [List.find?_cons_of_pos (by simpa using e2), List.find?_cons_of_pos (by simpa using e2), if_neg (fun z => e (by rw [e2, z]))]
        · rw [List.find?_cons_of_neg (by simpa using e2), List.find?_cons_of_neg (by simpa using e2)]; exact this
  · rw [if_neg hany, List.find?_append]
    by_cases e' : k' = k
    · subst e'
      rw [if_pos rfl]
      have : kvs.find? (fun kv => decide (kv.1 = k')) = none := by
        rw [List.find?_eq_none]
        intro x hx z
        exact hany (List.any_eq_true.mpr ⟨x, hx, z⟩)
      rw [this]
      simp
    · rw [if_neg e']
      have : List.find? (fun kv => decide (kv.1 = k')) [(k, v)] = none := by
        simp [Ne.symm e']
      rw [this]
      cases kvs.find? (fun kv => decide (kv.1 = k')) <;> rfl
theorem len_put (kvs : List (κ × D)) (k : κ) (v : D) : (putKD kvs k v).length ≤ kvs.length + 1 := by
  unfold putKD
  split <;> simp
theorem len_put_old {kvs : List (κ × D)} {k : κ} {x : D} (v : D) (h : valD kvs k = some x) : (putKD kvs k v).length = kvs.length := by
  unfold putKD
  rw [if_pos]
  · simp
  · unfold valD at h
    obtain ⟨kv, h1, _⟩ := Option.map_eq_some_iff.mp h
    have h2 := List.find?_some h1
    exact List.any_eq_true.mpr ⟨kv, List.mem_of_find?_eq_some h1, h2⟩
end
abbrev kk (a b : Str) : List L2.Key := [.inr a, .inr b]
theorem kk_inj {a b c d : Str} : kk a b = kk c d ↔ (a = c ∧ b = d) := by simp [kk]
section
variable {P : D → GH → Prop} {Pf : Fl → GH → Prop} {Pc : Cell → GH → Prop} {ρ : En} {G : GH} {f fd fk fx fv : EF}
theorem p_putOT {i : Nat} {kvs : List (List L2.Key × D)} (hi : ρ[i]? = some (some (.own (.dit kvs)))) (h : Post (fv ρ G) fun v G1 => Post (fk ρ G1) fun k G2 => ∃ a b, k = .tup [.str a, .str b] ∧ kvs.length < LIM ∧ Pf (.nx (ρ.set i (some (.own (.dit (putKD kvs (kk a b) v)))))) G2) : Post (sPutO i fk fv ρ G) Pf := by
  unfold sPutO
  rw [hi]
  refine Post.inS (h.mono fun v G1 h1 => Post.inS (h1.mono fun k G2 ⟨a, b, e1, e2, q⟩ => ?_))
  subst e1
  simp only [putCell, keysOf, keyOf, if_pos e2]
  exact q
theorem ixT_ok {kvs : List (List L2.Key × D)} {a b : Str} {x : D} (h : valD kvs (kk a b) = some x) (q : P x G) : Post (oIx (.dit kvs) (.tup [.str a, .str b]) G) P := by
  unfold oIx
  simp only [view, dGet, keysOf, keyOf, Option.map_some, Option.getD_some]
  rw [h]
  exact q
theorem p_get {a b : Str} {kvs : List (List L2.Key × D)} {z : D} (hd : Post (fd ρ G) fun d G1 => d = .dit kvs ∧ G1 = G) (hk : Post (fk ρ G) fun d G1 => d = .tup [.str a, .str b] ∧ G1 = G) (hx : Post (fx ρ G) fun d G1 => d = z ∧ G1 = G) (q : P ((valD kvs (kk a b)).getD z) G) : Post (mGet fd fk fx ρ G) P := by
  refine Post.bind.mpr (hd.mono fun d G1 ⟨e1, e2⟩ => ?_)
  subst e1; subst e2
  rw [if_pos (show isDD (view G1 (.dit kvs)) = true from rfl)]
  refine Post.bind.mpr (hk.mono fun d G2 ⟨e1, e2⟩ => ?_)
  subst e1; subst e2
  refine Post.bind.mpr (hx.mono fun d G3 ⟨e1, e2⟩ => ?_)
  subst e1; subst e2
  unfold oGet
  simp only [view, dGet, keysOf, keyOf, Option.map_some]
  exact q
theorem p_keysF {kvs : List (L2.Key × D)} (h : Post (f ρ G) fun d G1 => d = .dic kvs ∧ Pc (.lst (kvs.map fun kv => keyD kv.1)) G1) : Post (fKeys f ρ G) Pc := by
  refine Post.bind.mpr (h.mono fun d G1 ⟨e1, q⟩ => ?_)
  subst e1
  exact q
theorem eqS_ok {a b : Str} (ha : PyData.strOk a = true) (hb : PyData.strOk b = true) (q : P (.bl (decide (a = b))) G) : Post (oEq (.str a) (.str b) G) P := by
  unfold oEq oEqN
  rw [if_pos (by simp [view, pn, ha, hb])]
  have e : (a == b) = decide (a = b) := by
    by_cases h : a = b <;> simp [h]
  simp only [view, eqB, e, Bool.false_eq_true, if_false]
  exact q
theorem frzT_ok {xs : List (List L2.Key × D)} (q : P (.dit xs) G) : Post (frz (.dit xs) G) P := q
/-- a while loop by an invariant with a measure -/
theorem p_whileL {t : BF} {b : SF} (I : Nat → En → GH → Prop)
    (h : ∀ m ρ G, I m ρ G → Post (t ρ G) fun k G1 => if k = true then Post (b ρ G1) fun fl G2 => match fl with
      | .nx ρ2 => ∃ m', m' < m ∧ I m' ρ2 G2
      | .ct ρ2 => ∃ m', m' < m ∧ I m' ρ2 G2
      | .bk ρ2 => Pf (.nx ρ2) G2
      | .rt d => Pf (.rt d) G2
      | .ex c ρ2 => Pf (.ex c ρ2) G2 else Pf (.nx ρ) G1) : ∀ (n m : Nat) (ρ : En) (G : GH), I m ρ G → m < n → Post (whileL t b n ρ G) Pf
  | 0, m, ρ, G, _, hm => absurd hm (Nat.not_lt_zero m)
  | n + 1, m, ρ, G, i, hm => by
    unfold whileL
    refine Post.inS ((h m ρ G i).mono fun k G1 h1 => ?_)
    cases k with
    | false => exact h1
    | true =>
      rw [if_pos rfl] at h1
      rw [if_pos rfl]
      refine Post.bind.mpr (h1.mono fun fl G2 h2 => ?_)
      cases fl with
      | nx ρ2 => obtain ⟨m', hm', i'⟩ := h2; exact p_whileL I h n m' ρ2 G2 i' (by omega)
      | ct ρ2 => obtain ⟨m', hm', i'⟩ := h2; exact p_whileL I h n m' ρ2 G2 i' (by omega)
      | bk ρ2 => exact h2
      | rt d => exact h2
      | ex c ρ2 => exact h2
end
end Gh

set_option Elab.async false
set_option linter.all false
set_option maxRecDepth 100000
set_option maxHeartbeats 1000000
/-! The ghost layer 31: wishes where something may be raised. -/
namespace Gh
open PySem
/-- r is an answer that P likes, or an exception that E likes -/
def PostE {α : Type} (r : R α) (P : α → GH → Prop) (E : Str → GH → Prop) : Prop := match r with
  | .ok a G => P a G
  | .ex n G => E n G
  | .stuck => False
section
variable {α β : Type} {P : α → GH → Prop} {E : Str → GH → Prop} {r : R α} {ρ : En} {G : GH}
theorem Post.toE (h : Post r P) : PostE r P E := by
  cases r with
  | ok a G => exact h
  | ex n G => exact h.elim
  | stuck => exact h
theorem PostE.ex {n : Str} {G1 : GH} (e : r = .ex n G1) (h : E n G1) : PostE r P E := by rw [e]; exact h
theorem PostE.ok {a : α} {G1 : GH} (e : r = .ok a G1) (h : P a G1) : PostE r P E := by rw [e]; exact h
theorem PostE.bind {k : α → GH → R β} {Q : β → GH → Prop} (h : PostE r (fun a G1 => PostE (k a G1) Q E) E) : PostE (r.bind k) Q E := by cases r <;> exact h
theorem PostE.inS {k : α → GH → R Fl} {Q : Fl → GH → Prop} (h : PostE r (fun a G1 => Post (k a G1) Q) fun n G1 => Q (.ex n ρ) G1) : Post (Gh.inS r ρ k) Q := by cases r <;> exact h
end
section
variable {P : D → GH → Prop} {Pb : Bool → GH → Prop} {Pf : Fl → GH → Prop} {E : Str → GH → Prop} {ρ : En} {G : GH} {f g : EF} {a : AF} {t : BF} {b : SF}
theorem e_call {m : List D → GH → R D} (h : Post (a ρ G) fun ds G1 => PostE (m ds G1) P E) : PostE (mCall m a ρ G) P E := PostE.bind (h.mono fun ds G1 h1 => h1).toE
theorem e_If (h : Post (t ρ G) fun k G1 => if k = true then PostE (f ρ G1) P E else PostE (g ρ G1) P E) : PostE (mIf t f g ρ G) P E := PostE.bind (h.mono fun k G1 h1 => by cases k <;> exact h1).toE
theorem e_asg {i : Nat} (h : PostE (f ρ G) (fun d G1 => Pf (.nx (ρ.set i (some (.v d)))) G1) fun n G1 => Pf (.ex n ρ) G1) : Post (sAsg f (gN i) ρ G) Pf := PostE.inS h
theorem e_ret (h : PostE (f ρ G) (fun d G1 => Pf (.rt d) G1) fun n G1 => Pf (.ex n ρ) G1) : Post (sRet f ρ G) Pf := PostE.inS h
theorem e_drop (h : PostE (f ρ G) (fun _ G1 => Pf (.nx ρ) G1) fun n G1 => Pf (.ex n ρ) G1) : Post (sDrop f ρ G) Pf := PostE.inS h
theorem p_raise {n : Str} (h : Pf (.ex n ρ) G) : Post (sRaise n ρ G) Pf := h
theorem p_try {ks : List Str} {j i : Nat} (h : Post (b ρ G) fun fl G1 => match fl with
    | .ex n ρ1 => n ∈ ks ∧ i < ρ1.length ∧ Pf (.nx (((ρ1.set i (some (.v (.exc n)))).set j (some (.v (.exc n)))).set i none)) G1
    | fl => Pf fl G1) : Post (sTry ks b j i ρ G) Pf := by
  refine Post.bind.mpr (h.mono fun fl G1 h1 => ?_)
  cases fl with
  | ex n ρ1 =>
    show Post (if n ∈ ks ∧ i < ρ1.length then _ else _) Pf
    rw [if_pos ⟨h1.1, h1.2.1⟩]
    exact h1.2.2
  | _ => exact h1
/-- a def that may raise -/
theorem e_def {np n : Nat} {bd : SF} {ds : List D} (hl : ds.length = np) (h : Post (bd (start n ds) G) fun fl G1 => match fl with | .rt d => P d G1 | .nx _ => P .non G1 | .ex c _ => E c G1 | _ => False) : PostE (mDef np n bd ds G) P E := by
  unfold mDef
  rw [if_pos hl]
  obtain ⟨fl, G1, e1, h1⟩ := h.eq
  rw [e1]
  cases fl with
  | rt d => exact h1
  | nx _ => exact h1
  | ex _ _ => exact h1
  | bk _ => exact h1.elim
  | ct _ => exact h1.elim
theorem ex_of {r : R D} {n : Str} {G : GH} (h : PostE r (fun _ _ => False) fun c G1 => c = n ∧ G1 = G) : r = .ex n G := by
  cases r with
  | ok d G1 => exact h.elim
  | ex c G1 => rw [h.1, h.2]
  | stuck => exact h.elim
theorem p_extO {i : Nat} {xs : List D} {F : FF} (hi : ρ[i]? = some (some (.own (.lst xs)))) (h : Post (F ρ G) fun y G1 => ∃ ys, y = .lst ys ∧ xs.length + ys.length ≤ LIM ∧ Pf (.nx (ρ.set i (some (.own (.lst (xs ++ ys)))))) G1) : Post (sExtO i F ρ G) Pf := by
  unfold sExtO; rw [hi]
  refine Post.inS (h.mono fun y G1 ⟨ys, e, h1, q⟩ => ?_)
  subst e
  show Post (if _ then _ else _) Pf
  rw [if_pos h1]; exact q
theorem isx_ok {ks : List (Str × Bool)} {n : Str} {b : Bool} (h : ks.lookup n = some b) (q : P (.bl b) G) : Post (oIsx ks (.exc n) G) P := by
  unfold oIsx; simp only [h]; exact q
theorem p_count {xs : List D} {bs : List Bool} {k : Bool} (hf : f ρ G = .ok (.lst xs) G) (hg : g ρ G = .ok (.bl k) G) (hb : blsOf xs = some bs) (q : P (.int (bs.count k : Nat)) G) : Post (mCount f g ρ G) P := by
  unfold mCount
  rw [hf]
  show Post (if isL (.lst xs) = true then (g ρ G).bind (fun y G2 => oCount (.lst xs) y G2) else .stuck) P
  rw [if_pos (show isL (.lst xs) = true from rfl), hg]
  show Post (oCount (.lst xs) (.bl k) G) P
  unfold oCount
  simp only [view, hb]
  exact q
end
end Gh

set_option Elab.async false
set_option linter.all false
set_option maxRecDepth 100000
set_option maxHeartbeats 1000000
/-! The ghost layer 32: an exception out of a comprehension; a list of two, owned. -/
namespace Gh
section
open PySem PySem.Spec PyProof.Rows L2
/-! ### what the model does when a block raises -/
/-- behind a block without a use: C its names -/
def bPost (M : Model) (A : Around) (E : Value → Shared → Prop) (Q : Value → Shared → Prop) (acc : Value) (ce : Env) : Result → Shared → Prop
  | .ok _, t => ∃ m, t.heap.Ns ce.locals m ∧ ∀ h', Heap.SameBut ce.locals t.heap h' → Q acc { t with heap := h' }
  | .error x, t => ∃ m, t.heap.Ns ce.locals m ∧ ∀ h', Heap.SameBut ce.locals t.heap h' → wpAny M A (passOn "comprehension.variables-let-go" x ce : Sem Value) (fun _ _ => False) E { t with heap := h' }
theorem comp_raise {M : Model} {A : Around} {E : Value → Shared → Prop} {s : Shared} {env : Env} {e : Expr} {scope : Scope} {pos : Pos} {mk first : Sem Value} {g : Comprehension} {gs : List Comprehension} {cl : List (Str × Addr)} {Q : Value → Shared → Prop}
    (h1 : clausesOf e = g :: gs) (h2 : ∀ x, foldedSetIterable g.iter env x = pure x) (h3 : closureFor scope env = pure cl) (h4 : scope.kind = .function) (h5 : ∀ x ∈ scope.names, x.2 = .local → scope.names.lookup x.1 = some .local)
    (h : wpAny M A first (fun x t1 => wpAny M A (pyIter x) (fun it t2 => wpAny M A mk (fun acc t3 => wpAny M A (newFunctionEnv scope env.globals cl [] env.qual none .none (some env)) (fun ce t4 =>
        codeAny M A (.compStart e 0 it acc { ce with scope := relabel scope env }) (bPost M A E Q acc { ce with scope := relabel scope env }) t4) E t3) E t2) E t1) E s) :
    wpAny M A (comprehension e scope env pos mk false first none) Q E s := by
  unfold comprehension
  rw [h3, h1]
  refine wpAny_bind (wpAny_mono h (fun x t1 q1 => ?_) fun _ _ z => z)
  refine wpAny_bind (wpAny_standAt (wpAny_bind (wpAny_of_eq (h2 x) (wpAny_bind (wpAny_holding (wpAny_mono q1 (fun it t2 q2 => ?_) fun _ _ z => z))))))
  refine wpAny_standIf (wpAny_bind (wpAny_mono q2 (fun acc t3 q3 => ?_) fun _ _ z => z))
  refine wpAny_bind (wpAny_pure (wpAny_bind (wpAny_mono q3 (fun ce t4 q4 => ?_) fun _ _ z => z)))
  dsimp only
  generalize hvs : (scope.names.filter fun x => (x.2 == .local || x.2 == .cell) && x.1 != (".0" : Str)).reverse = vs
  have hv : ∀ x ∈ vs, x.2 = .local → Env.kindOf { ce with scope := relabel scope env } x.1 = some .local := fun x hx hl => by
    rw [← hvs] at hx
    exact lookup_relabel_local (h5 x (List.mem_filter.mp (List.mem_reverse.mp hx)).1 hl)
  refine wpAny_holding (wpAny_bind (wpAny_attempt (wpAny_holding (wpAny_run (codeAny_mono q4 fun r t hr => ?_)))))
  cases r with
  | ok f =>
    obtain ⟨m, hn, hr⟩ := hr
    exact wpAny_bind (wpAny_holding (wpAny_comp_letGo (cenv := { ce with scope := relabel scope env }) h4 _ t m hv hn fun h' _ _ hs => wpAny_pure (hr h' hs)))
  | error x =>
    obtain ⟨m, hn, hr⟩ := hr
    exact wpAny_bind (wpAny_holding (wpAny_comp_letGo (cenv := { ce with scope := relabel scope env }) h4 _ t m hv hn fun h' _ _ hs => wpAny_mono (hr h' hs) (fun _ _ f => f.elim) fun _ _ y => y))
/-! ### an exception in the air of X, noted at X's own frame -/
variable {X : Cx} {W : WX}
def XH (X : Cx) (W : WX) (a : Addr) (t : Shared) : Prop :=
  ∃ (B : Heap) (sI : Shared) (pins : List (Addr × Obj)) (σ : L2.St) (H : Hp) (cls : Value) (d : Option Addr),
    Inv X pins σ H sI ∧ (∀ b o, sI.heap.get? b = some o → b ∉ frs X.stack → B.get? b = some o) ∧ sI.heap.UpToSlots t.heap ∧ HandSPX.HeldZ B X.stack a (Zc cls d) X.env.locals t.heap ∧ H a = none ∧ t.os = sI.os ∧ AllBare t.gens ∧ W cls d σ H
theorem XH.up {a : Addr} {t : Shared} (x : XH X W a t) : XE X W (.ref a) t := by
  obtain ⟨B, sI, pins, σ, H, cls, d, I, nb, up, hh, na, os, ag, w⟩ := x
  exact ⟨a, B, sI, pins, σ, H, cls, d, rfl, I, nb, up, .inr (.inr hh), na, os, ag, w⟩
theorem note_env {M : Model} {A : Around} {e : Value} {env ce : Env} (hf : ce.frame = env.frame) : noteFrame e ce = noteFrame e env := by
  unfold noteFrame PySem.frameOf
  rw [hf]
theorem xe_note {a : Addr} {t : Shared} {ce : Env} {Q : Unit → Shared → Prop} {E : Value → Shared → Prop} (hs : X.stack = X.env :: X.outer) (hf : X.env.frame = some X.env.locals) (hce : ce.frame = X.env.frame) (x : XE X W (.ref a) t)
    (hQ : ∀ h', XH X W a { t with heap := h' } → t.heap.UpToSlots h' → Q () { t with heap := h' }) : wpAny (model X.prog X.w) X.A (noteFrame (.ref a) ce) Q E t := by
  rw [note_env (M := model X.prog X.w) (A := X.A) hce]
  obtain ⟨a', B, sI, pins, σ, H, cls, d, e, I, nb, up, sky, na, os, ag, w⟩ := x
  cases e
  have hfr : X.A.frames = some (X.env :: X.outer) := by rw [I.ok.frames, hs]
  have fin : ∀ h', HandSPX.HeldZ B (X.env :: X.outer) a (Zc cls d) X.env.locals h' → t.heap.UpToSlots h' → Q () { t with heap := h' } := fun h' hh u =>
    hQ h' ⟨B, sI, pins, σ, H, cls, d, I, nb, up.trans u, by rw [hs]; exact hh, na, os, ag, w⟩ u
  rw [hs] at sky
  rcases sky with ⟨hB, hn, hl, oe, vs, he, hz, hd, h1⟩ | fl | hh
  · exact HandSPX.look_newZ Zc.steady hfr hl hf he hB hn hd h1 hz fin
  · exact HandSPX.looks_onZ Zc.steady hfr hf fl fin
  · exact HandSPX.againZ hf hh.2.2.2 (by
      have q := fin t.heap hh (Heap.UpToSlots.refl _)
      exact q)
/-- the block's names are let go -/
theorem XH.turn {a C : Addr} {t : Shared} {h' : Heap} {m : Str → Option Value} (x : XH X W a t) (hn : t.heap.Ns C m) (sb : Heap.SameBut C t.heap h') (nf : C ∉ frs X.stack) (nL : C ≠ X.env.locals) (n0 : X.s_0.heap.objs.size ≤ C) (nc : ∀ y c, X.env.cells.lookup y = some c → c ≠ C)
    (fp : ∀ p ∈ X.pn, p.1 ≠ C) (hW : ∀ cls d σ H, W cls d σ H → H C = none) : XH X W a { t with heap := h' } := by
  obtain ⟨B, sI, pins, σ, H, cls, d, I, nb, up, ⟨k1, k2, k3, oe, vs, T, oT, ts, he, hz, hd, h1, hnT, hTe, hT, hdT, h3⟩, na, os, ag, w⟩ := x
  obtain ⟨oC, es, ep, hC, hdC, _⟩ := hn
  have I := I.unpinned (pins := [])
  have fH := hW _ _ _ _ w
  have aC : a ≠ C := fun z => by rw [z, hC] at he; cases he; rw [hdC] at hd; cases hd
  have TC : T ≠ C := fun z => by rw [z, hC] at hT; cases hT; rw [hdC] at hdT; cases hdT
  have hid : ∀ {G : Heap} {b : Addr} {o : Obj}, (PySem.W.hideAll G [C]).get? b = some o → b ≠ C ∧ G.get? b = some o := fun {G b o} e => by
    refine ⟨fun z => ?_, PySem.W.of_hideAll [C] e⟩
    rw [z, PySem.W.hideAll_none [C] (List.mem_singleton.mpr rfl)] at e
    cases e
  have hin : ∀ {G : Heap} {b : Addr} {o : Obj}, b ≠ C → G.get? b = some o → (PySem.W.hideAll G [C]).get? b = some o := fun {G b o} n e => PySem.W.hideAll_get [C] e fun z => n (List.mem_singleton.mp z)
  have nB : ∀ {b : Addr}, B.get? b = none → (PySem.W.hideAll B [C]).get? b = none := fun {b} e => by
    cases q : (PySem.W.hideAll B [C]).get? b with
    | none => rfl
    | some o => rw [(hid q).2] at e; cases e
  refine ⟨PySem.W.hideAll B [C], { sI with heap := PySem.W.hideAll sI.heap [C] }, [], σ, H, cls, d, ?_, fun b o e hb => ?_, fun b o e hd' => ?_, ⟨fun b o e => ?_, nB k2, ?_, oe, vs, T, oT, ts, (sb.2 a aC).trans he, hz, hd, h1, nB hnT, hTe, (sb.2 T TC).trans hT, hdT, h3⟩, na, os, ag, w⟩
  · exact I.turned (t' := sI.toks) (it := C) (fun b o hb e => hin hb e) fH nL (.inr n0) nc fun p hp => fp p (by simpa using hp)
  · obtain ⟨n, e⟩ := hid e
    exact hin n (nb b o e hb)
  · obtain ⟨n, e⟩ := hid e
    obtain ⟨sl, q⟩ := up b o e hd'
    exact ⟨sl, (sb.2 b n).trans q⟩
  · obtain ⟨n, e⟩ := hid e
    exact (sb.2 b n).trans (k1 b o e)
  · have kk : ∀ {l : List Env}, (∀ L ∈ frs l, L ≠ C) → t.heap.FunFrames B l → h'.FunFrames (PySem.W.hideAll B [C]) l := by
      intro l
      induction l with
      | nil => exact fun _ _ => trivial
      | cons env l ih =>
        rintro hL ⟨hk, ⟨L, o, q1, q2, q3, q4⟩, hr⟩
        have hm : ∀ L' ∈ frs l, L' ≠ C := fun L' hL' => hL L' (by
          obtain ⟨e', he', q⟩ := List.mem_filterMap.mp hL'
          exact List.mem_filterMap.mpr ⟨e', List.mem_cons_of_mem _ he', q⟩)
        exact ⟨hk, ⟨L, o, q1, nB q2, (sb.2 L (hL L (List.mem_filterMap.mpr ⟨env, List.mem_cons_self, q1⟩))).trans q3, q4⟩, ih hm hr⟩
    exact kk (fun L hL z => nf (z ▸ hL)) k3
/-- it is passed on -/
theorem XH.pass {a : Addr} {t : Shared} {ce : Env} {what : String} (hf : X.env.frame = some X.env.locals) (hce : ce.frame = X.env.frame) (tk : Takes X W) (x : XH X W a t) : wpAny (model X.prog X.w) X.A (passOn what (.ref a) ce : Sem Value) (fun _ _ => False) X.xe t := by
  obtain ⟨B, sI, pins, σ, H, cls, d, I, nb, up, hh, na, os, ag, w⟩ := x
  have hh' := hh
  obtain ⟨_, _, _, oe, vs, T, oT, ts, he, hz, hd, h1, _⟩ := hh'
  unfold PySem.passOn
  refine wpAny_bind (wpAny_field he hd h1 ?_)
  rw [if_neg (show ¬ ((Value.ref T == Value.none) = true) from by simp)]
  rw [hce, hf]
  refine wpAny_bind (HandSPX.setFlight_onZ hh fun h' hh' u => ?_)
  have z : XH X W a { t with heap := h' } := ⟨B, sI, pins, σ, H, cls, d, I, nb, up.trans u, hh', na, os, ag, w⟩
  exact wpAny_throw (tk _ _ z.up)
end
end Gh

set_option Elab.async false
set_option linter.all false
set_option maxRecDepth 100000
set_option maxHeartbeats 1000000
/-! The ghost layer 33: a comprehension whose block may raise. -/
namespace Gh
section
open PySem PySem.Spec PyProof.Rows L2
variable {X : Cx}
/-- a block's context with a wish for what it raises -/
abbrev blkX (X : Cx) (s : Shared) (H : Hp) (scope : Scope) (ce : Env) (fp : List Addr) (xe : Value → Shared → Prop) : Cx := { X.blk s H scope ce fp with xe := xe }
/-- what a callee lets out is taken -/
abbrev PassE (X : Cx) (E : XK) : Prop := Passes (L2.CX X.prog X.w) X E
variable {E : XK}
theorem blkX_inv {s t : Shared} {H H' : Hp} {scope : Scope} {ce : Env} {fp : List Addr} {xe : Value → Shared → Prop} {pins : List (Addr × Obj)} {σ : L2.St} : Inv (X.blk s H scope ce fp) pins σ H' t ↔ Inv (blkX X s H scope ce fp xe) pins σ H' t := by
  constructor
  · rintro ⟨⟨a1, a2, a3, a4, a5, a6, a7, a8, a9, a10, a11, a12, a13, a14, a15, a16, a17, a18⟩, b1, b2, b3, b4, b5, b6, b7, b8, b9, b10⟩
    exact ⟨⟨a1, a2, a3, a4, a5, a6, a7, a8, a9, a10, a11, a12, a13, a14, a15, a16, a17, a18⟩, b1, b2, b3, b4, b5, b6, b7, b8, b9, b10⟩
  · rintro ⟨⟨a1, a2, a3, a4, a5, a6, a7, a8, a9, a10, a11, a12, a13, a14, a15, a16, a17, a18⟩, b1, b2, b3, b4, b5, b6, b7, b8, b9, b10⟩
    exact ⟨⟨a1, a2, a3, a4, a5, a6, a7, a8, a9, a10, a11, a12, a13, a14, a15, a16, a17, a18⟩, b1, b2, b3, b4, b5, b6, b7, b8, b9, b10⟩
theorem pe_lcX {elt tg iter : Expr} {ifs : List Expr} {scope : Scope} {own : List (Str × Nat)} {pos : Pos} {wi : TI} {g : TG} {tt : TT} {te : TE} (hst : X.stack = X.env :: X.outer) (hfm : X.env.frame = some X.env.locals) (tk : Takes X (fun cls d _ H => E cls d H))
    (hc : X.calm = true) (hN : X.N.Nodup) (hi : PI X tg iter wi) (ok : BlkOk X.N X.env.scope scope own)
    (hg : ∀ s H C cs fp xe, PG (blkX X s H scope (compEnvC scope cs C X.env) fp xe) tg g) (ht : ∀ s H C cs fp xe, PassE (blkX X s H scope (compEnvC scope cs C X.env) fp xe) E → PTs (blkX X s H scope (compEnvC scope cs C X.env) fp xe) ifs tt)
    (he : ∀ s H C cs fp xe, PassE (blkX X s H scope (compEnvC scope cs C X.env) fp xe) E → PE (blkX X s H scope (compEnvC scope cs C X.env) fp xe) elt te) (hs : ∀ x, foldedSetIterable iter X.env x = pure x := by intro _; rfl) :
    PE X (.ListComp elt [⟨tg, iter, ifs, 0⟩] scope pos) (tLc wi g tt te (own.map (·.2))) := by
  refine ⟨fun pins s σ H Q I h => ?_⟩
  rw [eval_ListComp]
  have hcells : ∀ y ∈ scope.names, y.2 = .free → ∃ c, X.env.cells.lookup y.1 = some c := fun y hy e => (ok.free y hy e).elim (fun k => I.ok.has _ (.inl k)) fun k => I.ok.has _ (.inr k)
  refine comp_raise rfl hs (closure_ok hcells) ok.kind (fun y hy e => (ok.uniq y hy).trans (by rw [e])) (thn (hi.run pins s σ H _ I h) fun xv t1 hx => thn hx fun itv t2 h2 => ?_)
  obtain ⟨it, fp, tn, J, H2, rfl, I2, T, st2, f2, q⟩ := h2
  refine wpAny_newObj_type (newEnv_comp ?_) (by show 0 ≤ sizeLine; decide)
  generalize hL : t2.heap.objs.size = L
  have hLn : H2 L = none := I2.hok.fresh (Nat.le_of_eq hL)
  obtain ⟨W, ⟨m0, w0⟩, turn⟩ := q L hLn
  generalize ht3 : ({ t2 with heap := t2.heap.push { cls := .type "list", data := .seq ([] : List Value).toArray } } : Shared) = t3
  have e3 : t3.heap = t2.heap.push { cls := .type "list", data := .seq ([] : List Value).toArray } := by rw [← ht3]
  have old3 : ∀ b o, t2.heap.get? b = some o → t3.heap.get? b = some o := fun b o e => by rw [e3]; exact Heap.get?_push_of_some _ e
  have I3 : Inv X pins σ (upd H2 L (.lst [])) t3 := by
    rw [← ht3]
    exact I2.laid (t' := t2.toks) (fun b o e => Heap.get?_push_of_some _ e) (Nat.le_of_eq hL) ⟨Nat.zero_le _, [], 0, .nil, by rw [← hL]; exact Heap.get?_push_size _ rfl⟩
  have f3 : ∀ b ∈ fp, FpOk X pins (upd H2 L (.lst [])) b ∧ b < t3.heap.objs.size := fun b hb => by
    obtain ⟨o, e, _⟩ := T.obj _ _ st2 b hb
    have lt := Heap.lt_size e
    exact ⟨⟨(upd_ne (by rw [← hL]; exact Nat.ne_of_lt lt)).trans (f2 b hb).1, (f2 b hb).2⟩, by rw [e3, Heap.size_push]; exact Nat.lt_succ_of_lt lt⟩
  have st3 : tn 0 t3.heap := T.keep _ _ _ st2 fun b _ o e => old3 b o e
  have I4 := block_start I3 ok hN f3
  generalize hcs : cellsFrom (t3.heap.objs.size + 1) scope.names (cloFrom X.env.cells scope.names []) = cs at I4
  have pg := hg t3 (upd H2 L (.lst [])) t3.heap.objs.size cs fp
  have pt := ht t3 (upd H2 L (.lst [])) t3.heap.objs.size cs fp
  have pe := he t3 (upd H2 L (.lst [])) t3.heap.objs.size cs fp
  show codeAny _ _ (.compStart (.ListComp elt [⟨tg, iter, ifs, 0⟩] scope pos) 0 (.ref it) (.ref L) (compEnvC scope cs t3.heap.objs.size X.env)) (bPost _ _ _ _ (.ref L) (compEnvC scope cs t3.heap.objs.size X.env)) _
  generalize hce : compEnvC scope cs t3.heap.objs.size X.env = ce at I4 pg pt pe ⊢
  have ceL : ce.locals = t3.heap.objs.size := by rw [← hce]; rfl
  have ceF : ce.frame = X.env.frame := by rw [← hce]; rfl
  have n3 : ∀ b ∈ fp, (upd H2 L (.lst [])) b = none := fun b hb => (f3 b hb).1.1
  generalize hH3 : upd H2 L (.lst []) = H3 at I3 I4 pg pt pe w0 n3 f3
  generalize ht4 : ({ t3 with heap := pushCells (t3.heap.push { cls := .type "dict", data := .dict #[] }) scope.names } : Shared) = t4 at I4 ⊢
  have st4 : tn 0 t4.heap := T.keep _ _ _ st3 fun b _ o e => by rw [← ht4]; exact pushCells_keeps _ _ _ _ (Heap.get?_push_of_some _ e)
  generalize hR : bPost (model X.prog X.w) X.A X.xe (EP X pins σ Q) (.ref L) ce = RR
  generalize hEB : notedBy (model X.prog X.w) X.A ce (fun e s' => RR (.error e) s') = EB
  have I4 : Inv (blkX X t3 H3 scope ce fp EB) [] _ H3 t4 := blkX_inv.mp I4
  -- back in the def's own context
  have back : ∀ {pins' : List (Addr × Obj)} {σ' : L2.St} {H' : Hp} {t : Shared}, Inv (blkX X t3 H3 scope ce fp EB) pins' σ' H' t → Inv X pins σ H' t := fun I' =>
    I3.call' (ch := fp) I'.os I'.base I'.hok I'.bare fun b hb => ⟨(f3 b hb).1.2.2.2.1, (f3 b hb).1.2.1, (f3 b hb).1.2.2.2.2.1, (f3 b hb).1.2.2.2.2.2⟩
  have nC : ∀ {pins' : List (Addr × Obj)} {σ' : L2.St} {H' : Hp} {t : Shared}, Inv (blkX X t3 H3 scope ce fp EB) pins' σ' H' t → H' t3.heap.objs.size = none := fun {_ _ H' _} I' => by
    have z : H' ce.locals = none := I'.free
    rwa [ceL] at z
  have nsC : ∀ {pins' : List (Addr × Obj)} {σ' : L2.St} {H' : Hp} {t : Shared}, Inv (blkX X t3 H3 scope ce fp EB) pins' σ' H' t → ∃ m, t.heap.Ns ce.locals m := fun I' => by
    obtain ⟨m, hn, _⟩ := I'.loc
    exact ⟨m, hn⟩
  have nfC : t3.heap.objs.size ∉ frs X.stack := fun hm => by
    rcases List.mem_cons.mp (I3.stkSub _ hm) with z | z
    · exact Nat.ne_of_lt I3.lt z.symm
    · exact I3.nofs (Nat.le_refl _) z
  have pass : PassE (blkX X t3 H3 scope ce fp EB) E := fun pins' σ' H' t u t' I' cx => by
    have J := back I'
    have hn := nC I'
    obtain ⟨m, hns⟩ := nsC I'
    rw [ceL] at hns
    obtain ⟨oC, es, ep, hC, hdC, hk⟩ := hns
    have cx : L2.CX X.prog X.w X.stack H' t E u t' := cx
    have cx2 : L2.CX X.prog X.w X.stack H' t (fun cls d H'' => E cls d H'' ∧ H'' t3.heap.objs.size = none) u t' := by
      obtain ⟨a, B, H'', cls, d, e, fl, hok, ub, na, os, ag, hE⟩ := cx
      exact ⟨a, B, H'', cls, d, e, fl, hok, ub, na, os, ag, hE, ub.free _ _ hC hn⟩
    have hC' : t'.heap.get? t3.heap.objs.size = some oC := by
      obtain ⟨a, B, H'', cls, d, e, fl, hok, ub, na, os, ag, hE⟩ := cx
      exact fl.1 _ _ (ub.keep _ _ hC hn nfC)
    obtain ⟨a, eu⟩ : ∃ a, u = .ref a := by
      obtain ⟨a, _, _, _, _, e, _⟩ := cx
      exact ⟨a, e⟩
    subst eu
    have x := XE.of_call (W := fun cls d _ H'' => E cls d H'' ∧ H'' t3.heap.objs.size = none) J (fun _ _ _ z => z) cx2
    show EB _ _
    rw [← hEB]
    refine xe_note hst hfm ceF x fun h' xh up => ?_
    show RR (.error (.ref a)) _
    rw [← hR]
    obtain ⟨sl, hC2⟩ := up _ _ hC' (by rw [hdC]; intro vs z; cases z)
    have hns2 : h'.Ns ce.locals m := by rw [ceL]; exact ⟨_, es, ep, hC2, hdC, hk⟩
    refine ⟨m, hns2, fun h'' sb => ?_⟩
    have f := I3.fpOk (b := t3.heap.objs.size) (Nat.le_refl _) hn
    rw [ceL] at hns2 sb
    have xt := xh.turn (m := m) hns2 sb nfC f.2.1 (Nat.le_trans I3.sz (Nat.le_refl _)) f.2.2.2.2.1 (fun p hp => f.2.2.2.2.2 p (List.mem_append_left _ hp)) fun _ _ _ _ z => z.2
    exact xt.pass hfm ceF (tk.imp fun _ _ _ _ z => z.1)
  have pg := pg EB
  have pt := pt EB pass
  have pe := pe EB pass
  have stat : ∀ {σ' : L2.St} {H' : Hp} {t : Shared}, Inv (blkX X t3 H3 scope ce fp EB) [] σ' H' t → (∀ b ∈ fp, H' b = none) → ∀ b ∈ fp, FpOk (blkX X t3 H3 scope ce fp EB) [] H' b := fun {σ' H' t} I' hn b hb =>
    ⟨hn b hb, (I'.ok.exf b hb).1, I'.ok.exfs b hb, .inl hb, fun x c e => (I'.ok.exf b hb).2 x c e, fun p hp => absurd (show p ∈ ([] : List (Addr × Obj)) ++ [] from hp) (by simp)⟩
  have loop : codeAny (model X.prog X.w) X.A (.compLoop (.ListComp elt [⟨tg, iter, ifs, 0⟩] scope pos) 0 (.ref it) (.ref L) ce) RR t4 := by
    refine compLoop_any (fun n t => ∃ i H', Inv (blkX X t3 H3 scope ce fp EB) [] (wipe σ (own.map (·.2))) H' t ∧ tn i t.heap ∧ (∀ b ∈ fp, H' b = none) ∧ W i n H') ?_ m0 ⟨0, H3, I4, st4, n3, w0⟩
    rw [hEB]
    rintro n t5 ⟨i, H5, I5, st5, n5, w5⟩
    rcases turn i n H5 w5 with ⟨stop, qq⟩ | ⟨go, Nx, hNx, step⟩
    · refine thnF (T.done (blkX X t3 H3 scope ce fp EB) rfl rfl rfl hc i [] t5 _ H5 (fun _ _ => False) I5 (stat I5 n5) st5 stop) fun r t6 ⟨hr, I6⟩ => ?_
      subst hr
      show RR (.ok .next) t6
      rw [← hR]
      obtain ⟨m, hn⟩ := nsC I6
      obtain ⟨f0, f1, f2, f3', f4, f5⟩ := I3.fpOk (b := t3.heap.objs.size) (Nat.le_refl _) (nC I6)
      refine ⟨m, hn, fun h'' sb => ⟨.ref L, H5, ?_, rfl, qq⟩⟩
      rw [ceL] at sb
      exact (back I6).turned (t' := t6.toks) (fun b o hb e => (sb.2 b hb).trans e) f0 f1 f3' f4 f5
    · refine thnF (T.item (blkX X t3 H3 scope ce fp EB) rfl rfl rfl hc i [] t5 _ H5 (fun _ _ => False) I5 (stat I5 n5) st5 go) fun r t6 ⟨u, hr, h6⟩ => ?_
      subst hr
      refine thnF h6 fun _ t7 ⟨x, H7, I7, r7, y7, st7, n7⟩ => ?_
      have I7' := I7.pinned (stat I7 n7) (T.obj _ _ st7)
      refine thn (pg.run _ t7 _ H7 x u _ I7' r7 (step x H7 y7)) fun _ t8 ⟨σ8, H8, I8, hw8, q8⟩ => ?_
      refine thn (pt.run _ t8 σ8 H8 _ I8 q8) fun b t9 ⟨H9, I9, q9⟩ => ?_
      have fin : ∀ {t : Shared} {H' : Hp}, Inv (blkX X t3 H3 scope ce fp EB) ([] ++ pinsAt fp t7.heap) σ8 H' t → Nx H' → ∃ m, m < n ∧ ∃ i H', Inv (blkX X t3 H3 scope ce fp EB) [] (wipe σ (own.map (·.2))) H' t ∧ tn i t.heap ∧ (∀ b ∈ fp, H' b = none) ∧ W i m H' := fun {t H'} I' nx => by
        obtain ⟨m', hm, w'⟩ := hNx H' nx
        have pin' : ∀ b ∈ fp, ∀ o, t7.heap.get? b = some o → t.heap.get? b = some o ∧ H' b = none := fun b hb o e =>
          (fun z => ⟨z.1, z.2.1⟩) (I'.pin (b, o) (List.mem_append_right _ (List.mem_append_right _ (mem_pinsAt hb e))))
        have hl : (wipe σ (own.map (·.2))).length = σ8.length := by rw [← hw8, wipe_length]
        refine ⟨m', hm, i + 1, H', (I'.unpinned (pins := [])).weak hl (fun j v e => (wipe_some (by rw [hw8]; exact e)).1), T.keep _ _ _ st7 fun b hb o e => (pin' b hb o e).1, fun b hb => ?_, w'⟩
        obtain ⟨o, e, _⟩ := T.obj _ _ st7 b hb
        exact (pin' b hb o e).2
      cases b with
      | false =>
        simp only [Bool.false_eq_true, if_false] at q9 ⊢
        exact fin I9 q9
      | true =>
        simp only [if_true] at q9 ⊢
        exact thn (pe.run _ t9 σ8 H9 _ I9 q9) fun z t10 ⟨yv, H10, I10, r10, acc, hD10, hz10, nx⟩ => app_ok (X := blkX X t3 H3 scope ce fp EB) I10 hD10 hz10 r10 fun t11 I11 => fin I11 nx
  exact codeAny_compStart_list loop (T.self X.A 0 _ _ _ st4 loop)
end
end Gh

set_option Elab.async false
set_option linter.all false
set_option maxRecDepth 100000
set_option maxHeartbeats 1000000
/-! The ghost layer 34: a comprehension that may raise, its semantics; a list of two, owned. -/
namespace Gh
open PySem L2
def mCompX (fi : AF) (g : GF) (t : BF) (e : EF) (vs : List Nat) : AF := fun ρ G => (fi ρ G).bind fun ds G1 => if ds.length < LIM then compL g t e (wipeE ρ vs) ds G1 else .stuck
def fCat (fa fb : EF) : FF := fun ρ G => (fa ρ G).bind fun x G1 => (fb ρ G1).bind fun y G2 => match view G2 x, view G2 y with
  | .lst xs, .lst ys => if xs.length + ys.length ≤ LIM then .ok (.lst (xs ++ ys)) G2 else .stuck
  | _, _ => .stuck
section
variable {X : Cx} {cl : Str → Addr} {c : Ct} {W : WX} {S S' : Hp} {A A' : List Addr} {H H' : Hp} {σ σ' : L2.St} {ρ ρ' : En} {G : GH}
theorem gCatF {a b : Expr} {fa fb : EF} {pos : Pos} (ha : PE X a (TXO ⟨X.K, cl⟩ W fa)) (hb : PE X b (TXO ⟨X.K, cl⟩ W fb)) : PE X (.BinOp a .Add b pos) (TXF ⟨X.K, cl⟩ W (fCat fa fb)) :=
  (pe_op op_cat ha hb).imp fun σ H Q ⟨ρ, S, A, G, e, ft, h⟩ => (goF fa e ft h).imp fun x H1 ⟨S1, A1, G1, d, x1, e1, f1, r1, h1⟩ => (goF fb e1 f1 h1).imp fun y H2 ⟨S2, A2, G2, d2, x2, e2, f2, r2, h2⟩ => by
    split at h2
    · rename_i q1 q2
      split at h2
      · rename_i hl
        obtain ⟨l, vs, rfl, g2, g3⟩ := look_lst f2 (r1.mono x2) q1
        obtain ⟨m, ws, rfl, g4, g5⟩ := look_lst f2 r2 q2
        exact ⟨l, m, vs, ws, rfl, rfl, g2, g4, by rw [g3.length, g5.length]; exact lim_le hl, fun p hp => h2.new f2 hp ⟨_, upd_same, g3.append g5⟩⟩
      · exact h2.elim
    · exact h2.elim
theorem okF_bind_stuck {r : R (List D)} {Q : VK} {E : Str → Hp → Prop} (e : r = .stuck) (h : OkF c S A H (r.bind fun ds G1 => .ok (Cell.lst ds) G1) Q E) : False := by rw [e] at h; exact h
theorem comp_ofX {E : XK} {fi : AF} {g : GF} {t : BF} {fe : EF} {vs : List Nat} {gR : TG} {Q : VK} (hg : CT c gR g vs) (hgx : ∀ d ρ G n G', g d ρ G ≠ .ex n G') (h : TXF c (fun cls d _ H => E cls d H) (fComp (mCompX fi g t fe vs)) σ H Q) :
    tLc (TXI c (fun cls d _ H => E cls d H) fi) gR (TXB c (fun cls d _ H => E cls d H) t) (TX c (fun cls d _ H => E cls d H) fe) vs σ H Q := by
  obtain ⟨ρ, S, A, G, e, ft, h⟩ := h
  have h0 : OkF c S A H ((fi ρ G).bind fun ds G1 => (if ds.length < LIM then compL g t fe (wipeE ρ vs) ds G1 else .stuck).bind fun ds G1 => .ok (.lst ds) G1) Q (exW c (fun cls d _ H => E cls d H) σ) := by
    have e : ((fi ρ G).bind fun ds G1 => (if ds.length < LIM then compL g t fe (wipeE ρ vs) ds G1 else .stuck).bind fun ds G1 => .ok (Cell.lst ds) G1) = fComp (mCompX fi g t fe vs) ρ G := by
      unfold fComp mCompX
      cases fi ρ G <;> rfl
    rw [e]; exact h
  refine (goF fi e ft h0).imp fun J H1 ⟨S1, A1, G1, ds, x1, e1, f1, w, h1⟩ => ?_
  intro Dl hD
  split at h1
  case isFalse => exact h1.elim
  case isTrue hlim =>
  generalize hres : compL g t fe (wipeE ρ vs) ds G1 = res at h1
  refine ⟨fun i m H' => m = ds.length - i ∧ i ≤ ds.length ∧ ∃ S' A' G' acc da, ES S1 A1 H1 S' A' H' ∧ Fits c S' A' G' H' ∧ S' Dl = none ∧ Dl ∉ A' ∧ H' Dl = some (.lst acc) ∧ Reps c S' A' acc da ∧ da.length ≤ i ∧ res = (compL g t fe (wipeE ρ vs) (ds.drop i) G').bind fun r Gz => .ok (da ++ r) Gz,
    ⟨ds.length, by simp, Nat.zero_le _, S1, A1, G1, [], [], SS.refl.upd (.inl hD), f1.upd_out (f1.nonS hD) (f1.notIn hD), f1.nonS hD, f1.notIn hD, upd_same, .nil, Nat.le_refl _, ?_⟩, ?_⟩
  · rw [List.drop_zero, hres]
    cases res <;> rfl
  rintro i m H2 ⟨rfl, hi, S2, A2, G2, acc, da, x2, f2, sD, aD, hDl, ra, hda, hr⟩
  have sb : Sub S1 H2 := f2.sub.mono x2.st
  by_cases hlt : i < ds.length
  case neg =>
    have ei : i = ds.length := by omega
    subst ei
    rw [List.drop_length] at hr
    unfold compL at hr
    simp only [R.bind, List.append_nil] at hr
    subst hr
    exact .inl ⟨w.stops H2 sb (ES.kp x2 f1), h1 Dl S2 A2 H2 x2 f2 hD sD aD ⟨acc, hDl, ra⟩⟩
  refine .inr ⟨w.goes i H2 hlt sb (ES.kp x2 f1), fun H' => ∃ m', m' < ds.length - i ∧ m' = ds.length - (i + 1) ∧ i + 1 ≤ ds.length ∧ ∃ S' A' G' acc da', ES S1 A1 H1 S' A' H' ∧ Fits c S' A' G' H' ∧ S' Dl = none ∧ Dl ∉ A' ∧ H' Dl = some (.lst acc) ∧ Reps c S' A' acc da' ∧ da'.length ≤ i + 1 ∧ res = (compL g t fe (wipeE ρ vs) (ds.drop (i + 1)) G').bind fun r Gz => .ok (da' ++ r) Gz,
      fun H' z => z, fun x H3 y => ?_⟩
  obtain ⟨S3, d, x3, f3, hd, r3⟩ := w.yields i H2 x H3 hlt sb y S2 A2 G2 x2.st x2.pre f2
  have ed : ds.drop i = d :: ds.drop (i + 1) := by
    rw [List.drop_eq_getElem_cons hlt]
    rw [List.getElem?_eq_getElem hlt] at hd
    rw [Option.some.inj hd]
  rw [ed] at hr
  have keepD : ∀ {Sa Sb : Hp} {Aa Ab : List Addr} {Ha Hb : Hp}, ES Sa Aa Ha Sb Ab Hb → Sa Dl = none → Dl ∉ Aa → Ha Dl = some (.lst acc) → Sb Dl = none ∧ Dl ∉ Ab ∧ Hb Dl = some (.lst acc) := fun {Sa Sb Aa Ab Ha Hb} z z1 z2 z3 => by
    have n := nw_out z2 z3
    refine ⟨?_, fun q => n (z.newA _ q), (z.keep _ n).trans z3⟩
    cases q : Sb Dl with
    | none => rfl
    | some u =>
      rcases z.newS _ u q with z | z
      · rw [z1] at z; cases z
      · exact (n z).elim
  obtain ⟨s3, a3, l3⟩ := keepD x3 sD aD hDl
  have e3 : EnvOk c S3 A2 H3 (wipe σ vs) (wipeE ρ vs) := ((e1.step x2).step x3).wipe vs
  unfold compL at hr
  cases q : g d (wipeE ρ vs) G2 with
  | stuck => rw [q] at hr; exact (okF_bind_stuck hr h1).elim
  | ex n G4 => exact (hgx _ _ _ _ _ q).elim
  | ok ρ4 G4 =>
    rw [q] at hr
    refine (hg (wipe σ vs) (wipeE ρ vs) ρ4 S3 A2 G2 G4 H3 x d _ e3 f3 r3 q fun σ4 e4 w4 => ?_).2
    have eG : G4 = G2 := (hg (wipe σ vs) (wipeE ρ vs) ρ4 S3 A2 G2 G4 H3 x d (fun _ _ => True) e3 f3 r3 q fun _ _ _ => trivial).1
    subst eG
    refine ⟨w4.trans (wipe_wipe vs), ρ4, S3, A2, G4, e4, f3, ?_⟩
    simp only [R.bind] at hr
    cases qt : t ρ4 G4 with
    | stuck => rw [qt] at hr; exact (okF_bind_stuck hr h1).elim
    | ex n G5 =>
      rw [qt] at hr
      subst hr
      exact fun S5 A5 H5 x5 f5 => h1 S5 A5 H5 ((x2.trans x3).trans x5) f5
    | ok b G5 =>
      rw [qt] at hr
      intro b' S5 A5 H5 x5 f5 eb
      subst eb
      obtain ⟨s5, a5, l5⟩ := keepD x5 s3 a3 l3
      have xx5 : ES S1 A1 H1 S5 A5 H5 := (x2.trans x3).trans x5
      cases b' with
      | false => exact iteF ⟨_, by omega, rfl, hlt, S5, A5, G5, acc, da, xx5, f5, s5, a5, l5, (ra.mono x3.st x3.pre).mono x5.st x5.pre, by omega, hr⟩
      | true =>
        refine iteT ⟨ρ4, S5, A5, G5, e4.step x5, f5, ?_⟩
        simp only [if_true] at hr
        cases qe : fe ρ4 G5 with
        | stuck => rw [qe] at hr; exact (okF_bind_stuck hr h1).elim
        | ex n G6 =>
          rw [qe] at hr
          subst hr
          exact fun S6 A6 H6 x6 f6 => h1 S6 A6 H6 (xx5.trans x6) f6
        | ok y' G6 =>
          rw [qe] at hr
          intro yv S6 A6 H6 x6 f6 r6
          obtain ⟨s6, a6, l6⟩ := keepD x6 s5 a5 l5
          have ra6 : Reps c S6 A6 acc da := ((ra.mono x3.st x3.pre).mono x5.st x5.pre).mono x6.st x6.pre
          refine ⟨acc, l6, lim_lt (by rw [ra6.length]; omega), _, by omega, rfl, hlt, S6, A6, G6, acc ++ [yv], da ++ [y'], (xx5.trans x6).upd (.inl hD), f6.upd_out s6 a6, s6, a6, upd_same, ra6.append (.cons r6 .nil), by simp; omega, ?_⟩
          rw [hr]
          cases qc : compL g t fe (wipeE ρ vs) (ds.drop (i + 1)) G6 with
          | ok r Gz => simp only [R.bind, qc, List.append_assoc, List.singleton_append]
          | ex n Gz => simp only [R.bind, qc]
          | stuck => simp only [R.bind, qc]
variable {elt tg iter : Expr} {ifs : List Expr} {scope : Scope} {own : List (Str × Nat)} {pos : Pos} {fi : AF} {g : GF} {t : BF} {fe : EF} {gR : TG}
theorem gLcX {E : XK} (hct : CT ⟨X.K, cl⟩ gR g (own.map (·.2))) (hgx : ∀ d ρ G n G', g d ρ G ≠ .ex n G') (hst : X.stack = X.env :: X.outer) (hfm : X.env.frame = some X.env.locals) (tk : Takes X (fun cls d _ H => E cls d H)) (hc : X.calm = true) (hN : X.N.Nodup) (hi : PI X tg iter (TXI ⟨X.K, cl⟩ (fun cls d _ H => E cls d H) fi)) (ok : BlkOk X.N X.env.scope scope own)
    (hg : ∀ s H C cs fp xe, PG (blkX X s H scope (compEnvC scope cs C X.env) fp xe) tg gR) (ht : ∀ s H C cs fp xe, PassE (blkX X s H scope (compEnvC scope cs C X.env) fp xe) E → PTs (blkX X s H scope (compEnvC scope cs C X.env) fp xe) ifs (TXB ⟨X.K, cl⟩ (fun cls d _ H => E cls d H) t))
    (he : ∀ s H C cs fp xe, PassE (blkX X s H scope (compEnvC scope cs C X.env) fp xe) E → PE (blkX X s H scope (compEnvC scope cs C X.env) fp xe) elt (TX ⟨X.K, cl⟩ (fun cls d _ H => E cls d H) fe)) (hs : ∀ x, foldedSetIterable iter X.env x = pure x := by intro _; rfl) :
    PE X (.ListComp elt [⟨tg, iter, ifs, 0⟩] scope pos) (TXF ⟨X.K, cl⟩ (fun cls d _ H => E cls d H) (fComp (mCompX fi g t fe (own.map (·.2))))) := (pe_lcX hst hfm tk hc hN hi ok hg ht he hs).imp fun _ _ _ h => comp_ofX hct hgx h
theorem gN_nx (i : Nat) : ∀ d ρ G n G', gN i d ρ G ≠ .ex n G' := fun _ _ _ _ _ h => nomatch h
theorem gMethP {pl : Sem Bool} {E : XK} {k : Nat} {f : Addr} {fd : FuncData} {ps : List Str} {m : List D → GH → R D} {fo : EF} {fa : AF} {cn mn : Str} {apos pos : Pos} {o e : Expr} {es : List Expr} (he : PE X o (TX ⟨X.K, cl⟩ (fun cls d _ H => E cls d H) fo)) (hc : Cls X.K (cl cn)) (hm : Meth X.K (cl cn) mn f) (F : FnOk X.prog X.w X.K X.mg X.base (L2.CX X.prog X.w) k f fd ps (spO ⟨X.K, cl⟩ m)) (hr : Room k X.A) (hb : Binds X.K fd ps []) (tk : PassE X E) (ha : PA X (e :: es) (TXA ⟨X.K, cl⟩ (fun cls d _ H => E cls d H) fa))
    (hst : starEach (e :: es) X.env = (false, eval e X.env) :: starEach es X.env := by rfl) (hpl : (backTo pos (starEach es X.env)).any (·.1) = false := by rfl)
    (ht : eval (.Call (.Attribute o mn apos) (e :: es) [] pos) X.env = (eval o X.env >>= fun ov => standAt apos.atName >>= fun _ => holding [ov] (getMethod ov mn pl) >>= fun z => callWith pos z.1 z.2 (backTo pos (starEach (e :: es) X.env)) (backToKw pos (keywordEach [] X.env))) := by rfl) :
    PE X (.Call (.Attribute o mn apos) (e :: es) [] pos) (TX ⟨X.K, cl⟩ (fun cls d _ H => E cls d H) (mMeth cn mn m fo fa)) :=
  (pe_meth (pl := pl) he hc hm F hr hb .nil tk ha hst hpl ht).imp fun _ _ _ h => meth_of h
end
end Gh

set_option Elab.async false
set_option linter.all false
set_option maxRecDepth 100000
set_option maxHeartbeats 1000000
/-! The ghost layer 35: wishes for methods, new instances and comprehensions that may raise. -/
namespace Gh
open PySem
section
variable {α β : Type} {P : D → GH → Prop} {Pc : Cell → GH → Prop} {Pl : List D → GH → Prop} {Pb : Bool → GH → Prop} {Pf : Fl → GH → Prop} {E : Str → GH → Prop} {ρ : En} {G : GH} {f g : EF} {a : AF} {t : BF} {b : SF}
theorem e_meth {cn mn : Str} {m : List D → GH → R D} (h : Post (f ρ G) fun o G1 => ∃ k fs, o = .cel k ∧ G1[k]? = some (.ins cn fs) ∧ fs.lookup mn = none ∧ Post (a ρ G1) fun ds G2 => PostE (m (.cel k :: ds) G2) P E) : PostE (mMeth cn mn m f a ρ G) P E := by
  refine PostE.bind (Post.toE (h.mono fun o G1 ⟨k, fs, e1, e2, e3, h1⟩ => ?_))
  subst e1
  have hi : isIns cn mn (.cel k) G1 = true := by simp [isIns, e2, e3]
  rw [if_pos hi]
  exact PostE.bind h1.toE
/-- the instance itself can't be made -/
theorem e_methE {cn mn : Str} {m : List D → GH → R D} (h : PostE (f ρ G) (fun _ _ => False) E) : PostE (mMeth cn mn m f a ρ G) P E := PostE.bind (by
  cases q : f ρ G with
  | ok d G1 => rw [q] at h; exact h.elim
  | ex n G1 => rw [q] at h; exact h
  | stuck => rw [q] at h; exact h)
theorem e_make {cn : Str} {m : List D → GH → R D} (h : Post (a ρ G) fun ds G1 => PostE (m (.cel G1.length :: ds) (G1 ++ [.ins cn []])) (fun _ _ => False) E) : PostE (mMake cn m a ρ G) P E := by
  refine PostE.bind (Post.toE (h.mono fun ds G1 h1 => PostE.bind ?_))
  cases q : m (.cel G1.length :: ds) (G1 ++ [.ins cn []]) with
  | ok d G2 => rw [q] at h1; exact h1.elim
  | ex n G2 => rw [q] at h1; exact h1
  | stuck => rw [q] at h1; exact h1
theorem e_fz {F : FF} (h : PostE (F ρ G) (fun c G1 => PostE (frz c G1) P E) E) : PostE (mFz F ρ G) P E := PostE.bind h
theorem e_fComp (h : PostE (a ρ G) (fun ds G1 => Pc (.lst ds) G1) E) : PostE (fComp a ρ G) Pc E := PostE.bind (by
  cases q : a ρ G with
  | ok d G1 => rw [q] at h; exact h
  | ex n G1 => rw [q] at h; exact h
  | stuck => rw [q] at h; exact h)
theorem e_compX {fi : AF} {g' : GF} {t' : BF} {fe : EF} {vs : List Nat} (h : Post (fi ρ G) fun ds G1 => ds.length < LIM ∧ PostE (compL g' t' fe (wipeE ρ vs) ds G1) Pl E) : PostE (mCompX fi g' t' fe vs ρ G) Pl E :=
  PostE.bind (Post.toE (h.mono fun ds G1 ⟨h1, h2⟩ => by rw [if_pos h1]; exact h2))
/-- the first turn's test raises -/
theorem e_comp1 {i : Nat} {d : D} {r : List D} {t' : BF} {fe : EF} (h : PostE (t' (ρ.set i (some (.v d))) G) (fun _ _ => False) E) : PostE (compL (gN i) t' fe ρ (d :: r) G) Pl E := by
  unfold compL
  show PostE ((t' (ρ.set i (some (.v d))) G).bind _) Pl E
  refine PostE.bind ?_
  cases q : t' (ρ.set i (some (.v d))) G with
  | ok d G1 => rw [q] at h; exact h.elim
  | ex n G1 => rw [q] at h; exact h
  | stuck => rw [q] at h; exact h
theorem e_B (h : PostE (f ρ G) (fun d G1 => ∃ k, d = .bl k ∧ Pb k G1) E) : PostE (mB f ρ G) Pb E := PostE.bind (by
  cases q : f ρ G with
  | ok d G1 => rw [q] at h; obtain ⟨k, rfl, z⟩ := h; exact z
  | ex n G1 => rw [q] at h; exact h
  | stuck => rw [q] at h; exact h)
/-- the first operand raises -/
theorem e_op1 {o : D → D → GH → R D} (h : PostE (f ρ G) (fun _ _ => False) E) : PostE (mOp o f g ρ G) P E := PostE.bind (by
  cases q : f ρ G with
  | ok d G1 => rw [q] at h; exact h.elim
  | ex n G1 => rw [q] at h; exact h
  | stuck => rw [q] at h; exact h)
theorem p_cat (h : Post (f ρ G) fun x G1 => Post (g ρ G1) fun y G2 => ∃ xs ys, x = .lst xs ∧ y = .lst ys ∧ xs.length + ys.length ≤ LIM ∧ Pc (.lst (xs ++ ys)) G2) : Post (fCat f g ρ G) Pc :=
  Post.bind.mpr (h.mono fun x G1 h1 => Post.bind.mpr (h1.mono fun y G2 ⟨xs, ys, e1, e2, e3, q⟩ => by
    subst e1; subst e2
    show Post (if _ then _ else _) Pc
    rw [if_pos e3]; exact q))
end
end Gh

set_option Elab.async false
set_option linter.all false
set_option maxRecDepth 100000
set_option maxHeartbeats 1000000
/-! The ghost layer 36: for over a list that may be a cell. -/
namespace Gh
open PySem L2
/-- over the list in cell k, from its item i on; at most n turns -/
def forC (k : Nat) (g : GF) (b : SF) : Nat → Nat → En → GH → R Fl
  | 0, _, _, _ => .stuck
  | n + 1, i, ρ, G => match G[k]? with
    | some (.lst ds) => (match ds[i]? with
      | none => .ok (.nx ρ) G
      | some d => (g d ρ G).bind fun ρ1 G1 => (b ρ1 G1).bind fun f G2 => match f with
        | .nx ρ2 => forC k g b n (i + 1) ρ2 G2
        | .ct ρ2 => forC k g b n (i + 1) ρ2 G2
        | .bk ρ2 => .ok (.nx ρ2) G2
        | .rt d => .ok (.rt d) G2
        | .ex n ρ2 => .ok (.ex n ρ2) G2)
    | _ => .stuck
def sForV (fe : EF) (g : GF) (b : SF) : SF := fun ρ G => inS (fe ρ G) ρ fun d G1 => match d with
  | .cel k => forC k g b 100000 0 ρ G1
  | .lst ds => forL g b ds ρ G1
  | _ => .stuck
section
variable {X : Cx} {cl : Str → Addr} {c : Ct} {W : WX} {S S' : Hp} {A A' : List Addr} {H H' : Hp} {σ σ' : L2.St} {ρ ρ' : En} {G : GH} {tg : Expr}
theorem forC_of {k : Nat} {a : Addr} {g : GF} {b : SF} {D : Ends} {n : Nat} (e : EnvOk c S A H σ ρ) (ft : Fits c S A G H) (ha : A[k]? = some a) (h : OkS c W S A H σ ρ (forC k g b n 0 ρ G) D) :
    ∃ Wf : Nat → Nat → L2.St → Hp → Prop, (∃ m, Wf 0 m σ H) ∧ ∀ i m σ H, Wf i m σ H → ((Itl c.K a).stop i H ∧ D.nx σ H) ∨ ((Itl c.K a).go i H ∧ ∃ N : L2.St → Hp → Prop, (∀ σ' H', N σ' H' → ∃ m', m' < m ∧ Wf (i + 1) m' σ' H') ∧ ∀ x H', (Itl c.K a).yld i H x H' → TXG c g x σ H' fun σ2 H2 => TXS c W b { D with nx := N, ct := N, bk := D.nx } σ2 H2) := by
  refine ⟨fun i m σ' H' => ∃ ρ' S' A' G', EnvOk c S' A' H' σ' ρ' ∧ Fits c S' A' G' H' ∧ A'[k]? = some a ∧ OkS c W S' A' H' σ' ρ' (forC k g b m i ρ' G') D, ⟨n, ρ, S, A, G, e, ft, ha, h⟩, ?_⟩
  rintro i m σ2 H2 ⟨ρ2, S2, A2, G2, e2, f2, a2, h2⟩
  cases m with
  | zero => exact h2.elim
  | succ m =>
    unfold forC at h2
    cases q : G2[k]? with
    | none => rw [q] at h2; exact h2.elim
    | some x =>
      rw [q] at h2
      cases x with
      | lst ds =>
        obtain ⟨vs, hv, rv⟩ := f2.live k a _ a2 q
        have sq : SqL c.K H2 a vs := .inl (.inl hv)
        dsimp only at h2
        cases qd : ds[i]? with
        | none =>
          rw [qd] at h2
          have hl : ds.length ≤ i := List.getElem?_eq_none_iff.mp qd
          exact .inl ⟨⟨vs, sq, by rw [rv.length]; exact hl⟩, OkS.nx h2 e2 f2⟩
        | some d =>
          rw [qd] at h2
          dsimp only at h2
          obtain ⟨v, hvi, rd⟩ := rv.get qd
          refine .inr ⟨⟨vs, v, sq, hvi⟩, fun σ' H' => ∃ m', m' < m + 1 ∧ ∃ ρ' S' A' G', EnvOk c S' A' H' σ' ρ' ∧ Fits c S' A' G' H' ∧ A'[k]? = some a ∧ OkS c W S' A' H' σ' ρ' (forC k g b m' (i + 1) ρ' G') D, fun σ' H' z => z, fun x H3 y => ?_⟩
          obtain ⟨rfl, y⟩ := y
          have ex : x = v := by
            have := y vs sq
            rw [hvi] at this
            exact (Option.some.inj this).symm
          subst ex
          refine ⟨ρ2, S2, A2, G2, d, e2, f2, rd, ?_⟩
          cases qg : g d ρ2 G2 with
          | stuck => rw [qg] at h2; exact h2.elim
          | ex n G4 => rw [qg] at h2; exact h2.elim
          | ok ρ4 G4 =>
            rw [qg] at h2
            intro σ4 S4 A4 H4 x4 f4 e4
            refine ⟨ρ4, S4, A4, G4, e4, f4, OkS.body (k := fun ρ G => forC k g b m (i + 1) ρ G) (OkS.sstep x4 h2) fun σ5 H5 ⟨ρ5, S5, A5, G5, x5, e5, f5, h5⟩ => ?_⟩
            exact ⟨m, Nat.lt_succ_self m, ρ5, S5, A5, G5, e5, f5, pre_get (x4.pre.trans x5.pre) a2, h5⟩
      | _ => exact h2.elim
theorem forL_of {J : It} {g : GF} {b : SF} {D : Ends} {ds : List Gh.D} {S1 : Hp} {A1 : List Addr} {G1 : GH} {H1 : Hp} (w : WalkD c S1 A1 H1 J ds) (e1 : EnvOk c S1 A1 H1 σ ρ) (f1 : Fits c S1 A1 G1 H1) (h1 : OkS c W S1 A1 H1 σ ρ (forL g b ds ρ G1) D) :
    ∃ Wf : Nat → Nat → L2.St → Hp → Prop, (∃ m, Wf 0 m σ H1) ∧ ∀ i m σ H, Wf i m σ H → (J.stop i H ∧ D.nx σ H) ∨ (J.go i H ∧ ∃ N : L2.St → Hp → Prop, (∀ σ' H', N σ' H' → ∃ m', m' < m ∧ Wf (i + 1) m' σ' H') ∧ ∀ x H', J.yld i H x H' → TXG c g x σ H' fun σ2 H2 => TXS c W b { D with nx := N, ct := N, bk := D.nx } σ2 H2) := by
  refine ⟨fun i m σ' H' => m = ds.length - i ∧ i ≤ ds.length ∧ ∃ ρ' S' A' G', EnvOk c S' A' H' σ' ρ' ∧ Fits c S' A' G' H' ∧ Inc S1 S' ∧ A1 <+: A' ∧ Kp S1 H1 H' ∧ OkS c W S' A' H' σ' ρ' (forL g b (ds.drop i) ρ' G') D,
    ⟨ds.length, by simp, Nat.zero_le _, ρ, S1, A1, G1, e1, f1, fun _ _ z => z, List.prefix_refl _, Kp.refl, by simpa using h1⟩, ?_⟩
  rintro i m σ2 H2 ⟨rfl, hi, ρ2, S2, A2, G2, e2, f2, i2, p2, k2, h2⟩
  have sb : Sub S1 H2 := f2.sub.mono i2
  by_cases hlt : i < ds.length
  · refine .inr ⟨w.goes i H2 hlt sb k2, fun σ' H' => ∃ m', m' < ds.length - i ∧ m' = ds.length - (i + 1) ∧ i + 1 ≤ ds.length ∧ ∃ ρ' S' A' G', EnvOk c S' A' H' σ' ρ' ∧ Fits c S' A' G' H' ∧ Inc S1 S' ∧ A1 <+: A' ∧ Kp S1 H1 H' ∧ OkS c W S' A' H' σ' ρ' (forL g b (ds.drop (i + 1)) ρ' G') D,
      fun σ' H' z => z, fun x H3 y => ?_⟩
    obtain ⟨S3, d, x3, f3, hd, r3⟩ := w.yields i H2 x H3 hlt sb y S2 A2 G2 i2 p2 f2
    have ed : ds.drop i = d :: ds.drop (i + 1) := by
      rw [List.drop_eq_getElem_cons hlt]
      rw [List.getElem?_eq_getElem hlt] at hd
      rw [Option.some.inj hd]
    rw [ed] at h2
    have h3 := OkS.step x3 h2
    refine ⟨ρ2, S3, A2, G2, d, e2.step x3, f3, r3, ?_⟩
    unfold forL at h3
    cases q : g d ρ2 G2 with
    | stuck => rw [q] at h3; exact h3.elim
    | ex n G4 => rw [q] at h3; exact h3.elim
    | ok ρ4 G4 =>
      rw [q] at h3
      intro σ4 S4 A4 H4 x4 f4 e4
      refine ⟨ρ4, S4, A4, G4, e4, f4, OkS.body (OkS.sstep x4 h3) fun σ5 H5 ⟨ρ5, S5, A5, G5, x5, e5, f5, h5⟩ => ?_⟩
      exact ⟨_, by omega, rfl, hlt, ρ5, S5, A5, G5, e5, f5, fun a u z => x5.st a u (x4.st a u (x3.st a u (i2 a u z))), ((p2.trans x3.pre).trans x4.pre).trans x5.pre, (k2.trans i2 (ES.kp x3 f2)).trans (fun a u z => x3.st a u (i2 a u z)) ((SS.kp x4 (e2.step x3) f3).trans x4.st (SS.kp x5 e4 f4)), h5⟩
  · have ei : i = ds.length := by omega
    subst ei
    rw [List.drop_length] at h2
    exact .inl ⟨w.stops H2 sb k2, OkS.nx h2 e2 f2⟩
theorem forV_of {fe : EF} {g : GF} {b : SF} {D : Ends} (h : TXS c W (sForV fe g b) D σ H) : tFor (iList c.K (TX c W fe)) (TXG c g) (TXS c W b) D σ H := by
  obtain ⟨ρ, S, A, G, e, ft, h⟩ := h
  refine (goS fe e ft h).imp fun v H1 ⟨S1, A1, G1, d, x1, e1, f1, r1, h1⟩ => ?_
  cases d with
  | cel k =>
    cases r1 with
    | @cel a k ha =>
      have hlst : ∃ ds, G1[k]? = some (.lst ds) := by
        dsimp only at h1
        unfold forC at h1
        cases q : G1[k]? with
        | none => rw [q] at h1; exact h1.elim
        | some x =>
          rw [q] at h1
          cases x with
          | lst ds => exact ⟨ds, rfl⟩
          | _ => exact h1.elim
      obtain ⟨ds, hds⟩ := hlst
      obtain ⟨vs, hv, _⟩ := f1.live k a _ ha hds
      exact ⟨a, rfl, ⟨vs, .inl (.inl hv)⟩, forC_of e1 f1 ha h1⟩
  | lst ds =>
    cases r1 with
    | lst h2 h3 =>
      exact ⟨_, rfl, ⟨_, h2.sq f1.sub⟩, forL_of (walkL h2 h3) e1 f1 h1⟩
  | _ => exact h1.elim
theorem gForV {iter : Expr} {body : List Stmt} {fe : EF} {g : GF} {b : SF} {pos : Pos} (hp : PassesOwn (model X.prog X.w) X.A X.env X.xe) (hc : X.calm = true) (hi : PE X iter (TX ⟨X.K, cl⟩ W fe)) (hg : PG X tg (TXG ⟨X.K, cl⟩ g)) (hb : PSs X body (TXS ⟨X.K, cl⟩ W b))
    (hs : ∀ x, foldedSetIterable iter X.env x = pure x := by intro _; rfl) : PS X (.For tg iter body [] pos) (TXS ⟨X.K, cl⟩ W (sForV fe g b)) := (ps_for hp hc (pi_list hi) hg hb hs).imp fun _ _ _ h => forV_of h
end
end Gh

set_option Elab.async false
set_option linter.all false
set_option maxRecDepth 100000
set_option maxHeartbeats 1000000
/-! The ghost layer 37: wishes for dicts with keys of two numbers; for over a cell. -/
namespace Gh
open PySem
abbrev kS (a b : Int) : List L2.Key := [.inl a, .inl b]
theorem kS_inj {a b c d : Int} : kS a b = kS c d ↔ (a = c ∧ b = d) := by simp [kS]
section
variable {P : D → GH → Prop} {Pf : Fl → GH → Prop} {Pc : Cell → GH → Prop} {ρ : En} {G : GH} {f fd fk fx fv fe : EF}
theorem p_putOS {i : Nat} {kvs : List (List L2.Key × D)} (hi : ρ[i]? = some (some (.own (.dit kvs)))) (h : Post (fv ρ G) fun v G1 => Post (fk ρ G1) fun k G2 => ∃ a b, k = .tup [.int a, .int b] ∧ kvs.length < LIM ∧ Pf (.nx (ρ.set i (some (.own (.dit (putKD kvs (kS a b) v)))))) G2) : Post (sPutO i fk fv ρ G) Pf := by
  unfold sPutO
  rw [hi]
  refine Post.inS (h.mono fun v G1 h1 => Post.inS (h1.mono fun k G2 ⟨a, b, e1, e2, q⟩ => ?_))
  subst e1
  simp only [putCell, keysOf, keyOf, if_pos e2]
  exact q
theorem ixS_ok {kvs : List (List L2.Key × D)} {a b : Int} {x : D} (h : valD kvs (kS a b) = some x) (q : P x G) : Post (oIx (.dit kvs) (.tup [.int a, .int b]) G) P := by
  unfold oIx
  simp only [view, dGet, keysOf, keyOf, Option.map_some, Option.getD_some]
  rw [h]
  exact q
theorem p_getS {a b : Int} {kvs : List (List L2.Key × D)} {z : D} (hd : Post (fd ρ G) fun d G1 => d = .dit kvs ∧ G1 = G) (hk : Post (fk ρ G) fun d G1 => d = .tup [.int a, .int b] ∧ G1 = G) (hx : Post (fx ρ G) fun d G1 => d = z ∧ G1 = G) (q : P ((valD kvs (kS a b)).getD z) G) : Post (mGet fd fk fx ρ G) P := by
  refine Post.bind.mpr (hd.mono fun d G1 ⟨e1, e2⟩ => ?_)
  subst e1; subst e2
  rw [if_pos (show isDD (view G1 (.dit kvs)) = true from rfl)]
  refine Post.bind.mpr (hk.mono fun d G2 ⟨e1, e2⟩ => ?_)
  subst e1; subst e2
  refine Post.bind.mpr (hx.mono fun d G3 ⟨e1, e2⟩ => ?_)
  subst e1; subst e2
  unfold oGet
  simp only [view, dGet, keysOf, keyOf, Option.map_some]
  exact q
theorem p_getK {a : Str} {kvs : List (L2.Key × D)} {z : D} (hd : Post (fd ρ G) fun d G1 => d = .dic kvs ∧ G1 = G) (hk : Post (fk ρ G) fun d G1 => d = .str a ∧ G1 = G) (hx : Post (fx ρ G) fun d G1 => d = z ∧ G1 = G) (q : P ((valD kvs (.inr a)).getD z) G) : Post (mGet fd fk fx ρ G) P := by
  refine Post.bind.mpr (hd.mono fun d G1 ⟨e1, e2⟩ => ?_)
  subst e1; subst e2
  rw [if_pos (show isDD (view G1 (.dic kvs)) = true from rfl)]
  refine Post.bind.mpr (hk.mono fun d G2 ⟨e1, e2⟩ => ?_)
  subst e1; subst e2
  refine Post.bind.mpr (hx.mono fun d G3 ⟨e1, e2⟩ => ?_)
  subst e1; subst e2
  unfold oGet
  simp only [view, dGet, keyOf, Option.map_some]
  exact q
theorem ninS_ok {kvs : List (List L2.Key × D)} {a b : Int} (q : P (.bl !(valD kvs (kS a b)).isSome) G) : Post (oNotIn (.tup [.int a, .int b]) (.dit kvs) G) P := by
  unfold oNotIn oInN
  simp only [view, dGet, keysOf, keyOf, Option.map_some]
  exact q
theorem p_forC {g : GF} {b : SF} {k : Nat} {ds : List D} (I : Nat → En → GH → Prop) (hk : ∀ j ρ G, I j ρ G → G[k]? = some (.lst ds))
    (step : ∀ (j : Nat) d ρ1 G1, ds[j]? = some d → I j ρ1 G1 → Post (g d ρ1 G1) fun ρ2 G2 => Post (b ρ2 G2) fun fl G3 => match fl with
      | .nx ρ3 => I (j + 1) ρ3 G3
      | .ct ρ3 => I (j + 1) ρ3 G3
      | _ => False) (q : ∀ ρ1 G1, I ds.length ρ1 G1 → Pf (.nx ρ1) G1) : ∀ (n j : Nat) (ρ : En) (G : GH), I j ρ G → j ≤ ds.length → ds.length < n + j → Post (forC k g b n j ρ G) Pf
  | 0, j, ρ, G, _, hj, hn => by omega
  | n + 1, j, ρ, G, hi, hj, hn => by
    unfold forC
    rw [hk j ρ G hi]
    dsimp only
    cases hd : ds[j]? with
    | none =>
      have : ds.length ≤ j := List.getElem?_eq_none_iff.mp hd
      have e : j = ds.length := by omega
      subst e
      exact q ρ G hi
    | some d =>
      have hlt : j < ds.length := (List.getElem?_eq_some_iff.mp hd).1
      dsimp only
      refine Post.bind.mpr ((step j d ρ G hd hi).mono fun ρ2 G2 h2 => Post.bind.mpr (h2.mono fun fl G3 h3 => ?_))
      cases fl with
      | nx ρ3 => exact p_forC I hk step q n (j + 1) ρ3 G3 h3 (by omega) (by omega)
      | ct ρ3 => exact p_forC I hk step q n (j + 1) ρ3 G3 h3 (by omega) (by omega)
      | bk ρ3 => exact h3.elim
      | rt d => exact h3.elim
      | ex c ρ3 => exact h3.elim
theorem p_forV {g : GF} {b : SF} {ds : List D} (I : Nat → En → GH → Prop) (hl : ds.length < 90000)
    (hd : Post (fe ρ G) fun d G1 => I 0 ρ G1 ∧ (d = .lst ds ∨ ∃ k, d = .cel k ∧ ∀ j ρ G, I j ρ G → G[k]? = some (.lst ds)))
    (step : ∀ (j : Nat) d ρ1 G1, ds[j]? = some d → I j ρ1 G1 → Post (g d ρ1 G1) fun ρ2 G2 => Post (b ρ2 G2) fun fl G3 => match fl with
      | .nx ρ3 => I (j + 1) ρ3 G3
      | .ct ρ3 => I (j + 1) ρ3 G3
      | _ => False) (q : ∀ ρ1 G1, I ds.length ρ1 G1 → Pf (.nx ρ1) G1) : Post (sForV fe g b ρ G) Pf := by
  refine Post.inS (hd.mono fun d G1 ⟨i0, h⟩ => ?_)
  rcases h with e | ⟨k, e, hk⟩
  · subst e
    refine p_forL (fun j ρ G => I j ρ G) (n := 0) i0 (fun j d ρ1 G1 hj hi => ?_) fun ρ1 G1 hi => ?_
    · rw [Nat.zero_add] at *
      exact step j d ρ1 G1 hj hi
    · rw [Nat.zero_add] at hi
      exact q ρ1 G1 hi
  · subst e
    exact p_forC I hk step q 100000 0 ρ G1 i0 (Nat.zero_le _) (by omega)
end
end Gh

set_option Elab.async false
set_option linter.all false
set_option maxRecDepth 100000
set_option maxHeartbeats 3200000
/-! The ghost layer 38: sets of texts, made of a list and sorted. -/
namespace Gh
section
open PySem PySem.Spec PyProof.Rows L2
def txtOf (e : Int × Value) : Str := match e.2 with
  | .str x _ => x
  | _ => Str.empty
def TxtE (w : World) (e : Int × Value) : Prop := ∃ x tk, e.2 = Value.str x tk ∧ e.1 = hashStr w x
/-- the set of texts at a: those of L -/
def TxtSet (w : World) (h : Heap) (a : Addr) (L : List Str) : Prop :=
  ∃ ob es ep t, h.get? a = some ob ∧ ob.ExactSet ∧ ob.data = .set es ep t ∧ (∀ e ∈ es.toList, TxtE w e) ∧ (es.toList.map txtOf).Nodup ∧ (∀ x, x ∈ L ↔ x ∈ es.toList.map txtOf) ∧
    es.size < scanBound ∧ t.fits es.size = true ∧ es.size ≤ L.length ∧ Ris t.place.toList ∧ (w.params.followText "set-order" = true ∨ t.led = true)
variable {P : Program} {w : World} {A : Around} {E : Value → Shared → Prop} {s : Shared} {a : Addr} {L : List Str}
theorem txt_elems {l : List (Int × Value)} (g : ∀ e ∈ l, TxtE w e) : ElemsOf (PySem.strKind P w) l := fun e he => by
  obtain ⟨x, tk, e1, e2⟩ := g e he
  exact ⟨⟨x, by rw [e1]; exact strKind_is P w x tk, e2⟩, by rw [e1]; rfl⟩
theorem txt_is {e : Int × Value} (g : TxtE w e) (x : Str) : (PySem.strKind P w).is x e.2 = true ↔ txtOf e = x := by
  obtain ⟨y, tk, e1, _⟩ := g
  unfold txtOf
  rw [e1]
  constructor
  · intro q
    obtain ⟨t, ht⟩ := Value.isStrOf_shape (x := x) (v := .str y tk) q
    injection ht
  · intro q
    have q : y = x := q
    rw [q]
    exact strKind_is P w x tk
theorem txt_mem {l : List (Int × Value)} (g : ∀ e ∈ l, TxtE w e) (x : Str) : x ∈ l.map txtOf ↔ ∃ e ∈ l, (PySem.strKind P w).is x e.2 = true := by
  rw [List.mem_map]
  exact ⟨fun ⟨e, he, q⟩ => ⟨e, he, (txt_is (g e he) x).2 q⟩, fun ⟨e, he, q⟩ => ⟨e, he, (txt_is (P := P) (g e he) x).1 q⟩⟩
theorem txt_tail {gv : Bool → Sem Unit} (hg : ∀ (b : Bool) (s₁ : Shared) (Q' : Unit → Shared → Prop), Q' () s₁ → wpAny (model P w) A (gv b) Q' E s₁)
    {ob : Obj} {es : Array (Int × Value)} {ep : Nat} {t : SetTable} (ho : s.heap.get? a = some ob) (hex : ob.ExactSet) (hd : ob.data = .set es ep t)
    {es1 : Array (Int × Value)} {t2 : SetTable} {L' : List Str} (g1 : ∀ e ∈ es1.toList, TxtE w e) (n1 : (es1.toList.map txtOf).Nodup) (m1 : ∀ x, x ∈ L' ↔ x ∈ es1.toList.map txtOf)
    (b1 : es1.size < scanBound) (f2 : t2.fits es1.size = true) (z1 : es1.size ≤ L'.length) (rs : Ris t2.place.toList) (ld : w.params.followText "set-order" = true ∨ t2.led = true) {was : Bool} {R : Option Bool → Shared → Prop}
    (hR : ∀ h', Heap.SameBut a s.heap h' → TxtSet w h' a L' → R (some true) { s with heap := h' }) :
    wpAny (model P w) A (do
        storeSet a es1 t2
        if (!was && t2.tooFull) = true then do
            gv (relayAll t2 es1 (SetTable.grown es1.size)).2.2
            storeSet a (relayAll t2 es1 (SetTable.grown es1.size)).1 (relayAll t2 es1 (SetTable.grown es1.size)).2.1
            pure (some true)
          else pure (some true)) R E s := by
  refine wpAny_bind (wpAny_storeSet_of ho hd ?_ (fits_of_scanBound b1))
  have q1 := store_at (es' := es1) (t' := t2) ho hd
  have k1 := Heap.SameBut.update s.heap a (Obj.putSet es1 t2)
  split
  · have pm := relayAll_perm t2 es1 (SetTable.grown es1.size)
    have ff := relayAll_fits t2 es1 (SetTable.grown es1.size)
    have rr := relayAll_ris t2 es1 (SetTable.grown es1.size)
    have ll := relayAll_led t2 es1 (SetTable.grown es1.size)
    generalize relayAll t2 es1 (SetTable.grown es1.size) = Y at pm ff rr ll ⊢
    obtain ⟨es2, t3, gave⟩ := Y
    dsimp only at pm ff rr ll ⊢
    have hz : es2.size = es1.size := by rw [← Array.length_toList, pm.length_eq, Array.length_toList]
    refine wpAny_bind (hg _ _ _ ?_)
    refine wpAny_bind (wpAny_storeSet_of q1 rfl ?_ (fits_of_scanBound (by rw [hz]; exact b1)))
    have q2 := store_at (es' := es2) (t' := t3) q1 rfl
    refine wpAny_pure (hR _ (k1.trans (Heap.SameBut.update _ a _)) ?_)
    exact ⟨_, es2, _, t3, q2, hex, rfl, fun e he => g1 e (pm.mem_iff.mp he), (pm.map txtOf).nodup_iff.mpr n1, fun x => (m1 x).trans (pm.map txtOf).mem_iff.symm, by rw [hz]; exact b1, ff, by rw [hz]; exact z1, rr,
      ld.imp id fun z => by rw [ll]; exact z⟩
  · exact wpAny_pure (hR _ k1 ⟨_, es1, _, t2, q1, hex, rfl, g1, n1, m1, b1, f2, z1, rs, ld⟩)
theorem txt_add {x : Str} {tk : Tok} {Q : Bool → Shared → Prop} (R : TxtSet w s.heap a L) (room : L.length + 1 < scanBound)
    (hQ : ∀ b h', Heap.SameBut a s.heap h' → TxtSet w h' a (L ++ [x]) → Q b { s with heap := h' }) :
    wpAny (model P w) A (setAddHashed a (.str x tk) ((PySem.strKind P w).hash x)) Q E s := by
  obtain ⟨ob, es, ep, t, ho, hex, hd, g, nd, hm, hb, hf, hn, hr, hl⟩ := R
  have hkey : (PySem.strKind P w).is x (.str x tk) = true := strKind_is P w x tk
  have hsc : (Value.str x tk).scannable = true := rfl
  have hel : ElemsOf (PySem.strKind P w) es.toList := txt_elems g
  unfold setAddHashed setAddHashedIn
  refine wpAny_holding (wpAny_bind (wpAny_setState_of ho hd hf ?_))
  dsimp only
  rw [byScan_of hsc hb hel]
  simp only [↓reduceIte]
  unfold setAddByScan
  refine wpAny_bind (wpAny_bind (wpAny_rule (wpAny_bind (wpAny_setScan_of hkey ho hd hf hel ?_))))
  cases hfi : List.findIdx? (fun e => (PySem.strKind P w).is x e.2) es.toList with
  | some j =>
    dsimp only
    obtain ⟨hj, pj, _⟩ := List.findIdx?_eq_some_iff_getElem.mp hfi
    have hin : x ∈ es.toList.map txtOf := (txt_mem (P := P) (w := w) g x).2 ⟨es.toList[j], List.getElem_mem hj, pj⟩
    refine wpAny_pure (wpAny_pure ?_)
    refine hQ false s.heap (Heap.SameBut.refl a s.heap) ⟨ob, es, ep, t, ho, hex, hd, g, nd, fun y => ?_, hb, hf, by rw [List.length_append]; omega, hr, hl⟩
    rw [List.mem_append, List.mem_singleton, hm y]
    exact ⟨fun z => z.elim id fun e => e ▸ hin, .inl⟩
  | none =>
    dsimp only
    have hnk : x ∉ es.toList.map txtOf := fun z => by
      obtain ⟨e, he, q⟩ := (txt_mem (P := P) (w := w) g x).1 z
      have c := List.findIdx?_eq_none_iff.mp hfi e he
      rw [q] at c
      cases c
    have hgw : ∀ (b : Bool) {s₁ : Shared} {Q' : Unit → Shared → Prop}, Q' () s₁ → wpAny (model P w) A (match b with | true => rule "set.scan.the-table-gave-way" | false => pure ()) Q' E s₁ :=
      fun b s₁ Q' q => by cases b <;> first | exact wpAny_pure q | exact wpAny_rule q
    have pm := layNew_perm t es ((PySem.strKind P w).hash x) (.str x tk)
    have ff := layNew_fits t es ((PySem.strKind P w).hash x) (.str x tk)
    have rr := layNew_ris t es ((PySem.strKind P w).hash x) (.str x tk) hr
    have ll := layNew_led t es ((PySem.strKind P w).hash x) (.str x tk)
    generalize layNew t es ((PySem.strKind P w).hash x) (.str x tk) = Y at pm ff rr ll ⊢
    obtain ⟨es1, t1, was, gave⟩ := Y
    dsimp only at pm ff rr ll ⊢
    rw [Array.toList_push] at pm
    have pc : es1.toList.Perm (((PySem.strKind P w).hash x, Value.str x tk) :: es.toList) := pm.trans (List.perm_append_singleton _ _)
    have pk : (es1.toList.map txtOf).Perm (x :: es.toList.map txtOf) := pc.map txtOf
    have g1 : ∀ e ∈ es1.toList, TxtE w e := fun e he => by
      rcases List.mem_cons.mp (pc.mem_iff.mp he) with z | z
      · rw [z]; exact ⟨x, tk, rfl, rfl⟩
      · exact g e z
    have n1 : (es1.toList.map txtOf).Nodup := pk.nodup_iff.mpr (List.nodup_cons.mpr ⟨hnk, nd⟩)
    have m1 : ∀ y, y ∈ L ++ [x] ↔ y ∈ es1.toList.map txtOf := fun y => by
      rw [List.mem_append, List.mem_singleton, hm y, pk.mem_iff, List.mem_cons]
      exact Or.comm
    have hsz : es1.size = es.size + 1 := by rw [← Array.length_toList, pc.length_eq, List.length_cons, Array.length_toList]
    have z1 : es1.size ≤ (L ++ [x]).length := by rw [hsz, List.length_append]; exact Nat.succ_le_succ hn
    have b1 : es1.size < scanBound := by rw [hsz]; omega
    have hled : w.params.followText "set-order" = true ∨ t1.led = true := hl.imp id fun z => by rw [ll]; exact z
    refine wpAny_bind (hgw _ ?_)
    split
    · refine wpAny_bind ?_
      rw [hashByValue_scannable 8 hsc]
      refine wpAny_pure ?_
      refine txt_tail ?_ ho hex hd g1 n1 m1 b1 ?_ z1 ?_ ?_ ?_
      · intro b s₁ Q' q; cases b <;> first | exact wpAny_pure q | exact wpAny_rule q
      · first | (split <;> first | exact ff | exact SetTable.fits_plain_off ff) | exact ff
      · first | (split <;> exact rr) | exact rr
      · first | (split <;> exact hled) | exact hled
      · intro h' sb r; dsimp only; exact wpAny_pure (hQ true h' sb r)
    · refine wpAny_bind (wpAny_pure ?_)
      simp only [↓reduceIte]
      refine txt_tail ?_ ho hex hd g1 n1 m1 b1 ff z1 rr hled ?_
      · intro b s₁ Q' q; cases b <;> first | exact wpAny_pure q | exact wpAny_rule q
      · intro h' sb r; dsimp only; exact wpAny_pure (hQ true h' sb r)
theorem TxtSet.at {h h' : Heap} (R : TxtSet w h a L) (k : ∀ ob, h.get? a = some ob → h'.get? a = some ob) : TxtSet w h' a L := by
  obtain ⟨ob, es, ep, t, ho, r⟩ := R
  exact ⟨ob, es, ep, t, k ob ho, r⟩
/-! ### set(xs) -/
theorem strs_at {vs : List Value} {ss : List Str} (h : StrsAre vs ss) : ∀ (i : Nat) (v : Value), vs[i]? = some v → ∃ x t, ss[i]? = some x ∧ v = .str x t := by
  induction h with
  | nil => intro i v e; simp at e
  | cons x t _ ih =>
    intro i v e
    cases i with
    | zero => simp at e; exact ⟨x, t, rfl, e.symm⟩
    | succ i => exact ih i v (by simpa using e)
theorem txt_loop {I : Addr} {fp wr : List Addr} {G : Array GenState → Array GenState → Prop} {n : Nat} {Pv : Nat → Value → Prop} {St : Nat → Shared → Prop} {R : Result → Shared → Prop} (W : WalksS P w A.in1 I fp wr G n Pv St) (D : Addr) (hDf : D ∉ fp) {ss : List Str} (hss : ss.length = n)
    (hval : ∀ i v, Pv i v → ∃ x t, ss[i]? = some x ∧ v = .str x t) (hb : n + 1 < scanBound) :
    ∀ (k i : Nat) (s : Shared), n - i = k → i ≤ n → St i s → TxtSet w s.heap D (ss.take i) → (∀ s', Moved (D :: wr) G s s' → TxtSet w s'.heap D ss → R (.ok (.ret .none)) s') →
      codeAny (model P w) A (.builtin "set.update.loop" ⟨[.ref D, .ref I], []⟩) R s := by
  have hDw : D ∉ wr := fun h => hDf (W.sub _ h)
  have hsub : ∀ b ∈ wr, b ∈ D :: wr := fun b hb => List.mem_cons_of_mem _ hb
  intro k
  induction k with
  | zero =>
    intro i s hk hi hst hS hR
    have hin : i = n := by omega
    subst hin
    refine codeAny_builtin F.entry_set_update_loop ?_
    rw [Around.under_plainId F.plain_set_update_loop _]
    show wpAny _ A.in1 (pyNext (.ref I) >>= _) _ _ s
    refine wpAny_bind (W.done s _ _ hst fun s' hm => ?_)
    show wpAny _ A.in1 (ret Value.none) _ _ s'
    refine wpAny_pure (hR s' (hm.mono hsub) ?_)
    rw [← hss, List.take_length] at hS
    exact hS.at fun ob ho => hm.heap D _ hDw ho
  | succ k ih =>
    intro i s hk hi hst hS hR
    have hlt : i < n := by omega
    refine codeAny_builtin F.entry_set_update_loop ?_
    rw [Around.under_plainId F.plain_set_update_loop _]
    show wpAny _ A.in1 (pyNext (.ref I) >>= _) _ _ s
    refine wpAny_bind (W.item i s _ _ hlt hst fun v s' hP hst' hm => ?_)
    obtain ⟨x, t, hx, rfl⟩ := hval i v hP
    have hS' : TxtSet w s'.heap D (ss.take i) := hS.at fun ob ho => hm.heap D _ hDw ho
    show wpAny _ A.in1 (holding [Value.str x t] (setAdd D (.str x t)) >>= _) _ _ s'
    refine wpAny_bind (wpAny_holding ?_)
    unfold setAdd
    refine wpAny_holding (wpAny_bind ((PySem.strKind P w).pyHash (k := x) (strKind_is _ _ _ _) ?_))
    refine txt_add (s := { s' with toks := s'.toks + 1 }) hS' (by rw [List.length_take]; omega) fun b h' hsb hS2 => ?_
    have e1 : ss.take (i + 1) = ss.take i ++ [x] := by rw [List.take_add_one, hx]; rfl
    rw [← e1] at hS2
    refine wpAny_pure ⟨plainId_quiet F.plain_set_update_loop _, ih (i + 1) _ (by omega) hlt (W.frame _ s' _ _ hst' (Nat.le_succ _) fun b hb ob e => ?_) hS2 fun s'' hm'' hS'' => ?_⟩
    · rw [hsb.2 b (fun h : b = D => hDf (by rw [← h]; exact hb))]; exact e
    · refine hR s'' (Moved.trans W.gtrans ((hm.mono hsub).then_heap (Nat.le_succ _) fun b ob hb e => ?_) hm'') hS''
      rw [hsb.2 b (fun h : b = D => hb (by rw [h]; exact List.mem_cons_self))]; exact e
/-- set.__new__ with an argument: the table's order follows the world -/
theorem code_set_one (x : Value) {Q₁ : Value → Shared → Prop}
    (h : Q₁ (.ref s.heap.objs.size) { s with heap := s.heap.push { cls := .type "set", dict := none, data := .set #[] 0 (.fresh 0 0 (!w.params.followText "set-order")) } }) :
    codeAny (model P w) A (.call (.builtin "set.__new__") ⟨[.type "set", x], []⟩) (wants Q₁ E) s := by
  refine codeAny_of_tree ?_
  show wpAny _ A.in1 (do checkBuiltinCall "set.__new__" ⟨[.type "set", x], []⟩; again (.builtin "set.__new__" ⟨[.type "set", x], []⟩)) _ _ s
  refine wpAny_bind (wpAny_of_eq (F.newCall_set_1 x) (wpAny_pure ⟨plainId_quiet F.plain_set_new _, codeAny_builtin F.entry_set_new ?_⟩))
  rw [Around.under_plainId F.plain_set_new _]
  unfold Builtin.«set.__new__» Builtin.Frozenset.newClass
  have hsub := sub_set_self
  obtain ⟨hp, g, d, tk, os⟩ := s
  dsimp only
  wp_walk
  refine wpAny_askSetting (wpAny_pure ?_)
  dsimp only
  simp only [newObj]
  exact wpAny_bind (wpAny_alloc (wpAny_pure (wpAny_pure h)))
theorem txt_fresh {h : Heap} (w : World) : TxtSet w (h.push { cls := .type "set", dict := none, data := .set #[] 0 (.fresh 0 0 (!w.params.followText "set-order")) }) h.objs.size [] :=
  ⟨_, #[], 0, _, Heap.get?_push_size _ rfl, ⟨rfl, rfl, rfl⟩, rfl, (fun e he => by simp at he), (by simp), (fun k => by simp), (by decide), (by rfl), by simp, List.Pairwise.nil, by
    show _ ∨ (!w.params.followText "set-order") = true
    cases w.params.followText "set-order"
    · exact .inr rfl
    · exact .inl rfl⟩
abbrev newSet (w : World) : Obj := { cls := .type "set", dict := none, data := .set #[] 0 (.fresh 0 0 (!w.params.followText "set-order")) }
theorem call_txtSet {l : Addr} {items : Array Value} {ss : List Str} {Q : Value → Shared → Prop} (hh : A.handled = none) (hl : s.heap.IsList l items) (hi : StrsAre items.toList ss) (hb : items.size + 1 < scanBound)
    (h : ∀ (h' : Heap) (tk : Nat), TxtSet w h' s.heap.objs.size ss → (∀ b ob, s.heap.get? b = some ob → h'.get? b = some ob) → Q (.ref s.heap.objs.size) { s with heap := h', toks := tk }) :
    wpAny (model P w) A (call (.type "set") [.ref l]) Q E s := by
  obtain ⟨c, tl, hmro⟩ := F.called_set.mro
  have hmade := F.called_set.made
  have hsub := F.called_set.sub
  refine wpAny_call (codeAny_of_tree ?_)
  show wpAny _ _ (callAny (.type "set") _) _ _ _
  refine wpAny_pure ⟨Code.quiet_builtin _ (by decide +kernel), codeAny_builtin F.entry_type_call ?_⟩
  rw [Around.under_plain (weight_type_call_type "set" [.ref l] []) rfl]
  have h1 := F.called_set.notType
  have h2 := F.called_set.canCreate
  have hct := F.typeCall_set_1 (.ref l)
  repeat (any_goals (first | assumption | wp_step))
  refine codeAny_mono (code_set_one (.ref l) (E := E) (Q₁ := fun obj s₁ => obj = .ref s.heap.objs.size ∧ s₁ = { s with heap := s.heap.push (newSet w) }) ⟨rfl, rfl⟩) fun r s₁ hr => ?_
  cases r with
  | error e => exact hr
  | ok fl =>
    cases fl with
    | ret obj =>
      obtain ⟨rfl, rfl⟩ := hr
      have hS : (s.heap.push (newSet w)).get? s.heap.objs.size = some (newSet w) := Heap.get?_push_size _ rfl
      have hT : Shared.TypeIs { s with heap := s.heap.push (newSet w) } (.ref s.heap.objs.size) "set" := ⟨_, hS, rfl⟩
      have hli := F.called_set.init.lookup
      have hbi := F.called_set.init.bind (.ref s.heap.objs.size)
      repeat (any_goals (first | assumption | wp_step))
      refine codeAny_mono (codeAny_call_builtin (R := wants (fun r s₂ => r = .none ∧ ∃ h' tk, s₂ = { s with heap := h', toks := tk } ∧ TxtSet w h' s.heap.objs.size ss ∧ (∀ b ob, s.heap.get? b = some ob → h'.get? b = some ob)) E) F.called_set.init.plain F.entry_set_init (check_set_init_1 hT ?_)) fun r₂ s₂ hr₂ => ?_
      · obtain ⟨ol, hol, hcl, nl, hdl⟩ := hl
        obtain ⟨ocls, odict, odata, oslots⟩ := ol
        simp only at hcl hdl
        subst hcl; subst hdl
        have hol' : (s.heap.push (newSet w)).get? l = some { cls := .type "list", dict := odict, data := .seq items nl, slots := oslots } := Heap.get?_push_of_some _ hol
        have hsls := F.sub_list_set
        have hslf := F.sub_list_frozenset
        have hne : (Value.type "list" == Value.type "dict") = false := by decide
        have hl1 : (s.heap.push (newSet w)).IsList l items := ⟨_, hol', rfl, nl, rfl⟩
        unfold Builtin.«set.__init__» noKeywords Builtin.Frozenset.updateFrom
        generalize hPI : pyIter = PI
        wp_walk
        subst hPI
        refine wpAny_pyIter_list hl1 (wpAny_bind (wpAny_runValue ?_))
        have hlS : l < s.heap.objs.size := Heap.lt_size hol
        have hh3 : A.in1.in1.in1.handled = none := by simp [hh]
        have hneI : l ≠ (s.heap.push (newSet w)).objs.size := by rw [Heap.size_push]; exact Nat.ne_of_lt (Nat.lt_succ_of_lt hlS)
        have hDf : s.heap.objs.size ∉ [(s.heap.push (newSet w)).objs.size, l] := by
          rw [Heap.size_push]; simp only [List.mem_cons, List.mem_singleton, List.not_mem_nil, or_false, not_or]
          exact ⟨Nat.ne_of_lt (Nat.lt_succ_self _), Nat.ne_of_gt hlS⟩
        have hval : ∀ (i : Nat) (v : Value), items[i]? = some v → ∃ x t, ss[i]? = some x ∧ v = .str x t := fun i v hv => strs_at hi i v (by rw [Array.getElem?_toList]; exact hv)
        have hsl : ss.length = items.size := by rw [← hi.length, Array.length_toList]
        refine txt_loop ((Walks.list hh3 _ l hneI items).toS) s.heap.objs.size hDf hsl hval hb (items.size - 0) 0 _ (by omega) (Nat.zero_le _) ⟨⟨_, Heap.get?_push_size _ rfl, rfl, rfl⟩, (hl1.push _)⟩ ?hS0 ?hR
        case hS0 => exact (txt_fresh w).at fun ob ho => Heap.get?_push_of_some _ ho
        case hR =>
          intro s' hm hS'
          obtain ⟨h', g', d', tk', os'⟩ := s'
          have eg : g' = s.gens := hm.gens
          have ed : d' = s.drawn := hm.drawn
          have eo : os' = s.os := hm.os
          subst eg; subst ed; subst eo
          show wpAny _ _ _ _ _ _
          refine wpAny_pure ?_
          show wpAny _ _ (ret Value.none) _ _ _
          refine wpAny_pure ⟨rfl, h', tk', rfl, hS', fun b ob e => ?_⟩
          have hlt := Heap.lt_size e
          have hb1 : b ≠ s.heap.objs.size := Nat.ne_of_lt hlt
          have hb2 : b ≠ (s.heap.push (newSet w)).objs.size := by rw [Heap.size_push]; exact Nat.ne_of_lt (Nat.lt_succ_of_lt hlt)
          exact hm.heap b ob (by simp only [List.mem_cons, List.mem_singleton, List.not_mem_nil, or_false, not_or]; exact ⟨hb1, hb2⟩) (Heap.get?_push_of_some _ (Heap.get?_push_of_some _ e))
      · cases r₂ with
        | error e => exact hr₂
        | ok fl₂ =>
          cases fl₂ with
          | ret r =>
            obtain ⟨rfl, h', tk, rfl, hS', hk'⟩ := hr₂
            repeat (any_goals (first | assumption | wp_step))
            exact h _ _ hS' hk'
          | _ => exact hr₂.elim
    | _ => exact hr.elim
end
end Gh

set_option Elab.async false
set_option linter.all false
set_option maxRecDepth 100000
set_option maxHeartbeats 1000000
/-! The ghost layer 39: sorted(set(xs)) of texts; min of lists of texts; targets of two names. -/
namespace Gh
section
open PySem PySem.Spec PyProof.Rows L2
variable {P : Program} {w : World} {A : Around} {E : Value → Shared → Prop} {s : Shared} {a : Addr} {L : List Str}
theorem strs_mk : ∀ (l : List Value), (∀ v ∈ l, ∃ x tk, v = Value.str x tk) → StrsAre l (l.map fun v => match v with | .str x _ => x | _ => Str.empty)
  | [], _ => .nil
  | v :: l, h => by
    obtain ⟨x, tk, rfl⟩ := h v List.mem_cons_self
    exact .cons x tk (strs_mk l fun u hu => h u (List.mem_cons_of_mem _ hu))
theorem sorted_txtSet {Q : Value → Shared → Prop} (R : TxtSet w s.heap a L) (hh : A.handled = none) (h64 : L.length < 64)
    (hQ : ∀ s' p (out : Array Value) (c : Nat) (ys : List Str), (∀ b o, s.heap.get? b = some o → s'.heap.get? b = some o) → s'.gens = s.gens → s'.os = s.os → s.heap.objs.size ≤ p →
      s'.heap.get? p = some (seqObj "list" out c) → StrsAre out.toList ys → sortedS ys = true → ys.Nodup → (∀ x, x ∈ ys ↔ x ∈ L) → Q (.ref p) s') :
    wpAny (model P w) A (call (.builtin "sorted") [.ref a]) Q E s := by
  obtain ⟨ob, es, ep, t, ho, hex, hd, g, nd, hm, hb, hf, hn, hr, hl⟩ := R
  refine Calls.call_function_entry kind_sorted plain_sorted entry_sorted (args_sorted1 _) ?_
  unfold Builtin.«sorted»
  refine wpAny_bind (m := checkCount "sorted" 1 1 _) (wpAny_pure ?_)
  refine wpAny_bind (collect_set (A := A.in1) hh ⟨ob, ho, hex.1, hd⟩ hf hb hr hl fun s1 vs k1 hz g1 o1 pm => ?_)
  have hvl : vs.length < 64 := by rw [pm.length_eq, List.length_map, Array.length_toList]; omega
  have hS := strs_mk vs fun v hv => by
    obtain ⟨e, he, q⟩ := List.mem_map.mp (pm.mem_iff.mp hv)
    obtain ⟨x, tk, h1, _⟩ := g e he
    exact ⟨x, tk, by rw [← q]; exact h1⟩
  have pk : (vs.map fun v => match v with | .str x _ => x | _ => Str.empty).Perm (es.toList.map txtOf) := by
    have q := pm.map fun v => match v with | .str x _ => x | _ => Str.empty
    rw [List.map_map] at q
    exact q
  refine wpAny_bind (wpAny_newList ?_ (by rw [sizeLine_eq]; omega))
  have hoL : (s1.heap.push (seqObj "list" vs.toArray 0)).get? s1.heap.objs.size = some (seqObj "list" vs.toArray 0) := Heap.get?_push_size _ rfl
  refine wpAny_bind (wpAny_holding (wpAny_call_entry slot_list_sort ⟨_, hoL, rfl⟩ entry_list_sort (list_sort_treeK strKind_oneLt hoL hS.keysOf (fun v₁ v₂ rest e => keyKind_strs (by rw [← e]; exact hS)) hvl fun st' hp hsr => ⟨_, rfl, ?_⟩) (args_list_sort _)))
  obtain ⟨ys, a1, a2, a3⟩ := sorted_out_str hS hp hsr
  obtain ⟨c, hc⟩ := sortedHeap_at (vs := vs) (out := (arrOf st').map (·.2)) hoL
  have pn : ys.Perm (es.toList.map txtOf) := a2.trans pk
  refine wpAny_pure ⟨_, rfl, hQ _ s1.heap.objs.size _ c ys (fun b u e => ?_) g1 o1 hz hc a1 a3 (pn.nodup_iff.mpr nd) (fun x => by rw [pn.mem_iff, ← hm x])⟩
  have q := k1 b u e
  have hlt := Heap.lt_size q
  show (sortedHeap (s1.heap.push (seqObj "list" vs.toArray 0)) s1.heap.objs.size vs _).get? b = some u
  rw [sortedHeap_old (Nat.ne_of_lt hlt) (by rw [size_push']; exact Nat.lt_succ_of_lt hlt)]
  exact Heap.get?_push_of_some _ q
variable {X : Cx} {pins : List (Addr × Obj)} {σ : L2.St} {H : Hp}
/-- sorted(set(e)), e a list of texts, fewer than 64 -/
def rSortSet (K : PySem.W.Frag) : V → Hp → VK → Prop := fun x H Q => ∃ (a : Addr) (L : List Str), x = .ref a ∧ SqL K H a (L.map V.str) ∧ L.length < 63 ∧
    ∀ ys p, sortedS ys = true → ys.Nodup → (∀ x, x ∈ ys ↔ x ∈ L) → H p = none → Q (.ref p) (upd H p (.lst (ys.map V.str)))
theorem pe_sortedSet {e : Expr} {te : TE} {p p2 cpos pos : Pos} (hc : X.calm = true) (he : PE X e te) (hg : Gl X "sorted") (hm : X.mg "sorted" = none) (hv : bootBuiltins "sorted" = some (.builtin "sorted")) (hg2 : Gl X "set") (hm2 : X.mg "set" = none) (hv2 : bootBuiltins "set" = some (.type "set"))
    (hst : starEach [e] X.env = (false, eval e X.env) :: starEach [] X.env) (hs : starEach [.Call (.Name "set" p2) [e] [] cpos] X.env = (false, eval (.Call (.Name "set" p2) [e] [] cpos) X.env) :: starEach [] X.env) :
    PE X (.Call (.Name "sorted" p) [.Call (.Name "set" p2) [e] [] cpos] [] pos) (fun σ H Q => te σ H fun x H1 => rSortSet X.K x H1 Q) := by
  refine ⟨fun pins s σ H Q I hq => ?_⟩
  refine wpAny_Call_Name_kw (ld_blt I hg hm hv ?_)
  refine Calls.callWith_builtin rfl (Calls.evalArgs_plain ?_)
  refine Calls.spliced_cons (rest := backTo pos (starEach [] X.env)) ?_
  refine wpAny_Call_Name_kw (ld_blt I hg2 hm2 hv2 ?_)
  have ha := (pa_cons he pa_nil hst).run cpos pins s σ H (fun vs H1 => match vs with
    | [v] => rSortSet X.K v H1 Q
    | _ => False) I hq
  refine PyProof.Rows.callWith_type1 (thn ha fun us s1 ⟨vs, H1, I1, r1, q1⟩ => ?_) hst rfl
  cases vs with
  | nil => exact False.elim q1
  | cons v vs =>
    cases vs with
    | cons _ _ => exact False.elim q1
    | nil =>
      obtain ⟨l, L, rfl, hsq, hl63, q⟩ := q1
      obtain ⟨u, rfl, ru⟩ := r1.one
      cases ru
      obtain ⟨its, rv, pl, hz⟩ := I1.list hsq
      have hSt : StrsAre its L := strs_of_vals rv
      have hlen : its.length = L.length := hSt.length
      refine call_txtSet (ss := L) (I1.ok.hd hc) pl.isList (by simpa using hSt) (by rw [List.size_toArray, hlen]; unfold scanBound; omega) fun h' tk hT hk => ?_
      have I2 : Inv X pins σ H1 { s1 with heap := h', toks := tk } := I1.kept hk
      refine Calls.spliced_nil ?_
      refine sorted_txtSet (s := { s1 with heap := h', toks := tk }) hT (I1.ok.hd hc) (by omega) fun s' p out c ys k2 g2 o2 hp hget hys hsr hnd hmem => ?_
      have hzl : (ys.map V.str).length ≤ sizeLine := by
        have h1 : ys.length ≤ L.length := List.Nodup.length_le_of_subset hnd fun x hx => (hmem x).mp hx
        rw [List.length_map, sizeLine_eq]
        omega
      have J := I2.laid (h' := s'.heap) (t' := s'.toks) (o := .lst (ys.map V.str)) k2 hp (show ObjOk X.prog X.w _ _ _ (.lst (ys.map V.str)) from ⟨hzl, out.toList, c, vals_of_strs hys, by rw [Array.toArray_toList]; exact hget⟩)
      have J' : Inv X pins σ (upd H1 p (.lst (ys.map V.str))) s' := J.call' (ch := []) o2 (Un.kept fun _ _ z => z) J.hok (by rw [g2]; exact I2.bare) (fun _ z => nomatch z)
      exact ⟨.ref p, _, J', rfl, q ys p hsr hnd hmem (I2.hok.fresh hp)⟩
end
open PySem L2
def nubS : List Str → List Str
  | [] => []
  | x :: r => if x ∈ r then nubS r else x :: nubS r
theorem mem_nubS {x : Str} : ∀ l : List Str, x ∈ nubS l ↔ x ∈ l
  | [] => by simp [nubS]
  | y :: r => by
    unfold nubS
    have ih := mem_nubS (x := x) r
    split
    · rename_i h
      rw [ih, List.mem_cons]
      exact ⟨.inr, fun z => z.elim (fun e => e ▸ h) id⟩
    · rw [List.mem_cons, List.mem_cons, ih]
theorem nodup_nubS : ∀ l : List Str, (nubS l).Nodup
  | [] => by simp [nubS]
  | y :: r => by
    unfold nubS
    split
    · exact nodup_nubS r
    · rename_i h
      exact List.nodup_cons.mpr ⟨fun z => h ((mem_nubS r).mp z), nodup_nubS r⟩
def fSortSet (f : EF) : FF := fun ρ G => (f ρ G).bind fun d G1 => match view G1 d with
  | .lst xs => (match strsOf xs with
    | some L => if L.length < 63 then .ok (.lst ((sortS (nubS L)).map D.str)) G1 else .stuck
    | none => .stuck)
  | _ => .stuck
section
variable {X : Cx} {cl : Str → Addr} {c : Ct} {W : WX} {S S' : Hp} {A A' : List Addr} {H H' : Hp} {σ σ' : L2.St} {ρ ρ' : En} {G : GH}
theorem gSortSet {e : Expr} {f : EF} {p p2 cpos pos : Pos} (hc : X.calm = true) (hm : X.mg "sorted" = none) (hv : bootBuiltins "sorted" = some (.builtin "sorted")) (hm2 : X.mg "set" = none) (hv2 : bootBuiltins "set" = some (.type "set")) (ha : PE X e (TXO ⟨X.K, cl⟩ W f)) (hg : Gl X "sorted" := by rfl) (hg2 : Gl X "set" := by rfl)
    (hst : starEach [e] X.env = (false, eval e X.env) :: starEach [] X.env := by rfl) (hs : starEach [.Call (.Name "set" p2) [e] [] cpos] X.env = (false, eval (.Call (.Name "set" p2) [e] [] cpos) X.env) :: starEach [] X.env := by rfl) :
    PE X (.Call (.Name "sorted" p) [.Call (.Name "set" p2) [e] [] cpos] [] pos) (TXF ⟨X.K, cl⟩ W (fSortSet f)) :=
  (pe_sortedSet hc ha hg hm hv hg2 hm2 hv2 hst hs).imp fun σ H Q ⟨ρ, S, A, G, e, ft, h⟩ => (goF f e ft h).imp fun v H1 ⟨S1, A1, G1, d, x1, e1, f1, r1, h1⟩ => by
    split at h1
    · rename_i q
      obtain ⟨a, vs, rfl, h2, h3⟩ := look_lst f1 r1 q
      split at h1
      · rename_i L hL
        split at h1
        · rename_i hl
          have ev := strs_rep h3 hL
          subst ev
          refine ⟨a, L, rfl, .inl (.inl h2), hl, fun ys l p1 p2 p3 hl => ?_⟩
          have hp : ys.Perm (nubS L) := (List.perm_ext_iff_of_nodup p2 (nodup_nubS L)).mpr fun x => (p3 x).trans (mem_nubS L).symm
          rw [perm_sortedS_eq (hp.trans (sortS_perm _).symm) (sortedS_pw p1) (sortS_sorted _)]
          exact h1.new f1 hl ⟨_, upd_same, Reps.strs _⟩
        · exact h1.elim
      · exact h1.elim
    · exact h1.elim
end
end Gh

set_option Elab.async false
set_option linter.all false
set_option maxRecDepth 100000
set_option maxHeartbeats 1000000
/-! The ghost layer 40: min of lists of texts. -/
namespace Gh
section
open PySem PySem.Spec PyProof.Rows L2
variable {X : Cx} {pins : List (Addr × Obj)} {σ : L2.St} {H : Hp} {s : Shared}
abbrev minLL (x : List Str) (xs : List (List Str)) : List Str := PySem.W.minOf x xs
def rMinLL (K : PySem.W.Frag) : List V → Hp → VK → Prop := fun vs H Q => ∃ (a : Addr) (ys : List V) (x : List Str) (xs : List (List Str)), vs = [V.ref a] ∧ SqL K H a ys ∧ DpAll K H ys ((x :: xs).map PySem.W.Datum.toD) ∧ ∀ (i : Nat) y, ys[i]? = some y → (x :: xs)[i]? = some (minLL x xs) → Q y H
theorem toD_inj {x y : List Str} (h : PySem.W.Datum.toD x = PySem.W.Datum.toD y) : x = y := by
  have h1 := PySem.W.Datum.eqv x y
  rw [h, PySem.W.Datum.eqv y y] at h1
  simpa using h1.symm
theorem cr_minLL (hc : X.calm = true) (hu : X.A.units + 3 < cLine) : CallR X (.builtin "min") (rMinLL X.K) := by
  intro pins s σ H vs us Q I r h
  obtain ⟨a, ys, x, xs, rfl, hs, hd, q⟩ := h
  obtain ⟨its, rv, pl, _⟩ := I.list hs
  rw [Vals.ref1 r]
  obtain ⟨as, ra⟩ := Dp.readsAll I _ _ its hd rv
  refine PySem.W.min_list_datum (α := List Str) (vs := its.toArray) (x := x) (xs := xs) (I.ok.hd hc) pl.isList ⟨as, by simpa using ra⟩ (by show X.A.units + 1 + 1 < cLine; omega) fun i v h' tk hi hold hk => ?_
  have hi' : its[i]? = some v := by simpa using hi
  obtain ⟨bs, r1, _⟩ := PySem.W.readsAll_at ra i v hi'
  obtain ⟨bs2, r2⟩ := hold
  have e1 := (reads_det (fun b o e _ => hk b o e) r1 r2).1
  have hlen : i < its.length := (List.getElem?_eq_some_iff.mp hi').1
  have hl2 : its.length = (x :: xs).length := by
    have h1 := PySem.W.readsAll_len (vs := its.toArray) (by simpa using ra)
    rw [List.size_toArray] at h1
    rw [h1]
    simp
  obtain ⟨z, hz⟩ : ∃ z, (x :: xs)[i]? = some z := ⟨_, List.getElem?_eq_getElem (by omega)⟩
  have e2 : ((x :: xs).map PySem.W.Datum.toD).getD i PyData.none = PySem.W.Datum.toD z := by
    rw [List.getD_eq_getElem?_getD, List.getElem?_map, hz]
    rfl
  rw [e2] at e1
  have e3 := toD_inj e1
  have hl3 : ys.length = its.length := rv.length
  obtain ⟨y, hy⟩ : ∃ y, ys[i]? = some y := ⟨_, List.getElem?_eq_getElem (by omega)⟩
  obtain ⟨v', hv', ry⟩ := rv.get hy
  rw [hi'] at hv'
  cases hv'
  exact ⟨y, H, I.kept hk, ry, q i y hy (hz.trans (congrArg some e3.symm))⟩
end
open PySem L2
def strsLL : List D → Option (List (List Str))
  | [] => some []
  | .lst zs :: r => (match strsOf zs, strsLL r with
    | some x, some xs => some (x :: xs)
    | _, _ => none)
  | _ => none
def oMinLL (d : D) (G : GH) : R D := match view G d with
  | .lst xs => (match strsLL xs with
    | some (x :: r) => .ok (.lst ((minLL x r).map D.str)) G
    | _ => .stuck)
  | _ => .stuck
section
variable {c : Ct} {S : Hp} {A : List Addr} {H : Hp} {G : GH}
theorem strsOf_eq : ∀ {ds : List D} {xs : List Str}, strsOf ds = some xs → ds = xs.map D.str
  | [], xs, h => by unfold strsOf at h; cases h; rfl
  | .str z :: r, xs, h => by
    unfold strsOf at h
    cases e : strsOf r with
    | none => rw [e] at h; cases h
    | some ys =>
      rw [e] at h
      cases h
      rw [strsOf_eq e]
      rfl
  | .int _ :: _, _, h | .bl _ :: _, _, h | .non :: _, _, h | .lst _ :: _, _, h | .tup _ :: _, _, h | .dic _ :: _, _, h | .dit _ :: _, _, h | .cel _ :: _, _, h | .exc _ :: _, _, h | .wrt _ :: _, _, h | .scr _ :: _, _, h | .tpz _ :: _, _, h => by unfold strsOf at h; cases h
theorem strsOf_map : ∀ xs : List Str, strsOf (xs.map D.str) = some xs
  | [] => rfl
  | x :: r => by
    show (strsOf (r.map D.str)).map _ = _
    rw [strsOf_map r]
    rfl
theorem strsLL_eq : ∀ {ds : List D} {xs : List (List Str)}, strsLL ds = some xs → ds = xs.map fun z => D.lst (z.map D.str)
  | [], xs, h => by unfold strsLL at h; cases h; rfl
  | d :: r, xs, h => by
    unfold strsLL at h
    split at h
    · rename_i e
      cases e
    · rename_i zs r' e
      cases e
      split at h
      · rename_i x xs' h1 h2
        cases h
        rw [strsLL_eq h2, strsOf_eq h1]
        rfl
      · cases h
    · cases h
theorem dp_strs {K : PySem.W.Frag} : ∀ ns : List Str, DpAll K H (ns.map V.str) (ns.map PySem.W.Datum.toD)
  | [] => .nil
  | n :: ns => .cons (.str n) (dp_strs ns)
theorem dp_LL (ft : Fits c S A G H) : ∀ {vs : List V} {xs : List (List Str)}, Reps c S A vs (xs.map fun z => D.lst (z.map D.str)) → DpAll c.K H vs (xs.map PySem.W.Datum.toD)
  | _, [], .nil => .nil
  | _, z :: xs, .cons h r => by
    refine .cons ?_ (dp_LL ft r)
    cases h with
    | lst h1 h2 =>
      have e := strs_rep h2 (strsOf_map z)
      subst e
      exact .lst (h1.sq ft.sub) (dp_strs z)
theorem unS_minLL : UnS c (rMinLL c.K) oMinLL := fun S A G H x d Q E ft r h => by
  unfold oMinLL at h
  split at h
  · rename_i q
    obtain ⟨a, vs, rfl, h2, h3⟩ := look_lst ft r q
    split at h
    · rename_i z zs hn
      have ev := strsLL_eq hn
      subst ev
      refine ⟨a, vs, z, zs, rfl, .inl (.inl h2), dp_LL ft h3, fun i y hy hi => ?_⟩
      obtain ⟨d, hd, rd⟩ := h3.get' hy
      rw [List.getElem?_map, hi] at hd
      cases hd
      exact h.here ft rd
    · exact h.elim
  · exact h.elim
end
theorem minOf_mem {α : Type} [DecidableEq α] [PySem.W.DatumOrd α] : ∀ (xs : List α) (x : α), PySem.W.minOf x xs ∈ x :: xs := by
  intro xs
  unfold PySem.W.minOf
  induction xs with
  | nil => intro x; simp
  | cons y r ih =>
    intro x
    rw [List.foldl_cons]
    rcases List.mem_cons.mp (ih (if PySem.W.DatumOrd.lt y x then y else x)) with e | e
    · rw [e]; split <;> simp
    · exact List.mem_cons_of_mem _ (List.mem_cons_of_mem _ e)
theorem u3 {k : Nat} {A : Around} (hr : Room k A) : A.units + 3 < PySem.cLine := by have := u64 hr; omega
end Gh

set_option Elab.async false
set_option linter.all false
set_option maxRecDepth 100000
set_option maxHeartbeats 4000000
/-! The mirrors of k10_whole_ways; printed by gen.py. -/
namespace K10
open PySem Gh
noncomputable section
def b__law_far : SF := (sSeq (sOwn 2 fDnewT)
  (sSeq (sPutO 2 (mVar 1) (mC (.int 0)))
  (sSeq (sAsg (mLst (mCons (mVar 1) mNil)) (gN 3))
  (sSeq (sWhile (fun _ _ => 1000000000) (mB (mOp oNe (mVarO 3) (mLst mNil)))
  (sSeq (sOwn 4 (fLst mNil))
  (sSeq (sFor (mIter (mVar 3)) (gN 5)
  (sForV (mOp oIx (mVarO 0) (mVarO 5)) (gT [6, 7])
  (sIf (mB (mOp oLt (mOp oAdd (mOp oIx (mVarO 2) (mVarO 5)) (mVarO 7)) (mGet (mVarO 2) (mVar 6) (mOp oPow (mC (.int 10)) (mC (.int 6))))))
  (sSeq (sPutO 2 (mVar 6) (mOp oAdd (mOp oIx (mVarO 2) (mVarO 5)) (mVarO 7)))
  (sAppO 4 (mVar 6)))
  sNext)))
  (sFrz 4 (sAsg (mVar 4) (gN 3))))))
  (sFrz 2 (sRet (mVar 2)))))))
def m__law_far : List D → GH → R D := mDef 2 8 b__law_far
def b__law_long : SF := (sSeq (sAsg (mFz (fComp (mComp (mIter (mSl (mOp oIx (mOp oIx (mVarO 0) (mC (.int 1))) (mVarO 1)) mNoP (mP (mC (.int 2))))) (gN 4) mYes (mOp oIx (mOp oIx (mVarO 0) (mC (.int 0))) (mVarO 4)) [4]))) (gT [2, 3]))
  (sRet (mOp oAdd (mUn oAbs (mOp oSub (mOp oIx (mVarO 2) (mC (.int 0))) (mOp oIx (mVarO 3) (mC (.int 0))))) (mUn oAbs (mOp oSub (mOp oIx (mVarO 2) (mC (.int 1))) (mOp oIx (mVarO 3) (mC (.int 1))))))))
def m__law_long : List D → GH → R D := mDef 2 5 b__law_long
def b__law_spots : SF := (sSeq (sAsg (mLst mNil) (gN 1))
  (sSeq (sFor (mRng1 (mCons (mUn oLen (mOp oIx (mVarO 0) (mC (.int 1)))) mNil)) (gN 2)
  (sAsg (mOp oAdd (mVarO 1) (mFz (fComp (mComp (mRng1 (mCons (mOp oAdd (mC (.int 1)) (mCall m__law_long (mCons (mVar 0) (mCons (mVar 2) mNil)))) mNil)) (gN 3) mYes (mTup (mCons (mVar 2) (mCons (mVar 3) mNil))) [3])))) (gN 1)))
  (sRet (mVar 1))))
def m__law_spots : List D → GH → R D := mDef 1 4 b__law_spots
def b__law_next : SF := (sSeq (sOwn 1 fDnewT)
  (sSeq (sOwn 2 fDnewK)
  (sSeq (sFor (mIter (mCall m__law_spots (mCons (mVar 0) mNil))) (gN 3)
  (sSeq (sPutO 1 (mVar 3) (mCel (fLst mNil)))
  (sSeq (sAsg (mOp oIx (mOp oIx (mVarO 0) (mC (.int 1))) (mOp oIx (mVarO 3) (mC (.int 0)))) (gN 5))
  (sSeq (sIf (mB (mOp oEq (mOp oIx (mVarO 3) (mC (.int 1))) (mC (.int 0))))
  (sPutO 2 (mOp oIx (mVarO 5) (mC (.int 0))) (mOp oAdd (mGet (mVarO 2) (mOp oIx (mVarO 5) (mC (.int 0))) (mLst mNil)) (mLst (mCons (mVar 3) mNil))))
  sNext)
  (sSeq (sIf (mB (mOp oEq (mOp oIx (mVarO 3) (mC (.int 1))) (mCall m__law_long (mCons (mVar 0) (mCons (mOp oIx (mVarO 3) (mC (.int 0))) mNil)))))
  (sPutO 2 (mOp oIx (mVarO 5) (mC (.int 1))) (mOp oAdd (mGet (mVarO 2) (mOp oIx (mVarO 5) (mC (.int 1))) (mLst mNil)) (mLst (mCons (mVar 3) mNil))))
  sNext)
  (sSeq (sIf (mB (mOp oLt (mOp oIx (mVarO 3) (mC (.int 1))) (mCall m__law_long (mCons (mVar 0) (mCons (mOp oIx (mVarO 3) (mC (.int 0))) mNil)))))
  (sDrop (mApp (mOp oIx (mVarO 1) (mVarO 3)) (mTup (mCons (mTup (mCons (mOp oIx (mVarO 3) (mC (.int 0))) (mCons (mOp oAdd (mOp oIx (mVarO 3) (mC (.int 1))) (mC (.int 1))) mNil))) (mCons (mC (.int 1)) mNil)))))
  sNext)
  (sIf (mAnd (mB (mOp oGt (mOp oIx (mVarO 3) (mC (.int 1))) (mC (.int 0)))) (mNot (mTru (mOp oIx (mVarO 5) (mC (.int 2))))))
  (sDrop (mApp (mOp oIx (mVarO 1) (mVarO 3)) (mTup (mCons (mTup (mCons (mOp oIx (mVarO 3) (mC (.int 0))) (mCons (mOp oSub (mOp oIx (mVarO 3) (mC (.int 1))) (mC (.int 1))) mNil))) (mCons (mC (.int 1)) mNil)))))
  sNext)))))))
  (sSeq (sFor (mIter (mFz (fKeys (mVarO 2)))) (gN 4)
  (sFor (mIter (mOp oIx (mVarO 2) (mVarO 4))) (gN 3)
  (sPutO 1 (mVar 3) (mOp oAdd (mOp oIx (mVarO 1) (mVarO 3)) (mFz (fComp (mComp (mIter (mOp oIx (mVarO 2) (mVarO 4))) (gN 6) (mB (mOp oNe (mVarO 6) (mVarO 3))) (mTup (mCons (mVar 6) (mCons (mC (.int 0)) mNil))) [6])))))))
  (sFrz 1 (sRet (mVar 1)))))))
def m__law_next : List D → GH → R D := mDef 1 7 b__law_next
def b__law_cell : SF := (sSeq (sIf (mTru (mVarO 0))
  (sRet (mOp oIx (mVarO 0) (mOp oMod (mVarO 1) (mUn oLen (mVarO 0)))))
  sNext)
  (sRet (mC (.int 0))))
def m__law_cell : List D → GH → R D := mDef 2 2 b__law_cell
def b__law_mix : SF := (sSeq (sAsg (mOp oMod (mOp oAdd (mCall m__law_cell (mCons (mVar 0) (mCons (mVar 1) mNil))) (mOp oMul (mC (.int 104729)) (mOp oAdd (mVarO 1) (mC (.int 1))))) (mC (.int 4294967291))) (gN 2))
  (sSeq (sAsg (mOp oMod (mOp oPow (mVarO 2) (mC (.int 5))) (mC (.int 4294967279))) (gN 2))
  (sRet (mOp oMod (mOp oAdd (mOp oMul (mOp oDiv (mVarO 2) (mC (.int 64))) (mC (.int 69621))) (mVarO 2)) (mC (.int 4294967231))))))
def m__law_mix : List D → GH → R D := mDef 2 3 b__law_mix
def b__law_draw : SF := (sSeq (sDrop (mApp (mVar 1) (mC (.int 0))))
  (sRet (mOp oMod (mOp oDiv (mCall m__law_mix (mCons (mVar 0) (mCons (mUn oLen (mVarO 1)) mNil))) (mC (.int 8))) (mVarO 2))))
def m__law_draw : List D → GH → R D := mDef 3 3 b__law_draw
def b__law_pick : SF := (sRet (mOp oIx (mVarO 2) (mCall m__law_draw (mCons (mVar 0) (mCons (mVar 1) (mCons (mUn oLen (mVarO 2)) mNil))))))
def m__law_pick : List D → GH → R D := mDef 3 3 b__law_pick
def b__law_refusal : SF := (sSeq (sIf (mB (mOp oIs (mVarO 0) (mC .non)))
  (sRet (mTup (mCons (mC (.str "ok")) mNil)))
  sNext)
  (sSeq (sAsg (mLst (mCons (mUn (oIsx [("NoWay", false)]) (mVarO 0)) (mCons (mUn (oIsx [("NoWay", false)]) (mVarO 0)) (mCons (mUn (oIsx [("NoWay", false)]) (mVarO 0)) mNil)))) (gN 1))
  (sSeq (sAsg (mOp oAdd (mVarO 1) (mLst (mCons (mUn (oIsx [("NoWay", false)]) (mVarO 0)) (mCons (mUn (oIsx [("NoWay", false)]) (mVarO 0)) (mCons (mUn (oIsx [("NoWay", false)]) (mVarO 0)) mNil))))) (gN 1))
  (sSeq (sAsg (mOp oAdd (mVarO 1) (mLst (mCons (mUn (oIsx [("NoWay", false)]) (mVarO 0)) (mCons (mUn (oIsx [("NoWay", true)]) (mVarO 0)) mNil)))) (gN 1))
  (sSeq (sIf (mOr (mB (mOp oNe (mCount (mVarO 1) (mC (.bl true))) (mC (.int 1)))) (mNot (mTru (mUn (oIsx [("NoWay", true)]) (mVarO 0)))))
  (sRet (mTup (mCons (mC (.str "wrong")) mNil)))
  sNext)
  (sRet (mTup (mCons (mC (.str "refused")) (mCons (mOp oIx (mLst (mCons (mC (.str "web")) (mCons (mC (.str "spot")) (mCons (mC (.str "rules")) (mCons (mC (.str "track")) (mCons (mC (.str "lead")) (mCons (mC (.str "number")) (mCons (mC (.str "text")) (mCons (mC (.str "way")) mNil))))))))) (mIndex (mVarO 1) (mC (.bl true)))) mNil)))))))))
def m__law_refusal : List D → GH → R D := mDef 1 2 b__law_refusal
def b_long_of : SF := (sSeq (sPar 2 3 (mCons (mOp oIx (mOp oIx (mVarO 0) (mC (.int 0))) (mOp oIx (mOp oIx (mOp oIx (mVarO 0) (mC (.int 1))) (mVarO 1)) (mC (.int 0)))) (mCons (mOp oIx (mOp oIx (mVarO 0) (mC (.int 0))) (mOp oIx (mOp oIx (mOp oIx (mVarO 0) (mC (.int 1))) (mVarO 1)) (mC (.int 1)))) mNil)))
  (sRet (mOp oAdd (mUn oAbs (mOp oSub (mOp oIx (mVarO 2) (mC (.int 0))) (mOp oIx (mVarO 3) (mC (.int 0))))) (mUn oAbs (mOp oSub (mOp oIx (mVarO 2) (mC (.int 1))) (mOp oIx (mVarO 3) (mC (.int 1))))))))
def m_long_of : List D → GH → R D := mDef 2 4 b_long_of
def b_coming : SF := (sSeq (sAsg (mOp oIx (mOp oIx (mVarO 0) (mC (.int 1))) (mOp oIx (mVarO 1) (mC (.int 0)))) (gT [4, 5, 6]))
  (sSeq (sAsg (mCall m_long_of (mCons (mVar 0) (mCons (mOp oIx (mVarO 1) (mC (.int 0))) mNil))) (gN 2))
  (sSeq (sOwn 3 (fLst (mCons (mTup (mCons (mVar 4) (mCons (mOp oIx (mVarO 1) (mC (.int 1))) mNil))) mNil)))
  (sSeq (sIf (mOr (mNot (mTru (mVarO 6))) (mB (mOp oEq (mOp oIx (mVarO 1) (mC (.int 1))) (mVarO 2))))
  (sAppO 3 (mTup (mCons (mVar 5) (mCons (mOp oSub (mVarO 2) (mOp oIx (mVarO 1) (mC (.int 1)))) mNil))))
  sNext)
  (sFrz 3 (sRet (mVar 3)))))))
def m_coming : List D → GH → R D := mDef 2 7 b_coming
def b_leaving : SF := (sSeq (sAsg (mOp oIx (mOp oIx (mVarO 0) (mC (.int 1))) (mOp oIx (mVarO 1) (mC (.int 0)))) (gT [3, 4, 5]))
  (sSeq (sOwn 2 (fLst (mCons (mTup (mCons (mVar 4) (mCons (mOp oSub (mCall m_long_of (mCons (mVar 0) (mCons (mOp oIx (mVarO 1) (mC (.int 0))) mNil))) (mOp oIx (mVarO 1) (mC (.int 1)))) mNil))) mNil)))
  (sSeq (sIf (mOr (mNot (mTru (mVarO 5))) (mB (mOp oEq (mOp oIx (mVarO 1) (mC (.int 1))) (mC (.int 0)))))
  (sAppO 2 (mTup (mCons (mVar 3) (mCons (mOp oIx (mVarO 1) (mC (.int 1))) mNil))))
  sNext)
  (sFrz 2 (sRet (mVar 2))))))
def m_leaving : List D → GH → R D := mDef 2 6 b_leaving
def b_straight : SF := (sSeq (sIf (mOr (mB (mOp oNe (mOp oIx (mVarO 1) (mC (.int 0))) (mOp oIx (mVarO 2) (mC (.int 0))))) (mAnd (mB (mOp oLt (mOp oIx (mVarO 2) (mC (.int 1))) (mOp oIx (mVarO 1) (mC (.int 1))))) (mTru (mOp oIx (mOp oIx (mOp oIx (mVarO 0) (mC (.int 1))) (mOp oIx (mVarO 1) (mC (.int 0)))) (mC (.int 2))))))
  (sRet (mC (.int 1000000000)))
  sNext)
  (sRet (mUn oAbs (mOp oSub (mOp oIx (mVarO 2) (mC (.int 1))) (mOp oIx (mVarO 1) (mC (.int 1)))))))
def m_straight : List D → GH → R D := mDef 3 3 b_straight
def b_length_by : SF := (sSeq (sAsg (mCall m_straight (mCons (mVar 0) (mCons (mVar 2) (mCons (mVar 3) mNil)))) (gN 4))
  (sSeq (sFor (mIter (mCall m_leaving (mCons (mVar 0) (mCons (mVar 2) mNil)))) (gT [5, 6])
  (sFor (mIter (mCall m_coming (mCons (mVar 0) (mCons (mVar 3) mNil)))) (gT [7, 8])
  (sAsg (mOp oMin2 (mVarO 4) (mOp oAdd (mOp oAdd (mVarO 6) (mOp oIx (mVarO 1) (mTup (mCons (mVar 5) (mCons (mVar 7) mNil))))) (mVarO 8))) (gN 4))))
  (sRet (mVar 4))))
def m_length_by : List D → GH → R D := mDef 4 9 b_length_by
def b_lengths : SF := (sSeq (sAsg (mFz (fSortKeys (mOp oIx (mVarO 0) (mC (.int 0))))) (gN 1))
  (sSeq (sOwn 2 fDnewT)
  (sSeq (sFor (mIter (mVar 1)) (gN 3)
  (sFor (mIter (mVar 1)) (gN 6)
  (sPutO 2 (mTup (mCons (mVar 3) (mCons (mVar 6) mNil))) (mIf (mB (mOp oEq (mVarO 3) (mVarO 6))) (mC (.int 0)) (mC (.int 1000000000))))))
  (sSeq (sFor (mRng1 (mCons (mUn oLen (mOp oIx (mVarO 0) (mC (.int 1)))) mNil)) (gN 4)
  (sSeq (sAsg (mOp oIx (mOp oIx (mVarO 0) (mC (.int 1))) (mVarO 4)) (gT [3, 6, 7]))
  (sSeq (sPutO 2 (mTup (mCons (mVar 3) (mCons (mVar 6) mNil))) (mOp oMin2 (mOp oIx (mVarO 2) (mTup (mCons (mVar 3) (mCons (mVar 6) mNil)))) (mCall m_long_of (mCons (mVar 0) (mCons (mVar 4) mNil)))))
  (sIf (mNot (mTru (mVarO 7)))
  (sPutO 2 (mTup (mCons (mVar 6) (mCons (mVar 3) mNil))) (mOp oMin2 (mOp oIx (mVarO 2) (mTup (mCons (mVar 6) (mCons (mVar 3) mNil)))) (mCall m_long_of (mCons (mVar 0) (mCons (mVar 4) mNil)))))
  sNext))))
  (sSeq (sFor (mIter (mVar 1)) (gN 5)
  (sFor (mIter (mVar 1)) (gN 3)
  (sFor (mIter (mVar 1)) (gN 6)
  (sPutO 2 (mTup (mCons (mVar 3) (mCons (mVar 6) mNil))) (mOp oMin2 (mOp oIx (mVarO 2) (mTup (mCons (mVar 3) (mCons (mVar 6) mNil)))) (mOp oAdd (mOp oIx (mVarO 2) (mTup (mCons (mVar 3) (mCons (mVar 5) mNil)))) (mOp oIx (mVarO 2) (mTup (mCons (mVar 5) (mCons (mVar 6) mNil))))))))))
  (sFrz 2 (sRet (mVar 2))))))))
def m_lengths : List D → GH → R D := mDef 1 8 b_lengths
def b_is_whole : SF := (sRet (mAndV (mUn (oIsi "int") (mVarO 0)) (mAndV (mNotV (mUn (oIsi "bool") (mVarO 0))) (mChain oLe oLe (mVarO 1) (mVarO 0) (mVarO 2)))))
def m_is_whole : List D → GH → R D := mDef 3 3 b_is_whole
def b_is_spot : SF := (sSeq (sIf (mOr (mNot (mTru (mUn (oIsi "tuple") (mVarO 1)))) (mOr (mB (mOp oNe (mUn oLen (mVarO 1)) (mC (.int 2)))) (mNot (mTru (mCall m_is_whole (mCons (mOp oIx (mVarO 1) (mC (.int 0))) (mCons (mC (.int 0)) (mCons (mOp oSub (mUn oLen (mOp oIx (mVarO 0) (mC (.int 1)))) (mC (.int 1))) mNil))))))))
  (sRet (mC (.bl false)))
  sNext)
  (sRet (mCall m_is_whole (mCons (mOp oIx (mVarO 1) (mC (.int 1))) (mCons (mC (.int 0)) (mCons (mCall m_long_of (mCons (mVar 0) (mCons (mOp oIx (mVarO 1) (mC (.int 0))) mNil))) mNil))))))
def m_is_spot : List D → GH → R D := mDef 2 2 b_is_spot
def b_look_spot : SF := (sIf (mNot (mTru (mCall m_is_spot (mCons (mVar 0) (mCons (mVar 1) mNil)))))
  sNever
  sNext)
def m_look_spot : List D → GH → R D := mDef 2 2 b_look_spot
def b_is_name : SF := (sRet (mAndV (mUn (oIsi "str") (mVarO 0)) (mAndV (mChain oLe oLe (mC (.int 1)) (mUn oLen (mVarO 0)) (mC (.int 8))) (mUn oAll (mFz (fComp (mComp (mIter (mVar 0)) (gN 1) mYes (mOp oIn (mVarO 1) (mC (.str "abcdefghijklmnopqrstuvwxyz"))) [1])))))))
def m_is_name : List D → GH → R D := mDef 1 2 b_is_name
def b_is_point : SF := (sRet (mAndV (mUn (oIsi "tuple") (mVarO 0)) (mAndV (mOp oEq (mUn oLen (mVarO 0)) (mC (.int 2))) (mUn oAll (mFz (fComp (mComp (mIter (mVar 0)) (gN 1) mYes (mCall m_is_whole (mCons (mVar 1) (mCons (mC (.int 0)) (mCons (mC (.int 60)) mNil)))) [1])))))))
def m_is_point : List D → GH → R D := mDef 1 2 b_is_point
def b_are_places : SF := (sSeq (sIf (mOr (mNot (mTru (mUn (oIsi "dict") (mVarO 0)))) (mOr (mB (mOp oGt (mUn oLen (mVarO 0)) (mC (.int 16)))) (mNot (mTru (mUn oAll (mFz (fComp (mComp (mKeys 0) (gN 1) mYes (mCall m_is_name (mCons (mVar 1) mNil)) [1]))))))))
  (sRet (mC (.bl false)))
  sNext)
  (sRet (mUn oAll (mFz (fComp (mComp (mKeys 0) (gN 1) mYes (mCall m_is_point (mCons (mOp oIx (mVarO 0) (mVarO 1)) mNil)) [1]))))))
def m_are_places : List D → GH → R D := mDef 1 2 b_are_places
def b_is_road : SF := (sSeq (sIf (mOr (mNot (mTru (mUn (oIsi "tuple") (mVarO 1)))) (mOr (mB (mOp oNe (mUn oLen (mVarO 1)) (mC (.int 3)))) (mNot (mTru (mUn (oIsi "bool") (mOp oIx (mVarO 1) (mC (.int 2))))))))
  (sRet (mC (.bl false)))
  sNext)
  (sSeq (sIf (mNot (mTru (mUn oAll (mFz (fComp (mComp (mIter (mSl (mVarO 1) mNoP (mP (mC (.int 2))))) (gN 4) mYes (mAndV (mCall m_is_name (mCons (mVar 4) mNil)) (mOp oIn (mVarO 4) (mVarO 0))) [4]))))))
  (sRet (mC (.bl false)))
  sNext)
  (sSeq (sPar 2 3 (mCons (mOp oIx (mVarO 0) (mOp oIx (mVarO 1) (mC (.int 0)))) (mCons (mOp oIx (mVarO 0) (mOp oIx (mVarO 1) (mC (.int 1)))) mNil)))
  (sRet (mAndV (mOp oNe (mVarO 2) (mVarO 3)) (mOrV (mOp oEq (mOp oIx (mVarO 2) (mC (.int 0))) (mOp oIx (mVarO 3) (mC (.int 0)))) (mOp oEq (mOp oIx (mVarO 2) (mC (.int 1))) (mOp oIx (mVarO 3) (mC (.int 1))))))))))
def m_is_road : List D → GH → R D := mDef 2 5 b_is_road
def b_look_web : SF := (sSeq (sIf (mOr (mNot (mTru (mUn (oIsi "tuple") (mVarO 0)))) (mOr (mB (mOp oNe (mUn oLen (mVarO 0)) (mC (.int 2)))) (mNot (mTru (mCall m_are_places (mCons (mOp oIx (mVarO 0) (mC (.int 0))) mNil))))))
  sNever
  sNext)
  (sSeq (sIf (mOr (mNot (mTru (mUn (oIsi "list") (mOp oIx (mVarO 0) (mC (.int 1)))))) (mNot (mB (mChain oLe oLe (mC (.int 1)) (mUn oLen (mOp oIx (mVarO 0) (mC (.int 1)))) (mC (.int 20))))))
  sNever
  sNext)
  (sSeq (sIf (mNot (mTru (mUn oAll (mFz (fComp (mComp (mIter (mOp oIx (mVarO 0) (mC (.int 1)))) (gN 1) mYes (mCall m_is_road (mCons (mOp oIx (mVarO 0) (mC (.int 0))) (mCons (mVar 1) mNil))) [1]))))))
  sNever
  sNext)
  (sIf (mB (mOp oGt (mUn oSum (mFz (fComp (mComp (mRng1 (mCons (mUn oLen (mOp oIx (mVarO 0) (mC (.int 1)))) mNil)) (gN 1) mYes (mCall m_long_of (mCons (mVar 0) (mCons (mVar 1) mNil))) [1])))) (mC (.int 100))))
  sNever
  sNext))))
def m_look_web : List D → GH → R D := mDef 1 2 b_look_web
def b_look_both : SF := (sSeq (sDrop (mCall m_look_web (mCons (mVar 0) mNil)))
  (sSeq (sDrop (mCall m_look_spot (mCons (mVar 0) (mCons (mVar 1) mNil))))
  (sDrop (mCall m_look_spot (mCons (mVar 0) (mCons (mVar 2) mNil))))))
def m_look_both : List D → GH → R D := mDef 3 3 b_look_both
def b_steps_from : SF := (sSeq (sOwn 4 (fLst mNil))
  (sSeq (sFor (mRng1 (mCons (mUn oLen (mOp oIx (mVarO 0) (mC (.int 1)))) mNil)) (gN 5)
  (sSeq (sAsg (mOp oIx (mOp oIx (mVarO 0) (mC (.int 1))) (mVarO 5)) (gT [6, 7, 8]))
  (sFor (mIter (mTup (mCons (mTup (mCons (mVar 6) (mCons (mVar 7) (mCons (mC (.bl true)) mNil)))) (mCons (mTup (mCons (mVar 7) (mCons (mVar 6) (mCons (mNotV (mVar 8)) mNil)))) mNil)))) (gT [9, 10, 11])
  (sIf (mAnd (mTru (mVarO 11)) (mAnd (mB (mOp oEq (mVarO 9) (mVarO 2))) (mB (mOp oEq (mOp oAdd (mCall m_long_of (mCons (mVar 0) (mCons (mVar 5) mNil))) (mOp oIx (mVarO 1) (mTup (mCons (mVar 10) (mCons (mVar 3) mNil))))) (mOp oIx (mVarO 1) (mTup (mCons (mVar 2) (mCons (mVar 3) mNil))))))))
  (sAppO 4 (mVar 10))
  sNext))))
  (sFrz 4 (sRet (mFz (fSortSet (mVarO 4)))))))
def m_steps_from : List D → GH → R D := mDef 4 12 b_steps_from
def b_places_between : SF := (sSeq (sOwn 4 (fLst (mCons (mVar 2) mNil)))
  (sSeq (sWhile (fun _ _ => 1000000000) (mB (mOp oNe (mOp oIx (mVarO 4) (mC (.int (-1)))) (mVarO 3)))
  (sAppO 4 (mOp oIx (mCall m_steps_from (mCons (mVar 0) (mCons (mVar 1) (mCons (mOp oIx (mVarO 4) (mC (.int (-1)))) (mCons (mVar 3) mNil))))) (mC (.int 0)))))
  (sFrz 4 (sRet (mVar 4)))))
def m_places_between : List D → GH → R D := mDef 4 5 b_places_between
def b_way_by : SF := (sSeq (sAsg (mCall m_length_by (mCons (mVar 0) (mCons (mVar 1) (mCons (mVar 2) (mCons (mVar 3) mNil))))) (gN 4))
  (sSeq (sIf (mB (mOp oEq (mCall m_straight (mCons (mVar 0) (mCons (mVar 2) (mCons (mVar 3) mNil)))) (mVarO 4)))
  (sRet (mLst mNil))
  sNext)
  (sSeq (sOwn 5 (fLst mNil))
  (sSeq (sFor (mIter (mCall m_leaving (mCons (mVar 0) (mCons (mVar 2) mNil)))) (gT [6, 7])
  (sFor (mIter (mCall m_coming (mCons (mVar 0) (mCons (mVar 3) mNil)))) (gT [8, 9])
  (sIf (mB (mOp oEq (mOp oAdd (mOp oAdd (mVarO 7) (mOp oIx (mVarO 1) (mTup (mCons (mVar 6) (mCons (mVar 8) mNil))))) (mVarO 9)) (mVarO 4)))
  (sAppO 5 (mCall m_places_between (mCons (mVar 0) (mCons (mVar 1) (mCons (mVar 6) (mCons (mVar 8) mNil))))))
  sNext)))
  (sFrz 5 (sRet (mUn oMinLL (mVarO 5))))))))
def m_way_by : List D → GH → R D := mDef 4 10 b_way_by
def b_way : SF := (sSeq (sDrop (mCall m_look_both (mCons (mVar 0) (mCons (mVar 1) (mCons (mVar 2) mNil)))))
  (sSeq (sAsg (mCall m_lengths (mCons (mVar 0) mNil)) (gN 3))
  (sSeq (sIf (mB (mOp oGe (mCall m_length_by (mCons (mVar 0) (mCons (mVar 3) (mCons (mVar 1) (mCons (mVar 2) mNil))))) (mC (.int 1000000000))))
  (sRaise "NoWay")
  sNext)
  (sRet (mCall m_way_by (mCons (mVar 0) (mCons (mVar 3) (mCons (mVar 1) (mCons (mVar 2) mNil)))))))))
def m_way : List D → GH → R D := mDef 3 4 b_way
def b__law_told : SF := (sSeq (sAsg (mC .non) (gN 3))
  (sSeq (sAsg (mC .non) (gN 4))
  (sSeq (sTry ["NoWay"] (sAsg (mCall m_way (mCons (mVar 0) (mCons (mVar 1) (mCons (mVar 2) mNil)))) (gN 4)) 3 5)
  (sRet (mIf (mB (mOp oIs (mVarO 3) (mC .non))) (mTup (mCons (mC (.str "found")) (mCons (mVar 4) mNil))) (mCall m__law_refusal (mCons (mVar 3) mNil)))))))
def m__law_told : List D → GH → R D := mDef 3 6 b__law_told
def b__law_rows_0 : SF := (sSeq (sIf (mB (mOp oEq (mVarO 2) (mVarO 3)))
  (sRet (mLst (mCons (mLst (mCons (mVar 2) mNil)) mNil)))
  sNext)
  (sSeq (sAsg (mLst mNil) (gN 4))
  (sSeq (sFor (mRng1 (mCons (mUn oLen (mOp oIx (mVarO 0) (mC (.int 1)))) mNil)) (gN 5)
  (sSeq (sAsg (mOp oIx (mOp oIx (mVarO 0) (mC (.int 1))) (mVarO 5)) (gT [8, 9, 10]))
  (sFor (mIter (mOp oAdd (mLst (mCons (mTup (mCons (mVar 8) (mCons (mVar 9) mNil))) mNil)) (mOp oMul (mLst (mCons (mTup (mCons (mVar 9) (mCons (mVar 8) mNil))) mNil)) (mUn oToInt (mNotV (mVar 10)))))) (gT [11, 7])
  (sSeq (sAsg (mOp oAdd (mCall m__law_long (mCons (mVar 0) (mCons (mVar 5) mNil))) (mGet (mVarO 1) (mTup (mCons (mVar 7) (mCons (mVar 3) mNil))) (mOp oPow (mC (.int 10)) (mC (.int 6))))) (gN 12))
  (sAsg (mOp oAdd (mVarO 4) (mOp oMul (mLst (mCons (mVar 7) mNil)) (mUn oToInt (mAndV (mOp oEq (mVarO 11) (mVarO 2)) (mOp oEq (mVarO 12) (mOp oIx (mVarO 1) (mTup (mCons (mVar 2) (mCons (mVar 3) mNil))))))))) (gN 4))))))
  (sSeq (sAsg (mLst mNil) (gN 6))
  (sSeq (sFor (mIter (mFz (fSortSet (mVarO 4)))) (gN 7)
  (sAsg (mOp oAdd (mVarO 6) (mFz (fComp (mComp (mIter mNever) (gN 13) mYes (mOp oAdd (mLst (mCons (mVar 2) mNil)) (mVarO 13)) [13])))) (gN 6)))
  (sRet (mVar 6)))))))
def m__law_rows_0 : List D → GH → R D := mDef 4 14 b__law_rows_0
def b__law_rows_1 : SF := (sSeq (sIf (mB (mOp oEq (mVarO 2) (mVarO 3)))
  (sRet (mLst (mCons (mLst (mCons (mVar 2) mNil)) mNil)))
  sNext)
  (sSeq (sAsg (mLst mNil) (gN 4))
  (sSeq (sFor (mRng1 (mCons (mUn oLen (mOp oIx (mVarO 0) (mC (.int 1)))) mNil)) (gN 5)
  (sSeq (sAsg (mOp oIx (mOp oIx (mVarO 0) (mC (.int 1))) (mVarO 5)) (gT [8, 9, 10]))
  (sFor (mIter (mOp oAdd (mLst (mCons (mTup (mCons (mVar 8) (mCons (mVar 9) mNil))) mNil)) (mOp oMul (mLst (mCons (mTup (mCons (mVar 9) (mCons (mVar 8) mNil))) mNil)) (mUn oToInt (mNotV (mVar 10)))))) (gT [11, 7])
  (sSeq (sAsg (mOp oAdd (mCall m__law_long (mCons (mVar 0) (mCons (mVar 5) mNil))) (mGet (mVarO 1) (mTup (mCons (mVar 7) (mCons (mVar 3) mNil))) (mOp oPow (mC (.int 10)) (mC (.int 6))))) (gN 12))
  (sAsg (mOp oAdd (mVarO 4) (mOp oMul (mLst (mCons (mVar 7) mNil)) (mUn oToInt (mAndV (mOp oEq (mVarO 11) (mVarO 2)) (mOp oEq (mVarO 12) (mOp oIx (mVarO 1) (mTup (mCons (mVar 2) (mCons (mVar 3) mNil))))))))) (gN 4))))))
  (sSeq (sAsg (mLst mNil) (gN 6))
  (sSeq (sFor (mIter (mFz (fSortSet (mVarO 4)))) (gN 7)
  (sAsg (mOp oAdd (mVarO 6) (mFz (fComp (mComp (mIter (mCall m__law_rows_0 (mCons (mVar 0) (mCons (mVar 1) (mCons (mVar 7) (mCons (mVar 3) mNil)))))) (gN 13) mYes (mOp oAdd (mLst (mCons (mVar 2) mNil)) (mVarO 13)) [13])))) (gN 6)))
  (sRet (mVar 6)))))))
def m__law_rows_1 : List D → GH → R D := mDef 4 14 b__law_rows_1
def b__law_rows_2 : SF := (sSeq (sIf (mB (mOp oEq (mVarO 2) (mVarO 3)))
  (sRet (mLst (mCons (mLst (mCons (mVar 2) mNil)) mNil)))
  sNext)
  (sSeq (sAsg (mLst mNil) (gN 4))
  (sSeq (sFor (mRng1 (mCons (mUn oLen (mOp oIx (mVarO 0) (mC (.int 1)))) mNil)) (gN 5)
  (sSeq (sAsg (mOp oIx (mOp oIx (mVarO 0) (mC (.int 1))) (mVarO 5)) (gT [8, 9, 10]))
  (sFor (mIter (mOp oAdd (mLst (mCons (mTup (mCons (mVar 8) (mCons (mVar 9) mNil))) mNil)) (mOp oMul (mLst (mCons (mTup (mCons (mVar 9) (mCons (mVar 8) mNil))) mNil)) (mUn oToInt (mNotV (mVar 10)))))) (gT [11, 7])
  (sSeq (sAsg (mOp oAdd (mCall m__law_long (mCons (mVar 0) (mCons (mVar 5) mNil))) (mGet (mVarO 1) (mTup (mCons (mVar 7) (mCons (mVar 3) mNil))) (mOp oPow (mC (.int 10)) (mC (.int 6))))) (gN 12))
  (sAsg (mOp oAdd (mVarO 4) (mOp oMul (mLst (mCons (mVar 7) mNil)) (mUn oToInt (mAndV (mOp oEq (mVarO 11) (mVarO 2)) (mOp oEq (mVarO 12) (mOp oIx (mVarO 1) (mTup (mCons (mVar 2) (mCons (mVar 3) mNil))))))))) (gN 4))))))
  (sSeq (sAsg (mLst mNil) (gN 6))
  (sSeq (sFor (mIter (mFz (fSortSet (mVarO 4)))) (gN 7)
  (sAsg (mOp oAdd (mVarO 6) (mFz (fComp (mComp (mIter (mCall m__law_rows_1 (mCons (mVar 0) (mCons (mVar 1) (mCons (mVar 7) (mCons (mVar 3) mNil)))))) (gN 13) mYes (mOp oAdd (mLst (mCons (mVar 2) mNil)) (mVarO 13)) [13])))) (gN 6)))
  (sRet (mVar 6)))))))
def m__law_rows_2 : List D → GH → R D := mDef 4 14 b__law_rows_2
def b__law_rows_3 : SF := (sSeq (sIf (mB (mOp oEq (mVarO 2) (mVarO 3)))
  (sRet (mLst (mCons (mLst (mCons (mVar 2) mNil)) mNil)))
  sNext)
  (sSeq (sAsg (mLst mNil) (gN 4))
  (sSeq (sFor (mRng1 (mCons (mUn oLen (mOp oIx (mVarO 0) (mC (.int 1)))) mNil)) (gN 5)
  (sSeq (sAsg (mOp oIx (mOp oIx (mVarO 0) (mC (.int 1))) (mVarO 5)) (gT [8, 9, 10]))
  (sFor (mIter (mOp oAdd (mLst (mCons (mTup (mCons (mVar 8) (mCons (mVar 9) mNil))) mNil)) (mOp oMul (mLst (mCons (mTup (mCons (mVar 9) (mCons (mVar 8) mNil))) mNil)) (mUn oToInt (mNotV (mVar 10)))))) (gT [11, 7])
  (sSeq (sAsg (mOp oAdd (mCall m__law_long (mCons (mVar 0) (mCons (mVar 5) mNil))) (mGet (mVarO 1) (mTup (mCons (mVar 7) (mCons (mVar 3) mNil))) (mOp oPow (mC (.int 10)) (mC (.int 6))))) (gN 12))
  (sAsg (mOp oAdd (mVarO 4) (mOp oMul (mLst (mCons (mVar 7) mNil)) (mUn oToInt (mAndV (mOp oEq (mVarO 11) (mVarO 2)) (mOp oEq (mVarO 12) (mOp oIx (mVarO 1) (mTup (mCons (mVar 2) (mCons (mVar 3) mNil))))))))) (gN 4))))))
  (sSeq (sAsg (mLst mNil) (gN 6))
  (sSeq (sFor (mIter (mFz (fSortSet (mVarO 4)))) (gN 7)
  (sAsg (mOp oAdd (mVarO 6) (mFz (fComp (mComp (mIter (mCall m__law_rows_2 (mCons (mVar 0) (mCons (mVar 1) (mCons (mVar 7) (mCons (mVar 3) mNil)))))) (gN 13) mYes (mOp oAdd (mLst (mCons (mVar 2) mNil)) (mVarO 13)) [13])))) (gN 6)))
  (sRet (mVar 6)))))))
def m__law_rows_3 : List D → GH → R D := mDef 4 14 b__law_rows_3
def b__law_rows_4 : SF := (sSeq (sIf (mB (mOp oEq (mVarO 2) (mVarO 3)))
  (sRet (mLst (mCons (mLst (mCons (mVar 2) mNil)) mNil)))
  sNext)
  (sSeq (sAsg (mLst mNil) (gN 4))
  (sSeq (sFor (mRng1 (mCons (mUn oLen (mOp oIx (mVarO 0) (mC (.int 1)))) mNil)) (gN 5)
  (sSeq (sAsg (mOp oIx (mOp oIx (mVarO 0) (mC (.int 1))) (mVarO 5)) (gT [8, 9, 10]))
  (sFor (mIter (mOp oAdd (mLst (mCons (mTup (mCons (mVar 8) (mCons (mVar 9) mNil))) mNil)) (mOp oMul (mLst (mCons (mTup (mCons (mVar 9) (mCons (mVar 8) mNil))) mNil)) (mUn oToInt (mNotV (mVar 10)))))) (gT [11, 7])
  (sSeq (sAsg (mOp oAdd (mCall m__law_long (mCons (mVar 0) (mCons (mVar 5) mNil))) (mGet (mVarO 1) (mTup (mCons (mVar 7) (mCons (mVar 3) mNil))) (mOp oPow (mC (.int 10)) (mC (.int 6))))) (gN 12))
  (sAsg (mOp oAdd (mVarO 4) (mOp oMul (mLst (mCons (mVar 7) mNil)) (mUn oToInt (mAndV (mOp oEq (mVarO 11) (mVarO 2)) (mOp oEq (mVarO 12) (mOp oIx (mVarO 1) (mTup (mCons (mVar 2) (mCons (mVar 3) mNil))))))))) (gN 4))))))
  (sSeq (sAsg (mLst mNil) (gN 6))
  (sSeq (sFor (mIter (mFz (fSortSet (mVarO 4)))) (gN 7)
  (sAsg (mOp oAdd (mVarO 6) (mFz (fComp (mComp (mIter (mCall m__law_rows_3 (mCons (mVar 0) (mCons (mVar 1) (mCons (mVar 7) (mCons (mVar 3) mNil)))))) (gN 13) mYes (mOp oAdd (mLst (mCons (mVar 2) mNil)) (mVarO 13)) [13])))) (gN 6)))
  (sRet (mVar 6)))))))
def m__law_rows_4 : List D → GH → R D := mDef 4 14 b__law_rows_4
def b__law_rows_5 : SF := (sSeq (sIf (mB (mOp oEq (mVarO 2) (mVarO 3)))
  (sRet (mLst (mCons (mLst (mCons (mVar 2) mNil)) mNil)))
  sNext)
  (sSeq (sAsg (mLst mNil) (gN 4))
  (sSeq (sFor (mRng1 (mCons (mUn oLen (mOp oIx (mVarO 0) (mC (.int 1)))) mNil)) (gN 5)
  (sSeq (sAsg (mOp oIx (mOp oIx (mVarO 0) (mC (.int 1))) (mVarO 5)) (gT [8, 9, 10]))
  (sFor (mIter (mOp oAdd (mLst (mCons (mTup (mCons (mVar 8) (mCons (mVar 9) mNil))) mNil)) (mOp oMul (mLst (mCons (mTup (mCons (mVar 9) (mCons (mVar 8) mNil))) mNil)) (mUn oToInt (mNotV (mVar 10)))))) (gT [11, 7])
  (sSeq (sAsg (mOp oAdd (mCall m__law_long (mCons (mVar 0) (mCons (mVar 5) mNil))) (mGet (mVarO 1) (mTup (mCons (mVar 7) (mCons (mVar 3) mNil))) (mOp oPow (mC (.int 10)) (mC (.int 6))))) (gN 12))
  (sAsg (mOp oAdd (mVarO 4) (mOp oMul (mLst (mCons (mVar 7) mNil)) (mUn oToInt (mAndV (mOp oEq (mVarO 11) (mVarO 2)) (mOp oEq (mVarO 12) (mOp oIx (mVarO 1) (mTup (mCons (mVar 2) (mCons (mVar 3) mNil))))))))) (gN 4))))))
  (sSeq (sAsg (mLst mNil) (gN 6))
  (sSeq (sFor (mIter (mFz (fSortSet (mVarO 4)))) (gN 7)
  (sAsg (mOp oAdd (mVarO 6) (mFz (fComp (mComp (mIter (mCall m__law_rows_4 (mCons (mVar 0) (mCons (mVar 1) (mCons (mVar 7) (mCons (mVar 3) mNil)))))) (gN 13) mYes (mOp oAdd (mLst (mCons (mVar 2) mNil)) (mVarO 13)) [13])))) (gN 6)))
  (sRet (mVar 6)))))))
def m__law_rows_5 : List D → GH → R D := mDef 4 14 b__law_rows_5
def b__law_rows_6 : SF := (sSeq (sIf (mB (mOp oEq (mVarO 2) (mVarO 3)))
  (sRet (mLst (mCons (mLst (mCons (mVar 2) mNil)) mNil)))
  sNext)
  (sSeq (sAsg (mLst mNil) (gN 4))
  (sSeq (sFor (mRng1 (mCons (mUn oLen (mOp oIx (mVarO 0) (mC (.int 1)))) mNil)) (gN 5)
  (sSeq (sAsg (mOp oIx (mOp oIx (mVarO 0) (mC (.int 1))) (mVarO 5)) (gT [8, 9, 10]))
  (sFor (mIter (mOp oAdd (mLst (mCons (mTup (mCons (mVar 8) (mCons (mVar 9) mNil))) mNil)) (mOp oMul (mLst (mCons (mTup (mCons (mVar 9) (mCons (mVar 8) mNil))) mNil)) (mUn oToInt (mNotV (mVar 10)))))) (gT [11, 7])
  (sSeq (sAsg (mOp oAdd (mCall m__law_long (mCons (mVar 0) (mCons (mVar 5) mNil))) (mGet (mVarO 1) (mTup (mCons (mVar 7) (mCons (mVar 3) mNil))) (mOp oPow (mC (.int 10)) (mC (.int 6))))) (gN 12))
  (sAsg (mOp oAdd (mVarO 4) (mOp oMul (mLst (mCons (mVar 7) mNil)) (mUn oToInt (mAndV (mOp oEq (mVarO 11) (mVarO 2)) (mOp oEq (mVarO 12) (mOp oIx (mVarO 1) (mTup (mCons (mVar 2) (mCons (mVar 3) mNil))))))))) (gN 4))))))
  (sSeq (sAsg (mLst mNil) (gN 6))
  (sSeq (sFor (mIter (mFz (fSortSet (mVarO 4)))) (gN 7)
  (sAsg (mOp oAdd (mVarO 6) (mFz (fComp (mComp (mIter (mCall m__law_rows_5 (mCons (mVar 0) (mCons (mVar 1) (mCons (mVar 7) (mCons (mVar 3) mNil)))))) (gN 13) mYes (mOp oAdd (mLst (mCons (mVar 2) mNil)) (mVarO 13)) [13])))) (gN 6)))
  (sRet (mVar 6)))))))
def m__law_rows_6 : List D → GH → R D := mDef 4 14 b__law_rows_6
def b__law_rows_7 : SF := (sSeq (sIf (mB (mOp oEq (mVarO 2) (mVarO 3)))
  (sRet (mLst (mCons (mLst (mCons (mVar 2) mNil)) mNil)))
  sNext)
  (sSeq (sAsg (mLst mNil) (gN 4))
  (sSeq (sFor (mRng1 (mCons (mUn oLen (mOp oIx (mVarO 0) (mC (.int 1)))) mNil)) (gN 5)
  (sSeq (sAsg (mOp oIx (mOp oIx (mVarO 0) (mC (.int 1))) (mVarO 5)) (gT [8, 9, 10]))
  (sFor (mIter (mOp oAdd (mLst (mCons (mTup (mCons (mVar 8) (mCons (mVar 9) mNil))) mNil)) (mOp oMul (mLst (mCons (mTup (mCons (mVar 9) (mCons (mVar 8) mNil))) mNil)) (mUn oToInt (mNotV (mVar 10)))))) (gT [11, 7])
  (sSeq (sAsg (mOp oAdd (mCall m__law_long (mCons (mVar 0) (mCons (mVar 5) mNil))) (mGet (mVarO 1) (mTup (mCons (mVar 7) (mCons (mVar 3) mNil))) (mOp oPow (mC (.int 10)) (mC (.int 6))))) (gN 12))
  (sAsg (mOp oAdd (mVarO 4) (mOp oMul (mLst (mCons (mVar 7) mNil)) (mUn oToInt (mAndV (mOp oEq (mVarO 11) (mVarO 2)) (mOp oEq (mVarO 12) (mOp oIx (mVarO 1) (mTup (mCons (mVar 2) (mCons (mVar 3) mNil))))))))) (gN 4))))))
  (sSeq (sAsg (mLst mNil) (gN 6))
  (sSeq (sFor (mIter (mFz (fSortSet (mVarO 4)))) (gN 7)
  (sAsg (mOp oAdd (mVarO 6) (mFz (fComp (mComp (mIter (mCall m__law_rows_6 (mCons (mVar 0) (mCons (mVar 1) (mCons (mVar 7) (mCons (mVar 3) mNil)))))) (gN 13) mYes (mOp oAdd (mLst (mCons (mVar 2) mNil)) (mVarO 13)) [13])))) (gN 6)))
  (sRet (mVar 6)))))))
def m__law_rows_7 : List D → GH → R D := mDef 4 14 b__law_rows_7
def b__law_rows_8 : SF := (sSeq (sIf (mB (mOp oEq (mVarO 2) (mVarO 3)))
  (sRet (mLst (mCons (mLst (mCons (mVar 2) mNil)) mNil)))
  sNext)
  (sSeq (sAsg (mLst mNil) (gN 4))
  (sSeq (sFor (mRng1 (mCons (mUn oLen (mOp oIx (mVarO 0) (mC (.int 1)))) mNil)) (gN 5)
  (sSeq (sAsg (mOp oIx (mOp oIx (mVarO 0) (mC (.int 1))) (mVarO 5)) (gT [8, 9, 10]))
  (sFor (mIter (mOp oAdd (mLst (mCons (mTup (mCons (mVar 8) (mCons (mVar 9) mNil))) mNil)) (mOp oMul (mLst (mCons (mTup (mCons (mVar 9) (mCons (mVar 8) mNil))) mNil)) (mUn oToInt (mNotV (mVar 10)))))) (gT [11, 7])
  (sSeq (sAsg (mOp oAdd (mCall m__law_long (mCons (mVar 0) (mCons (mVar 5) mNil))) (mGet (mVarO 1) (mTup (mCons (mVar 7) (mCons (mVar 3) mNil))) (mOp oPow (mC (.int 10)) (mC (.int 6))))) (gN 12))
  (sAsg (mOp oAdd (mVarO 4) (mOp oMul (mLst (mCons (mVar 7) mNil)) (mUn oToInt (mAndV (mOp oEq (mVarO 11) (mVarO 2)) (mOp oEq (mVarO 12) (mOp oIx (mVarO 1) (mTup (mCons (mVar 2) (mCons (mVar 3) mNil))))))))) (gN 4))))))
  (sSeq (sAsg (mLst mNil) (gN 6))
  (sSeq (sFor (mIter (mFz (fSortSet (mVarO 4)))) (gN 7)
  (sAsg (mOp oAdd (mVarO 6) (mFz (fComp (mComp (mIter (mCall m__law_rows_7 (mCons (mVar 0) (mCons (mVar 1) (mCons (mVar 7) (mCons (mVar 3) mNil)))))) (gN 13) mYes (mOp oAdd (mLst (mCons (mVar 2) mNil)) (mVarO 13)) [13])))) (gN 6)))
  (sRet (mVar 6)))))))
def m__law_rows_8 : List D → GH → R D := mDef 4 14 b__law_rows_8
def b__law_ends : SF := (sSeq (sAsg (mOp oIx (mOp oIx (mVarO 0) (mC (.int 1))) (mOp oIx (mVarO 1) (mC (.int 0)))) (gT [5, 6, 7]))
  (sSeq (sAsg (mCall m__law_long (mCons (mVar 0) (mCons (mOp oIx (mVarO 1) (mC (.int 0))) mNil))) (gN 3))
  (sSeq (sOwn 4 (fLst mNil))
  (sSeq (sIf (mOr (mTru (mVarO 2)) (mOr (mNot (mTru (mVarO 7))) (mB (mOp oEq (mOp oIx (mVarO 1) (mC (.int 1))) (mVarO 3)))))
  (sAppO 4 (mTup (mCons (mVar 6) (mCons (mOp oSub (mVarO 3) (mOp oIx (mVarO 1) (mC (.int 1)))) mNil))))
  sNext)
  (sSeq (sIf (mOr (mNot (mTru (mVarO 2))) (mOr (mNot (mTru (mVarO 7))) (mB (mOp oEq (mOp oIx (mVarO 1) (mC (.int 1))) (mC (.int 0))))))
  (sAppO 4 (mTup (mCons (mVar 5) (mCons (mOp oIx (mVarO 1) (mC (.int 1))) mNil))))
  sNext)
  (sFrz 4 (sRet (mVar 4))))))))
def m__law_ends : List D → GH → R D := mDef 3 8 b__law_ends
def b__law_table : SF := (sSeq (sOwn 1 fDnewT)
  (sSeq (sFor (mIter (mFz (fKeys (mOp oIx (mVarO 0) (mC (.int 0)))))) (gN 2)
  (sPutO 1 (mTup (mCons (mVar 2) (mCons (mVar 2) mNil))) (mC (.int 0))))
  (sSeq (sAsg (mC (.bl true)) (gN 3))
  (sSeq (sWhile (fun _ _ => 1000000000) (mTru (mVarO 3))
  (sSeq (sAsg (mC (.bl false)) (gN 3))
  (sFor (mRng1 (mCons (mUn oLen (mOp oIx (mVarO 0) (mC (.int 1)))) mNil)) (gN 4)
  (sSeq (sAsg (mOp oIx (mOp oIx (mVarO 0) (mC (.int 1))) (mVarO 4)) (gT [5, 6, 7]))
  (sFor (mIter (mOp oAdd (mLst (mCons (mTup (mCons (mVar 5) (mCons (mVar 6) mNil))) mNil)) (mOp oMul (mLst (mCons (mTup (mCons (mVar 6) (mCons (mVar 5) mNil))) mNil)) (mUn oToInt (mNotV (mVar 7)))))) (gT [8, 9])
  (sFor (mIter (mFz (fKeys (mOp oIx (mVarO 0) (mC (.int 0)))))) (gN 2)
  (sSeq (sAsg (mOp oAdd (mGet (mVarO 1) (mTup (mCons (mVar 9) (mCons (mVar 2) mNil))) (mOp oPow (mC (.int 10)) (mC (.int 6)))) (mCall m__law_long (mCons (mVar 0) (mCons (mVar 4) mNil)))) (gN 10))
  (sIf (mB (mOp oLt (mVarO 10) (mGet (mVarO 1) (mTup (mCons (mVar 8) (mCons (mVar 2) mNil))) (mOp oPow (mC (.int 10)) (mC (.int 6))))))
  (sSeq (sPutO 1 (mTup (mCons (mVar 8) (mCons (mVar 2) mNil))) (mVar 10))
  (sAsg (mC (.bl true)) (gN 3)))
  sNext))))))))
  (sFrz 1 (sRet (mVar 1)))))))
def m__law_table : List D → GH → R D := mDef 1 11 b__law_table
def b__law_way : SF := (sSeq (sIf (mAnd (mB (mOp oEq (mOp oIx (mVarO 1) (mC (.int 0))) (mOp oIx (mVarO 2) (mC (.int 0))))) (mAnd (mOr (mB (mOp oGe (mOp oIx (mVarO 2) (mC (.int 1))) (mOp oIx (mVarO 1) (mC (.int 1))))) (mNot (mTru (mOp oIx (mOp oIx (mOp oIx (mVarO 0) (mC (.int 1))) (mOp oIx (mVarO 1) (mC (.int 0)))) (mC (.int 2)))))) (mB (mOp oEq (mUn oAbs (mOp oSub (mOp oIx (mVarO 1) (mC (.int 1))) (mOp oIx (mVarO 2) (mC (.int 1))))) (mVarO 3)))))
  (sRet (mLst mNil))
  sNext)
  (sSeq (sAsg (mLst mNil) (gN 4))
  (sSeq (sAsg (mCall m__law_table (mCons (mVar 0) mNil)) (gN 5))
  (sSeq (sFor (mIter (mCall m__law_ends (mCons (mVar 0) (mCons (mVar 1) (mCons (mC (.bl true)) mNil))))) (gT [6, 7])
  (sFor (mIter (mCall m__law_ends (mCons (mVar 0) (mCons (mVar 2) (mCons (mC (.bl false)) mNil))))) (gT [8, 9])
  (sIf (mB (mOp oEq (mOp oAdd (mOp oAdd (mVarO 7) (mGet (mVarO 5) (mTup (mCons (mVar 6) (mCons (mVar 8) mNil))) (mOp oPow (mC (.int 10)) (mC (.int 6))))) (mVarO 9)) (mVarO 3)))
  (sAsg (mOp oAdd (mVarO 4) (mCall m__law_rows_8 (mCons (mVar 0) (mCons (mVar 5) (mCons (mVar 6) (mCons (mVar 8) mNil)))))) (gN 4))
  sNext)))
  (sRet (mUn oMinLL (mVarO 4)))))))
def m__law_way : List D → GH → R D := mDef 4 10 b__law_way
def b__law_web : SF := (sSeq (sAsg (mLst (mCons (mC (.str "x")) (mCons (mC (.str "b")) (mCons (mC (.str "a")) (mCons (mC (.str "square")) (mCons (mC (.str "zzzzzzzz")) (mCons (mC (.str "c")) (mCons (mC (.str "d")) (mCons (mC (.str "mill")) mNil))))))))) (gN 4))
  (sSeq (sAsg (mCall m__law_draw (mCons (mVar 0) (mCons (mVar 1) (mCons (mC (.int 8)) mNil)))) (gN 5))
  (sSeq (sAsg (mOp oAdd (mSl (mVarO 4) (mP (mVar 5)) mNoP) (mSl (mVarO 4) mNoP (mP (mVar 5)))) (gN 4))
  (sSeq (sOwn 6 (fLst (mCons (mTup (mCons (mCall m__law_draw (mCons (mVar 0) (mCons (mVar 1) (mCons (mC (.int 61)) mNil)))) (mCons (mCall m__law_draw (mCons (mVar 0) (mCons (mVar 1) (mCons (mC (.int 61)) mNil)))) mNil))) mNil)))
  (sSeq (sOwn 7 (fLst mNil))
  (sSeq (sFor (mRng1 (mCons (mOp oAdd (mC (.int 1)) (mCall m__law_draw (mCons (mVar 0) (mCons (mVar 1) (mCons (mVar 2) mNil))))) mNil)) (gN 8)
  (sSeq (sAsg (mCall m__law_draw (mCons (mVar 0) (mCons (mVar 1) (mCons (mUn oLen (mVarO 6)) mNil)))) (gN 9))
  (sSeq (sAsg (mCall m__law_pick (mCons (mVar 0) (mCons (mVar 1) (mCons (mLst (mCons (mTup (mCons (mC (.int 1)) (mCons (mC (.int 0)) mNil))) (mCons (mTup (mCons (mC (.int 0)) (mCons (mC (.int 1)) mNil))) (mCons (mTup (mCons (mOp oSub (mC (.int 0)) (mC (.int 1))) (mCons (mC (.int 0)) mNil))) (mCons (mTup (mCons (mC (.int 0)) (mCons (mOp oSub (mC (.int 0)) (mC (.int 1))) mNil))) mNil))))) mNil)))) (gN 10))
  (sSeq (sAsg (mOp oAdd (mC (.int 1)) (mCall m__law_draw (mCons (mVar 0) (mCons (mVar 1) (mCons (mVar 3) mNil))))) (gN 11))
  (sSeq (sAsg (mTup (mCons (mOp oAdd (mOp oIx (mOp oIx (mVarO 6) (mVarO 9)) (mC (.int 0))) (mOp oMul (mOp oIx (mVarO 10) (mC (.int 0))) (mVarO 11))) (mCons (mOp oAdd (mOp oIx (mOp oIx (mVarO 6) (mVarO 9)) (mC (.int 1))) (mOp oMul (mOp oIx (mVarO 10) (mC (.int 1))) (mVarO 11))) mNil))) (gN 12))
  (sSeq (sIf (mOr (mB (mOp oLt (mUn oMinT (mVarO 12)) (mC (.int 0)))) (mOr (mB (mOp oGt (mUn oMaxT (mVarO 12)) (mC (.int 60)))) (mAnd (mB (mOp oEq (mUn oLen (mVarO 6)) (mC (.int 8)))) (mB (mOp oNotIn (mVarO 12) (mVarO 6))))))
  (sAsg (mTup (mCons (mOp oIx (mOp oIx (mVarO 6) (mVarO 9)) (mC (.int 0))) (mCons (mOp oMod (mOp oAdd (mOp oIx (mOp oIx (mVarO 6) (mVarO 9)) (mC (.int 1))) (mC (.int 1))) (mC (.int 61))) mNil))) (gN 12))
  sNext)
  (sSeq (sIf (mOr (mB (mOp oGt (mUn oAbs (mOp oSub (mOp oIx (mVarO 12) (mC (.int 1))) (mOp oIx (mOp oIx (mVarO 6) (mVarO 9)) (mC (.int 1))))) (mC (.int 59)))) (mAnd (mB (mOp oEq (mUn oLen (mVarO 6)) (mC (.int 8)))) (mB (mOp oNotIn (mVarO 12) (mVarO 6)))))
  sCont
  sNext)
  (sSeq (sIf (mB (mOp oNotIn (mVarO 12) (mVarO 6)))
  (sAppO 6 (mVar 12))
  sNext)
  (sSeq (sAsg (mTup (mCons (mOp oIx (mVarO 4) (mVarO 9)) (mCons (mOp oIx (mVarO 4) (mIndex (mVarO 6) (mVarO 12))) mNil))) (gN 13))
  (sAppO 7 (mOp oAdd (mIf (mB (mOp oEq (mCall m__law_draw (mCons (mVar 0) (mCons (mVar 1) (mCons (mC (.int 2)) mNil)))) (mC (.int 0)))) (mVar 13) (mUn oRevT (mVarO 13))) (mTup (mCons (mOp oEq (mCall m__law_draw (mCons (mVar 0) (mCons (mVar 1) (mCons (mC (.int 4)) mNil)))) (mC (.int 0))) mNil)))))))))))))
  (sSeq (sIf (mB (mOp oEq (mVarO 7) (mLst mNil)))
  (sSeq (sOwn 6 (fLst (mCons (mTup (mCons (mC (.int 3)) (mCons (mC (.int 3)) mNil))) (mCons (mTup (mCons (mC (.int 3)) (mCons (mC (.int 4)) mNil))) mNil))))
  (sOwn 7 (fLst (mCons (mTup (mCons (mOp oIx (mVarO 4) (mC (.int 0))) (mCons (mOp oIx (mVarO 4) (mC (.int 1))) (mCons (mC (.bl false)) mNil)))) mNil))))
  sNext)
  (sFrz 7 (sRet (mTup (mCons (mFz (fDict (mFz (fComp (mComp (mRng1 (mCons (mUn oLen (mVarO 6)) mNil)) (gN 8) mYes (mTup (mCons (mOp oIx (mVarO 4) (mVarO 8)) (mCons (mOp oIx (mVarO 6) (mVarO 8)) mNil))) [8]))))) (mCons (mVar 7) mNil))))))))))))
def m__law_web : List D → GH → R D := mDef 4 14 b__law_web
def b_length : SF := (sSeq (sDrop (mCall m_look_both (mCons (mVar 0) (mCons (mVar 1) (mCons (mVar 2) mNil)))))
  (sSeq (sAsg (mCall m_length_by (mCons (mVar 0) (mCons (mCall m_lengths (mCons (mVar 0) mNil)) (mCons (mVar 1) (mCons (mVar 2) mNil))))) (gN 3))
  (sRet (mIf (mB (mOp oGe (mVarO 3) (mC (.int 1000000000)))) (mC .non) (mVar 3)))))
def m_length : List D → GH → R D := mDef 3 4 b_length
def b_law : SF := (sSeq (sAsg (mCel (fLst mNil)) (gN 1))
  (sSeq (sAsg (mCall m__law_web (mCons (mVar 0) (mCons (mVar 1) (mCons (mC (.int 10)) (mCons (mCall m__law_pick (mCons (mVar 0) (mCons (mVar 1) (mCons (mLst (mCons (mC (.int 2)) (mCons (mC (.int 5)) mNil))) mNil)))) mNil))))) (gN 2))
  (sSeq (sAsg (mCall m__law_spots (mCons (mVar 2) mNil)) (gN 3))
  (sSeq (sAsg (mCall m__law_next (mCons (mVar 2) mNil)) (gN 4))
  (sSeq (sFor (mRng1 (mCons (mC (.int 4)) mNil)) (gN 5)
  (sSeq (sAsg (mCall m__law_pick (mCons (mVar 0) (mCons (mVar 1) (mCons (mVar 3) mNil)))) (gN 6))
  (sSeq (sAsg (mCall m__law_pick (mCons (mVar 0) (mCons (mVar 1) (mCons (mOp oAdd (mVarO 3) (mOp oMul (mFz (fComp (mComp (mIter (mVar 3)) (gN 10) (mB (mOp oEq (mOp oIx (mVarO 10) (mC (.int 0))) (mOp oIx (mVarO 6) (mC (.int 0))))) (mTup (mCons (mOp oIx (mVarO 10) (mC (.int 0))) (mCons (mOp oIx (mVarO 10) (mC (.int 1))) mNil))) [10]))) (mC (.int 2)))) mNil)))) (gN 7))
  (sSeq (sAsg (mGet (mCall m__law_far (mCons (mVar 4) (mCons (mVar 6) mNil))) (mVar 7) (mC .non)) (gN 8))
  (sSeq (sIf (mB (mOp oNe (mCall m_length (mCons (mVar 2) (mCons (mVar 6) (mCons (mVar 7) mNil)))) (mVarO 8)))
  (sRet (mC (.bl false)))
  sNext)
  (sSeq (sAsg (mCall m__law_told (mCons (mVar 2) (mCons (mVar 6) (mCons (mVar 7) mNil)))) (gN 9))
  (sIf (mB (mOp oIs (mVarO 8) (mC .non)))
  (sIf (mB (mOp oNe (mVarO 9) (mTup (mCons (mC (.str "refused")) (mCons (mC (.str "way")) mNil)))))
  (sRet (mC (.bl false)))
  sNext)
  (sIf (mB (mOp oNe (mVarO 9) (mTup (mCons (mC (.str "found")) (mCons (mCall m__law_way (mCons (mVar 2) (mCons (mVar 6) (mCons (mVar 7) (mCons (mVar 8) mNil))))) mNil)))))
  (sRet (mC (.bl false)))
  sNext))))))))
  (sRet (mC (.bl true))))))))
def m_law : List D → GH → R D := mDef 1 11 b_law
end
end K10

set_option Elab.async false
set_option linter.all false
set_option maxRecDepth 100000
set_option maxHeartbeats 4000000
namespace K10
open PySem L2 Gh
def top (i : Nat) : Stmt := PySem.Challenge.pw_roadtracks_k10_whole_ways.main.body.getD i (.Pass ⟨0, 0, 0, 0⟩)
abbrev s__law_far : Stmt := top 49
abbrev s__law_long : Stmt := top 46
abbrev s__law_spots : Stmt := top 47
abbrev s__law_next : Stmt := top 48
abbrev s__law_cell : Stmt := top 40
abbrev s__law_mix : Stmt := top 41
abbrev s__law_draw : Stmt := top 42
abbrev s__law_pick : Stmt := top 43
abbrev s__law_refusal : Stmt := top 44
abbrev s_long_of : Stmt := top 21
abbrev s_coming : Stmt := top 30
abbrev s_leaving : Stmt := top 29
abbrev s_straight : Stmt := top 31
abbrev s_length_by : Stmt := top 32
abbrev s_lengths : Stmt := top 28
abbrev s_is_whole : Stmt := top 17
abbrev s_is_spot : Stmt := top 24
abbrev s_look_spot : Stmt := top 25
abbrev s_is_name : Stmt := top 18
abbrev s_is_point : Stmt := top 19
abbrev s_are_places : Stmt := top 22
abbrev s_is_road : Stmt := top 20
abbrev s_look_web : Stmt := top 23
abbrev s_look_both : Stmt := top 33
abbrev s_steps_from : Stmt := top 35
abbrev s_places_between : Stmt := top 36
abbrev s_way_by : Stmt := top 37
abbrev s_way : Stmt := top 38
abbrev s__law_told : Stmt := top 50
abbrev s__law_rows : Stmt := top 53
abbrev s__law_ends : Stmt := top 51
abbrev s__law_table : Stmt := top 52
abbrev s__law_way : Stmt := top 54
abbrev s__law_web : Stmt := top 45
abbrev s_length : Stmt := top 34
abbrev s_law : Stmt := top 55
abbrev N__law_far : List Str := ["steps", "start", "found", "fresh", "later", "spot", "other", "more"]
theorem sc__law_far : FnScope N__law_far ["steps", "start"] (defScope s__law_far) := ⟨rfl, rfl, rfl, by decide +kernel, rfl, by decide +kernel, by decide +kernel⟩
abbrev N__law_long : List Str := ["web", "road", "one", "other", "name"]
theorem sc__law_long : FnScope N__law_long ["web", "road"] (defScope s__law_long) := ⟨rfl, rfl, rfl, by decide +kernel, rfl, by decide +kernel, by decide +kernel⟩
abbrev N__law_spots : List Str := ["web", "found", "road", "far"]
theorem sc__law_spots : FnScope N__law_spots ["web"] (defScope s__law_spots) := ⟨rfl, rfl, rfl, by decide +kernel, rfl, by decide +kernel, by decide +kernel⟩
abbrev N__law_next : List Str := ["web", "found", "ends", "spot", "name", "road", "other"]
theorem sc__law_next : FnScope N__law_next ["web"] (defScope s__law_next) := ⟨rfl, rfl, rfl, by decide +kernel, rfl, by decide +kernel, by decide +kernel⟩
abbrev N__law_cell : List Str := ["script", "k"]
theorem sc__law_cell : FnScope N__law_cell ["script", "k"] (defScope s__law_cell) := ⟨rfl, rfl, rfl, by decide +kernel, rfl, by decide +kernel, by decide +kernel⟩
abbrev N__law_mix : List Str := ["script", "k", "number"]
theorem sc__law_mix : FnScope N__law_mix ["script", "k"] (defScope s__law_mix) := ⟨rfl, rfl, rfl, by decide +kernel, rfl, by decide +kernel, by decide +kernel⟩
abbrev N__law_draw : List Str := ["script", "town", "many"]
theorem sc__law_draw : FnScope N__law_draw ["script", "town", "many"] (defScope s__law_draw) := ⟨rfl, rfl, rfl, by decide +kernel, rfl, by decide +kernel, by decide +kernel⟩
abbrev N__law_pick : List Str := ["script", "town", "some"]
theorem sc__law_pick : FnScope N__law_pick ["script", "town", "some"] (defScope s__law_pick) := ⟨rfl, rfl, rfl, by decide +kernel, rfl, by decide +kernel, by decide +kernel⟩
abbrev N__law_refusal : List Str := ["caught", "kinds"]
theorem sc__law_refusal : FnScope N__law_refusal ["caught"] (defScope s__law_refusal) := ⟨rfl, rfl, rfl, by decide +kernel, rfl, by decide +kernel, by decide +kernel⟩
abbrev N_long_of : List Str := ["web", "road", "one", "other"]
theorem sc_long_of : FnScope N_long_of ["web", "road"] (defScope s_long_of) := ⟨rfl, rfl, rfl, by decide +kernel, rfl, by decide +kernel, by decide +kernel⟩
abbrev N_coming : List Str := ["web", "spot", "long", "found", "one", "other", "is_one_way"]
theorem sc_coming : FnScope N_coming ["web", "spot"] (defScope s_coming) := ⟨rfl, rfl, rfl, by decide +kernel, rfl, by decide +kernel, by decide +kernel⟩
abbrev N_leaving : List Str := ["web", "spot", "found", "one", "other", "is_one_way"]
theorem sc_leaving : FnScope N_leaving ["web", "spot"] (defScope s_leaving) := ⟨rfl, rfl, rfl, by decide +kernel, rfl, by decide +kernel, by decide +kernel⟩
abbrev N_straight : List Str := ["web", "one", "other"]
theorem sc_straight : FnScope N_straight ["web", "one", "other"] (defScope s_straight) := ⟨rfl, rfl, rfl, by decide +kernel, rfl, by decide +kernel, by decide +kernel⟩
abbrev N_length_by : List Str := ["web", "table", "one", "other", "found", "first", "far", "last", "more"]
theorem sc_length_by : FnScope N_length_by ["web", "table", "one", "other"] (defScope s_length_by) := ⟨rfl, rfl, rfl, by decide +kernel, rfl, by decide +kernel, by decide +kernel⟩
abbrev N_lengths : List Str := ["web", "names", "table", "one", "road", "mid", "other", "is_one_way"]
theorem sc_lengths : FnScope N_lengths ["web"] (defScope s_lengths) := ⟨rfl, rfl, rfl, by decide +kernel, rfl, by decide +kernel, by decide +kernel⟩
abbrev N_is_whole : List Str := ["thing", "low", "most"]
theorem sc_is_whole : FnScope N_is_whole ["thing", "low", "most"] (defScope s_is_whole) := ⟨rfl, rfl, rfl, by decide +kernel, rfl, by decide +kernel, by decide +kernel⟩
abbrev N_is_spot : List Str := ["web", "thing"]
theorem sc_is_spot : FnScope N_is_spot ["web", "thing"] (defScope s_is_spot) := ⟨rfl, rfl, rfl, by decide +kernel, rfl, by decide +kernel, by decide +kernel⟩
abbrev N_look_spot : List Str := ["web", "spot"]
theorem sc_look_spot : FnScope N_look_spot ["web", "spot"] (defScope s_look_spot) := ⟨rfl, rfl, rfl, by decide +kernel, rfl, by decide +kernel, by decide +kernel⟩
abbrev N_is_name : List Str := ["thing", "sign"]
theorem sc_is_name : FnScope N_is_name ["thing"] (defScope s_is_name) := ⟨rfl, rfl, rfl, by decide +kernel, rfl, by decide +kernel, by decide +kernel⟩
abbrev N_is_point : List Str := ["thing", "one"]
theorem sc_is_point : FnScope N_is_point ["thing"] (defScope s_is_point) := ⟨rfl, rfl, rfl, by decide +kernel, rfl, by decide +kernel, by decide +kernel⟩
abbrev N_are_places : List Str := ["thing", "name"]
theorem sc_are_places : FnScope N_are_places ["thing"] (defScope s_are_places) := ⟨rfl, rfl, rfl, by decide +kernel, rfl, by decide +kernel, by decide +kernel⟩
abbrev N_is_road : List Str := ["places", "thing", "one", "other", "name"]
theorem sc_is_road : FnScope N_is_road ["places", "thing"] (defScope s_is_road) := ⟨rfl, rfl, rfl, by decide +kernel, rfl, by decide +kernel, by decide +kernel⟩
abbrev N_look_web : List Str := ["web", "road"]
theorem sc_look_web : FnScope N_look_web ["web"] (defScope s_look_web) := ⟨rfl, rfl, rfl, by decide +kernel, rfl, by decide +kernel, by decide +kernel⟩
abbrev N_look_both : List Str := ["web", "one", "other"]
theorem sc_look_both : FnScope N_look_both ["web", "one", "other"] (defScope s_look_both) := ⟨rfl, rfl, rfl, by decide +kernel, rfl, by decide +kernel, by decide +kernel⟩
abbrev N_steps_from : List Str := ["web", "table", "here", "goal", "found", "road", "one", "other", "is_one_way", "first", "last", "is_good"]
theorem sc_steps_from : FnScope N_steps_from ["web", "table", "here", "goal"] (defScope s_steps_from) := ⟨rfl, rfl, rfl, by decide +kernel, rfl, by decide +kernel, by decide +kernel⟩
abbrev N_places_between : List Str := ["web", "table", "here", "goal", "found"]
theorem sc_places_between : FnScope N_places_between ["web", "table", "here", "goal"] (defScope s_places_between) := ⟨rfl, rfl, rfl, by decide +kernel, rfl, by decide +kernel, by decide +kernel⟩
abbrev N_way_by : List Str := ["web", "table", "one", "other", "least", "some", "first", "far", "last", "more"]
theorem sc_way_by : FnScope N_way_by ["web", "table", "one", "other"] (defScope s_way_by) := ⟨rfl, rfl, rfl, by decide +kernel, rfl, by decide +kernel, by decide +kernel⟩
abbrev N_way : List Str := ["web", "one", "other", "table"]
theorem sc_way : FnScope N_way ["web", "one", "other"] (defScope s_way) := ⟨rfl, rfl, rfl, by decide +kernel, rfl, by decide +kernel, by decide +kernel⟩
abbrev N__law_told : List Str := ["web", "one", "other", "caught", "found", "e"]
theorem sc__law_told : FnScope N__law_told ["web", "one", "other"] (defScope s__law_told) := ⟨rfl, rfl, rfl, by decide +kernel, rfl, by decide +kernel, by decide +kernel⟩
abbrev N__law_rows : List Str := ["web", "table", "here", "goal", "some", "road", "found", "last", "one", "other", "is_one_way", "first", "far", "row"]
theorem sc__law_rows : FnScope N__law_rows ["web", "table", "here", "goal"] (defScope s__law_rows) := ⟨rfl, rfl, rfl, by decide +kernel, rfl, by decide +kernel, by decide +kernel⟩
abbrev N__law_ends : List Str := ["web", "spot", "is_leaving", "size", "found", "one", "other", "is_one_way"]
theorem sc__law_ends : FnScope N__law_ends ["web", "spot", "is_leaving"] (defScope s__law_ends) := ⟨rfl, rfl, rfl, by decide +kernel, rfl, by decide +kernel, by decide +kernel⟩
abbrev N__law_table : List Str := ["web", "found", "name", "again", "road", "one", "other", "is_one_way", "first", "last", "far"]
theorem sc__law_table : FnScope N__law_table ["web"] (defScope s__law_table) := ⟨rfl, rfl, rfl, by decide +kernel, rfl, by decide +kernel, by decide +kernel⟩
abbrev N__law_way : List Str := ["web", "one", "other", "least_now", "found", "table", "first", "far", "last", "more"]
theorem sc__law_way : FnScope N__law_way ["web", "one", "other", "least_now"] (defScope s__law_way) := ⟨rfl, rfl, rfl, by decide +kernel, rfl, by decide +kernel, by decide +kernel⟩
abbrev N__law_web : List Str := ["script", "town", "most", "far", "names", "turn", "points", "roads", "k", "at", "along", "by", "new", "pair"]
theorem sc__law_web : FnScope N__law_web ["script", "town", "most", "far"] (defScope s__law_web) := ⟨rfl, rfl, rfl, by decide +kernel, rfl, by decide +kernel, by decide +kernel⟩
abbrev N_length : List Str := ["web", "one", "other", "found"]
theorem sc_length : FnScope N_length ["web", "one", "other"] (defScope s_length) := ⟨rfl, rfl, rfl, by decide +kernel, rfl, by decide +kernel, by decide +kernel⟩
abbrev N_law : List Str := ["script", "town", "web", "some", "steps", "k", "one", "other", "due", "found", "spot"]
theorem sc_law : FnScope N_law ["script"] (defScope s_law) := ⟨rfl, rfl, rfl, by decide +kernel, rfl, by decide +kernel, by decide +kernel⟩
structure Txt (K : PySem.W.Frag) (mg : Str → Option Value) (cl : Str → Addr) (fa : Nat → Addr) (fd : Nat → FuncData) : Prop where
  b_ValueError : mg "ValueError" = none
  b_abs : mg "abs" = none
  b_all : mg "all" = none
  b_bool : mg "bool" = none
  b_dict : mg "dict" = none
  b_int : mg "int" = none
  b_isinstance : mg "isinstance" = none
  b_len : mg "len" = none
  b_list : mg "list" = none
  b_max : mg "max" = none
  b_min : mg "min" = none
  b_range : mg "range" = none
  b_set : mg "set" = none
  b_sorted : mg "sorted" = none
  b_str : mg "str" = none
  b_sum : mg "sum" = none
  b_tuple : mg "tuple" = none
  g_FAR : ∃ t, mg "FAR" = some (.int 1000000000 t)
  g_MOST_AT : ∃ t, mg "MOST_AT" = some (.int 60 t)
  g_MOST_LONG : ∃ t, mg "MOST_LONG" = some (.int 100 t)
  g_MOST_NAME : ∃ t, mg "MOST_NAME" = some (.int 8 t)
  g_MOST_PLACES : ∃ t, mg "MOST_PLACES" = some (.int 16 t)
  g_MOST_ROADS : ∃ t, mg "MOST_ROADS" = some (.int 20 t)
  g_SMALL : ∃ t, mg "SMALL" = some (.str "abcdefghijklmnopqrstuvwxyz" t)
  f__law_far : Fun K "_law_far" "_law_far" s__law_far (fa 0) (fd 0)
  i__law_far : Binds K (fd 0) ["steps", "start"] []
  m__law_far : mg "_law_far" = some (.ref (fa 0))
  k__law_far : PySem.W.keepIn K (.ref (fa 0)) = true
  f__law_long : Fun K "_law_long" "_law_long" s__law_long (fa 1) (fd 1)
  i__law_long : Binds K (fd 1) ["web", "road"] []
  m__law_long : mg "_law_long" = some (.ref (fa 1))
  k__law_long : PySem.W.keepIn K (.ref (fa 1)) = true
  f__law_spots : Fun K "_law_spots" "_law_spots" s__law_spots (fa 2) (fd 2)
  i__law_spots : Binds K (fd 2) ["web"] []
  m__law_spots : mg "_law_spots" = some (.ref (fa 2))
  k__law_spots : PySem.W.keepIn K (.ref (fa 2)) = true
  f__law_next : Fun K "_law_next" "_law_next" s__law_next (fa 3) (fd 3)
  i__law_next : Binds K (fd 3) ["web"] []
  m__law_next : mg "_law_next" = some (.ref (fa 3))
  k__law_next : PySem.W.keepIn K (.ref (fa 3)) = true
  f__law_cell : Fun K "_law_cell" "_law_cell" s__law_cell (fa 4) (fd 4)
  i__law_cell : Binds K (fd 4) ["script", "k"] []
  m__law_cell : mg "_law_cell" = some (.ref (fa 4))
  k__law_cell : PySem.W.keepIn K (.ref (fa 4)) = true
  f__law_mix : Fun K "_law_mix" "_law_mix" s__law_mix (fa 5) (fd 5)
  i__law_mix : Binds K (fd 5) ["script", "k"] []
  m__law_mix : mg "_law_mix" = some (.ref (fa 5))
  k__law_mix : PySem.W.keepIn K (.ref (fa 5)) = true
  f__law_draw : Fun K "_law_draw" "_law_draw" s__law_draw (fa 6) (fd 6)
  i__law_draw : Binds K (fd 6) ["script", "town", "many"] []
  m__law_draw : mg "_law_draw" = some (.ref (fa 6))
  k__law_draw : PySem.W.keepIn K (.ref (fa 6)) = true
  f__law_pick : Fun K "_law_pick" "_law_pick" s__law_pick (fa 7) (fd 7)
  i__law_pick : Binds K (fd 7) ["script", "town", "some"] []
  m__law_pick : mg "_law_pick" = some (.ref (fa 7))
  k__law_pick : PySem.W.keepIn K (.ref (fa 7)) = true
  f__law_refusal : Fun K "_law_refusal" "_law_refusal" s__law_refusal (fa 8) (fd 8)
  i__law_refusal : Binds K (fd 8) ["caught"] []
  m__law_refusal : mg "_law_refusal" = some (.ref (fa 8))
  k__law_refusal : PySem.W.keepIn K (.ref (fa 8)) = true
  f_long_of : Fun K "long_of" "long_of" s_long_of (fa 9) (fd 9)
  i_long_of : Binds K (fd 9) ["web", "road"] []
  m_long_of : mg "long_of" = some (.ref (fa 9))
  k_long_of : PySem.W.keepIn K (.ref (fa 9)) = true
  f_coming : Fun K "coming" "coming" s_coming (fa 10) (fd 10)
  i_coming : Binds K (fd 10) ["web", "spot"] []
  m_coming : mg "coming" = some (.ref (fa 10))
  k_coming : PySem.W.keepIn K (.ref (fa 10)) = true
  f_leaving : Fun K "leaving" "leaving" s_leaving (fa 11) (fd 11)
  i_leaving : Binds K (fd 11) ["web", "spot"] []
  m_leaving : mg "leaving" = some (.ref (fa 11))
  k_leaving : PySem.W.keepIn K (.ref (fa 11)) = true
  f_straight : Fun K "straight" "straight" s_straight (fa 12) (fd 12)
  i_straight : Binds K (fd 12) ["web", "one", "other"] []
  m_straight : mg "straight" = some (.ref (fa 12))
  k_straight : PySem.W.keepIn K (.ref (fa 12)) = true
  f_length_by : Fun K "length_by" "length_by" s_length_by (fa 13) (fd 13)
  i_length_by : Binds K (fd 13) ["web", "table", "one", "other"] []
  m_length_by : mg "length_by" = some (.ref (fa 13))
  k_length_by : PySem.W.keepIn K (.ref (fa 13)) = true
  f_lengths : Fun K "lengths" "lengths" s_lengths (fa 14) (fd 14)
  i_lengths : Binds K (fd 14) ["web"] []
  m_lengths : mg "lengths" = some (.ref (fa 14))
  k_lengths : PySem.W.keepIn K (.ref (fa 14)) = true
  f_is_whole : Fun K "is_whole" "is_whole" s_is_whole (fa 15) (fd 15)
  i_is_whole : Binds K (fd 15) ["thing", "low", "most"] []
  m_is_whole : mg "is_whole" = some (.ref (fa 15))
  k_is_whole : PySem.W.keepIn K (.ref (fa 15)) = true
  f_is_spot : Fun K "is_spot" "is_spot" s_is_spot (fa 16) (fd 16)
  i_is_spot : Binds K (fd 16) ["web", "thing"] []
  m_is_spot : mg "is_spot" = some (.ref (fa 16))
  k_is_spot : PySem.W.keepIn K (.ref (fa 16)) = true
  f_look_spot : Fun K "look_spot" "look_spot" s_look_spot (fa 17) (fd 17)
  i_look_spot : Binds K (fd 17) ["web", "spot"] []
  m_look_spot : mg "look_spot" = some (.ref (fa 17))
  k_look_spot : PySem.W.keepIn K (.ref (fa 17)) = true
  f_is_name : Fun K "is_name" "is_name" s_is_name (fa 18) (fd 18)
  i_is_name : Binds K (fd 18) ["thing"] []
  m_is_name : mg "is_name" = some (.ref (fa 18))
  k_is_name : PySem.W.keepIn K (.ref (fa 18)) = true
  f_is_point : Fun K "is_point" "is_point" s_is_point (fa 19) (fd 19)
  i_is_point : Binds K (fd 19) ["thing"] []
  m_is_point : mg "is_point" = some (.ref (fa 19))
  k_is_point : PySem.W.keepIn K (.ref (fa 19)) = true
  f_are_places : Fun K "are_places" "are_places" s_are_places (fa 20) (fd 20)
  i_are_places : Binds K (fd 20) ["thing"] []
  m_are_places : mg "are_places" = some (.ref (fa 20))
  k_are_places : PySem.W.keepIn K (.ref (fa 20)) = true
  f_is_road : Fun K "is_road" "is_road" s_is_road (fa 21) (fd 21)
  i_is_road : Binds K (fd 21) ["places", "thing"] []
  m_is_road : mg "is_road" = some (.ref (fa 21))
  k_is_road : PySem.W.keepIn K (.ref (fa 21)) = true
  f_look_web : Fun K "look_web" "look_web" s_look_web (fa 22) (fd 22)
  i_look_web : Binds K (fd 22) ["web"] []
  m_look_web : mg "look_web" = some (.ref (fa 22))
  k_look_web : PySem.W.keepIn K (.ref (fa 22)) = true
  f_look_both : Fun K "look_both" "look_both" s_look_both (fa 23) (fd 23)
  i_look_both : Binds K (fd 23) ["web", "one", "other"] []
  m_look_both : mg "look_both" = some (.ref (fa 23))
  k_look_both : PySem.W.keepIn K (.ref (fa 23)) = true
  f_steps_from : Fun K "steps_from" "steps_from" s_steps_from (fa 24) (fd 24)
  i_steps_from : Binds K (fd 24) ["web", "table", "here", "goal"] []
  m_steps_from : mg "steps_from" = some (.ref (fa 24))
  k_steps_from : PySem.W.keepIn K (.ref (fa 24)) = true
  f_places_between : Fun K "places_between" "places_between" s_places_between (fa 25) (fd 25)
  i_places_between : Binds K (fd 25) ["web", "table", "here", "goal"] []
  m_places_between : mg "places_between" = some (.ref (fa 25))
  k_places_between : PySem.W.keepIn K (.ref (fa 25)) = true
  f_way_by : Fun K "way_by" "way_by" s_way_by (fa 26) (fd 26)
  i_way_by : Binds K (fd 26) ["web", "table", "one", "other"] []
  m_way_by : mg "way_by" = some (.ref (fa 26))
  k_way_by : PySem.W.keepIn K (.ref (fa 26)) = true
  f_way : Fun K "way" "way" s_way (fa 27) (fd 27)
  i_way : Binds K (fd 27) ["web", "one", "other"] []
  m_way : mg "way" = some (.ref (fa 27))
  k_way : PySem.W.keepIn K (.ref (fa 27)) = true
  f__law_told : Fun K "_law_told" "_law_told" s__law_told (fa 28) (fd 28)
  i__law_told : Binds K (fd 28) ["web", "one", "other"] []
  m__law_told : mg "_law_told" = some (.ref (fa 28))
  k__law_told : PySem.W.keepIn K (.ref (fa 28)) = true
  f__law_rows : Fun K "_law_rows" "_law_rows" s__law_rows (fa 29) (fd 29)
  i__law_rows : Binds K (fd 29) ["web", "table", "here", "goal"] []
  m__law_rows : mg "_law_rows" = some (.ref (fa 29))
  k__law_rows : PySem.W.keepIn K (.ref (fa 29)) = true
  f__law_ends : Fun K "_law_ends" "_law_ends" s__law_ends (fa 30) (fd 30)
  i__law_ends : Binds K (fd 30) ["web", "spot", "is_leaving"] []
  m__law_ends : mg "_law_ends" = some (.ref (fa 30))
  k__law_ends : PySem.W.keepIn K (.ref (fa 30)) = true
  f__law_table : Fun K "_law_table" "_law_table" s__law_table (fa 31) (fd 31)
  i__law_table : Binds K (fd 31) ["web"] []
  m__law_table : mg "_law_table" = some (.ref (fa 31))
  k__law_table : PySem.W.keepIn K (.ref (fa 31)) = true
  f__law_way : Fun K "_law_way" "_law_way" s__law_way (fa 32) (fd 32)
  i__law_way : Binds K (fd 32) ["web", "one", "other", "least_now"] []
  m__law_way : mg "_law_way" = some (.ref (fa 32))
  k__law_way : PySem.W.keepIn K (.ref (fa 32)) = true
  f__law_web : Fun K "_law_web" "_law_web" s__law_web (fa 33) (fd 33)
  i__law_web : Binds K (fd 33) ["script", "town", "most", "far"] []
  m__law_web : mg "_law_web" = some (.ref (fa 33))
  k__law_web : PySem.W.keepIn K (.ref (fa 33)) = true
  f_length : Fun K "length" "length" s_length (fa 34) (fd 34)
  i_length : Binds K (fd 34) ["web", "one", "other"] []
  m_length : mg "length" = some (.ref (fa 34))
  k_length : PySem.W.keepIn K (.ref (fa 34)) = true
  f_law : Fun K "law" "law" s_law (fa 35) (fd 35)
  i_law : Binds K (fd 35) ["script"] []
  m_law : mg "law" = some (.ref (fa 35))
  k_law : PySem.W.keepIn K (.ref (fa 35)) = true
  x_NoWay : ExcF K mg cl [.type "ValueError", .type "Exception", .type "BaseException", .type "object"] "ValueError.__new__" "NoWay"
  c_BadLead : mg "BadLead" = some (.ref (cl "BadLead"))
  c_BadNumber : mg "BadNumber" = some (.ref (cl "BadNumber"))
  c_BadRules : mg "BadRules" = some (.ref (cl "BadRules"))
  c_BadSpot : mg "BadSpot" = some (.ref (cl "BadSpot"))
  c_BadText : mg "BadText" = some (.ref (cl "BadText"))
  c_BadTrack : mg "BadTrack" = some (.ref (cl "BadTrack"))
  c_BadWeb : mg "BadWeb" = some (.ref (cl "BadWeb"))
  c_NoWay : mg "NoWay" = some (.ref (cl "NoWay"))
  c_TrackError : mg "TrackError" = some (.ref (cl "TrackError"))
  t_TrackError : ∀ k ∈ (["NoWay"] : List Str), PySem.W.exmOne K (.ref (cl k)) (.ref (cl "TrackError")) = some true
  e_BadLead : ∀ n b, ([("NoWay", false)] : List (Str × Bool)).lookup n = some b → ExcC K (cl n) ∧ PySem.W.kitOne K (.ref (cl n)) (.ref (cl "BadLead")) = some b
  e_BadNumber : ∀ n b, ([("NoWay", false)] : List (Str × Bool)).lookup n = some b → ExcC K (cl n) ∧ PySem.W.kitOne K (.ref (cl n)) (.ref (cl "BadNumber")) = some b
  e_BadRules : ∀ n b, ([("NoWay", false)] : List (Str × Bool)).lookup n = some b → ExcC K (cl n) ∧ PySem.W.kitOne K (.ref (cl n)) (.ref (cl "BadRules")) = some b
  e_BadSpot : ∀ n b, ([("NoWay", false)] : List (Str × Bool)).lookup n = some b → ExcC K (cl n) ∧ PySem.W.kitOne K (.ref (cl n)) (.ref (cl "BadSpot")) = some b
  e_BadText : ∀ n b, ([("NoWay", false)] : List (Str × Bool)).lookup n = some b → ExcC K (cl n) ∧ PySem.W.kitOne K (.ref (cl n)) (.ref (cl "BadText")) = some b
  e_BadTrack : ∀ n b, ([("NoWay", false)] : List (Str × Bool)).lookup n = some b → ExcC K (cl n) ∧ PySem.W.kitOne K (.ref (cl n)) (.ref (cl "BadTrack")) = some b
  e_BadWeb : ∀ n b, ([("NoWay", false)] : List (Str × Bool)).lookup n = some b → ExcC K (cl n) ∧ PySem.W.kitOne K (.ref (cl n)) (.ref (cl "BadWeb")) = some b
  e_NoWay : ∀ n b, ([("NoWay", true)] : List (Str × Bool)).lookup n = some b → ExcC K (cl n) ∧ PySem.W.kitOne K (.ref (cl n)) (.ref (cl "NoWay")) = some b
  e_ValueError : ∀ n b, ([("NoWay", true)] : List (Str × Bool)).lookup n = some b → ExcC K (cl n) ∧ PySem.W.kitOne K (.ref (cl n)) (.type "ValueError") = some b
section
variable {P : Program} {w : World} {K : PySem.W.Frag} {mg : Str → Option Value} {base : Heap} {cl : Str → Addr} {fa : Nat → Addr} {fd : Nat → FuncData}
theorem ok__law_far (T : Txt K mg cl fa fd) : FnOk P w K mg base (L2.CX P w) 1 (fa 0) (fd 0) ["steps", "start"] (spO ⟨K, cl⟩ m__law_far) := by
  rw [show m__law_far = mDef 2 N__law_far.length b__law_far from rfl]
  refine gDef (N := N__law_far) (k := 0) (np := 2) (b := b__law_far) T.f__law_far sc__law_far rfl ?_
  intro cdv A outer s H E hr
  unfold b__law_far
  exact (gsCons (gOwn (i := 2) sc__law_far.nd gDnewT)
  (gsCons (gPutO (i := 2) (u1 hr) (gVar 1) gInt)
  (gsCons (gSet (i := 3) sc__law_far.nd (gLstE (gaCons (gVar 1) gaNil)))
  (gsCons (gWhile (fun _ _ => 1000000000) (passes_of rfl) (gtCmp (op_ne2 (u64 hr)) opS_ne (gVarO 3) (gR (gLstE gaNil)) (nomark _))
  (gsCons (gOwn (i := 4) sc__law_far.nd (gLstF gaNil))
  (gsCons (gFor (passes_of rfl) rfl (giSeq (gVar 3)) (ggN sc__law_far.nd)
  (gsOne (gForV (passes_of rfl) rfl (gIx (u1 hr) (gVarO 0) (gVarO 5)) (ggT rfl (ggs1 sc__law_far.nd (ggs1 sc__law_far.nd ggs0)))
  (gsOne (gsIf (gtCmp op_lt opS_cmp (gR (gOp op_add4 opS_add (gR (gIx (u1 hr) (gVarO 2) (gVarO 5))) (gVarO 7))) (gR (gGet (u1 hr) (gVarO 2) (gVar 6) (gOp op_pow opS_pow (gR gInt) (gR gInt)))) (nomark _))
  (gsCons (gPutO (i := 2) (u1 hr) (gVar 6) (gOp op_add4 opS_add (gR (gIx (u1 hr) (gVarO 2) (gVarO 5))) (gVarO 7)))
  (gsOne (gAppO (i := 4) (gVar 6))))
  gsNil)))))
  (gsOne (gFrz (i := 4) (gSet (i := 3) sc__law_far.nd (gVar 4)))))))
  (gsOne (gFrz (i := 2) (gRet (gVar 2))))))))
theorem ok__law_long (T : Txt K mg cl fa fd) : FnOk P w K mg base (L2.CX P w) 1 (fa 1) (fd 1) ["web", "road"] (spO ⟨K, cl⟩ m__law_long) := by
  rw [show m__law_long = mDef 2 N__law_long.length b__law_long from rfl]
  refine gDef (N := N__law_long) (k := 0) (np := 2) (b := b__law_long) T.f__law_long sc__law_long rfl ?_
  intro cdv A outer s H E hr
  unfold b__law_long
  exact (gsCons (gAsg (gFz (gLc (own := [("name", 4)]) (ctN (by decide)) rfl sc__law_long.nd (giSeq (gSl (gR (gIx (u1 hr) (gR (gIx (u1 hr) (gVarO 0) (gR gInt))) (gVarO 1))) gpNone (gpSome gInt))) (blkOk_by (own := [("name", 4)]) (N := N__law_long) (sc := defScope s__law_long) (by decide +kernel)) (fun _ _ _ _ _ => pg_name (i := 4) sc__law_long.nd rfl (by first | exact Or.inl rfl | exact Or.inr rfl)) (fun _ _ _ _ _ => gtsNil) (fun _ _ _ _ _ => (gIx (u1 hr) (gR (gIx (u1 hr) (gVarO 0) (gR gInt))) (gVarO 4))))) (ggT rfl (ggs1 sc__law_long.nd (ggs1 sc__law_long.nd ggs0))))
  (gsOne (gRet (gOp op_add4 opS_add (gR (gB1 call_abs unS_abs T.b_abs (by decide +kernel) (gR (gOp op_sub opS_sub (gR (gIx (u1 hr) (gVarO 2) (gR gInt))) (gR (gIx (u1 hr) (gVarO 3) (gR gInt))))))) (gR (gB1 call_abs unS_abs T.b_abs (by decide +kernel) (gR (gOp op_sub opS_sub (gR (gIx (u1 hr) (gVarO 2) (gR gInt))) (gR (gIx (u1 hr) (gVarO 3) (gR gInt)))))))))))
theorem ok__law_spots (T : Txt K mg cl fa fd) : FnOk P w K mg base (L2.CX P w) 2 (fa 2) (fd 2) ["web"] (spO ⟨K, cl⟩ m__law_spots) := by
  rw [show m__law_spots = mDef 1 N__law_spots.length b__law_spots from rfl]
  refine gDef (N := N__law_spots) (k := 1) (np := 1) (b := b__law_spots) T.f__law_spots sc__law_spots rfl ?_
  intro cdv A outer s H E hr
  unfold b__law_spots
  exact (gsCons (gSet (i := 1) sc__law_spots.nd (gLstE gaNil))
  (gsCons (gFor (passes_of rfl) rfl (giRng1 T.b_range (gaCons (gB1 call_lenU unS_len T.b_len (by decide +kernel) (gR (gIx (u1 hr) (gVarO 0) (gR gInt)))) gaNil)) (ggN sc__law_spots.nd)
  (gsOne (gSet (i := 1) sc__law_spots.nd (gOp op_add4 opS_add (gVarO 1) (gR (gFz (gLc (own := [("far", 3)]) (ctN (by decide)) rfl sc__law_spots.nd (giRng1 T.b_range (gaCons (gOp op_add4 opS_add (gR gInt) (gR (gCall (ok__law_long T) (hr.mono (by decide)) T.m__law_long T.k__law_long T.i__law_long (takes_of rfl rfl rfl rfl) (gaCons (gVar 0) (gaCons (gVar 2) gaNil))))) gaNil)) (blkOk_by (own := [("far", 3)]) (N := N__law_spots) (sc := defScope s__law_spots) (by decide +kernel)) (fun _ _ _ _ _ => pg_name (i := 3) sc__law_spots.nd rfl (by first | exact Or.inl rfl | exact Or.inr rfl)) (fun _ _ _ _ _ => gtsNil) (fun _ _ _ _ _ => (gTupE (gaCons (gVar 2) (gaCons (gVar 3) gaNil)))))))))))
  (gsOne (gRet (gVar 1)))))
theorem ok__law_next (T : Txt K mg cl fa fd) : FnOk P w K mg base (L2.CX P w) 3 (fa 3) (fd 3) ["web"] (spO ⟨K, cl⟩ m__law_next) := by
  rw [show m__law_next = mDef 1 N__law_next.length b__law_next from rfl]
  refine gDef (N := N__law_next) (k := 2) (np := 1) (b := b__law_next) T.f__law_next sc__law_next rfl ?_
  intro cdv A outer s H E hr
  unfold b__law_next
  exact (gsCons (gOwn (i := 1) sc__law_next.nd gDnewT)
  (gsCons (gOwn (i := 2) sc__law_next.nd gDnewK)
  (gsCons (gFor (passes_of rfl) rfl (giSeq (gCall (ok__law_spots T) (hr.mono (by decide)) T.m__law_spots T.k__law_spots T.i__law_spots (takes_of rfl rfl rfl rfl) (gaCons (gVar 0) gaNil))) (ggN sc__law_next.nd)
  (gsCons (gPutO (i := 1) (u1 hr) (gVar 3) (gCel (gLstF gaNil)))
  (gsCons (gSet (i := 5) sc__law_next.nd (gIx (u1 hr) (gR (gIx (u1 hr) (gVarO 0) (gR gInt))) (gR (gIx (u1 hr) (gVarO 3) (gR gInt)))))
  (gsCons (gsIf (gtCmp (op_eq2 (u64 hr)) opS_eq (gR (gIx (u1 hr) (gVarO 3) (gR gInt))) (gR gInt) (nomark _))
  (gsOne (gPutO (i := 2) (u1 hr) (gIx (u1 hr) (gVarO 5) (gR gInt)) (gOp op_add4 opS_add (gR (gGet (u1 hr) (gVarO 2) (gIx (u1 hr) (gVarO 5) (gR gInt)) (gLstE gaNil))) (gR (gLstE (gaCons (gVar 3) gaNil))))))
  gsNil)
  (gsCons (gsIf (gtCmp (op_eq2 (u64 hr)) opS_eq (gR (gIx (u1 hr) (gVarO 3) (gR gInt))) (gR (gCall (ok__law_long T) (hr.mono (by decide)) T.m__law_long T.k__law_long T.i__law_long (takes_of rfl rfl rfl rfl) (gaCons (gVar 0) (gaCons (gIx (u1 hr) (gVarO 3) (gR gInt)) gaNil)))) (nomark _))
  (gsOne (gPutO (i := 2) (u1 hr) (gIx (u1 hr) (gVarO 5) (gR gInt)) (gOp op_add4 opS_add (gR (gGet (u1 hr) (gVarO 2) (gIx (u1 hr) (gVarO 5) (gR gInt)) (gLstE gaNil))) (gR (gLstE (gaCons (gVar 3) gaNil))))))
  gsNil)
  (gsCons (gsIf (gtCmp op_lt opS_cmp (gR (gIx (u1 hr) (gVarO 3) (gR gInt))) (gR (gCall (ok__law_long T) (hr.mono (by decide)) T.m__law_long T.k__law_long T.i__law_long (takes_of rfl rfl rfl rfl) (gaCons (gVar 0) (gaCons (gIx (u1 hr) (gVarO 3) (gR gInt)) gaNil)))) (nomark _))
  (gsOne (gExpr (gApp (gIx (u1 hr) (gVarO 1) (gVarO 3)) (gTupE (gaCons (gTupE (gaCons (gIx (u1 hr) (gVarO 3) (gR gInt)) (gaCons (gOp op_add4 opS_add (gR (gIx (u1 hr) (gVarO 3) (gR gInt))) (gR gInt)) gaNil))) (gaCons gInt gaNil))))))
  gsNil)
  (gsOne (gsIf (PW.pt (gwAnd (gtCmp op_gt opS_cmp (gR (gIx (u1 hr) (gVarO 3) (gR gInt))) (gR gInt) (nomark _)) (gwAnd1 (gtNot (gtTru (gR (gIx (u1 hr) (gVarO 5) (gR gInt))))))))
  (gsOne (gExpr (gApp (gIx (u1 hr) (gVarO 1) (gVarO 3)) (gTupE (gaCons (gTupE (gaCons (gIx (u1 hr) (gVarO 3) (gR gInt)) (gaCons (gOp op_sub opS_sub (gR (gIx (u1 hr) (gVarO 3) (gR gInt))) (gR gInt)) gaNil))) (gaCons gInt gaNil))))))
  gsNil))))))))
  (gsCons (gFor (passes_of rfl) rfl (giSeq (gFz (gKeys rfl T.b_list (by decide +kernel) (gVarO 2)))) (ggN sc__law_next.nd)
  (gsOne (gFor (passes_of rfl) rfl (giSeq (gIx (u1 hr) (gVarO 2) (gVarO 4))) (ggN sc__law_next.nd)
  (gsOne (gPutO (i := 1) (u1 hr) (gVar 3) (gOp op_add4 opS_add (gR (gIx (u1 hr) (gVarO 1) (gVarO 3))) (gR (gFz (gLc (own := [("other", 6)]) (ctN (by decide)) rfl sc__law_next.nd (giSeq (gIx (u1 hr) (gVarO 2) (gVarO 4))) (blkOk_by (own := [("other", 6)]) (N := N__law_next) (sc := defScope s__law_next) (by decide +kernel)) (fun _ _ _ _ _ => pg_name (i := 6) sc__law_next.nd rfl (by first | exact Or.inl rfl | exact Or.inr rfl)) (fun _ _ _ _ _ => (gtsOne (gtCmp (op_ne2 (u64 hr)) opS_ne (gVarO 6) (gVarO 3) (nomark _)))) (fun _ _ _ _ _ => (gTupE (gaCons (gVar 6) (gaCons gInt gaNil)))))))))))))
  (gsOne (gFrz (i := 1) (gRet (gVar 1))))))))
theorem ok__law_cell (T : Txt K mg cl fa fd) : FnOk P w K mg base (L2.CX P w) 1 (fa 4) (fd 4) ["script", "k"] (spO ⟨K, cl⟩ m__law_cell) := by
  rw [show m__law_cell = mDef 2 N__law_cell.length b__law_cell from rfl]
  refine gDef (N := N__law_cell) (k := 0) (np := 2) (b := b__law_cell) T.f__law_cell sc__law_cell rfl ?_
  intro cdv A outer s H E hr
  unfold b__law_cell
  exact (gsCons (gsIf (gtTru (gVarO 0))
  (gsOne (gRet (gIx (u1 hr) (gVarO 0) (gR (gOp op_mod opS_mod (gVarO 1) (gR (gB1 call_lenU unS_len T.b_len (by decide +kernel) (gVarO 0))))))))
  gsNil)
  (gsOne (gRet gInt)))
theorem ok__law_mix (T : Txt K mg cl fa fd) : FnOk P w K mg base (L2.CX P w) 2 (fa 5) (fd 5) ["script", "k"] (spO ⟨K, cl⟩ m__law_mix) := by
  rw [show m__law_mix = mDef 2 N__law_mix.length b__law_mix from rfl]
  refine gDef (N := N__law_mix) (k := 1) (np := 2) (b := b__law_mix) T.f__law_mix sc__law_mix rfl ?_
  intro cdv A outer s H E hr
  unfold b__law_mix
  exact (gsCons (gSet (i := 2) sc__law_mix.nd (gOp op_mod opS_mod (gR (gOp op_add4 opS_add (gR (gCall (ok__law_cell T) (hr.mono (by decide)) T.m__law_cell T.k__law_cell T.i__law_cell (takes_of rfl rfl rfl rfl) (gaCons (gVar 0) (gaCons (gVar 1) gaNil)))) (gR (gOp op_mul2 opS_mul (gR gInt) (gR (gOp op_add4 opS_add (gVarO 1) (gR gInt))))))) (gR gInt)))
  (gsCons (gSet (i := 2) sc__law_mix.nd (gOp op_mod opS_mod (gR (gOp op_pow opS_pow (gVarO 2) (gR gInt))) (gR gInt)))
  (gsOne (gRet (gOp op_mod opS_mod (gR (gOp op_add4 opS_add (gR (gOp op_mul2 opS_mul (gR (gOp op_fdiv opS_div (gVarO 2) (gR gInt))) (gR gInt))) (gVarO 2))) (gR gInt))))))
theorem ok__law_draw (T : Txt K mg cl fa fd) : FnOk P w K mg base (L2.CX P w) 3 (fa 6) (fd 6) ["script", "town", "many"] (spO ⟨K, cl⟩ m__law_draw) := by
  rw [show m__law_draw = mDef 3 N__law_draw.length b__law_draw from rfl]
  refine gDef (N := N__law_draw) (k := 2) (np := 3) (b := b__law_draw) T.f__law_draw sc__law_draw rfl ?_
  intro cdv A outer s H E hr
  unfold b__law_draw
  exact (gsCons (gExpr (gApp (gVar 1) gInt))
  (gsOne (gRet (gOp op_mod opS_mod (gR (gOp op_fdiv opS_div (gR (gCall (ok__law_mix T) (hr.mono (by decide)) T.m__law_mix T.k__law_mix T.i__law_mix (takes_of rfl rfl rfl rfl) (gaCons (gVar 0) (gaCons (gB1 call_lenU unS_len T.b_len (by decide +kernel) (gVarO 1)) gaNil)))) (gR gInt))) (gVarO 2)))))
theorem ok__law_pick (T : Txt K mg cl fa fd) : FnOk P w K mg base (L2.CX P w) 4 (fa 7) (fd 7) ["script", "town", "some"] (spO ⟨K, cl⟩ m__law_pick) := by
  rw [show m__law_pick = mDef 3 N__law_pick.length b__law_pick from rfl]
  refine gDef (N := N__law_pick) (k := 3) (np := 3) (b := b__law_pick) T.f__law_pick sc__law_pick rfl ?_
  intro cdv A outer s H E hr
  unfold b__law_pick
  exact (gsOne (gRet (gIx (u1 hr) (gVarO 2) (gR (gCall (ok__law_draw T) (hr.mono (by decide)) T.m__law_draw T.k__law_draw T.i__law_draw (takes_of rfl rfl rfl rfl) (gaCons (gVar 0) (gaCons (gVar 1) (gaCons (gB1 call_lenU unS_len T.b_len (by decide +kernel) (gVarO 2)) gaNil))))))))
theorem ok__law_refusal (T : Txt K mg cl fa fd) : FnOk P w K mg base (L2.CX P w) 1 (fa 8) (fd 8) ["caught"] (spO ⟨K, cl⟩ m__law_refusal) := by
  rw [show m__law_refusal = mDef 1 N__law_refusal.length b__law_refusal from rfl]
  refine gDef (N := N__law_refusal) (k := 0) (np := 1) (b := b__law_refusal) T.f__law_refusal sc__law_refusal rfl ?_
  intro cdv A outer s H E hr
  unfold b__law_refusal
  exact (gsCons (gsIf (gtCmp op_isU opS_is (gVarO 0) (gR gNon) (nomark _))
  (gsOne (gRet (gTupE (gaCons gStr gaNil))))
  gsNil)
  (gsCons (gSet (i := 1) sc__law_refusal.nd (gLstE (gaCons (gIsxO T.b_isinstance T.c_BadWeb T.e_BadWeb (gVarO 0)) (gaCons (gIsxO T.b_isinstance T.c_BadSpot T.e_BadSpot (gVarO 0)) (gaCons (gIsxO T.b_isinstance T.c_BadRules T.e_BadRules (gVarO 0)) gaNil)))))
  (gsCons (gSet (i := 1) sc__law_refusal.nd (gOp op_add4 opS_add (gVarO 1) (gR (gLstE (gaCons (gIsxO T.b_isinstance T.c_BadTrack T.e_BadTrack (gVarO 0)) (gaCons (gIsxO T.b_isinstance T.c_BadLead T.e_BadLead (gVarO 0)) (gaCons (gIsxO T.b_isinstance T.c_BadNumber T.e_BadNumber (gVarO 0)) gaNil)))))))
  (gsCons (gSet (i := 1) sc__law_refusal.nd (gOp op_add4 opS_add (gVarO 1) (gR (gLstE (gaCons (gIsxO T.b_isinstance T.c_BadText T.e_BadText (gVarO 0)) (gaCons (gIsxO T.b_isinstance T.c_NoWay T.e_NoWay (gVarO 0)) gaNil))))))
  (gsCons (gsIf (PW.pt (gwOr (gtCmp (op_ne2 (u64 hr)) opS_ne (gR (gCount (gVarO 1) gBl)) (gR gInt) (nomark _)) (gwOr1 (gtNot (gtTru (gR (gIsxB T.b_isinstance T.b_ValueError (by decide +kernel) T.e_ValueError (gVarO 0))))))))
  (gsOne (gRet (gTupE (gaCons gStr gaNil))))
  gsNil)
  (gsOne (gRet (gTupE (gaCons gStr (gaCons (gIx (u1 hr) (gR (gLstE (gaCons gStr (gaCons gStr (gaCons gStr (gaCons gStr (gaCons gStr (gaCons gStr (gaCons gStr (gaCons gStr gaNil)))))))))) (gR (gIndex (u65 hr) (gVarO 1) (gR gBl)))) gaNil))))))))))
theorem ok_long_of (T : Txt K mg cl fa fd) : FnOk P w K mg base (L2.CX P w) 1 (fa 9) (fd 9) ["web", "road"] (spO ⟨K, cl⟩ m_long_of) := by
  rw [show m_long_of = mDef 2 N_long_of.length b_long_of from rfl]
  refine gDef (N := N_long_of) (k := 0) (np := 2) (b := b_long_of) T.f_long_of sc_long_of rfl ?_
  intro cdv A outer s H E hr
  unfold b_long_of
  exact (gsCons (gPar (i := 2) (j := 3) rfl sc_long_of.nd (gaCons (gIx (u1 hr) (gR (gIx (u1 hr) (gVarO 0) (gR gInt))) (gR (gIx (u1 hr) (gR (gIx (u1 hr) (gR (gIx (u1 hr) (gVarO 0) (gR gInt))) (gVarO 1))) (gR gInt)))) (gaCons (gIx (u1 hr) (gR (gIx (u1 hr) (gVarO 0) (gR gInt))) (gR (gIx (u1 hr) (gR (gIx (u1 hr) (gR (gIx (u1 hr) (gVarO 0) (gR gInt))) (gVarO 1))) (gR gInt)))) gaNil)))
  (gsOne (gRet (gOp op_add4 opS_add (gR (gB1 call_abs unS_abs T.b_abs (by decide +kernel) (gR (gOp op_sub opS_sub (gR (gIx (u1 hr) (gVarO 2) (gR gInt))) (gR (gIx (u1 hr) (gVarO 3) (gR gInt))))))) (gR (gB1 call_abs unS_abs T.b_abs (by decide +kernel) (gR (gOp op_sub opS_sub (gR (gIx (u1 hr) (gVarO 2) (gR gInt))) (gR (gIx (u1 hr) (gVarO 3) (gR gInt)))))))))))
theorem ok_coming (T : Txt K mg cl fa fd) : FnOk P w K mg base (L2.CX P w) 2 (fa 10) (fd 10) ["web", "spot"] (spO ⟨K, cl⟩ m_coming) := by
  rw [show m_coming = mDef 2 N_coming.length b_coming from rfl]
  refine gDef (N := N_coming) (k := 1) (np := 2) (b := b_coming) T.f_coming sc_coming rfl ?_
  intro cdv A outer s H E hr
  unfold b_coming
  exact (gsCons (gAsg (gIx (u1 hr) (gR (gIx (u1 hr) (gVarO 0) (gR gInt))) (gR (gIx (u1 hr) (gVarO 1) (gR gInt)))) (ggT rfl (ggs1 sc_coming.nd (ggs1 sc_coming.nd (ggs1 sc_coming.nd ggs0)))))
  (gsCons (gSet (i := 2) sc_coming.nd (gCall (ok_long_of T) (hr.mono (by decide)) T.m_long_of T.k_long_of T.i_long_of (takes_of rfl rfl rfl rfl) (gaCons (gVar 0) (gaCons (gIx (u1 hr) (gVarO 1) (gR gInt)) gaNil))))
  (gsCons (gOwn (i := 3) sc_coming.nd (gLstF (gaCons (gTupE (gaCons (gVar 4) (gaCons (gIx (u1 hr) (gVarO 1) (gR gInt)) gaNil))) gaNil)))
  (gsCons (gsIf (PW.pt (gwOr (gtNot (gtTru (gVarO 6))) (gwOr1 (gtCmp (op_eq2 (u64 hr)) opS_eq (gR (gIx (u1 hr) (gVarO 1) (gR gInt))) (gVarO 2) (nomark _)))))
  (gsOne (gAppO (i := 3) (gTupE (gaCons (gVar 5) (gaCons (gOp op_sub opS_sub (gVarO 2) (gR (gIx (u1 hr) (gVarO 1) (gR gInt)))) gaNil)))))
  gsNil)
  (gsOne (gFrz (i := 3) (gRet (gVar 3))))))))
theorem ok_leaving (T : Txt K mg cl fa fd) : FnOk P w K mg base (L2.CX P w) 2 (fa 11) (fd 11) ["web", "spot"] (spO ⟨K, cl⟩ m_leaving) := by
  rw [show m_leaving = mDef 2 N_leaving.length b_leaving from rfl]
  refine gDef (N := N_leaving) (k := 1) (np := 2) (b := b_leaving) T.f_leaving sc_leaving rfl ?_
  intro cdv A outer s H E hr
  unfold b_leaving
  exact (gsCons (gAsg (gIx (u1 hr) (gR (gIx (u1 hr) (gVarO 0) (gR gInt))) (gR (gIx (u1 hr) (gVarO 1) (gR gInt)))) (ggT rfl (ggs1 sc_leaving.nd (ggs1 sc_leaving.nd (ggs1 sc_leaving.nd ggs0)))))
  (gsCons (gOwn (i := 2) sc_leaving.nd (gLstF (gaCons (gTupE (gaCons (gVar 4) (gaCons (gOp op_sub opS_sub (gR (gCall (ok_long_of T) (hr.mono (by decide)) T.m_long_of T.k_long_of T.i_long_of (takes_of rfl rfl rfl rfl) (gaCons (gVar 0) (gaCons (gIx (u1 hr) (gVarO 1) (gR gInt)) gaNil)))) (gR (gIx (u1 hr) (gVarO 1) (gR gInt)))) gaNil))) gaNil)))
  (gsCons (gsIf (PW.pt (gwOr (gtNot (gtTru (gVarO 5))) (gwOr1 (gtCmp (op_eq2 (u64 hr)) opS_eq (gR (gIx (u1 hr) (gVarO 1) (gR gInt))) (gR gInt) (nomark _)))))
  (gsOne (gAppO (i := 2) (gTupE (gaCons (gVar 3) (gaCons (gIx (u1 hr) (gVarO 1) (gR gInt)) gaNil)))))
  gsNil)
  (gsOne (gFrz (i := 2) (gRet (gVar 2)))))))
theorem ok_straight (T : Txt K mg cl fa fd) : FnOk P w K mg base (L2.CX P w) 1 (fa 12) (fd 12) ["web", "one", "other"] (spO ⟨K, cl⟩ m_straight) := by
  rw [show m_straight = mDef 3 N_straight.length b_straight from rfl]
  refine gDef (N := N_straight) (k := 0) (np := 3) (b := b_straight) T.f_straight sc_straight rfl ?_
  intro cdv A outer s H E hr
  unfold b_straight
  exact (gsCons (gsIf (PW.pt (gwOr (gtCmp (op_ne2 (u64 hr)) opS_ne (gR (gIx (u1 hr) (gVarO 1) (gR gInt))) (gR (gIx (u1 hr) (gVarO 2) (gR gInt))) (nomark _)) (gwOr1 (PW.pt (gwAnd (gtCmp op_lt opS_cmp (gR (gIx (u1 hr) (gVarO 2) (gR gInt))) (gR (gIx (u1 hr) (gVarO 1) (gR gInt))) (nomark _)) (gwAnd1 (gtTru (gR (gIx (u1 hr) (gR (gIx (u1 hr) (gR (gIx (u1 hr) (gVarO 0) (gR gInt))) (gR (gIx (u1 hr) (gVarO 1) (gR gInt))))) (gR gInt))))))))))
  (gsOne (gRet (gGlobI rfl T.g_FAR)))
  gsNil)
  (gsOne (gRet (gB1 call_abs unS_abs T.b_abs (by decide +kernel) (gR (gOp op_sub opS_sub (gR (gIx (u1 hr) (gVarO 2) (gR gInt))) (gR (gIx (u1 hr) (gVarO 1) (gR gInt)))))))))
theorem ok_length_by (T : Txt K mg cl fa fd) : FnOk P w K mg base (L2.CX P w) 3 (fa 13) (fd 13) ["web", "table", "one", "other"] (spO ⟨K, cl⟩ m_length_by) := by
  rw [show m_length_by = mDef 4 N_length_by.length b_length_by from rfl]
  refine gDef (N := N_length_by) (k := 2) (np := 4) (b := b_length_by) T.f_length_by sc_length_by rfl ?_
  intro cdv A outer s H E hr
  unfold b_length_by
  exact (gsCons (gSet (i := 4) sc_length_by.nd (gCall (ok_straight T) (hr.mono (by decide)) T.m_straight T.k_straight T.i_straight (takes_of rfl rfl rfl rfl) (gaCons (gVar 0) (gaCons (gVar 2) (gaCons (gVar 3) gaNil)))))
  (gsCons (gFor (passes_of rfl) rfl (giSeq (gCall (ok_leaving T) (hr.mono (by decide)) T.m_leaving T.k_leaving T.i_leaving (takes_of rfl rfl rfl rfl) (gaCons (gVar 0) (gaCons (gVar 2) gaNil)))) (ggT rfl (ggs1 sc_length_by.nd (ggs1 sc_length_by.nd ggs0)))
  (gsOne (gFor (passes_of rfl) rfl (giSeq (gCall (ok_coming T) (hr.mono (by decide)) T.m_coming T.k_coming T.i_coming (takes_of rfl rfl rfl rfl) (gaCons (gVar 0) (gaCons (gVar 3) gaNil)))) (ggT rfl (ggs1 sc_length_by.nd (ggs1 sc_length_by.nd ggs0)))
  (gsOne (gSet (i := 4) sc_length_by.nd (gB2 (call_min2 rfl) biS_min T.b_min (by decide +kernel) (gVarO 4) (gR (gOp op_add4 opS_add (gR (gOp op_add4 opS_add (gVarO 6) (gR (gIx (u1 hr) (gVarO 1) (gR (gTupE (gaCons (gVar 5) (gaCons (gVar 7) gaNil)))))))) (gVarO 8)))))))))
  (gsOne (gRet (gVar 4)))))
theorem ok_lengths (T : Txt K mg cl fa fd) : FnOk P w K mg base (L2.CX P w) 2 (fa 14) (fd 14) ["web"] (spO ⟨K, cl⟩ m_lengths) := by
  rw [show m_lengths = mDef 1 N_lengths.length b_lengths from rfl]
  refine gDef (N := N_lengths) (k := 1) (np := 1) (b := b_lengths) T.f_lengths sc_lengths rfl ?_
  intro cdv A outer s H E hr
  unfold b_lengths
  exact (gsCons (gSet (i := 1) sc_lengths.nd (gFz (gSortKeys rfl T.b_sorted (by decide +kernel) (gR (gIx (u1 hr) (gVarO 0) (gR gInt))))))
  (gsCons (gOwn (i := 2) sc_lengths.nd gDnewT)
  (gsCons (gFor (passes_of rfl) rfl (giSeq (gVar 1)) (ggN sc_lengths.nd)
  (gsOne (gFor (passes_of rfl) rfl (giSeq (gVar 1)) (ggN sc_lengths.nd)
  (gsOne (gPutO (i := 2) (u1 hr) (gTupE (gaCons (gVar 3) (gaCons (gVar 6) gaNil))) (gIf (gtCmp (op_eq2 (u64 hr)) opS_eq (gVarO 3) (gVarO 6) (nomark _)) gInt (gGlobI rfl T.g_FAR)))))))
  (gsCons (gFor (passes_of rfl) rfl (giRng1 T.b_range (gaCons (gB1 call_lenU unS_len T.b_len (by decide +kernel) (gR (gIx (u1 hr) (gVarO 0) (gR gInt)))) gaNil)) (ggN sc_lengths.nd)
  (gsCons (gAsg (gIx (u1 hr) (gR (gIx (u1 hr) (gVarO 0) (gR gInt))) (gVarO 4)) (ggT rfl (ggs1 sc_lengths.nd (ggs1 sc_lengths.nd (ggs1 sc_lengths.nd ggs0)))))
  (gsCons (gPutO (i := 2) (u1 hr) (gTupE (gaCons (gVar 3) (gaCons (gVar 6) gaNil))) (gB2 (call_min2 rfl) biS_min T.b_min (by decide +kernel) (gR (gIx (u1 hr) (gVarO 2) (gR (gTupE (gaCons (gVar 3) (gaCons (gVar 6) gaNil)))))) (gR (gCall (ok_long_of T) (hr.mono (by decide)) T.m_long_of T.k_long_of T.i_long_of (takes_of rfl rfl rfl rfl) (gaCons (gVar 0) (gaCons (gVar 4) gaNil))))))
  (gsOne (gsIf (gtNot (gtTru (gVarO 7)))
  (gsOne (gPutO (i := 2) (u1 hr) (gTupE (gaCons (gVar 6) (gaCons (gVar 3) gaNil))) (gB2 (call_min2 rfl) biS_min T.b_min (by decide +kernel) (gR (gIx (u1 hr) (gVarO 2) (gR (gTupE (gaCons (gVar 6) (gaCons (gVar 3) gaNil)))))) (gR (gCall (ok_long_of T) (hr.mono (by decide)) T.m_long_of T.k_long_of T.i_long_of (takes_of rfl rfl rfl rfl) (gaCons (gVar 0) (gaCons (gVar 4) gaNil)))))))
  gsNil)))))
  (gsCons (gFor (passes_of rfl) rfl (giSeq (gVar 1)) (ggN sc_lengths.nd)
  (gsOne (gFor (passes_of rfl) rfl (giSeq (gVar 1)) (ggN sc_lengths.nd)
  (gsOne (gFor (passes_of rfl) rfl (giSeq (gVar 1)) (ggN sc_lengths.nd)
  (gsOne (gPutO (i := 2) (u1 hr) (gTupE (gaCons (gVar 3) (gaCons (gVar 6) gaNil))) (gB2 (call_min2 rfl) biS_min T.b_min (by decide +kernel) (gR (gIx (u1 hr) (gVarO 2) (gR (gTupE (gaCons (gVar 3) (gaCons (gVar 6) gaNil)))))) (gR (gOp op_add4 opS_add (gR (gIx (u1 hr) (gVarO 2) (gR (gTupE (gaCons (gVar 3) (gaCons (gVar 5) gaNil)))))) (gR (gIx (u1 hr) (gVarO 2) (gR (gTupE (gaCons (gVar 5) (gaCons (gVar 6) gaNil))))))))))))))))
  (gsOne (gFrz (i := 2) (gRet (gVar 2)))))))))
theorem ok_is_whole (T : Txt K mg cl fa fd) : FnOk P w K mg base (L2.CX P w) 1 (fa 15) (fd 15) ["thing", "low", "most"] (spO ⟨K, cl⟩ m_is_whole) := by
  rw [show m_is_whole = mDef 3 N_is_whole.length b_is_whole from rfl]
  refine gDef (N := N_is_whole) (k := 0) (np := 3) (b := b_is_whole) T.f_is_whole sc_is_whole rfl ?_
  intro cdv A outer s H E hr
  unfold b_is_whole
  exact (gsOne (gRet (gAndV (gIsi isi_int T.b_isinstance T.b_int (by decide +kernel) (gVarO 0)) (gAndV (gNotV (gIsi isi_bool T.b_isinstance T.b_bool (by decide +kernel) (gVarO 0))) (gOne (gChain op_le opS_cmp op_le opS_cmp (gVarO 1) (gVarO 0) (gVarO 2)))))))
theorem ok_is_spot (T : Txt K mg cl fa fd) : FnOk P w K mg base (L2.CX P w) 2 (fa 16) (fd 16) ["web", "thing"] (spO ⟨K, cl⟩ m_is_spot) := by
  rw [show m_is_spot = mDef 2 N_is_spot.length b_is_spot from rfl]
  refine gDef (N := N_is_spot) (k := 1) (np := 2) (b := b_is_spot) T.f_is_spot sc_is_spot rfl ?_
  intro cdv A outer s H E hr
  unfold b_is_spot
  exact (gsCons (gsIf (PW.pt (gwOr (gtNot (gtTru (gR (gIsi isi_tuple T.b_isinstance T.b_tuple (by decide +kernel) (gVarO 1))))) (gwOr (gtCmp (op_ne2 (u64 hr)) opS_ne (gR (gB1 call_lenU unS_len T.b_len (by decide +kernel) (gVarO 1))) (gR gInt) (nomark _)) (gwOr1 (gtNot (gtTru (gR (gCall (ok_is_whole T) (hr.mono (by decide)) T.m_is_whole T.k_is_whole T.i_is_whole (takes_of rfl rfl rfl rfl) (gaCons (gIx (u1 hr) (gVarO 1) (gR gInt)) (gaCons gInt (gaCons (gOp op_sub opS_sub (gR (gB1 call_lenU unS_len T.b_len (by decide +kernel) (gR (gIx (u1 hr) (gVarO 0) (gR gInt))))) (gR gInt)) gaNil)))))))))))
  (gsOne (gRet gBl))
  gsNil)
  (gsOne (gRet (gCall (ok_is_whole T) (hr.mono (by decide)) T.m_is_whole T.k_is_whole T.i_is_whole (takes_of rfl rfl rfl rfl) (gaCons (gIx (u1 hr) (gVarO 1) (gR gInt)) (gaCons gInt (gaCons (gCall (ok_long_of T) (hr.mono (by decide)) T.m_long_of T.k_long_of T.i_long_of (takes_of rfl rfl rfl rfl) (gaCons (gVar 0) (gaCons (gIx (u1 hr) (gVarO 1) (gR gInt)) gaNil))) gaNil)))))))
theorem ok_look_spot (T : Txt K mg cl fa fd) : FnOk P w K mg base (L2.CX P w) 3 (fa 17) (fd 17) ["web", "spot"] (spO ⟨K, cl⟩ m_look_spot) := by
  rw [show m_look_spot = mDef 2 N_look_spot.length b_look_spot from rfl]
  refine gDef (N := N_look_spot) (k := 2) (np := 2) (b := b_look_spot) T.f_look_spot sc_look_spot rfl ?_
  intro cdv A outer s H E hr
  unfold b_look_spot
  exact (gsOne (gsIf (gtNot (gtTru (gR (gCall (ok_is_spot T) (hr.mono (by decide)) T.m_is_spot T.k_is_spot T.i_is_spot (takes_of rfl rfl rfl rfl) (gaCons (gVar 0) (gaCons (gVar 1) gaNil))))))
  (gsOne gNever)
  gsNil))
theorem ok_is_name (T : Txt K mg cl fa fd) : FnOk P w K mg base (L2.CX P w) 1 (fa 18) (fd 18) ["thing"] (spO ⟨K, cl⟩ m_is_name) := by
  rw [show m_is_name = mDef 1 N_is_name.length b_is_name from rfl]
  refine gDef (N := N_is_name) (k := 0) (np := 1) (b := b_is_name) T.f_is_name sc_is_name rfl ?_
  intro cdv A outer s H E hr
  unfold b_is_name
  exact (gsOne (gRet (gAndV (gIsi isi_str T.b_isinstance T.b_str (by decide +kernel) (gVarO 0)) (gAndV (gChain op_le opS_cmp op_le opS_cmp (gR gInt) (gR (gB1 call_lenU unS_len T.b_len (by decide +kernel) (gVarO 0))) (gR (gGlobI rfl T.g_MOST_NAME))) (gOne (gB1 (cr_all rfl) unS_all T.b_all (by decide +kernel) (gR (gFz (gLc (own := [("sign", 1)]) (ctN (by decide)) rfl sc_is_name.nd (giSeq (gVar 0)) (blkOk_by (own := [("sign", 1)]) (N := N_is_name) (sc := defScope s_is_name) (by decide +kernel)) (fun _ _ _ _ _ => pg_name (i := 1) sc_is_name.nd rfl (by first | exact Or.inl rfl | exact Or.inr rfl)) (fun _ _ _ _ _ => gtsNil) (fun _ _ _ _ _ => (gCmp (op_inU (u65 hr)) opS_in (gVarO 1) (gR (gGlobS rfl T.g_SMALL)) rfl)))))))))))
theorem ok_is_point (T : Txt K mg cl fa fd) : FnOk P w K mg base (L2.CX P w) 2 (fa 19) (fd 19) ["thing"] (spO ⟨K, cl⟩ m_is_point) := by
  rw [show m_is_point = mDef 1 N_is_point.length b_is_point from rfl]
  refine gDef (N := N_is_point) (k := 1) (np := 1) (b := b_is_point) T.f_is_point sc_is_point rfl ?_
  intro cdv A outer s H E hr
  unfold b_is_point
  exact (gsOne (gRet (gAndV (gIsi isi_tuple T.b_isinstance T.b_tuple (by decide +kernel) (gVarO 0)) (gAndV (gCmp (op_eq2 (u64 hr)) opS_eq (gR (gB1 call_lenU unS_len T.b_len (by decide +kernel) (gVarO 0))) (gR gInt) (nomark _)) (gOne (gB1 (cr_all rfl) unS_all T.b_all (by decide +kernel) (gR (gFz (gLc (own := [("one", 1)]) (ctN (by decide)) rfl sc_is_point.nd (giSeq (gVar 0)) (blkOk_by (own := [("one", 1)]) (N := N_is_point) (sc := defScope s_is_point) (by decide +kernel)) (fun _ _ _ _ _ => pg_name (i := 1) sc_is_point.nd rfl (by first | exact Or.inl rfl | exact Or.inr rfl)) (fun _ _ _ _ _ => gtsNil) (fun _ _ _ _ _ => (gCall (ok_is_whole T) (hr.mono (by decide)) T.m_is_whole T.k_is_whole T.i_is_whole takes0 (gaCons (gVar 1) (gaCons gInt (gaCons (gGlobI rfl T.g_MOST_AT) gaNil))))))))))))))
theorem ok_are_places (T : Txt K mg cl fa fd) : FnOk P w K mg base (L2.CX P w) 3 (fa 20) (fd 20) ["thing"] (spO ⟨K, cl⟩ m_are_places) := by
  rw [show m_are_places = mDef 1 N_are_places.length b_are_places from rfl]
  refine gDef (N := N_are_places) (k := 2) (np := 1) (b := b_are_places) T.f_are_places sc_are_places rfl ?_
  intro cdv A outer s H E hr
  unfold b_are_places
  exact (gsCons (gsIf (PW.pt (gwOr (gtNot (gtTru (gR (gIsi isi_dict T.b_isinstance T.b_dict (by decide +kernel) (gVarO 0))))) (gwOr (gtCmp op_gt opS_cmp (gR (gB1 call_lenU unS_len T.b_len (by decide +kernel) (gVarO 0))) (gR (gGlobI rfl T.g_MOST_PLACES)) (nomark _)) (gwOr1 (gtNot (gtTru (gR (gB1 (cr_all rfl) unS_all T.b_all (by decide +kernel) (gR (gFz (gLcK (i := 0) (own := [("name", 1)]) (ctN (by decide)) rfl sc_are_places.nd (blkOk_by (own := [("name", 1)]) (N := N_are_places) (sc := defScope s_are_places) (by decide +kernel)) (fun _ _ _ _ _ => pg_name (i := 1) sc_are_places.nd rfl (by first | exact Or.inl rfl | exact Or.inr rfl)) (fun _ _ _ _ _ => gtsNil) (fun _ _ _ _ _ => (gCall (ok_is_name T) (hr.mono (by decide)) T.m_is_name T.k_is_name T.i_is_name takes0 (gaCons (gVar 1) gaNil))))))))))))))
  (gsOne (gRet gBl))
  gsNil)
  (gsOne (gRet (gB1 (cr_all rfl) unS_all T.b_all (by decide +kernel) (gR (gFz (gLcK (i := 0) (own := [("name", 1)]) (ctN (by decide)) rfl sc_are_places.nd (blkOk_by (own := [("name", 1)]) (N := N_are_places) (sc := defScope s_are_places) (by decide +kernel)) (fun _ _ _ _ _ => pg_name (i := 1) sc_are_places.nd rfl (by first | exact Or.inl rfl | exact Or.inr rfl)) (fun _ _ _ _ _ => gtsNil) (fun _ _ _ _ _ => (gCall (ok_is_point T) (hr.mono (by decide)) T.m_is_point T.k_is_point T.i_is_point takes0 (gaCons (gIx (u1 hr) (gVarO 0) (gVarO 1)) gaNil))))))))))
theorem ok_is_road (T : Txt K mg cl fa fd) : FnOk P w K mg base (L2.CX P w) 2 (fa 21) (fd 21) ["places", "thing"] (spO ⟨K, cl⟩ m_is_road) := by
  rw [show m_is_road = mDef 2 N_is_road.length b_is_road from rfl]
  refine gDef (N := N_is_road) (k := 1) (np := 2) (b := b_is_road) T.f_is_road sc_is_road rfl ?_
  intro cdv A outer s H E hr
  unfold b_is_road
  exact (gsCons (gsIf (PW.pt (gwOr (gtNot (gtTru (gR (gIsi isi_tuple T.b_isinstance T.b_tuple (by decide +kernel) (gVarO 1))))) (gwOr (gtCmp (op_ne2 (u64 hr)) opS_ne (gR (gB1 call_lenU unS_len T.b_len (by decide +kernel) (gVarO 1))) (gR gInt) (nomark _)) (gwOr1 (gtNot (gtTru (gR (gIsi isi_bool T.b_isinstance T.b_bool (by decide +kernel) (gR (gIx (u1 hr) (gVarO 1) (gR gInt)))))))))))
  (gsOne (gRet gBl))
  gsNil)
  (gsCons (gsIf (gtNot (gtTru (gR (gB1 (cr_all rfl) unS_all T.b_all (by decide +kernel) (gR (gFz (gLc (own := [("name", 4)]) (ctN (by decide)) rfl sc_is_road.nd (giSeq (gSl (gVarO 1) gpNone (gpSome gInt))) (blkOk_by (own := [("name", 4)]) (N := N_is_road) (sc := defScope s_is_road) (by decide +kernel)) (fun _ _ _ _ _ => pg_name (i := 4) sc_is_road.nd rfl (by first | exact Or.inl rfl | exact Or.inr rfl)) (fun _ _ _ _ _ => gtsNil) (fun _ _ _ _ _ => (gAndV (gCall (ok_is_name T) (hr.mono (by decide)) T.m_is_name T.k_is_name T.i_is_name takes0 (gaCons (gVar 4) gaNil)) (gOne (gCmp (op_inU (u65 hr)) opS_in (gVarO 4) (gVarO 0) rfl)))))))))))
  (gsOne (gRet gBl))
  gsNil)
  (gsCons (gPar (i := 2) (j := 3) rfl sc_is_road.nd (gaCons (gIx (u1 hr) (gVarO 0) (gR (gIx (u1 hr) (gVarO 1) (gR gInt)))) (gaCons (gIx (u1 hr) (gVarO 0) (gR (gIx (u1 hr) (gVarO 1) (gR gInt)))) gaNil)))
  (gsOne (gRet (gAndV (gCmp (op_ne2 (u64 hr)) opS_ne (gVarO 2) (gVarO 3) (nomark _)) (gOne (gOrV (gCmp (op_eq2 (u64 hr)) opS_eq (gR (gIx (u1 hr) (gVarO 2) (gR gInt))) (gR (gIx (u1 hr) (gVarO 3) (gR gInt))) (nomark _)) (gOne (gCmp (op_eq2 (u64 hr)) opS_eq (gR (gIx (u1 hr) (gVarO 2) (gR gInt))) (gR (gIx (u1 hr) (gVarO 3) (gR gInt))) (nomark _)))))))))))
theorem ok_look_web (T : Txt K mg cl fa fd) : FnOk P w K mg base (L2.CX P w) 4 (fa 22) (fd 22) ["web"] (spO ⟨K, cl⟩ m_look_web) := by
  rw [show m_look_web = mDef 1 N_look_web.length b_look_web from rfl]
  refine gDef (N := N_look_web) (k := 3) (np := 1) (b := b_look_web) T.f_look_web sc_look_web rfl ?_
  intro cdv A outer s H E hr
  unfold b_look_web
  exact (gsCons (gsIf (PW.pt (gwOr (gtNot (gtTru (gR (gIsi isi_tuple T.b_isinstance T.b_tuple (by decide +kernel) (gVarO 0))))) (gwOr (gtCmp (op_ne2 (u64 hr)) opS_ne (gR (gB1 call_lenU unS_len T.b_len (by decide +kernel) (gVarO 0))) (gR gInt) (nomark _)) (gwOr1 (gtNot (gtTru (gR (gCall (ok_are_places T) (hr.mono (by decide)) T.m_are_places T.k_are_places T.i_are_places (takes_of rfl rfl rfl rfl) (gaCons (gIx (u1 hr) (gVarO 0) (gR gInt)) gaNil)))))))))
  (gsOne gNever)
  gsNil)
  (gsCons (gsIf (PW.pt (gwOr (gtNot (gtTru (gR (gIsi isi_list T.b_isinstance T.b_list (by decide +kernel) (gR (gIx (u1 hr) (gVarO 0) (gR gInt))))))) (gwOr1 (gtNot (gtChain op_le opS_cmp op_le opS_cmp (gR gInt) (gR (gB1 call_lenU unS_len T.b_len (by decide +kernel) (gR (gIx (u1 hr) (gVarO 0) (gR gInt))))) (gR (gGlobI rfl T.g_MOST_ROADS)))))))
  (gsOne gNever)
  gsNil)
  (gsCons (gsIf (gtNot (gtTru (gR (gB1 (cr_all rfl) unS_all T.b_all (by decide +kernel) (gR (gFz (gLc (own := [("road", 1)]) (ctN (by decide)) rfl sc_look_web.nd (giSeq (gIx (u1 hr) (gVarO 0) (gR gInt))) (blkOk_by (own := [("road", 1)]) (N := N_look_web) (sc := defScope s_look_web) (by decide +kernel)) (fun _ _ _ _ _ => pg_name (i := 1) sc_look_web.nd rfl (by first | exact Or.inl rfl | exact Or.inr rfl)) (fun _ _ _ _ _ => gtsNil) (fun _ _ _ _ _ => (gCall (ok_is_road T) (hr.mono (by decide)) T.m_is_road T.k_is_road T.i_is_road takes0 (gaCons (gIx (u1 hr) (gVarO 0) (gR gInt)) (gaCons (gVar 1) gaNil)))))))))))
  (gsOne gNever)
  gsNil)
  (gsOne (gsIf (gtCmp op_gt opS_cmp (gR (gB1 (cr_sum rfl) unS_sum T.b_sum (by decide +kernel) (gR (gFz (gLc (own := [("road", 1)]) (ctN (by decide)) rfl sc_look_web.nd (giRng1 T.b_range (gaCons (gB1 call_lenU unS_len T.b_len (by decide +kernel) (gR (gIx (u1 hr) (gVarO 0) (gR gInt)))) gaNil)) (blkOk_by (own := [("road", 1)]) (N := N_look_web) (sc := defScope s_look_web) (by decide +kernel)) (fun _ _ _ _ _ => pg_name (i := 1) sc_look_web.nd rfl (by first | exact Or.inl rfl | exact Or.inr rfl)) (fun _ _ _ _ _ => gtsNil) (fun _ _ _ _ _ => (gCall (ok_long_of T) (hr.mono (by decide)) T.m_long_of T.k_long_of T.i_long_of takes0 (gaCons (gVar 0) (gaCons (gVar 1) gaNil))))))))) (gR (gGlobI rfl T.g_MOST_LONG)) (nomark _))
  (gsOne gNever)
  gsNil)))))
theorem ok_look_both (T : Txt K mg cl fa fd) : FnOk P w K mg base (L2.CX P w) 5 (fa 23) (fd 23) ["web", "one", "other"] (spO ⟨K, cl⟩ m_look_both) := by
  rw [show m_look_both = mDef 3 N_look_both.length b_look_both from rfl]
  refine gDef (N := N_look_both) (k := 4) (np := 3) (b := b_look_both) T.f_look_both sc_look_both rfl ?_
  intro cdv A outer s H E hr
  unfold b_look_both
  exact (gsCons (gExpr (gCall (ok_look_web T) (hr.mono (by decide)) T.m_look_web T.k_look_web T.i_look_web (takes_of rfl rfl rfl rfl) (gaCons (gVar 0) gaNil)))
  (gsCons (gExpr (gCall (ok_look_spot T) (hr.mono (by decide)) T.m_look_spot T.k_look_spot T.i_look_spot (takes_of rfl rfl rfl rfl) (gaCons (gVar 0) (gaCons (gVar 1) gaNil))))
  (gsOne (gExpr (gCall (ok_look_spot T) (hr.mono (by decide)) T.m_look_spot T.k_look_spot T.i_look_spot (takes_of rfl rfl rfl rfl) (gaCons (gVar 0) (gaCons (gVar 2) gaNil)))))))
theorem ok_steps_from (T : Txt K mg cl fa fd) : FnOk P w K mg base (L2.CX P w) 2 (fa 24) (fd 24) ["web", "table", "here", "goal"] (spO ⟨K, cl⟩ m_steps_from) := by
  rw [show m_steps_from = mDef 4 N_steps_from.length b_steps_from from rfl]
  refine gDef (N := N_steps_from) (k := 1) (np := 4) (b := b_steps_from) T.f_steps_from sc_steps_from rfl ?_
  intro cdv A outer s H E hr
  unfold b_steps_from
  exact (gsCons (gOwn (i := 4) sc_steps_from.nd (gLstF gaNil))
  (gsCons (gFor (passes_of rfl) rfl (giRng1 T.b_range (gaCons (gB1 call_lenU unS_len T.b_len (by decide +kernel) (gR (gIx (u1 hr) (gVarO 0) (gR gInt)))) gaNil)) (ggN sc_steps_from.nd)
  (gsCons (gAsg (gIx (u1 hr) (gR (gIx (u1 hr) (gVarO 0) (gR gInt))) (gVarO 5)) (ggT rfl (ggs1 sc_steps_from.nd (ggs1 sc_steps_from.nd (ggs1 sc_steps_from.nd ggs0)))))
  (gsOne (gFor (passes_of rfl) rfl (giSeq (gTupE (gaCons (gTupE (gaCons (gVar 6) (gaCons (gVar 7) (gaCons gBl gaNil)))) (gaCons (gTupE (gaCons (gVar 7) (gaCons (gVar 6) (gaCons (gNotV (gVar 8)) gaNil)))) gaNil)))) (ggT rfl (ggs1 sc_steps_from.nd (ggs1 sc_steps_from.nd (ggs1 sc_steps_from.nd ggs0))))
  (gsOne (gsIf (PW.pt (gwAnd (gtTru (gVarO 11)) (gwAnd (gtCmp (op_eq2 (u64 hr)) opS_eq (gVarO 9) (gVarO 2) (nomark _)) (gwAnd1 (gtCmp (op_eq2 (u64 hr)) opS_eq (gR (gOp op_add4 opS_add (gR (gCall (ok_long_of T) (hr.mono (by decide)) T.m_long_of T.k_long_of T.i_long_of (takes_of rfl rfl rfl rfl) (gaCons (gVar 0) (gaCons (gVar 5) gaNil)))) (gR (gIx (u1 hr) (gVarO 1) (gR (gTupE (gaCons (gVar 10) (gaCons (gVar 3) gaNil)))))))) (gR (gIx (u1 hr) (gVarO 1) (gR (gTupE (gaCons (gVar 2) (gaCons (gVar 3) gaNil)))))) (nomark _))))))
  (gsOne (gAppO (i := 4) (gVar 10)))
  gsNil))))))
  (gsOne (gFrz (i := 4) (gRet (gFz (gSortSet rfl T.b_sorted (by decide +kernel) T.b_set (by decide +kernel) (gVarO 4))))))))
theorem ok_places_between (T : Txt K mg cl fa fd) : FnOk P w K mg base (L2.CX P w) 3 (fa 25) (fd 25) ["web", "table", "here", "goal"] (spO ⟨K, cl⟩ m_places_between) := by
  rw [show m_places_between = mDef 4 N_places_between.length b_places_between from rfl]
  refine gDef (N := N_places_between) (k := 2) (np := 4) (b := b_places_between) T.f_places_between sc_places_between rfl ?_
  intro cdv A outer s H E hr
  unfold b_places_between
  exact (gsCons (gOwn (i := 4) sc_places_between.nd (gLstF (gaCons (gVar 2) gaNil)))
  (gsCons (gWhile (fun _ _ => 1000000000) (passes_of rfl) (gtCmp (op_ne2 (u64 hr)) opS_ne (gR (gIx (u1 hr) (gVarO 4) (gR gNegI))) (gVarO 3) (nomark _))
  (gsOne (gAppO (i := 4) (gIx (u1 hr) (gR (gCall (ok_steps_from T) (hr.mono (by decide)) T.m_steps_from T.k_steps_from T.i_steps_from (takes_of rfl rfl rfl rfl) (gaCons (gVar 0) (gaCons (gVar 1) (gaCons (gIx (u1 hr) (gVarO 4) (gR gNegI)) (gaCons (gVar 3) gaNil)))))) (gR gInt)))))
  (gsOne (gFrz (i := 4) (gRet (gVar 4))))))
theorem ok_way_by (T : Txt K mg cl fa fd) : FnOk P w K mg base (L2.CX P w) 4 (fa 26) (fd 26) ["web", "table", "one", "other"] (spO ⟨K, cl⟩ m_way_by) := by
  rw [show m_way_by = mDef 4 N_way_by.length b_way_by from rfl]
  refine gDef (N := N_way_by) (k := 3) (np := 4) (b := b_way_by) T.f_way_by sc_way_by rfl ?_
  intro cdv A outer s H E hr
  unfold b_way_by
  exact (gsCons (gSet (i := 4) sc_way_by.nd (gCall (ok_length_by T) (hr.mono (by decide)) T.m_length_by T.k_length_by T.i_length_by (takes_of rfl rfl rfl rfl) (gaCons (gVar 0) (gaCons (gVar 1) (gaCons (gVar 2) (gaCons (gVar 3) gaNil))))))
  (gsCons (gsIf (gtCmp (op_eq2 (u64 hr)) opS_eq (gR (gCall (ok_straight T) (hr.mono (by decide)) T.m_straight T.k_straight T.i_straight (takes_of rfl rfl rfl rfl) (gaCons (gVar 0) (gaCons (gVar 2) (gaCons (gVar 3) gaNil))))) (gVarO 4) (nomark _))
  (gsOne (gRet (gLstE gaNil)))
  gsNil)
  (gsCons (gOwn (i := 5) sc_way_by.nd (gLstF gaNil))
  (gsCons (gFor (passes_of rfl) rfl (giSeq (gCall (ok_leaving T) (hr.mono (by decide)) T.m_leaving T.k_leaving T.i_leaving (takes_of rfl rfl rfl rfl) (gaCons (gVar 0) (gaCons (gVar 2) gaNil)))) (ggT rfl (ggs1 sc_way_by.nd (ggs1 sc_way_by.nd ggs0)))
  (gsOne (gFor (passes_of rfl) rfl (giSeq (gCall (ok_coming T) (hr.mono (by decide)) T.m_coming T.k_coming T.i_coming (takes_of rfl rfl rfl rfl) (gaCons (gVar 0) (gaCons (gVar 3) gaNil)))) (ggT rfl (ggs1 sc_way_by.nd (ggs1 sc_way_by.nd ggs0)))
  (gsOne (gsIf (gtCmp (op_eq2 (u64 hr)) opS_eq (gR (gOp op_add4 opS_add (gR (gOp op_add4 opS_add (gVarO 7) (gR (gIx (u1 hr) (gVarO 1) (gR (gTupE (gaCons (gVar 6) (gaCons (gVar 8) gaNil)))))))) (gVarO 9))) (gVarO 4) (nomark _))
  (gsOne (gAppO (i := 5) (gCall (ok_places_between T) (hr.mono (by decide)) T.m_places_between T.k_places_between T.i_places_between (takes_of rfl rfl rfl rfl) (gaCons (gVar 0) (gaCons (gVar 1) (gaCons (gVar 6) (gaCons (gVar 8) gaNil)))))))
  gsNil)))))
  (gsOne (gFrz (i := 5) (gRet (gB1 (cr_minLL rfl (u3 hr)) unS_minLL T.b_min (by decide +kernel) (gVarO 5)))))))))
theorem ok_way (T : Txt K mg cl fa fd) : FnOk P w K mg base (L2.CX P w) 6 (fa 27) (fd 27) ["web", "one", "other"] (spO ⟨K, cl⟩ m_way) := by
  rw [show m_way = mDef 3 N_way.length b_way from rfl]
  refine gDef (N := N_way) (k := 5) (np := 3) (b := b_way) T.f_way sc_way rfl ?_
  intro cdv A outer s H E hr
  unfold b_way
  exact (gsCons (gExpr (gCall (ok_look_both T) (hr.mono (by decide)) T.m_look_both T.k_look_both T.i_look_both (takes_of rfl rfl rfl rfl) (gaCons (gVar 0) (gaCons (gVar 1) (gaCons (gVar 2) gaNil)))))
  (gsCons (gSet (i := 3) sc_way.nd (gCall (ok_lengths T) (hr.mono (by decide)) T.m_lengths T.k_lengths T.i_lengths (takes_of rfl rfl rfl rfl) (gaCons (gVar 0) gaNil)))
  (gsCons (gsIf (gtCmp op_ge opS_cmp (gR (gCall (ok_length_by T) (hr.mono (by decide)) T.m_length_by T.k_length_by T.i_length_by (takes_of rfl rfl rfl rfl) (gaCons (gVar 0) (gaCons (gVar 3) (gaCons (gVar 1) (gaCons (gVar 2) gaNil)))))) (gR (gGlobI rfl T.g_FAR)) (nomark _))
  (gsOne (gRaise rfl (takes_of rfl rfl rfl rfl) PySem.F.excBase_ValueError T.x_NoWay))
  gsNil)
  (gsOne (gRet (gCall (ok_way_by T) (hr.mono (by decide)) T.m_way_by T.k_way_by T.i_way_by (takes_of rfl rfl rfl rfl) (gaCons (gVar 0) (gaCons (gVar 3) (gaCons (gVar 1) (gaCons (gVar 2) gaNil))))))))))
theorem ok__law_told (T : Txt K mg cl fa fd) : FnOk P w K mg base (L2.CX P w) 7 (fa 28) (fd 28) ["web", "one", "other"] (spO ⟨K, cl⟩ m__law_told) := by
  rw [show m__law_told = mDef 3 N__law_told.length b__law_told from rfl]
  refine gDef (N := N__law_told) (k := 6) (np := 3) (b := b__law_told) T.f__law_told sc__law_told rfl ?_
  intro cdv A outer s H E hr
  unfold b__law_told
  exact (gsCons (gSet (i := 3) sc__law_told.nd gNon)
  (gsCons (gSet (i := 4) sc__law_told.nd gNon)
  (gsCons (gTry rfl rfl rfl sc__law_told.nd ⟨rfl, by decide, .inl T.c_TrackError⟩ T.t_TrackError (fun W pn xe tk => (gsOne (gSet (i := 4) sc__law_told.nd (gCall (ok_way T) (hr.mono (by decide)) T.m_way T.k_way T.i_way tk (gaCons (gVar 0) (gaCons (gVar 1) (gaCons (gVar 2) gaNil))))))))
  (gsOne (gRet (gIf (gtCmp op_isU opS_is (gVarO 3) (gR gNon) (nomark _)) (gTupE (gaCons gStr (gaCons (gVar 4) gaNil))) (gCall (ok__law_refusal T) (hr.mono (by decide)) T.m__law_refusal T.k__law_refusal T.i__law_refusal (takes_of rfl rfl rfl rfl) (gaCons (gVar 3) gaNil))))))))
theorem ok__law_rows_0 (T : Txt K mg cl fa fd) : FnOk P w K mg base (L2.CX P w) 2 (fa 29) (fd 29) ["web", "table", "here", "goal"] (spO ⟨K, cl⟩ m__law_rows_0) := by
  rw [show m__law_rows_0 = mDef 4 N__law_rows.length b__law_rows_0 from rfl]
  refine gDef (N := N__law_rows) (k := 1) (np := 4) (b := b__law_rows_0) T.f__law_rows sc__law_rows rfl ?_
  intro cdv A outer s H E hr
  unfold b__law_rows_0
  exact (gsCons (gsIf (gtCmp (op_eq2 (u64 hr)) opS_eq (gVarO 2) (gVarO 3) (nomark _))
  (gsOne (gRet (gLstE (gaCons (gLstE (gaCons (gVar 2) gaNil)) gaNil))))
  gsNil)
  (gsCons (gSet (i := 4) sc__law_rows.nd (gLstE gaNil))
  (gsCons (gFor (passes_of rfl) rfl (giRng1 T.b_range (gaCons (gB1 call_lenU unS_len T.b_len (by decide +kernel) (gR (gIx (u1 hr) (gVarO 0) (gR gInt)))) gaNil)) (ggN sc__law_rows.nd)
  (gsCons (gAsg (gIx (u1 hr) (gR (gIx (u1 hr) (gVarO 0) (gR gInt))) (gVarO 5)) (ggT rfl (ggs1 sc__law_rows.nd (ggs1 sc__law_rows.nd (ggs1 sc__law_rows.nd ggs0)))))
  (gsOne (gFor (passes_of rfl) rfl (giSeq (gOp op_add4 opS_add (gR (gLstE (gaCons (gTupE (gaCons (gVar 8) (gaCons (gVar 9) gaNil))) gaNil))) (gR (gOp op_mul2 opS_mul (gR (gLstE (gaCons (gTupE (gaCons (gVar 9) (gaCons (gVar 8) gaNil))) gaNil))) (gR (gT1 call_int1 unS_toInt T.b_int (by decide +kernel) (gR (gNotV (gVar 10))))))))) (ggT rfl (ggs1 sc__law_rows.nd (ggs1 sc__law_rows.nd ggs0)))
  (gsCons (gSet (i := 12) sc__law_rows.nd (gOp op_add4 opS_add (gR (gCall (ok__law_long T) (hr.mono (by decide)) T.m__law_long T.k__law_long T.i__law_long (takes_of rfl rfl rfl rfl) (gaCons (gVar 0) (gaCons (gVar 5) gaNil)))) (gR (gGet (u1 hr) (gVarO 1) (gTupE (gaCons (gVar 7) (gaCons (gVar 3) gaNil))) (gOp op_pow opS_pow (gR gInt) (gR gInt))))))
  (gsOne (gSet (i := 4) sc__law_rows.nd (gOp op_add4 opS_add (gVarO 4) (gR (gOp op_mul2 opS_mul (gR (gLstE (gaCons (gVar 7) gaNil))) (gR (gT1 call_int1 unS_toInt T.b_int (by decide +kernel) (gR (gAndV (gCmp (op_eq2 (u64 hr)) opS_eq (gVarO 11) (gVarO 2) (nomark _)) (gOne (gCmp (op_eq2 (u64 hr)) opS_eq (gVarO 12) (gR (gIx (u1 hr) (gVarO 1) (gR (gTupE (gaCons (gVar 2) (gaCons (gVar 3) gaNil)))))) (nomark _)))))))))))))))))
  (gsCons (gSet (i := 6) sc__law_rows.nd (gLstE gaNil))
  (gsCons (gFor (passes_of rfl) rfl (giSeq (gFz (gSortSet rfl T.b_sorted (by decide +kernel) T.b_set (by decide +kernel) (gVarO 4)))) (ggN sc__law_rows.nd)
  (gsOne (gSet (i := 6) sc__law_rows.nd (gOp op_add4 opS_add (gVarO 6) (gR (gFz (gLc (own := [("row", 13)]) (ctN (by decide)) rfl sc__law_rows.nd (giSeq gNeverE) (blkOk_by (own := [("row", 13)]) (N := N__law_rows) (sc := defScope s__law_rows) (by decide +kernel)) (fun _ _ _ _ _ => pg_name (i := 13) sc__law_rows.nd rfl (by first | exact Or.inl rfl | exact Or.inr rfl)) (fun _ _ _ _ _ => gtsNil) (fun _ _ _ _ _ => (gOp op_add4 opS_add (gR (gLstE (gaCons (gVar 2) gaNil))) (gVarO 13))))))))))
  (gsOne (gRet (gVar 6))))))))
theorem ok__law_rows_1 (T : Txt K mg cl fa fd) : FnOk P w K mg base (L2.CX P w) 3 (fa 29) (fd 29) ["web", "table", "here", "goal"] (spO ⟨K, cl⟩ m__law_rows_1) := by
  rw [show m__law_rows_1 = mDef 4 N__law_rows.length b__law_rows_1 from rfl]
  refine gDef (N := N__law_rows) (k := 2) (np := 4) (b := b__law_rows_1) T.f__law_rows sc__law_rows rfl ?_
  intro cdv A outer s H E hr
  unfold b__law_rows_1
  exact (gsCons (gsIf (gtCmp (op_eq2 (u64 hr)) opS_eq (gVarO 2) (gVarO 3) (nomark _))
  (gsOne (gRet (gLstE (gaCons (gLstE (gaCons (gVar 2) gaNil)) gaNil))))
  gsNil)
  (gsCons (gSet (i := 4) sc__law_rows.nd (gLstE gaNil))
  (gsCons (gFor (passes_of rfl) rfl (giRng1 T.b_range (gaCons (gB1 call_lenU unS_len T.b_len (by decide +kernel) (gR (gIx (u1 hr) (gVarO 0) (gR gInt)))) gaNil)) (ggN sc__law_rows.nd)
  (gsCons (gAsg (gIx (u1 hr) (gR (gIx (u1 hr) (gVarO 0) (gR gInt))) (gVarO 5)) (ggT rfl (ggs1 sc__law_rows.nd (ggs1 sc__law_rows.nd (ggs1 sc__law_rows.nd ggs0)))))
  (gsOne (gFor (passes_of rfl) rfl (giSeq (gOp op_add4 opS_add (gR (gLstE (gaCons (gTupE (gaCons (gVar 8) (gaCons (gVar 9) gaNil))) gaNil))) (gR (gOp op_mul2 opS_mul (gR (gLstE (gaCons (gTupE (gaCons (gVar 9) (gaCons (gVar 8) gaNil))) gaNil))) (gR (gT1 call_int1 unS_toInt T.b_int (by decide +kernel) (gR (gNotV (gVar 10))))))))) (ggT rfl (ggs1 sc__law_rows.nd (ggs1 sc__law_rows.nd ggs0)))
  (gsCons (gSet (i := 12) sc__law_rows.nd (gOp op_add4 opS_add (gR (gCall (ok__law_long T) (hr.mono (by decide)) T.m__law_long T.k__law_long T.i__law_long (takes_of rfl rfl rfl rfl) (gaCons (gVar 0) (gaCons (gVar 5) gaNil)))) (gR (gGet (u1 hr) (gVarO 1) (gTupE (gaCons (gVar 7) (gaCons (gVar 3) gaNil))) (gOp op_pow opS_pow (gR gInt) (gR gInt))))))
  (gsOne (gSet (i := 4) sc__law_rows.nd (gOp op_add4 opS_add (gVarO 4) (gR (gOp op_mul2 opS_mul (gR (gLstE (gaCons (gVar 7) gaNil))) (gR (gT1 call_int1 unS_toInt T.b_int (by decide +kernel) (gR (gAndV (gCmp (op_eq2 (u64 hr)) opS_eq (gVarO 11) (gVarO 2) (nomark _)) (gOne (gCmp (op_eq2 (u64 hr)) opS_eq (gVarO 12) (gR (gIx (u1 hr) (gVarO 1) (gR (gTupE (gaCons (gVar 2) (gaCons (gVar 3) gaNil)))))) (nomark _)))))))))))))))))
  (gsCons (gSet (i := 6) sc__law_rows.nd (gLstE gaNil))
  (gsCons (gFor (passes_of rfl) rfl (giSeq (gFz (gSortSet rfl T.b_sorted (by decide +kernel) T.b_set (by decide +kernel) (gVarO 4)))) (ggN sc__law_rows.nd)
  (gsOne (gSet (i := 6) sc__law_rows.nd (gOp op_add4 opS_add (gVarO 6) (gR (gFz (gLc (own := [("row", 13)]) (ctN (by decide)) rfl sc__law_rows.nd (giSeq (gCall (ok__law_rows_0 T) (hr.mono (by decide)) T.m__law_rows T.k__law_rows T.i__law_rows (takes_of rfl rfl rfl rfl) (gaCons (gVar 0) (gaCons (gVar 1) (gaCons (gVar 7) (gaCons (gVar 3) gaNil)))))) (blkOk_by (own := [("row", 13)]) (N := N__law_rows) (sc := defScope s__law_rows) (by decide +kernel)) (fun _ _ _ _ _ => pg_name (i := 13) sc__law_rows.nd rfl (by first | exact Or.inl rfl | exact Or.inr rfl)) (fun _ _ _ _ _ => gtsNil) (fun _ _ _ _ _ => (gOp op_add4 opS_add (gR (gLstE (gaCons (gVar 2) gaNil))) (gVarO 13))))))))))
  (gsOne (gRet (gVar 6))))))))
theorem ok__law_rows_2 (T : Txt K mg cl fa fd) : FnOk P w K mg base (L2.CX P w) 4 (fa 29) (fd 29) ["web", "table", "here", "goal"] (spO ⟨K, cl⟩ m__law_rows_2) := by
  rw [show m__law_rows_2 = mDef 4 N__law_rows.length b__law_rows_2 from rfl]
  refine gDef (N := N__law_rows) (k := 3) (np := 4) (b := b__law_rows_2) T.f__law_rows sc__law_rows rfl ?_
  intro cdv A outer s H E hr
  unfold b__law_rows_2
  exact (gsCons (gsIf (gtCmp (op_eq2 (u64 hr)) opS_eq (gVarO 2) (gVarO 3) (nomark _))
  (gsOne (gRet (gLstE (gaCons (gLstE (gaCons (gVar 2) gaNil)) gaNil))))
  gsNil)
  (gsCons (gSet (i := 4) sc__law_rows.nd (gLstE gaNil))
  (gsCons (gFor (passes_of rfl) rfl (giRng1 T.b_range (gaCons (gB1 call_lenU unS_len T.b_len (by decide +kernel) (gR (gIx (u1 hr) (gVarO 0) (gR gInt)))) gaNil)) (ggN sc__law_rows.nd)
  (gsCons (gAsg (gIx (u1 hr) (gR (gIx (u1 hr) (gVarO 0) (gR gInt))) (gVarO 5)) (ggT rfl (ggs1 sc__law_rows.nd (ggs1 sc__law_rows.nd (ggs1 sc__law_rows.nd ggs0)))))
  (gsOne (gFor (passes_of rfl) rfl (giSeq (gOp op_add4 opS_add (gR (gLstE (gaCons (gTupE (gaCons (gVar 8) (gaCons (gVar 9) gaNil))) gaNil))) (gR (gOp op_mul2 opS_mul (gR (gLstE (gaCons (gTupE (gaCons (gVar 9) (gaCons (gVar 8) gaNil))) gaNil))) (gR (gT1 call_int1 unS_toInt T.b_int (by decide +kernel) (gR (gNotV (gVar 10))))))))) (ggT rfl (ggs1 sc__law_rows.nd (ggs1 sc__law_rows.nd ggs0)))
  (gsCons (gSet (i := 12) sc__law_rows.nd (gOp op_add4 opS_add (gR (gCall (ok__law_long T) (hr.mono (by decide)) T.m__law_long T.k__law_long T.i__law_long (takes_of rfl rfl rfl rfl) (gaCons (gVar 0) (gaCons (gVar 5) gaNil)))) (gR (gGet (u1 hr) (gVarO 1) (gTupE (gaCons (gVar 7) (gaCons (gVar 3) gaNil))) (gOp op_pow opS_pow (gR gInt) (gR gInt))))))
  (gsOne (gSet (i := 4) sc__law_rows.nd (gOp op_add4 opS_add (gVarO 4) (gR (gOp op_mul2 opS_mul (gR (gLstE (gaCons (gVar 7) gaNil))) (gR (gT1 call_int1 unS_toInt T.b_int (by decide +kernel) (gR (gAndV (gCmp (op_eq2 (u64 hr)) opS_eq (gVarO 11) (gVarO 2) (nomark _)) (gOne (gCmp (op_eq2 (u64 hr)) opS_eq (gVarO 12) (gR (gIx (u1 hr) (gVarO 1) (gR (gTupE (gaCons (gVar 2) (gaCons (gVar 3) gaNil)))))) (nomark _)))))))))))))))))
  (gsCons (gSet (i := 6) sc__law_rows.nd (gLstE gaNil))
  (gsCons (gFor (passes_of rfl) rfl (giSeq (gFz (gSortSet rfl T.b_sorted (by decide +kernel) T.b_set (by decide +kernel) (gVarO 4)))) (ggN sc__law_rows.nd)
  (gsOne (gSet (i := 6) sc__law_rows.nd (gOp op_add4 opS_add (gVarO 6) (gR (gFz (gLc (own := [("row", 13)]) (ctN (by decide)) rfl sc__law_rows.nd (giSeq (gCall (ok__law_rows_1 T) (hr.mono (by decide)) T.m__law_rows T.k__law_rows T.i__law_rows (takes_of rfl rfl rfl rfl) (gaCons (gVar 0) (gaCons (gVar 1) (gaCons (gVar 7) (gaCons (gVar 3) gaNil)))))) (blkOk_by (own := [("row", 13)]) (N := N__law_rows) (sc := defScope s__law_rows) (by decide +kernel)) (fun _ _ _ _ _ => pg_name (i := 13) sc__law_rows.nd rfl (by first | exact Or.inl rfl | exact Or.inr rfl)) (fun _ _ _ _ _ => gtsNil) (fun _ _ _ _ _ => (gOp op_add4 opS_add (gR (gLstE (gaCons (gVar 2) gaNil))) (gVarO 13))))))))))
  (gsOne (gRet (gVar 6))))))))
theorem ok__law_rows_3 (T : Txt K mg cl fa fd) : FnOk P w K mg base (L2.CX P w) 5 (fa 29) (fd 29) ["web", "table", "here", "goal"] (spO ⟨K, cl⟩ m__law_rows_3) := by
  rw [show m__law_rows_3 = mDef 4 N__law_rows.length b__law_rows_3 from rfl]
  refine gDef (N := N__law_rows) (k := 4) (np := 4) (b := b__law_rows_3) T.f__law_rows sc__law_rows rfl ?_
  intro cdv A outer s H E hr
  unfold b__law_rows_3
  exact (gsCons (gsIf (gtCmp (op_eq2 (u64 hr)) opS_eq (gVarO 2) (gVarO 3) (nomark _))
  (gsOne (gRet (gLstE (gaCons (gLstE (gaCons (gVar 2) gaNil)) gaNil))))
  gsNil)
  (gsCons (gSet (i := 4) sc__law_rows.nd (gLstE gaNil))
  (gsCons (gFor (passes_of rfl) rfl (giRng1 T.b_range (gaCons (gB1 call_lenU unS_len T.b_len (by decide +kernel) (gR (gIx (u1 hr) (gVarO 0) (gR gInt)))) gaNil)) (ggN sc__law_rows.nd)
  (gsCons (gAsg (gIx (u1 hr) (gR (gIx (u1 hr) (gVarO 0) (gR gInt))) (gVarO 5)) (ggT rfl (ggs1 sc__law_rows.nd (ggs1 sc__law_rows.nd (ggs1 sc__law_rows.nd ggs0)))))
  (gsOne (gFor (passes_of rfl) rfl (giSeq (gOp op_add4 opS_add (gR (gLstE (gaCons (gTupE (gaCons (gVar 8) (gaCons (gVar 9) gaNil))) gaNil))) (gR (gOp op_mul2 opS_mul (gR (gLstE (gaCons (gTupE (gaCons (gVar 9) (gaCons (gVar 8) gaNil))) gaNil))) (gR (gT1 call_int1 unS_toInt T.b_int (by decide +kernel) (gR (gNotV (gVar 10))))))))) (ggT rfl (ggs1 sc__law_rows.nd (ggs1 sc__law_rows.nd ggs0)))
  (gsCons (gSet (i := 12) sc__law_rows.nd (gOp op_add4 opS_add (gR (gCall (ok__law_long T) (hr.mono (by decide)) T.m__law_long T.k__law_long T.i__law_long (takes_of rfl rfl rfl rfl) (gaCons (gVar 0) (gaCons (gVar 5) gaNil)))) (gR (gGet (u1 hr) (gVarO 1) (gTupE (gaCons (gVar 7) (gaCons (gVar 3) gaNil))) (gOp op_pow opS_pow (gR gInt) (gR gInt))))))
  (gsOne (gSet (i := 4) sc__law_rows.nd (gOp op_add4 opS_add (gVarO 4) (gR (gOp op_mul2 opS_mul (gR (gLstE (gaCons (gVar 7) gaNil))) (gR (gT1 call_int1 unS_toInt T.b_int (by decide +kernel) (gR (gAndV (gCmp (op_eq2 (u64 hr)) opS_eq (gVarO 11) (gVarO 2) (nomark _)) (gOne (gCmp (op_eq2 (u64 hr)) opS_eq (gVarO 12) (gR (gIx (u1 hr) (gVarO 1) (gR (gTupE (gaCons (gVar 2) (gaCons (gVar 3) gaNil)))))) (nomark _)))))))))))))))))
  (gsCons (gSet (i := 6) sc__law_rows.nd (gLstE gaNil))
  (gsCons (gFor (passes_of rfl) rfl (giSeq (gFz (gSortSet rfl T.b_sorted (by decide +kernel) T.b_set (by decide +kernel) (gVarO 4)))) (ggN sc__law_rows.nd)
  (gsOne (gSet (i := 6) sc__law_rows.nd (gOp op_add4 opS_add (gVarO 6) (gR (gFz (gLc (own := [("row", 13)]) (ctN (by decide)) rfl sc__law_rows.nd (giSeq (gCall (ok__law_rows_2 T) (hr.mono (by decide)) T.m__law_rows T.k__law_rows T.i__law_rows (takes_of rfl rfl rfl rfl) (gaCons (gVar 0) (gaCons (gVar 1) (gaCons (gVar 7) (gaCons (gVar 3) gaNil)))))) (blkOk_by (own := [("row", 13)]) (N := N__law_rows) (sc := defScope s__law_rows) (by decide +kernel)) (fun _ _ _ _ _ => pg_name (i := 13) sc__law_rows.nd rfl (by first | exact Or.inl rfl | exact Or.inr rfl)) (fun _ _ _ _ _ => gtsNil) (fun _ _ _ _ _ => (gOp op_add4 opS_add (gR (gLstE (gaCons (gVar 2) gaNil))) (gVarO 13))))))))))
  (gsOne (gRet (gVar 6))))))))
theorem ok__law_rows_4 (T : Txt K mg cl fa fd) : FnOk P w K mg base (L2.CX P w) 6 (fa 29) (fd 29) ["web", "table", "here", "goal"] (spO ⟨K, cl⟩ m__law_rows_4) := by
  rw [show m__law_rows_4 = mDef 4 N__law_rows.length b__law_rows_4 from rfl]
  refine gDef (N := N__law_rows) (k := 5) (np := 4) (b := b__law_rows_4) T.f__law_rows sc__law_rows rfl ?_
  intro cdv A outer s H E hr
  unfold b__law_rows_4
  exact (gsCons (gsIf (gtCmp (op_eq2 (u64 hr)) opS_eq (gVarO 2) (gVarO 3) (nomark _))
  (gsOne (gRet (gLstE (gaCons (gLstE (gaCons (gVar 2) gaNil)) gaNil))))
  gsNil)
  (gsCons (gSet (i := 4) sc__law_rows.nd (gLstE gaNil))
  (gsCons (gFor (passes_of rfl) rfl (giRng1 T.b_range (gaCons (gB1 call_lenU unS_len T.b_len (by decide +kernel) (gR (gIx (u1 hr) (gVarO 0) (gR gInt)))) gaNil)) (ggN sc__law_rows.nd)
  (gsCons (gAsg (gIx (u1 hr) (gR (gIx (u1 hr) (gVarO 0) (gR gInt))) (gVarO 5)) (ggT rfl (ggs1 sc__law_rows.nd (ggs1 sc__law_rows.nd (ggs1 sc__law_rows.nd ggs0)))))
  (gsOne (gFor (passes_of rfl) rfl (giSeq (gOp op_add4 opS_add (gR (gLstE (gaCons (gTupE (gaCons (gVar 8) (gaCons (gVar 9) gaNil))) gaNil))) (gR (gOp op_mul2 opS_mul (gR (gLstE (gaCons (gTupE (gaCons (gVar 9) (gaCons (gVar 8) gaNil))) gaNil))) (gR (gT1 call_int1 unS_toInt T.b_int (by decide +kernel) (gR (gNotV (gVar 10))))))))) (ggT rfl (ggs1 sc__law_rows.nd (ggs1 sc__law_rows.nd ggs0)))
  (gsCons (gSet (i := 12) sc__law_rows.nd (gOp op_add4 opS_add (gR (gCall (ok__law_long T) (hr.mono (by decide)) T.m__law_long T.k__law_long T.i__law_long (takes_of rfl rfl rfl rfl) (gaCons (gVar 0) (gaCons (gVar 5) gaNil)))) (gR (gGet (u1 hr) (gVarO 1) (gTupE (gaCons (gVar 7) (gaCons (gVar 3) gaNil))) (gOp op_pow opS_pow (gR gInt) (gR gInt))))))
  (gsOne (gSet (i := 4) sc__law_rows.nd (gOp op_add4 opS_add (gVarO 4) (gR (gOp op_mul2 opS_mul (gR (gLstE (gaCons (gVar 7) gaNil))) (gR (gT1 call_int1 unS_toInt T.b_int (by decide +kernel) (gR (gAndV (gCmp (op_eq2 (u64 hr)) opS_eq (gVarO 11) (gVarO 2) (nomark _)) (gOne (gCmp (op_eq2 (u64 hr)) opS_eq (gVarO 12) (gR (gIx (u1 hr) (gVarO 1) (gR (gTupE (gaCons (gVar 2) (gaCons (gVar 3) gaNil)))))) (nomark _)))))))))))))))))
  (gsCons (gSet (i := 6) sc__law_rows.nd (gLstE gaNil))
  (gsCons (gFor (passes_of rfl) rfl (giSeq (gFz (gSortSet rfl T.b_sorted (by decide +kernel) T.b_set (by decide +kernel) (gVarO 4)))) (ggN sc__law_rows.nd)
  (gsOne (gSet (i := 6) sc__law_rows.nd (gOp op_add4 opS_add (gVarO 6) (gR (gFz (gLc (own := [("row", 13)]) (ctN (by decide)) rfl sc__law_rows.nd (giSeq (gCall (ok__law_rows_3 T) (hr.mono (by decide)) T.m__law_rows T.k__law_rows T.i__law_rows (takes_of rfl rfl rfl rfl) (gaCons (gVar 0) (gaCons (gVar 1) (gaCons (gVar 7) (gaCons (gVar 3) gaNil)))))) (blkOk_by (own := [("row", 13)]) (N := N__law_rows) (sc := defScope s__law_rows) (by decide +kernel)) (fun _ _ _ _ _ => pg_name (i := 13) sc__law_rows.nd rfl (by first | exact Or.inl rfl | exact Or.inr rfl)) (fun _ _ _ _ _ => gtsNil) (fun _ _ _ _ _ => (gOp op_add4 opS_add (gR (gLstE (gaCons (gVar 2) gaNil))) (gVarO 13))))))))))
  (gsOne (gRet (gVar 6))))))))
theorem ok__law_rows_5 (T : Txt K mg cl fa fd) : FnOk P w K mg base (L2.CX P w) 7 (fa 29) (fd 29) ["web", "table", "here", "goal"] (spO ⟨K, cl⟩ m__law_rows_5) := by
  rw [show m__law_rows_5 = mDef 4 N__law_rows.length b__law_rows_5 from rfl]
  refine gDef (N := N__law_rows) (k := 6) (np := 4) (b := b__law_rows_5) T.f__law_rows sc__law_rows rfl ?_
  intro cdv A outer s H E hr
  unfold b__law_rows_5
  exact (gsCons (gsIf (gtCmp (op_eq2 (u64 hr)) opS_eq (gVarO 2) (gVarO 3) (nomark _))
  (gsOne (gRet (gLstE (gaCons (gLstE (gaCons (gVar 2) gaNil)) gaNil))))
  gsNil)
  (gsCons (gSet (i := 4) sc__law_rows.nd (gLstE gaNil))
  (gsCons (gFor (passes_of rfl) rfl (giRng1 T.b_range (gaCons (gB1 call_lenU unS_len T.b_len (by decide +kernel) (gR (gIx (u1 hr) (gVarO 0) (gR gInt)))) gaNil)) (ggN sc__law_rows.nd)
  (gsCons (gAsg (gIx (u1 hr) (gR (gIx (u1 hr) (gVarO 0) (gR gInt))) (gVarO 5)) (ggT rfl (ggs1 sc__law_rows.nd (ggs1 sc__law_rows.nd (ggs1 sc__law_rows.nd ggs0)))))
  (gsOne (gFor (passes_of rfl) rfl (giSeq (gOp op_add4 opS_add (gR (gLstE (gaCons (gTupE (gaCons (gVar 8) (gaCons (gVar 9) gaNil))) gaNil))) (gR (gOp op_mul2 opS_mul (gR (gLstE (gaCons (gTupE (gaCons (gVar 9) (gaCons (gVar 8) gaNil))) gaNil))) (gR (gT1 call_int1 unS_toInt T.b_int (by decide +kernel) (gR (gNotV (gVar 10))))))))) (ggT rfl (ggs1 sc__law_rows.nd (ggs1 sc__law_rows.nd ggs0)))
  (gsCons (gSet (i := 12) sc__law_rows.nd (gOp op_add4 opS_add (gR (gCall (ok__law_long T) (hr.mono (by decide)) T.m__law_long T.k__law_long T.i__law_long (takes_of rfl rfl rfl rfl) (gaCons (gVar 0) (gaCons (gVar 5) gaNil)))) (gR (gGet (u1 hr) (gVarO 1) (gTupE (gaCons (gVar 7) (gaCons (gVar 3) gaNil))) (gOp op_pow opS_pow (gR gInt) (gR gInt))))))
  (gsOne (gSet (i := 4) sc__law_rows.nd (gOp op_add4 opS_add (gVarO 4) (gR (gOp op_mul2 opS_mul (gR (gLstE (gaCons (gVar 7) gaNil))) (gR (gT1 call_int1 unS_toInt T.b_int (by decide +kernel) (gR (gAndV (gCmp (op_eq2 (u64 hr)) opS_eq (gVarO 11) (gVarO 2) (nomark _)) (gOne (gCmp (op_eq2 (u64 hr)) opS_eq (gVarO 12) (gR (gIx (u1 hr) (gVarO 1) (gR (gTupE (gaCons (gVar 2) (gaCons (gVar 3) gaNil)))))) (nomark _)))))))))))))))))
  (gsCons (gSet (i := 6) sc__law_rows.nd (gLstE gaNil))
  (gsCons (gFor (passes_of rfl) rfl (giSeq (gFz (gSortSet rfl T.b_sorted (by decide +kernel) T.b_set (by decide +kernel) (gVarO 4)))) (ggN sc__law_rows.nd)
  (gsOne (gSet (i := 6) sc__law_rows.nd (gOp op_add4 opS_add (gVarO 6) (gR (gFz (gLc (own := [("row", 13)]) (ctN (by decide)) rfl sc__law_rows.nd (giSeq (gCall (ok__law_rows_4 T) (hr.mono (by decide)) T.m__law_rows T.k__law_rows T.i__law_rows (takes_of rfl rfl rfl rfl) (gaCons (gVar 0) (gaCons (gVar 1) (gaCons (gVar 7) (gaCons (gVar 3) gaNil)))))) (blkOk_by (own := [("row", 13)]) (N := N__law_rows) (sc := defScope s__law_rows) (by decide +kernel)) (fun _ _ _ _ _ => pg_name (i := 13) sc__law_rows.nd rfl (by first | exact Or.inl rfl | exact Or.inr rfl)) (fun _ _ _ _ _ => gtsNil) (fun _ _ _ _ _ => (gOp op_add4 opS_add (gR (gLstE (gaCons (gVar 2) gaNil))) (gVarO 13))))))))))
  (gsOne (gRet (gVar 6))))))))
theorem ok__law_rows_6 (T : Txt K mg cl fa fd) : FnOk P w K mg base (L2.CX P w) 8 (fa 29) (fd 29) ["web", "table", "here", "goal"] (spO ⟨K, cl⟩ m__law_rows_6) := by
  rw [show m__law_rows_6 = mDef 4 N__law_rows.length b__law_rows_6 from rfl]
  refine gDef (N := N__law_rows) (k := 7) (np := 4) (b := b__law_rows_6) T.f__law_rows sc__law_rows rfl ?_
  intro cdv A outer s H E hr
  unfold b__law_rows_6
  exact (gsCons (gsIf (gtCmp (op_eq2 (u64 hr)) opS_eq (gVarO 2) (gVarO 3) (nomark _))
  (gsOne (gRet (gLstE (gaCons (gLstE (gaCons (gVar 2) gaNil)) gaNil))))
  gsNil)
  (gsCons (gSet (i := 4) sc__law_rows.nd (gLstE gaNil))
  (gsCons (gFor (passes_of rfl) rfl (giRng1 T.b_range (gaCons (gB1 call_lenU unS_len T.b_len (by decide +kernel) (gR (gIx (u1 hr) (gVarO 0) (gR gInt)))) gaNil)) (ggN sc__law_rows.nd)
  (gsCons (gAsg (gIx (u1 hr) (gR (gIx (u1 hr) (gVarO 0) (gR gInt))) (gVarO 5)) (ggT rfl (ggs1 sc__law_rows.nd (ggs1 sc__law_rows.nd (ggs1 sc__law_rows.nd ggs0)))))
  (gsOne (gFor (passes_of rfl) rfl (giSeq (gOp op_add4 opS_add (gR (gLstE (gaCons (gTupE (gaCons (gVar 8) (gaCons (gVar 9) gaNil))) gaNil))) (gR (gOp op_mul2 opS_mul (gR (gLstE (gaCons (gTupE (gaCons (gVar 9) (gaCons (gVar 8) gaNil))) gaNil))) (gR (gT1 call_int1 unS_toInt T.b_int (by decide +kernel) (gR (gNotV (gVar 10))))))))) (ggT rfl (ggs1 sc__law_rows.nd (ggs1 sc__law_rows.nd ggs0)))
  (gsCons (gSet (i := 12) sc__law_rows.nd (gOp op_add4 opS_add (gR (gCall (ok__law_long T) (hr.mono (by decide)) T.m__law_long T.k__law_long T.i__law_long (takes_of rfl rfl rfl rfl) (gaCons (gVar 0) (gaCons (gVar 5) gaNil)))) (gR (gGet (u1 hr) (gVarO 1) (gTupE (gaCons (gVar 7) (gaCons (gVar 3) gaNil))) (gOp op_pow opS_pow (gR gInt) (gR gInt))))))
  (gsOne (gSet (i := 4) sc__law_rows.nd (gOp op_add4 opS_add (gVarO 4) (gR (gOp op_mul2 opS_mul (gR (gLstE (gaCons (gVar 7) gaNil))) (gR (gT1 call_int1 unS_toInt T.b_int (by decide +kernel) (gR (gAndV (gCmp (op_eq2 (u64 hr)) opS_eq (gVarO 11) (gVarO 2) (nomark _)) (gOne (gCmp (op_eq2 (u64 hr)) opS_eq (gVarO 12) (gR (gIx (u1 hr) (gVarO 1) (gR (gTupE (gaCons (gVar 2) (gaCons (gVar 3) gaNil)))))) (nomark _)))))))))))))))))
  (gsCons (gSet (i := 6) sc__law_rows.nd (gLstE gaNil))
  (gsCons (gFor (passes_of rfl) rfl (giSeq (gFz (gSortSet rfl T.b_sorted (by decide +kernel) T.b_set (by decide +kernel) (gVarO 4)))) (ggN sc__law_rows.nd)
  (gsOne (gSet (i := 6) sc__law_rows.nd (gOp op_add4 opS_add (gVarO 6) (gR (gFz (gLc (own := [("row", 13)]) (ctN (by decide)) rfl sc__law_rows.nd (giSeq (gCall (ok__law_rows_5 T) (hr.mono (by decide)) T.m__law_rows T.k__law_rows T.i__law_rows (takes_of rfl rfl rfl rfl) (gaCons (gVar 0) (gaCons (gVar 1) (gaCons (gVar 7) (gaCons (gVar 3) gaNil)))))) (blkOk_by (own := [("row", 13)]) (N := N__law_rows) (sc := defScope s__law_rows) (by decide +kernel)) (fun _ _ _ _ _ => pg_name (i := 13) sc__law_rows.nd rfl (by first | exact Or.inl rfl | exact Or.inr rfl)) (fun _ _ _ _ _ => gtsNil) (fun _ _ _ _ _ => (gOp op_add4 opS_add (gR (gLstE (gaCons (gVar 2) gaNil))) (gVarO 13))))))))))
  (gsOne (gRet (gVar 6))))))))
theorem ok__law_rows_7 (T : Txt K mg cl fa fd) : FnOk P w K mg base (L2.CX P w) 9 (fa 29) (fd 29) ["web", "table", "here", "goal"] (spO ⟨K, cl⟩ m__law_rows_7) := by
  rw [show m__law_rows_7 = mDef 4 N__law_rows.length b__law_rows_7 from rfl]
  refine gDef (N := N__law_rows) (k := 8) (np := 4) (b := b__law_rows_7) T.f__law_rows sc__law_rows rfl ?_
  intro cdv A outer s H E hr
  unfold b__law_rows_7
  exact (gsCons (gsIf (gtCmp (op_eq2 (u64 hr)) opS_eq (gVarO 2) (gVarO 3) (nomark _))
  (gsOne (gRet (gLstE (gaCons (gLstE (gaCons (gVar 2) gaNil)) gaNil))))
  gsNil)
  (gsCons (gSet (i := 4) sc__law_rows.nd (gLstE gaNil))
  (gsCons (gFor (passes_of rfl) rfl (giRng1 T.b_range (gaCons (gB1 call_lenU unS_len T.b_len (by decide +kernel) (gR (gIx (u1 hr) (gVarO 0) (gR gInt)))) gaNil)) (ggN sc__law_rows.nd)
  (gsCons (gAsg (gIx (u1 hr) (gR (gIx (u1 hr) (gVarO 0) (gR gInt))) (gVarO 5)) (ggT rfl (ggs1 sc__law_rows.nd (ggs1 sc__law_rows.nd (ggs1 sc__law_rows.nd ggs0)))))
  (gsOne (gFor (passes_of rfl) rfl (giSeq (gOp op_add4 opS_add (gR (gLstE (gaCons (gTupE (gaCons (gVar 8) (gaCons (gVar 9) gaNil))) gaNil))) (gR (gOp op_mul2 opS_mul (gR (gLstE (gaCons (gTupE (gaCons (gVar 9) (gaCons (gVar 8) gaNil))) gaNil))) (gR (gT1 call_int1 unS_toInt T.b_int (by decide +kernel) (gR (gNotV (gVar 10))))))))) (ggT rfl (ggs1 sc__law_rows.nd (ggs1 sc__law_rows.nd ggs0)))
  (gsCons (gSet (i := 12) sc__law_rows.nd (gOp op_add4 opS_add (gR (gCall (ok__law_long T) (hr.mono (by decide)) T.m__law_long T.k__law_long T.i__law_long (takes_of rfl rfl rfl rfl) (gaCons (gVar 0) (gaCons (gVar 5) gaNil)))) (gR (gGet (u1 hr) (gVarO 1) (gTupE (gaCons (gVar 7) (gaCons (gVar 3) gaNil))) (gOp op_pow opS_pow (gR gInt) (gR gInt))))))
  (gsOne (gSet (i := 4) sc__law_rows.nd (gOp op_add4 opS_add (gVarO 4) (gR (gOp op_mul2 opS_mul (gR (gLstE (gaCons (gVar 7) gaNil))) (gR (gT1 call_int1 unS_toInt T.b_int (by decide +kernel) (gR (gAndV (gCmp (op_eq2 (u64 hr)) opS_eq (gVarO 11) (gVarO 2) (nomark _)) (gOne (gCmp (op_eq2 (u64 hr)) opS_eq (gVarO 12) (gR (gIx (u1 hr) (gVarO 1) (gR (gTupE (gaCons (gVar 2) (gaCons (gVar 3) gaNil)))))) (nomark _)))))))))))))))))
  (gsCons (gSet (i := 6) sc__law_rows.nd (gLstE gaNil))
  (gsCons (gFor (passes_of rfl) rfl (giSeq (gFz (gSortSet rfl T.b_sorted (by decide +kernel) T.b_set (by decide +kernel) (gVarO 4)))) (ggN sc__law_rows.nd)
  (gsOne (gSet (i := 6) sc__law_rows.nd (gOp op_add4 opS_add (gVarO 6) (gR (gFz (gLc (own := [("row", 13)]) (ctN (by decide)) rfl sc__law_rows.nd (giSeq (gCall (ok__law_rows_6 T) (hr.mono (by decide)) T.m__law_rows T.k__law_rows T.i__law_rows (takes_of rfl rfl rfl rfl) (gaCons (gVar 0) (gaCons (gVar 1) (gaCons (gVar 7) (gaCons (gVar 3) gaNil)))))) (blkOk_by (own := [("row", 13)]) (N := N__law_rows) (sc := defScope s__law_rows) (by decide +kernel)) (fun _ _ _ _ _ => pg_name (i := 13) sc__law_rows.nd rfl (by first | exact Or.inl rfl | exact Or.inr rfl)) (fun _ _ _ _ _ => gtsNil) (fun _ _ _ _ _ => (gOp op_add4 opS_add (gR (gLstE (gaCons (gVar 2) gaNil))) (gVarO 13))))))))))
  (gsOne (gRet (gVar 6))))))))
theorem ok__law_rows_8 (T : Txt K mg cl fa fd) : FnOk P w K mg base (L2.CX P w) 10 (fa 29) (fd 29) ["web", "table", "here", "goal"] (spO ⟨K, cl⟩ m__law_rows_8) := by
  rw [show m__law_rows_8 = mDef 4 N__law_rows.length b__law_rows_8 from rfl]
  refine gDef (N := N__law_rows) (k := 9) (np := 4) (b := b__law_rows_8) T.f__law_rows sc__law_rows rfl ?_
  intro cdv A outer s H E hr
  unfold b__law_rows_8
  exact (gsCons (gsIf (gtCmp (op_eq2 (u64 hr)) opS_eq (gVarO 2) (gVarO 3) (nomark _))
  (gsOne (gRet (gLstE (gaCons (gLstE (gaCons (gVar 2) gaNil)) gaNil))))
  gsNil)
  (gsCons (gSet (i := 4) sc__law_rows.nd (gLstE gaNil))
  (gsCons (gFor (passes_of rfl) rfl (giRng1 T.b_range (gaCons (gB1 call_lenU unS_len T.b_len (by decide +kernel) (gR (gIx (u1 hr) (gVarO 0) (gR gInt)))) gaNil)) (ggN sc__law_rows.nd)
  (gsCons (gAsg (gIx (u1 hr) (gR (gIx (u1 hr) (gVarO 0) (gR gInt))) (gVarO 5)) (ggT rfl (ggs1 sc__law_rows.nd (ggs1 sc__law_rows.nd (ggs1 sc__law_rows.nd ggs0)))))
  (gsOne (gFor (passes_of rfl) rfl (giSeq (gOp op_add4 opS_add (gR (gLstE (gaCons (gTupE (gaCons (gVar 8) (gaCons (gVar 9) gaNil))) gaNil))) (gR (gOp op_mul2 opS_mul (gR (gLstE (gaCons (gTupE (gaCons (gVar 9) (gaCons (gVar 8) gaNil))) gaNil))) (gR (gT1 call_int1 unS_toInt T.b_int (by decide +kernel) (gR (gNotV (gVar 10))))))))) (ggT rfl (ggs1 sc__law_rows.nd (ggs1 sc__law_rows.nd ggs0)))
  (gsCons (gSet (i := 12) sc__law_rows.nd (gOp op_add4 opS_add (gR (gCall (ok__law_long T) (hr.mono (by decide)) T.m__law_long T.k__law_long T.i__law_long (takes_of rfl rfl rfl rfl) (gaCons (gVar 0) (gaCons (gVar 5) gaNil)))) (gR (gGet (u1 hr) (gVarO 1) (gTupE (gaCons (gVar 7) (gaCons (gVar 3) gaNil))) (gOp op_pow opS_pow (gR gInt) (gR gInt))))))
  (gsOne (gSet (i := 4) sc__law_rows.nd (gOp op_add4 opS_add (gVarO 4) (gR (gOp op_mul2 opS_mul (gR (gLstE (gaCons (gVar 7) gaNil))) (gR (gT1 call_int1 unS_toInt T.b_int (by decide +kernel) (gR (gAndV (gCmp (op_eq2 (u64 hr)) opS_eq (gVarO 11) (gVarO 2) (nomark _)) (gOne (gCmp (op_eq2 (u64 hr)) opS_eq (gVarO 12) (gR (gIx (u1 hr) (gVarO 1) (gR (gTupE (gaCons (gVar 2) (gaCons (gVar 3) gaNil)))))) (nomark _)))))))))))))))))
  (gsCons (gSet (i := 6) sc__law_rows.nd (gLstE gaNil))
  (gsCons (gFor (passes_of rfl) rfl (giSeq (gFz (gSortSet rfl T.b_sorted (by decide +kernel) T.b_set (by decide +kernel) (gVarO 4)))) (ggN sc__law_rows.nd)
  (gsOne (gSet (i := 6) sc__law_rows.nd (gOp op_add4 opS_add (gVarO 6) (gR (gFz (gLc (own := [("row", 13)]) (ctN (by decide)) rfl sc__law_rows.nd (giSeq (gCall (ok__law_rows_7 T) (hr.mono (by decide)) T.m__law_rows T.k__law_rows T.i__law_rows (takes_of rfl rfl rfl rfl) (gaCons (gVar 0) (gaCons (gVar 1) (gaCons (gVar 7) (gaCons (gVar 3) gaNil)))))) (blkOk_by (own := [("row", 13)]) (N := N__law_rows) (sc := defScope s__law_rows) (by decide +kernel)) (fun _ _ _ _ _ => pg_name (i := 13) sc__law_rows.nd rfl (by first | exact Or.inl rfl | exact Or.inr rfl)) (fun _ _ _ _ _ => gtsNil) (fun _ _ _ _ _ => (gOp op_add4 opS_add (gR (gLstE (gaCons (gVar 2) gaNil))) (gVarO 13))))))))))
  (gsOne (gRet (gVar 6))))))))
theorem ok__law_ends (T : Txt K mg cl fa fd) : FnOk P w K mg base (L2.CX P w) 2 (fa 30) (fd 30) ["web", "spot", "is_leaving"] (spO ⟨K, cl⟩ m__law_ends) := by
  rw [show m__law_ends = mDef 3 N__law_ends.length b__law_ends from rfl]
  refine gDef (N := N__law_ends) (k := 1) (np := 3) (b := b__law_ends) T.f__law_ends sc__law_ends rfl ?_
  intro cdv A outer s H E hr
  unfold b__law_ends
  exact (gsCons (gAsg (gIx (u1 hr) (gR (gIx (u1 hr) (gVarO 0) (gR gInt))) (gR (gIx (u1 hr) (gVarO 1) (gR gInt)))) (ggT rfl (ggs1 sc__law_ends.nd (ggs1 sc__law_ends.nd (ggs1 sc__law_ends.nd ggs0)))))
  (gsCons (gSet (i := 3) sc__law_ends.nd (gCall (ok__law_long T) (hr.mono (by decide)) T.m__law_long T.k__law_long T.i__law_long (takes_of rfl rfl rfl rfl) (gaCons (gVar 0) (gaCons (gIx (u1 hr) (gVarO 1) (gR gInt)) gaNil))))
  (gsCons (gOwn (i := 4) sc__law_ends.nd (gLstF gaNil))
  (gsCons (gsIf (PW.pt (gwOr (gtTru (gVarO 2)) (gwOr (gtNot (gtTru (gVarO 7))) (gwOr1 (gtCmp (op_eq2 (u64 hr)) opS_eq (gR (gIx (u1 hr) (gVarO 1) (gR gInt))) (gVarO 3) (nomark _))))))
  (gsOne (gAppO (i := 4) (gTupE (gaCons (gVar 6) (gaCons (gOp op_sub opS_sub (gVarO 3) (gR (gIx (u1 hr) (gVarO 1) (gR gInt)))) gaNil)))))
  gsNil)
  (gsCons (gsIf (PW.pt (gwOr (gtNot (gtTru (gVarO 2))) (gwOr (gtNot (gtTru (gVarO 7))) (gwOr1 (gtCmp (op_eq2 (u64 hr)) opS_eq (gR (gIx (u1 hr) (gVarO 1) (gR gInt))) (gR gInt) (nomark _))))))
  (gsOne (gAppO (i := 4) (gTupE (gaCons (gVar 5) (gaCons (gIx (u1 hr) (gVarO 1) (gR gInt)) gaNil)))))
  gsNil)
  (gsOne (gFrz (i := 4) (gRet (gVar 4)))))))))
theorem ok__law_table (T : Txt K mg cl fa fd) : FnOk P w K mg base (L2.CX P w) 2 (fa 31) (fd 31) ["web"] (spO ⟨K, cl⟩ m__law_table) := by
  rw [show m__law_table = mDef 1 N__law_table.length b__law_table from rfl]
  refine gDef (N := N__law_table) (k := 1) (np := 1) (b := b__law_table) T.f__law_table sc__law_table rfl ?_
  intro cdv A outer s H E hr
  unfold b__law_table
  exact (gsCons (gOwn (i := 1) sc__law_table.nd gDnewT)
  (gsCons (gFor (passes_of rfl) rfl (giSeq (gFz (gKeys rfl T.b_list (by decide +kernel) (gR (gIx (u1 hr) (gVarO 0) (gR gInt)))))) (ggN sc__law_table.nd)
  (gsOne (gPutO (i := 1) (u1 hr) (gTupE (gaCons (gVar 2) (gaCons (gVar 2) gaNil))) gInt)))
  (gsCons (gSet (i := 3) sc__law_table.nd gBl)
  (gsCons (gWhile (fun _ _ => 1000000000) (passes_of rfl) (gtTru (gVarO 3))
  (gsCons (gSet (i := 3) sc__law_table.nd gBl)
  (gsOne (gFor (passes_of rfl) rfl (giRng1 T.b_range (gaCons (gB1 call_lenU unS_len T.b_len (by decide +kernel) (gR (gIx (u1 hr) (gVarO 0) (gR gInt)))) gaNil)) (ggN sc__law_table.nd)
  (gsCons (gAsg (gIx (u1 hr) (gR (gIx (u1 hr) (gVarO 0) (gR gInt))) (gVarO 4)) (ggT rfl (ggs1 sc__law_table.nd (ggs1 sc__law_table.nd (ggs1 sc__law_table.nd ggs0)))))
  (gsOne (gFor (passes_of rfl) rfl (giSeq (gOp op_add4 opS_add (gR (gLstE (gaCons (gTupE (gaCons (gVar 5) (gaCons (gVar 6) gaNil))) gaNil))) (gR (gOp op_mul2 opS_mul (gR (gLstE (gaCons (gTupE (gaCons (gVar 6) (gaCons (gVar 5) gaNil))) gaNil))) (gR (gT1 call_int1 unS_toInt T.b_int (by decide +kernel) (gR (gNotV (gVar 7))))))))) (ggT rfl (ggs1 sc__law_table.nd (ggs1 sc__law_table.nd ggs0)))
  (gsOne (gFor (passes_of rfl) rfl (giSeq (gFz (gKeys rfl T.b_list (by decide +kernel) (gR (gIx (u1 hr) (gVarO 0) (gR gInt)))))) (ggN sc__law_table.nd)
  (gsCons (gSet (i := 10) sc__law_table.nd (gOp op_add4 opS_add (gR (gGet (u1 hr) (gVarO 1) (gTupE (gaCons (gVar 9) (gaCons (gVar 2) gaNil))) (gOp op_pow opS_pow (gR gInt) (gR gInt)))) (gR (gCall (ok__law_long T) (hr.mono (by decide)) T.m__law_long T.k__law_long T.i__law_long (takes_of rfl rfl rfl rfl) (gaCons (gVar 0) (gaCons (gVar 4) gaNil))))))
  (gsOne (gsIf (gtCmp op_lt opS_cmp (gVarO 10) (gR (gGet (u1 hr) (gVarO 1) (gTupE (gaCons (gVar 8) (gaCons (gVar 2) gaNil))) (gOp op_pow opS_pow (gR gInt) (gR gInt)))) (nomark _))
  (gsCons (gPutO (i := 1) (u1 hr) (gTupE (gaCons (gVar 8) (gaCons (gVar 2) gaNil))) (gVar 10))
  (gsOne (gSet (i := 3) sc__law_table.nd gBl)))
  gsNil))))))))))))
  (gsOne (gFrz (i := 1) (gRet (gVar 1))))))))
theorem ok__law_way (T : Txt K mg cl fa fd) : FnOk P w K mg base (L2.CX P w) 11 (fa 32) (fd 32) ["web", "one", "other", "least_now"] (spO ⟨K, cl⟩ m__law_way) := by
  rw [show m__law_way = mDef 4 N__law_way.length b__law_way from rfl]
  refine gDef (N := N__law_way) (k := 10) (np := 4) (b := b__law_way) T.f__law_way sc__law_way rfl ?_
  intro cdv A outer s H E hr
  unfold b__law_way
  exact (gsCons (gsIf (PW.pt (gwAnd (gtCmp (op_eq2 (u64 hr)) opS_eq (gR (gIx (u1 hr) (gVarO 1) (gR gInt))) (gR (gIx (u1 hr) (gVarO 2) (gR gInt))) (nomark _)) (gwAnd (PW.pt (gwOr (gtCmp op_ge opS_cmp (gR (gIx (u1 hr) (gVarO 2) (gR gInt))) (gR (gIx (u1 hr) (gVarO 1) (gR gInt))) (nomark _)) (gwOr1 (gtNot (gtTru (gR (gIx (u1 hr) (gR (gIx (u1 hr) (gR (gIx (u1 hr) (gVarO 0) (gR gInt))) (gR (gIx (u1 hr) (gVarO 1) (gR gInt))))) (gR gInt)))))))) (gwAnd1 (gtCmp (op_eq2 (u64 hr)) opS_eq (gR (gB1 call_abs unS_abs T.b_abs (by decide +kernel) (gR (gOp op_sub opS_sub (gR (gIx (u1 hr) (gVarO 1) (gR gInt))) (gR (gIx (u1 hr) (gVarO 2) (gR gInt))))))) (gVarO 3) (nomark _))))))
  (gsOne (gRet (gLstE gaNil)))
  gsNil)
  (gsCons (gSet (i := 4) sc__law_way.nd (gLstE gaNil))
  (gsCons (gSet (i := 5) sc__law_way.nd (gCall (ok__law_table T) (hr.mono (by decide)) T.m__law_table T.k__law_table T.i__law_table (takes_of rfl rfl rfl rfl) (gaCons (gVar 0) gaNil)))
  (gsCons (gFor (passes_of rfl) rfl (giSeq (gCall (ok__law_ends T) (hr.mono (by decide)) T.m__law_ends T.k__law_ends T.i__law_ends (takes_of rfl rfl rfl rfl) (gaCons (gVar 0) (gaCons (gVar 1) (gaCons gBl gaNil))))) (ggT rfl (ggs1 sc__law_way.nd (ggs1 sc__law_way.nd ggs0)))
  (gsOne (gFor (passes_of rfl) rfl (giSeq (gCall (ok__law_ends T) (hr.mono (by decide)) T.m__law_ends T.k__law_ends T.i__law_ends (takes_of rfl rfl rfl rfl) (gaCons (gVar 0) (gaCons (gVar 2) (gaCons gBl gaNil))))) (ggT rfl (ggs1 sc__law_way.nd (ggs1 sc__law_way.nd ggs0)))
  (gsOne (gsIf (gtCmp (op_eq2 (u64 hr)) opS_eq (gR (gOp op_add4 opS_add (gR (gOp op_add4 opS_add (gVarO 7) (gR (gGet (u1 hr) (gVarO 5) (gTupE (gaCons (gVar 6) (gaCons (gVar 8) gaNil))) (gOp op_pow opS_pow (gR gInt) (gR gInt)))))) (gVarO 9))) (gVarO 3) (nomark _))
  (gsOne (gSet (i := 4) sc__law_way.nd (gOp op_add4 opS_add (gVarO 4) (gR (gCall (ok__law_rows_8 T) (hr.mono (by decide)) T.m__law_rows T.k__law_rows T.i__law_rows (takes_of rfl rfl rfl rfl) (gaCons (gVar 0) (gaCons (gVar 5) (gaCons (gVar 6) (gaCons (gVar 8) gaNil)))))))))
  gsNil)))))
  (gsOne (gRet (gB1 (cr_minLL rfl (u3 hr)) unS_minLL T.b_min (by decide +kernel) (gVarO 4))))))))
theorem ok__law_web (T : Txt K mg cl fa fd) : FnOk P w K mg base (L2.CX P w) 5 (fa 33) (fd 33) ["script", "town", "most", "far"] (spO ⟨K, cl⟩ m__law_web) := by
  rw [show m__law_web = mDef 4 N__law_web.length b__law_web from rfl]
  refine gDef (N := N__law_web) (k := 4) (np := 4) (b := b__law_web) T.f__law_web sc__law_web rfl ?_
  intro cdv A outer s H E hr
  unfold b__law_web
  exact (gsCons (gSet (i := 4) sc__law_web.nd (gLstE (gaCons gStr (gaCons gStr (gaCons gStr (gaCons gStr (gaCons gStr (gaCons gStr (gaCons gStr (gaCons gStr gaNil))))))))))
  (gsCons (gSet (i := 5) sc__law_web.nd (gCall (ok__law_draw T) (hr.mono (by decide)) T.m__law_draw T.k__law_draw T.i__law_draw (takes_of rfl rfl rfl rfl) (gaCons (gVar 0) (gaCons (gVar 1) (gaCons gInt gaNil)))))
  (gsCons (gSet (i := 4) sc__law_web.nd (gOp op_add4 opS_add (gR (gSl (gVarO 4) (gpSome (gVar 5)) gpNone)) (gR (gSl (gVarO 4) gpNone (gpSome (gVar 5))))))
  (gsCons (gOwn (i := 6) sc__law_web.nd (gLstF (gaCons (gTupE (gaCons (gCall (ok__law_draw T) (hr.mono (by decide)) T.m__law_draw T.k__law_draw T.i__law_draw (takes_of rfl rfl rfl rfl) (gaCons (gVar 0) (gaCons (gVar 1) (gaCons gInt gaNil)))) (gaCons (gCall (ok__law_draw T) (hr.mono (by decide)) T.m__law_draw T.k__law_draw T.i__law_draw (takes_of rfl rfl rfl rfl) (gaCons (gVar 0) (gaCons (gVar 1) (gaCons gInt gaNil)))) gaNil))) gaNil)))
  (gsCons (gOwn (i := 7) sc__law_web.nd (gLstF gaNil))
  (gsCons (gFor (passes_of rfl) rfl (giRng1 T.b_range (gaCons (gOp op_add4 opS_add (gR gInt) (gR (gCall (ok__law_draw T) (hr.mono (by decide)) T.m__law_draw T.k__law_draw T.i__law_draw (takes_of rfl rfl rfl rfl) (gaCons (gVar 0) (gaCons (gVar 1) (gaCons (gVar 2) gaNil)))))) gaNil)) (ggN sc__law_web.nd)
  (gsCons (gSet (i := 9) sc__law_web.nd (gCall (ok__law_draw T) (hr.mono (by decide)) T.m__law_draw T.k__law_draw T.i__law_draw (takes_of rfl rfl rfl rfl) (gaCons (gVar 0) (gaCons (gVar 1) (gaCons (gB1 call_lenU unS_len T.b_len (by decide +kernel) (gVarO 6)) gaNil)))))
  (gsCons (gSet (i := 10) sc__law_web.nd (gCall (ok__law_pick T) (hr.mono (by decide)) T.m__law_pick T.k__law_pick T.i__law_pick (takes_of rfl rfl rfl rfl) (gaCons (gVar 0) (gaCons (gVar 1) (gaCons (gLstE (gaCons (gTupE (gaCons gInt (gaCons gInt gaNil))) (gaCons (gTupE (gaCons gInt (gaCons gInt gaNil))) (gaCons (gTupE (gaCons (gOp op_sub opS_sub (gR gInt) (gR gInt)) (gaCons gInt gaNil))) (gaCons (gTupE (gaCons gInt (gaCons (gOp op_sub opS_sub (gR gInt) (gR gInt)) gaNil))) gaNil))))) gaNil)))))
  (gsCons (gSet (i := 11) sc__law_web.nd (gOp op_add4 opS_add (gR gInt) (gR (gCall (ok__law_draw T) (hr.mono (by decide)) T.m__law_draw T.k__law_draw T.i__law_draw (takes_of rfl rfl rfl rfl) (gaCons (gVar 0) (gaCons (gVar 1) (gaCons (gVar 3) gaNil)))))))
  (gsCons (gSet (i := 12) sc__law_web.nd (gTupE (gaCons (gOp op_add4 opS_add (gR (gIx (u1 hr) (gR (gIx (u1 hr) (gVarO 6) (gVarO 9))) (gR gInt))) (gR (gOp op_mul2 opS_mul (gR (gIx (u1 hr) (gVarO 10) (gR gInt))) (gVarO 11)))) (gaCons (gOp op_add4 opS_add (gR (gIx (u1 hr) (gR (gIx (u1 hr) (gVarO 6) (gVarO 9))) (gR gInt))) (gR (gOp op_mul2 opS_mul (gR (gIx (u1 hr) (gVarO 10) (gR gInt))) (gVarO 11)))) gaNil))))
  (gsCons (gsIf (PW.pt (gwOr (gtCmp op_lt opS_cmp (gR (gB1 (cr_minT rfl (u1 hr)) unS_minT T.b_min (by decide +kernel) (gVarO 12))) (gR gInt) (nomark _)) (gwOr (gtCmp op_gt opS_cmp (gR (gB1 (cr_maxT rfl (u1 hr)) unS_maxT T.b_max (by decide +kernel) (gVarO 12))) (gR gInt) (nomark _)) (gwOr1 (PW.pt (gwAnd (gtCmp (op_eq2 (u64 hr)) opS_eq (gR (gB1 call_lenU unS_len T.b_len (by decide +kernel) (gVarO 6))) (gR gInt) (nomark _)) (gwAnd1 (gtCmp (op_notInU (u65 hr)) opS_notIn (gVarO 12) (gVarO 6) rfl))))))))
  (gsOne (gSet (i := 12) sc__law_web.nd (gTupE (gaCons (gIx (u1 hr) (gR (gIx (u1 hr) (gVarO 6) (gVarO 9))) (gR gInt)) (gaCons (gOp op_mod opS_mod (gR (gOp op_add4 opS_add (gR (gIx (u1 hr) (gR (gIx (u1 hr) (gVarO 6) (gVarO 9))) (gR gInt))) (gR gInt))) (gR gInt)) gaNil)))))
  gsNil)
  (gsCons (gsIf (PW.pt (gwOr (gtCmp op_gt opS_cmp (gR (gB1 call_abs unS_abs T.b_abs (by decide +kernel) (gR (gOp op_sub opS_sub (gR (gIx (u1 hr) (gVarO 12) (gR gInt))) (gR (gIx (u1 hr) (gR (gIx (u1 hr) (gVarO 6) (gVarO 9))) (gR gInt))))))) (gR gInt) (nomark _)) (gwOr1 (PW.pt (gwAnd (gtCmp (op_eq2 (u64 hr)) opS_eq (gR (gB1 call_lenU unS_len T.b_len (by decide +kernel) (gVarO 6))) (gR gInt) (nomark _)) (gwAnd1 (gtCmp (op_notInU (u65 hr)) opS_notIn (gVarO 12) (gVarO 6) rfl)))))))
  (gsOne gCont)
  gsNil)
  (gsCons (gsIf (gtCmp (op_notInU (u65 hr)) opS_notIn (gVarO 12) (gVarO 6) rfl)
  (gsOne (gAppO (i := 6) (gVar 12)))
  gsNil)
  (gsCons (gSet (i := 13) sc__law_web.nd (gTupE (gaCons (gIx (u1 hr) (gVarO 4) (gVarO 9)) (gaCons (gIx (u1 hr) (gVarO 4) (gR (gIndex (u65 hr) (gVarO 6) (gVarO 12)))) gaNil))))
  (gsOne (gAppO (i := 7) (gOp op_add4 opS_add (gR (gIf (gtCmp (op_eq2 (u64 hr)) opS_eq (gR (gCall (ok__law_draw T) (hr.mono (by decide)) T.m__law_draw T.k__law_draw T.i__law_draw (takes_of rfl rfl rfl rfl) (gaCons (gVar 0) (gaCons (gVar 1) (gaCons gInt gaNil))))) (gR gInt) (nomark _)) (gVar 13) (gRevT (gVarO 13)))) (gR (gTupE (gaCons (gCmp (op_eq2 (u64 hr)) opS_eq (gR (gCall (ok__law_draw T) (hr.mono (by decide)) T.m__law_draw T.k__law_draw T.i__law_draw (takes_of rfl rfl rfl rfl) (gaCons (gVar 0) (gaCons (gVar 1) (gaCons gInt gaNil))))) (gR gInt) (nomark _)) gaNil)))))))))))))))
  (gsCons (gsIf (gtCmp (op_eq2 (u64 hr)) opS_eq (gVarO 7) (gR (gLstE gaNil)) (nomark _))
  (gsCons (gOwn (i := 6) sc__law_web.nd (gLstF (gaCons (gTupE (gaCons gInt (gaCons gInt gaNil))) (gaCons (gTupE (gaCons gInt (gaCons gInt gaNil))) gaNil))))
  (gsOne (gOwn (i := 7) sc__law_web.nd (gLstF (gaCons (gTupE (gaCons (gIx (u1 hr) (gVarO 4) (gR gInt)) (gaCons (gIx (u1 hr) (gVarO 4) (gR gInt)) (gaCons gBl gaNil)))) gaNil)))))
  gsNil)
  (gsOne (gFrz (i := 7) (gRet (gTupE (gaCons (gFz (gDict rfl T.b_dict (by decide +kernel) (gR (gFz (gLc (own := [("k", 8)]) (ctN (by decide)) rfl sc__law_web.nd (giRng1 T.b_range (gaCons (gB1 call_lenU unS_len T.b_len (by decide +kernel) (gVarO 6)) gaNil)) (blkOk_by (own := [("k", 8)]) (N := N__law_web) (sc := defScope s__law_web) (by decide +kernel)) (fun _ _ _ _ _ => pg_name (i := 8) sc__law_web.nd rfl (by first | exact Or.inl rfl | exact Or.inr rfl)) (fun _ _ _ _ _ => gtsNil) (fun _ _ _ _ _ => (gTupE (gaCons (gIx (u1 hr) (gVarO 4) (gVarO 8)) (gaCons (gIx (u1 hr) (gVarO 6) (gVarO 8)) gaNil))))))))) (gaCons (gVar 7) gaNil)))))))))))))
theorem ok_length (T : Txt K mg cl fa fd) : FnOk P w K mg base (L2.CX P w) 6 (fa 34) (fd 34) ["web", "one", "other"] (spO ⟨K, cl⟩ m_length) := by
  rw [show m_length = mDef 3 N_length.length b_length from rfl]
  refine gDef (N := N_length) (k := 5) (np := 3) (b := b_length) T.f_length sc_length rfl ?_
  intro cdv A outer s H E hr
  unfold b_length
  exact (gsCons (gExpr (gCall (ok_look_both T) (hr.mono (by decide)) T.m_look_both T.k_look_both T.i_look_both (takes_of rfl rfl rfl rfl) (gaCons (gVar 0) (gaCons (gVar 1) (gaCons (gVar 2) gaNil)))))
  (gsCons (gSet (i := 3) sc_length.nd (gCall (ok_length_by T) (hr.mono (by decide)) T.m_length_by T.k_length_by T.i_length_by (takes_of rfl rfl rfl rfl) (gaCons (gVar 0) (gaCons (gCall (ok_lengths T) (hr.mono (by decide)) T.m_lengths T.k_lengths T.i_lengths (takes_of rfl rfl rfl rfl) (gaCons (gVar 0) gaNil)) (gaCons (gVar 1) (gaCons (gVar 2) gaNil))))))
  (gsOne (gRet (gIf (gtCmp op_ge opS_cmp (gVarO 3) (gR (gGlobI rfl T.g_FAR)) (nomark _)) gNon (gVar 3))))))
theorem ok_law (T : Txt K mg cl fa fd) : FnOk P w K mg base (L2.CX P w) 12 (fa 35) (fd 35) ["script"] (spO ⟨K, cl⟩ m_law) := by
  rw [show m_law = mDef 1 N_law.length b_law from rfl]
  refine gDef (N := N_law) (k := 11) (np := 1) (b := b_law) T.f_law sc_law rfl ?_
  intro cdv A outer s H E hr
  unfold b_law
  exact (gsCons (gSet (i := 1) sc_law.nd (gCel (gLstF gaNil)))
  (gsCons (gSet (i := 2) sc_law.nd (gCall (ok__law_web T) (hr.mono (by decide)) T.m__law_web T.k__law_web T.i__law_web (takes_of rfl rfl rfl rfl) (gaCons (gVar 0) (gaCons (gVar 1) (gaCons gInt (gaCons (gCall (ok__law_pick T) (hr.mono (by decide)) T.m__law_pick T.k__law_pick T.i__law_pick (takes_of rfl rfl rfl rfl) (gaCons (gVar 0) (gaCons (gVar 1) (gaCons (gLstE (gaCons gInt (gaCons gInt gaNil))) gaNil)))) gaNil))))))
  (gsCons (gSet (i := 3) sc_law.nd (gCall (ok__law_spots T) (hr.mono (by decide)) T.m__law_spots T.k__law_spots T.i__law_spots (takes_of rfl rfl rfl rfl) (gaCons (gVar 2) gaNil)))
  (gsCons (gSet (i := 4) sc_law.nd (gCall (ok__law_next T) (hr.mono (by decide)) T.m__law_next T.k__law_next T.i__law_next (takes_of rfl rfl rfl rfl) (gaCons (gVar 2) gaNil)))
  (gsCons (gFor (passes_of rfl) rfl (giRng1 T.b_range (gaCons gInt gaNil)) (ggN sc_law.nd)
  (gsCons (gSet (i := 6) sc_law.nd (gCall (ok__law_pick T) (hr.mono (by decide)) T.m__law_pick T.k__law_pick T.i__law_pick (takes_of rfl rfl rfl rfl) (gaCons (gVar 0) (gaCons (gVar 1) (gaCons (gVar 3) gaNil)))))
  (gsCons (gSet (i := 7) sc_law.nd (gCall (ok__law_pick T) (hr.mono (by decide)) T.m__law_pick T.k__law_pick T.i__law_pick (takes_of rfl rfl rfl rfl) (gaCons (gVar 0) (gaCons (gVar 1) (gaCons (gOp op_add4 opS_add (gVarO 3) (gR (gOp op_mul2 opS_mul (gR (gFz (gLc (own := [("spot", 10)]) (ctN (by decide)) rfl sc_law.nd (giSeq (gVar 3)) (blkOk_by (own := [("spot", 10)]) (N := N_law) (sc := defScope s_law) (by decide +kernel)) (fun _ _ _ _ _ => pg_name (i := 10) sc_law.nd rfl (by first | exact Or.inl rfl | exact Or.inr rfl)) (fun _ _ _ _ _ => (gtsOne (gtCmp (op_eq2 (u64 hr)) opS_eq (gR (gIx (u1 hr) (gVarO 10) (gR gInt))) (gR (gIx (u1 hr) (gVarO 6) (gR gInt))) (nomark _)))) (fun _ _ _ _ _ => (gTupE (gaCons (gIx (u1 hr) (gVarO 10) (gR gInt)) (gaCons (gIx (u1 hr) (gVarO 10) (gR gInt)) gaNil))))))) (gR gInt)))) gaNil)))))
  (gsCons (gSet (i := 8) sc_law.nd (gGet (u1 hr) (gR (gCall (ok__law_far T) (hr.mono (by decide)) T.m__law_far T.k__law_far T.i__law_far (takes_of rfl rfl rfl rfl) (gaCons (gVar 4) (gaCons (gVar 6) gaNil)))) (gVar 7) gNon))
  (gsCons (gsIf (gtCmp (op_ne2 (u64 hr)) opS_ne (gR (gCall (ok_length T) (hr.mono (by decide)) T.m_length T.k_length T.i_length (takes_of rfl rfl rfl rfl) (gaCons (gVar 2) (gaCons (gVar 6) (gaCons (gVar 7) gaNil))))) (gVarO 8) (nomark _))
  (gsOne (gRet gBl))
  gsNil)
  (gsCons (gSet (i := 9) sc_law.nd (gCall (ok__law_told T) (hr.mono (by decide)) T.m__law_told T.k__law_told T.i__law_told (takes_of rfl rfl rfl rfl) (gaCons (gVar 2) (gaCons (gVar 6) (gaCons (gVar 7) gaNil)))))
  (gsOne (gsIf (gtCmp op_isU opS_is (gVarO 8) (gR gNon) (nomark _))
  (gsOne (gsIf (gtCmp (op_ne2 (u64 hr)) opS_ne (gVarO 9) (gR (gTupE (gaCons gStr (gaCons gStr gaNil)))) (nomark _))
  (gsOne (gRet gBl))
  gsNil))
  (gsOne (gsIf (gtCmp (op_ne2 (u64 hr)) opS_ne (gVarO 9) (gR (gTupE (gaCons gStr (gaCons (gCall (ok__law_way T) (hr.mono (by decide)) T.m__law_way T.k__law_way T.i__law_way (takes_of rfl rfl rfl rfl) (gaCons (gVar 2) (gaCons (gVar 6) (gaCons (gVar 7) (gaCons (gVar 8) gaNil))))) gaNil)))) (nomark _))
  (gsOne (gRet gBl))
  gsNil))))))))))
  (gsOne (gRet gBl)))))))
end
end K10

set_option Elab.async false
set_option linter.all false
set_option maxRecDepth 100000
set_option maxHeartbeats 4000000
/-! The plain law of k10, 1: draws. -/
set_option hygiene false
local macro_rules | `(tactic| bv_omega) => `(tactic| (repeat (first | with_reducible refine p_seq ?_ | with_reducible refine p_asg ?_ | with_reducible refine p_ret ?_ | with_reducible refine p_drop ?_ | with_reducible refine p_op ?_ | with_reducible refine p_un ?_ | with_reducible refine p_cons ?_ | with_reducible refine p_nil ?_ | with_reducible refine p_c ?_ | with_reducible refine q_var ?_ | with_reducible refine q_varO ?_ | with_reducible refine p_call ?_ | with_reducible refine p_tup ?_ | with_reducible refine p_lst ?_ | with_reducible refine p_iter ?_ | with_reducible refine p_for ?_ | with_reducible refine p_comp ?_ | with_reducible refine p_fComp ?_ | with_reducible refine p_fLst ?_ | with_reducible refine p_Tru ?_ | with_reducible refine p_B ?_ | with_reducible refine p_And ?_ | with_reducible refine p_Or ?_ | with_reducible refine p_Not ?_ | with_reducible refine p_AndV ?_ | with_reducible refine p_OrV ?_ | with_reducible refine p_NotV ?_ | with_reducible refine p_If ?_ | with_reducible refine p_Chain ?_ | with_reducible refine p_if ?_ | with_reducible refine p_next ?_ | with_reducible refine p_par ?_ | with_reducible refine p_fz ?_ | with_reducible refine add_ok ?_ | with_reducible refine sub_ok ?_ | with_reducible refine lt_ok ?_ | with_reducible refine le_ok ?_ | with_reducible refine gt_ok ?_ | with_reducible refine ge_ok ?_ | with_reducible refine abs_ok ?_ | with_reducible refine lenL_ok ?_ | with_reducible refine lenT_ok ?_ | with_reducible refine lenD_ok ?_ | with_reducible refine min2_ok ?_ | with_reducible refine max2_ok ?_ | with_reducible refine ix0_ok ?_ | with_reducible refine ix1_ok ?_ | with_reducible refine ix2_ok ?_ | with_reducible refine truB_ok ?_ | with_reducible refine eqI_ok ?_ | with_reducible refine neI_ok ?_ | ((with_reducible refine mod_ok ?_ ?_); decide) | ((with_reducible refine div_ok ?_ ?_ ?_); decide; decide) | with_reducible refine q_isi ?_ | with_reducible refine isN_ok ?_ | with_reducible refine isT_ok ?_ | with_reducible refine isB_ok ?_ | with_reducible refine p_sl ?_ | with_reducible refine p_noP ?_ | with_reducible refine p_P ?_ | with_reducible refine slT_ok ?_ | with_reducible refine slL_ok ?_ | with_reducible refine frzL_ok ?_ | with_reducible refine frzD_ok ?_ | ((with_reducible refine p_ifT ?_ ?_); exact rfl) | ((with_reducible refine p_ifF ?_ ?_); exact rfl) | ((with_reducible show Exists _); refine ⟨_, rfl, ?_⟩) | ((with_reducible refine isx_ok (b := true) ?_ ?_); exact rfl) | ((with_reducible refine isx_ok (b := false) ?_ ?_); exact rfl) | with_reducible refine p_raise ?_ | with_reducible refine ixP0_ok ?_ | with_reducible refine ixP1_ok ?_ | with_reducible refine ixA_ok (by assumption) ?_ | with_reducible refine ixAT_ok (by assumption) ?_ | with_reducible refine ixK_ok (by assumption) ?_ | ((with_reducible refine (And.intro ?_ ?_ : List.length _ ≤ LIM ∧ _)); exact Nat.le_of_ble_eq_true rfl) | ((with_reducible refine d_now (by assumption) ?_ ?_); exact rfl) | ((with_reducible refine d_meth (by assumption) ?_ ?_ ?_); exact rfl; exact rfl))))
namespace K10
open PySem Gh
theorem atI_in {α : Type} (xs : List α) (i : Int) (h0 : 0 ≤ i) (h1 : i < xs.length) : L2.atI xs i = xs[i.toNat]? := by
  unfold L2.atI L2.ixN
  rw [if_pos h0, if_pos h1]
  rfl
theorem atI_some {α : Type} (xs : List α) (i : Int) (h0 : 0 ≤ i) (h1 : i < xs.length) : ∃ x, L2.atI xs i = some x ∧ x ∈ xs := by
  rw [atI_in xs i h0 h1]
  have : i.toNat < xs.length := by omega
  exact ⟨xs[i.toNat], List.getElem?_eq_getElem this, List.getElem_mem _⟩
theorem cell_ok (ns : List Int) (k : Nat) (G : GH) : Post (m__law_cell [.scr ns, .int k] G) fun d G1 => G1 = G ∧ ∃ c, d = .int c := by
  refine p_def rfl (p_seq (p_if (p_Tru (p_varO rfl ?_))))
  cases ns with
  | nil => exact ⟨rfl, 0, rfl⟩
  | cons a r =>
    have hp : (0 : Int) < ((a :: r).length : Int) := by simp only [List.length_cons]; omega
    obtain ⟨c, hc, _⟩ := atI_some (a :: r) ((k : Int) % ((a :: r).length : Int)) (Int.emod_nonneg _ (Int.ne_of_gt hp)) (Int.emod_lt_of_pos _ hp)
    refine p_ret (p_op (p_varO rfl (p_op (p_varO rfl (p_un (p_varO rfl (mod_ok hp ?_)))))))
    show Post (ofO ((L2.atI (a :: r) ((k : Int) % ((a :: r).length : Int))).map D.int) G) _
    rw [hc]
    exact ⟨rfl, c, rfl⟩
theorem mix_ok (ns : List Int) (k : Nat) (G : GH) : Post (m__law_mix [.scr ns, .int k] G) fun d G1 => G1 = G ∧ ∃ c : Int, d = .int c := by
  unfold m__law_mix b__law_mix
  refine p_def rfl ?_
  bv_omega
  refine (cell_ok ns k G).mono fun d G1 ⟨e1, z, e2⟩ => ?_
  subst e1; subst e2
  bv_omega
  refine mul_ok (by simp [smallI]) ?_
  bv_omega
  have b1 := Int.emod_nonneg (z + 104729 * ((k : Int) + 1)) (show (4294967291 : Int) ≠ 0 by decide)
  have b2 := Int.emod_lt_of_pos (z + 104729 * ((k : Int) + 1)) (show (0 : Int) < 4294967291 by decide)
  refine pow_ok ⟨by decide, by decide, by omega⟩ ?_
  bv_omega
  refine mul_ok (by simp [smallI]) ?_
  bv_omega
  exact ⟨rfl, _, rfl⟩
/-- town stands in cell 0 -/
def Tw (G : GH) (n : Nat) : Prop := ∃ xs, G[0]? = some (.lst xs) ∧ xs.length = n
theorem draw_ok (ns : List Int) (G : GH) (n : Nat) (many : Int) (hT : Tw G n) (hn : n < 90000) (hm : 0 < many) :
    Post (m__law_draw [.scr ns, .cel 0, .int many] G) fun d G1 => (∃ x, G1 = G.set 0 x) ∧ Tw G1 (n + 1) ∧ ∃ r : Int, d = .int r ∧ 0 ≤ r ∧ r < many := by
  obtain ⟨xs, h0, hl⟩ := hT
  have hlim : xs.length < LIM := by rw [hl]; exact Nat.lt_trans hn (by decide)
  have hlt : 0 < G.length := (List.getElem?_eq_some_iff.mp h0).1
  have h1 : (G.set 0 (.lst (xs ++ [.int 0])))[0]? = some (.lst (xs ++ [.int 0])) := by rw [List.getElem?_set]; simp [hlt]
  refine p_def rfl (p_seq (p_drop (p_app (p_var rfl ⟨0, xs, rfl, h0, p_c ⟨xs, h0, hlim, ?_⟩⟩))))
  refine p_ret (p_op (p_op (p_call (p_cons (p_var rfl (p_cons (p_un (p_varO rfl (p_len (view_lst h1) (p_nil ?_)))))))))) 
  refine (mix_ok ns (xs ++ [D.int 0]).length _).mono fun d G1 ⟨e1, z, e2⟩ => ?_
  subst e1; subst e2
  refine p_c (div_ok (by decide) (by decide) (p_varO rfl (mod_ok hm ?_)))
  exact ⟨⟨_, rfl⟩, ⟨_, h1, by simp [hl]⟩, _, rfl, Int.emod_nonneg _ (Int.ne_of_gt hm), Int.emod_lt_of_pos _ hm⟩
theorem pick_ok (ns : List Int) (G : GH) (n : Nat) (xs : List D) (hT : Tw G n) (hn : n < 90000) (hx : xs ≠ []) :
    Post (m__law_pick [.scr ns, .cel 0, .lst xs] G) fun d G1 => (∃ x, G1 = G.set 0 x) ∧ Tw G1 (n + 1) ∧ d ∈ xs := by
  have hp : (0 : Int) < (xs.length : Int) := by
    cases xs with
    | nil => exact absurd rfl hx
    | cons _ _ => simp only [List.length_cons]; omega
  unfold m__law_pick b__law_pick
  refine p_def rfl ?_
  bv_omega
  refine (draw_ok ns G n _ hT hn hp).mono fun d G1 ⟨h1, h2, r, e1, h3, h4⟩ => ?_
  subst e1
  obtain ⟨x, hx1, hx2⟩ := atI_some xs r h3 h4
  exact p_ixL rfl ⟨x, hx1, h1, h2, hx2⟩
end K10

set_option Elab.async false
set_option linter.all false
set_option maxRecDepth 100000
set_option maxHeartbeats 4000000
/-! The plain law of k10, 2: webs that can be. -/
namespace K10
open PySem Gh
abbrev Pls := List (Str × Int × Int)
abbrev Rds := List (Str × Str × Bool)
def plD (p : Pls) : List (L2.Key × D) := p.map fun q => (.inr q.1, .tup [.int q.2.1, .int q.2.2])
def rdD1 (q : Str × Str × Bool) : D := .tup [.str q.1, .str q.2.1, .bl q.2.2]
def rdD (r : Rds) : List D := r.map rdD1
def NAMES : List Str := ["x", "b", "a", "square", "zzzzzzzz", "c", "d", "mill"]
theorem name_ok (x : Str) (h : x ∈ NAMES) (G : GH) : m_is_name [.str x] G = .ok (.bl true) G := by
  simp only [NAMES, List.mem_cons, List.not_mem_nil, or_false] at h
  rcases h with h | h | h | h | h | h | h | h <;> (subst h; rfl)
theorem post_ok {α : Type} {r : R α} {a : α} {G : GH} (h : Post r fun d G1 => d = a ∧ G1 = G) : r = .ok a G := by
  obtain ⟨d, G1, e, h1, h2⟩ := h.eq
  rw [e, h1, h2]
theorem ite_same {k : Bool} {A B : Prop} (h1 : k = true → A) (h2 : k = false → B) : if k = true then A else B := by
  cases k
  · exact h2 rfl
  · exact h1 rfl
theorem whole_ok (i lo hi : Int) (G : GH) (h1 : lo ≤ i) (h2 : i ≤ hi) : m_is_whole [.int i, .int lo, .int hi] G = .ok (.bl true) G := by
  refine post_ok ?_
  unfold m_is_whole b_is_whole
  refine p_def rfl ?_
  bv_omega
  rw [decide_eq_true h1]
  bv_omega
  exact ⟨by rw [decide_eq_true h2], rfl⟩
theorem all_true {xs : List D} (h : ∀ x ∈ xs, x = .bl true) : ∃ bs, blsOf xs = some bs ∧ bs.all id = true := by
  induction xs with
  | nil => exact ⟨[], rfl, rfl⟩
  | cons x r ih =>
    obtain ⟨bs, h1, h2⟩ := ih fun y hy => h y (List.mem_cons_of_mem _ hy)
    rw [h x List.mem_cons_self]
    exact ⟨true :: bs, by simp [blsOf, h1], by simp [h2]⟩
theorem allT_ok {xs : List D} {G : GH} {P : D → GH → Prop} (h : ∀ x ∈ xs, x = .bl true) (q : P (.bl true) G) : Post (oAll (.lst xs) G) P := by
  obtain ⟨bs, h1, h2⟩ := all_true h
  show Post (ofO ((blsOf xs).map fun bs => .bl (bs.all id)) G) P
  rw [h1]
  simp only [Option.map_some, h2]
  exact q
theorem mapT_mem {ds : List D} {F : D → D} (h : ∀ d ∈ ds, F d = .bl true) : ∀ x ∈ ds.map F, x = .bl true := fun x hx => by
  obtain ⟨d, hd, rfl⟩ := List.mem_map.mp hx
  exact h d hd
theorem lim16 {n : Nat} (h : n ≤ 16) : n < LIM := Nat.lt_of_le_of_lt h (by decide)
theorem p_keys {ρ : En} {G : GH} {i : Nat} {kds : List (L2.Key × D)} {Pl : List D → GH → Prop} (h : ρ[i]? = some (some (.v (.dic kds)))) (q : Pl (kds.map fun kv => keyD kv.1) G) : Post (mKeys i ρ G) Pl := by
  unfold mKeys; rw [h]; exact q
theorem point_ok (x y : Int) (G : GH) (h : 0 ≤ x ∧ x ≤ 60 ∧ 0 ≤ y ∧ y ≤ 60) : m_is_point [.tup [.int x, .int y]] G = .ok (.bl true) G := by
  refine post_ok ?_
  unfold m_is_point b_is_point
  refine p_def rfl ?_
  bv_omega
  refine .inr ⟨_, rfl, (by show 2 < 100000; decide), p_compL (F := fun _ => .bl true) (fun d hd => post_ok ?_) (frzL_ok (allT_ok (mapT_mem fun _ _ => rfl) ⟨rfl, rfl⟩))⟩
  bv_omega
  rcases List.mem_cons.mp hd with e | e
  · subst e
    rw [whole_ok x 0 60 G (by omega) (by omega)]; exact ⟨rfl, rfl⟩
  · rcases List.mem_cons.mp e with e | e
    · subst e
      rw [whole_ok y 0 60 G (by omega) (by omega)]; exact ⟨rfl, rfl⟩
    · cases e
/-- a place's point -/
def look (p : Pls) (n : Str) : Option (Int × Int) := (p.find? fun q => decide (q.1 = n)).map (·.2)
def ptD (q : Int × Int) : D := .tup [.int q.1, .int q.2]
theorem val_look (n : Str) : ∀ p : Pls, valD (plD p) (.inr n) = (look p n).map ptD
  | [] => rfl
  | q :: r => by
    have ih := val_look n r
    unfold valD look at ih ⊢
    by_cases h : q.1 = n
    · have h' : ((Sum.inr q.1 : L2.Key) = Sum.inr n) := by rw [h]
      simp [plD, List.find?_cons, h, ptD]
    · have h' : ¬ ((Sum.inr q.1 : L2.Key) = Sum.inr n) := fun z => h (Sum.inr.inj z)
      simp only [plD, List.map_cons, List.find?_cons, h, h', decide_false] at ih ⊢
      exact ih
structure PlOk (p : Pls) : Prop where
  len : p.length ≤ 16
  nm : ∀ q ∈ p, q.1 ∈ NAMES
  pt : ∀ q ∈ p, 0 ≤ q.2.1 ∧ q.2.1 ≤ 60 ∧ 0 ≤ q.2.2 ∧ q.2.2 ≤ 60
theorem look_mem {p : Pls} {n : Str} {z : Int × Int} (h : look p n = some z) : (n, z) ∈ p := by
  unfold look at h
  obtain ⟨q, h1, h2⟩ := Option.map_eq_some_iff.mp h
  have := List.find?_some h1
  have hm := List.mem_of_find?_eq_some h1
  simp at this
  obtain ⟨a, b⟩ := q
  simp at this h2
  subst this; subst h2
  exact hm
theorem mem_look {p : Pls} {n : Str} (h : n ∈ p.map (·.1)) : ∃ z, look p n = some z := by
  unfold look
  cases e : p.find? fun q => decide (q.1 = n) with
  | some q => exact ⟨q.2, rfl⟩
  | none =>
    obtain ⟨q, h1, h2⟩ := List.mem_map.mp h
    have := List.find?_eq_none.mp e q h1
    simp [h2] at this
theorem places_ok (p : Pls) (hp : PlOk p) (G : GH) : m_are_places [.dic (plD p)] G = .ok (.bl true) G := by
  refine post_ok ?_
  have hl : ¬ ((16 : Int) < (plD p).length) := by have := hp.len; simp [plD]; omega
  have hk : ∀ d ∈ (plD p).map (fun kv => keyD kv.1), ∃ q ∈ p, d = .str q.1 := fun d hd => by
    simp only [plD, List.map_map, List.mem_map, Function.comp] at hd
    obtain ⟨q, h1, h2⟩ := hd
    exact ⟨q, h1, h2.symm⟩
  unfold m_are_places b_are_places
  refine p_def rfl ?_
  bv_omega
  rw [decide_eq_false hl]
  bv_omega
  refine p_keys rfl ⟨lim16 (by simp only [plD, List.length_map]; exact hp.len), p_compL (F := fun _ => .bl true) (fun d hd => post_ok ?_) (frzL_ok (allT_ok (mapT_mem fun _ _ => rfl) ?_))⟩
  · bv_omega
    obtain ⟨q, h1, h2⟩ := hk d hd
    subst h2
    rw [name_ok q.1 (hp.nm q h1)]; exact ⟨rfl, rfl⟩
  · bv_omega
    refine p_keys rfl ⟨lim16 (by simp only [plD, List.length_map]; exact hp.len), p_compL (F := fun _ => .bl true) (fun d hd => post_ok ?_) (frzL_ok (allT_ok (mapT_mem fun _ _ => rfl) ⟨rfl, rfl⟩))⟩
    bv_omega
    obtain ⟨q, h1, h2⟩ := hk d hd
    subst h2
    obtain ⟨z, hz⟩ := mem_look (List.mem_map.mpr ⟨q, h1, rfl⟩ : q.1 ∈ p.map (·.1))
    refine p_ixD rfl ⟨ptD z, by rw [val_look, hz]; rfl, ?_⟩
    bv_omega
    have hm := hp.pt _ (look_mem hz)
    show Post (m_is_point [.tup [.int z.1, .int z.2]] G) _
    rw [point_ok z.1 z.2 G hm]; exact ⟨rfl, rfl⟩
end K10

set_option Elab.async false
set_option linter.all false
set_option maxRecDepth 100000
set_option maxHeartbeats 4000000
/-! The plain law of k10, 3: roads that can be; look_web. -/
namespace K10
open PySem Gh
/-- how far -/
def far (a b : Int × Int) : Int := (if a.1 - b.1 < 0 then -(a.1 - b.1) else a.1 - b.1) + (if a.2 - b.2 < 0 then -(a.2 - b.2) else a.2 - b.2)
structure RdOk (p : Pls) (q : Str × Str × Bool) (a b : Int × Int) : Prop where
  la : look p q.1 = some a
  lb : look p q.2.1 = some b
  ne : ¬ (a.1 = b.1 ∧ a.2 = b.2)
  st : a.1 = b.1 ∨ a.2 = b.2
theorem eqPt {a b : Int × Int} : eqB (ptD a) (ptD b) = (decide (a.1 = b.1) && decide (a.2 = b.2)) := by
  have e : ∀ i j : Int, (i == j) = decide (i = j) := fun i j => by by_cases h : i = j <;> simp [h]
  simp [ptD, eqB, eqL, e]
theorem nePt_ok {a b : Int × Int} {G : GH} {P : D → GH → Prop} (q : P (.bl !(decide (a.1 = b.1) && decide (a.2 = b.2))) G) : Post (oNe (ptD a) (ptD b) G) P := by
  have h : (pn 60 (view G (ptD a)) && pn 60 (view G (ptD b))) = true := by simp [ptD, view, pn, pnL]
  have e := @eqPt a b
  unfold oNe oEqN
  rw [if_pos h]
  simp only [if_true]
  rw [show view G (ptD a) = ptD a from rfl, show view G (ptD b) = ptD b from rfl, e]
  exact q
theorem road_ok (p : Pls) (hp : PlOk p) (q : Str × Str × Bool) (a b : Int × Int) (h : RdOk p q a b) (G : GH) : m_is_road [.dic (plD p), rdD1 q] G = .ok (.bl true) G := by
  refine post_ok ?_
  have va : valD (plD p) (.inr q.1) = some (ptD a) := by rw [val_look, h.la]; rfl
  have vb : valD (plD p) (.inr q.2.1) = some (ptD b) := by rw [val_look, h.lb]; rfl
  unfold m_is_road b_is_road rdD1
  refine p_def rfl ?_
  bv_omega
  refine .inr ⟨_, rfl, (by show 2 < 100000; decide), p_compL (F := fun _ => .bl true) (fun d hd => post_ok ?_) (frzL_ok (allT_ok (mapT_mem fun _ _ => rfl) ?_))⟩
  · have hd' : d = .str q.1 ∨ d = .str q.2.1 := by
      have : d ∈ [D.str q.1, D.str q.2.1] := hd
      simpa using this
    bv_omega
    rcases hd' with e | e
    · subst e
      refine Post.of_eq (name_ok q.1 (hp.nm _ (look_mem h.la)) G) ?_
      bv_omega
      refine inD_ok rfl ?_
      rw [va]; exact ⟨rfl, rfl⟩
    · subst e
      refine Post.of_eq (name_ok q.2.1 (hp.nm _ (look_mem h.lb)) G) ?_
      bv_omega
      refine inD_ok rfl ?_
      rw [vb]; exact ⟨rfl, rfl⟩
  bv_omega
  refine p_ixD rfl ⟨_, va, ?_⟩
  bv_omega
  refine p_ixD rfl ⟨_, vb, ?_⟩
  bv_omega
  refine ⟨_, _, rfl, ?_⟩
  bv_omega
  have hne : eqB (ptD a) (ptD b) = false := by
    rw [eqPt]
    cases e1 : decide (a.1 = b.1) <;> cases e2 : decide (a.2 = b.2) <;> simp_all
    exact (h.ne ⟨e1, e2⟩).elim
  refine nePt_ok ⟨_, rfl, p_ifT (by rw [← eqPt, hne]; rfl) ?_⟩
  unfold ptD
  bv_omega
  refine ite_same (fun _ => ⟨rfl, rfl⟩) fun e1 => ?_
  bv_omega
  have e2 : a.2 = b.2 := h.st.resolve_left (by simpa using e1)
  exact ⟨by rw [decide_eq_true e2], rfl⟩
theorem long_ok (p : Pls) (r : Rds) (k : Nat) (q : Str × Str × Bool) (a b : Int × Int) (hk : r[k]? = some q) (h : RdOk p q a b) (G : GH) : m_long_of [.tup [.dic (plD p), .lst (rdD r)], .int k] G = .ok (.int (far a b)) G := by
  refine post_ok ?_
  have va : valD (plD p) (.inr q.1) = some (ptD a) := by rw [val_look, h.la]; rfl
  have vb : valD (plD p) (.inr q.2.1) = some (ptD b) := by rw [val_look, h.lb]; rfl
  have hl : k < r.length := (List.getElem?_eq_some_iff.mp hk).1
  have hr : L2.atI (rdD r) (k : Int) = some (rdD1 q) := by
    rw [atI_in _ _ (by omega) (by simp only [rdD, List.length_map]; omega)]
    simp [rdD, hk]
  unfold m_long_of b_long_of
  refine p_def rfl ?_
  bv_omega
  refine p_ixL rfl ⟨_, hr, ?_⟩
  unfold rdD1
  bv_omega
  refine p_ixD rfl ⟨_, va, ?_⟩
  bv_omega
  refine p_ixL rfl ⟨_, hr, ?_⟩
  unfold rdD1
  bv_omega
  refine p_ixD rfl ⟨_, vb, ?_⟩
  bv_omega
  refine ⟨_, _, rfl, ?_⟩
  unfold ptD
  bv_omega
  exact ⟨rfl, rfl⟩
end K10

set_option Elab.async false
set_option linter.all false
set_option maxRecDepth 100000
set_option maxHeartbeats 4000000
/-! The plain law of k10, 4: look_web. -/
namespace K10
open PySem Gh
theorem lim16' {n : Nat} (h : n ≤ 20) : n < LIM := Nat.lt_of_le_of_lt h (by decide)
def rfar (p : Pls) (q : Str × Str × Bool) : Int := match look p q.1, look p q.2.1 with
  | some a, some b => far a b
  | _, _ => 0
def total (p : Pls) (r : Rds) : Int := (r.map (rfar p)).sum
structure Web (p : Pls) (r : Rds) : Prop where
  pl : PlOk p
  lo : 1 ≤ r.length
  hi : r.length ≤ 20
  rd : ∀ q ∈ r, ∃ a b, RdOk p q a b
  to : total p r ≤ 100
theorem rfar_eq {p : Pls} {q : Str × Str × Bool} {a b : Int × Int} (h : RdOk p q a b) : rfar p q = far a b := by
  unfold rfar
  rw [h.la, h.lb]
theorem ints_map : ∀ ns : List Int, intsOf (ns.map D.int) = some ns
  | [] => rfl
  | n :: ns => by simp [intsOf, ints_map ns]
def roadF (p : Pls) (r : Rds) : D → D
  | .int k => .int ((r[k.toNat]?).elim 0 (rfar p))
  | d => d
theorem upto_roads (p : Pls) (r : Rds) : (upto 0 r.length).map (roadF p r) = (r.map (rfar p)).map D.int := by
  apply List.ext_getElem?
  intro i
  by_cases h : i < r.length
  · simp [upto, h, roadF]
  · simp [upto, h]
theorem sum_ok {ns : List Int} {G : GH} {P : D → GH → Prop} (q : P (.int ns.sum) G) : Post (oSum (.lst (ns.map D.int)) G) P := by
  show Post (ofO ((intsOf (ns.map D.int)).map fun ns => .int ns.sum) G) P
  rw [ints_map]
  exact q
theorem look_tail (p : Pls) (r : Rds) (h : Web p r) (G : GH) : Post ((sIf (mB (mOp oGt (mUn oSum (mFz (fComp (mComp (mRng1 (mCons (mUn oLen (mOp oIx (mVarO 0) (mC (.int 1)))) mNil)) (gN 1) mYes (mCall m_long_of (mCons (mVar 0) (mCons (mVar 1) mNil))) [1])))) (mC (.int 100)))) sNever sNext) (Gh.start 2 [.tup [.dic (plD p), .lst (rdD r)]]) G) fun fl G1 => match fl with
    | .rt d => d = .non ∧ G1 = G
    | .nx _ => D.non = .non ∧ G1 = G
    | _ => False := by
  have hlen : (rdD r).length = r.length := by simp [rdD]
  bv_omega
  with_reducible refine p_rng1 ?_
  bv_omega
  have hb := h.hi
  refine ⟨by omega, by omega, lim16' (by simp [upto]; rw [hlen]; exact h.hi), ?_⟩
  have hlen2 : ((rdD r).length : Int).toNat = r.length := by rw [hlen]; omega
  rw [show ((rdD r).length : Int).toNat = r.length by rw [hlen]; omega]
  refine p_compL (F := roadF p r) (fun d hd => post_ok ?_) (frzL_ok ?_)
  · bv_omega
    obtain ⟨i, hi, rfl⟩ := List.mem_map.mp hd
    have hi' : i < r.length := List.mem_range.mp hi
    obtain ⟨a, b, hab⟩ := h.rd r[i] (List.getElem_mem _)
    have e := long_ok p r i r[i] a b (List.getElem?_eq_getElem hi') hab G
    rw [show (0 : Int) + (i : Int) = (i : Int) by omega]
    refine Post.of_eq e ⟨?_, rfl⟩
    simp [roadF, hi', rfar_eq hab]
  · rw [upto_roads]
    refine sum_ok ?_
    bv_omega
    have ht : ¬ ((100 : Int) < total p r) := by have := h.to; omega
    show if decide ((100 : Int) < total p r) = true then _ else _
    rw [decide_eq_false ht]
    bv_omega
    exact ⟨rfl, rfl⟩
theorem look_ok (p : Pls) (r : Rds) (h : Web p r) (G : GH) : m_look_web [.tup [.dic (plD p), .lst (rdD r)]] G = .ok .non G := by
  refine post_ok ?_
  have hlen : (rdD r).length = r.length := by simp [rdD]
  unfold m_look_web b_look_web
  refine p_def rfl ?_
  bv_omega
  refine Post.of_eq (places_ok p h.pl G) ?_
  bv_omega
  have h1 : (1 : Int) ≤ ((rdD r).length : Int) := by rw [hlen]; have := h.lo; omega
  have h2 : ((rdD r).length : Int) ≤ 20 := by rw [hlen]; have := h.hi; omega
  rw [decide_eq_true h1]
  bv_omega
  rw [decide_eq_true h2]
  bv_omega
  refine .inl ⟨_, rfl, lim16' (by rw [hlen]; exact h.hi), p_compL (F := fun _ => .bl true) (fun d hd => post_ok ?_) (frzL_ok (allT_ok (mapT_mem fun _ _ => rfl) ?_))⟩
  · bv_omega
    obtain ⟨q, hq, rfl⟩ := List.mem_map.mp hd
    obtain ⟨a, b, hab⟩ := h.rd q hq
    exact Post.of_eq (road_ok p h.pl q a b hab G) ⟨rfl, rfl⟩
  with_reducible refine truB_ok ?_
  with_reducible refine p_ifF ?_ ?_
  · rfl
  with_reducible refine p_next ?_
  dsimp only
  with_reducible refine Post.mono (look_tail p r h G) fun fl G1 z => ?_
  cases fl <;> exact z
end K10

set_option Elab.async false
set_option linter.all false
set_option maxRecDepth 100000
set_option maxHeartbeats 4000000
/-! The plain law of k10. -/
namespace K10
open PySem Gh
/-! ### dicts of places -/
def itD (p : Pls) : List D := p.map fun q => .tup [.str q.1, ptD q.2]
theorem items_eq (p : Pls) : (plD p).map (fun kv => D.tup [keyD kv.1, kv.2]) = itD p := by
  simp [plD, itD, keyD, ptD]
theorem pairs_eq : ∀ p : Pls, pairsOf (itD p) = some (plD p)
  | [] => rfl
  | q :: r => by
    have ih := pairs_eq r
    simp only [itD, List.map_cons, plD] at ih ⊢
    simp only [pairsOf, keyOf, ih]
    rfl
section
variable {κ : Type} [DecidableEq κ]
theorem putKD_new (kvs : List (κ × D)) (k : κ) (v : D) (h : k ∉ kvs.map (·.1)) : putKD kvs k v = kvs ++ [(k, v)] := by
  unfold putKD
  rw [if_neg]
  intro z
  simp only [List.any_eq_true, decide_eq_true_eq] at z
  obtain ⟨kv, h1, h2⟩ := z
  exact h (List.mem_map.mpr ⟨kv, h1, h2⟩)
theorem merge_new : ∀ (more acc : List (κ × D)), ((acc ++ more).map (·.1)).Nodup → mergeD acc more = acc ++ more
  | [], acc, _ => by simp [mergeD]
  | kv :: r, acc, h => by
    have hn : kv.1 ∉ acc.map (·.1) := by
      intro z
      simp only [List.map_append, List.map_cons] at h
      have := (List.nodup_append.mp h).2.2 _ z _ (List.mem_cons_self)
      exact this rfl
    unfold mergeD
    rw [List.foldl_cons, putKD_new acc kv.1 kv.2 hn]
    have := merge_new r (acc ++ [kv]) (by simpa using h)
    unfold mergeD at this
    rw [this]; simp
end
theorem merge_pl {p : Pls} (h : (p.map (·.1)).Nodup) : mergeD [] (plD p) = plD p := by
  rw [merge_new]
  · rfl
  · have e : ((([] : List (L2.Key × D)) ++ plD p).map (·.1)) = (p.map (·.1)).map Sum.inr := by simp [plD]
    rw [e]
    exact List.Pairwise.map _ (fun a b hab z => hab (Sum.inr.inj z)) h
section
variable {P : D → GH → Prop} {Pc : Cell → GH → Prop} {ρ : En} {G : GH} {f : EF}
theorem p_dictZ {p : Pls} (hn : (p.map (·.1)).Nodup) (h : Post (f ρ G) fun d G1 => d = .tpz (itD p) ∧ Pc (.dic (plD p)) G1) : Post (fDict f ρ G) Pc := by
  refine Post.bind.mpr (h.mono fun d G1 ⟨e1, q⟩ => ?_)
  subst e1
  simp only [view, pairs_eq, merge_pl hn]
  exact q
theorem p_dictD (h : Post (f ρ G) fun d G1 => ∃ kvs, d = .dic kvs ∧ Pc (.dic kvs) G1) : Post (fDict f ρ G) Pc := by
  refine Post.bind.mpr (h.mono fun d G1 ⟨kvs, e1, q⟩ => ?_)
  subst e1
  exact q
theorem p_listT (h : Post (f ρ G) fun d G1 => ∃ xs, d = .tup xs ∧ Pc (.lst xs) G1) : Post (fList f ρ G) Pc := by
  refine Post.bind.mpr (h.mono fun d G1 ⟨kvs, e1, q⟩ => ?_)
  subst e1
  exact q
theorem p_listL (h : Post (f ρ G) fun d G1 => ∃ xs, d = .lst xs ∧ Pc (.lst xs) G1) : Post (fList f ρ G) Pc := by
  refine Post.bind.mpr (h.mono fun d G1 ⟨kvs, e1, q⟩ => ?_)
  subst e1
  exact q
theorem itemsPl_ok {p : Pls} (q : P (.tpz (itD p)) G) : Post (oItems (.dic (plD p)) G) P := by
  unfold oItems
  simp only [view, items_eq]
  exact q
theorem tupL_ok {xs : List D} (q : P (.tup xs) G) : Post (oTuple (.lst xs) G) P := q
theorem addT_ok {xs ys : List D} (h : xs.length + ys.length ≤ 1000) (q : P (.tup (xs ++ ys)) G) : Post (oAdd (.tup xs) (.tup ys) G) P := by
  show Post (if _ then _ else _) P
  rw [if_pos (Nat.le_trans h (by decide))]; exact q
theorem addL_ok {xs ys : List D} (h : xs.length + ys.length ≤ 1000) (q : P (.lst (xs ++ ys)) G) : Post (oAdd (.lst xs) (.lst ys) G) P := by
  show Post (if _ then _ else _) P
  rw [if_pos (Nat.le_trans h (by decide))]; exact q
theorem any_int (i : Int) : ∀ sh : List Int, ((sh.map D.int).any fun z => eqB z (.int i)) = decide (i ∈ sh)
  | [] => rfl
  | j :: r => by
    have ih := any_int i r
    simp only [List.map_cons, List.any_cons, ih, eqB]
    by_cases h : j = i
    · simp [h]
    · simp [h, Ne.symm h]
theorem flat_ints (sh : List Int) : (sh.map D.int).all flatD = true := by
  simp [flatD]
theorem pnL_ints (n : Nat) : ∀ sh : List Int, pnL n (sh.map D.int) = true
  | [] => by simp [pnL]
  | j :: r => by simp [pnL, pn, pnL_ints n r]
theorem inT_ok {sh : List Int} {i : Int} (q : P (.bl (decide (i ∈ sh))) G) : Post (oIn (.int i) (.tup (sh.map D.int)) G) P := by
  unfold oIn oInN
  simp only [view, flatD, flat_ints, Bool.and_self, if_true, any_int, Bool.false_eq_true, if_false]
  exact q
theorem ninT_ok {sh : List Int} {i : Int} (q : P (.bl (!decide (i ∈ sh))) G) : Post (oNotIn (.int i) (.tup (sh.map D.int)) G) P := by
  unfold oNotIn oInN
  simp only [view, flatD, flat_ints, Bool.and_self, if_true, any_int]
  exact q
theorem ninL_ok {sh : List Int} {i : Int} (q : P (.bl (!decide (i ∈ sh))) G) : Post (oNotIn (.int i) (.lst (sh.map D.int)) G) P := by
  unfold oNotIn oInN
  simp only [view, pn, pnL_ints, Bool.and_self, if_true, any_int]
  exact q
theorem p_sortT (h : Post (f ρ G) fun d G1 => ∃ ns, d = .tup (ns.map D.int) ∧ Pc (.lst ((sortI ns).map D.int)) G1) : Post (fSortI f ρ G) Pc := by
  refine Post.bind.mpr (h.mono fun d G1 ⟨ns, e1, q⟩ => ?_)
  subst e1
  simp only [view, ints_map]
  exact q
theorem p_sortL (h : Post (f ρ G) fun d G1 => ∃ ns, d = .lst (ns.map D.int) ∧ Pc (.lst ((sortI ns).map D.int)) G1) : Post (fSortI f ρ G) Pc := by
  refine Post.bind.mpr (h.mono fun d G1 ⟨ns, e1, q⟩ => ?_)
  subst e1
  simp only [view, ints_map]
  exact q
end
theorem rdD_len (r : Rds) : (rdD r).length = r.length := by simp [rdD]
theorem rd_at {r : Rds} {i : Nat} {q : Str × Str × Bool} (h : r[i]? = some q) : L2.atI (rdD r) (i : Int) = some (rdD1 q) := by
  have hl : i < r.length := (List.getElem?_eq_some_iff.mp h).1
  rw [atI_in _ _ (by omega) (by rw [rdD_len]; omega)]
  simp [rdD, h]
theorem pn_str {w : Str} (h : PyData.strOk w = true) : pn 60 (.str w) = true := by simpa [pn] using h
end K10

set_option Elab.async false
set_option linter.all false
set_option maxRecDepth 100000
set_option maxHeartbeats 4000000
/-! The plain law of k10, 8: the web that the law draws, piece by piece. -/
namespace K10
open PySem Gh
abbrev Pt := Int × Int
def ptsD (pts : List Pt) : List D := pts.map ptD
theorem eqPt' (a b : Pt) : eqB (ptD a) (ptD b) = decide (a = b) := by
  rw [eqPt]
  obtain ⟨a1, a2⟩ := a
  obtain ⟨b1, b2⟩ := b
  by_cases h1 : a1 = b1 <;> by_cases h2 : a2 = b2 <;> simp [h1, h2]
theorem any_pt (v : Pt) : ∀ pts : List Pt, ((ptsD pts).any fun z => eqB z (ptD v)) = decide (v ∈ pts)
  | [] => rfl
  | u :: r => by
    have ih := any_pt v r
    simp only [ptsD, List.map_cons, List.any_cons] at ih ⊢
    rw [ih, eqPt']
    by_cases h : u = v
    · simp [h]
    · simp [h, Ne.symm h]
theorem pn_pt (n : Nat) (v : Pt) : pn (n + 1) (ptD v) = true := by simp [ptD, pn, pnL]
theorem pnL_pts (n : Nat) : ∀ pts : List Pt, pnL (n + 1) (ptsD pts) = true
  | [] => by simp [ptsD, pnL]
  | u :: r => by
    have ih := pnL_pts n r
    simp only [ptsD, List.map_cons, pnL] at ih ⊢
    rw [ih, pn_pt]; rfl
theorem ninPts_ok {G : GH} {P : D → GH → Prop} {pts : List Pt} {v : Pt} (q : P (.bl (!decide (v ∈ pts))) G) : Post (oNotIn (ptD v) (.lst (ptsD pts)) G) P := by
  unfold oNotIn oInN
  simp only [view, pnL_pts 58, pn_pt 59, Bool.and_self, if_true, any_pt]
  exact q
theorem find_pt (v : Pt) : ∀ pts : List Pt, v ∈ pts → ∃ j : Nat, findD (ptD v) (ptsD pts) = some j ∧ pts[j]? = some v
  | [], h => by cases h
  | u :: r, h => by
    by_cases e : u = v
    · exact ⟨0, by simp [ptsD, findD, eqPt', e], by simp [e]⟩
    · obtain ⟨j, h1, h2⟩ := find_pt v r ((List.mem_cons.mp h).resolve_left (Ne.symm e))
      simp only [ptsD] at h1
      exact ⟨j + 1, by simp [ptsD, findD, eqPt', e, h1], by simpa using h2⟩
theorem index_ok {ρ : En} {G : GH} {P : D → GH → Prop} {f g : EF} {pts : List Pt} {v : Pt} (hf : f ρ G = .ok (.lst (ptsD pts)) G) (hg : g ρ G = .ok (ptD v) G) (hv : v ∈ pts) (q : ∀ j : Nat, pts[j]? = some v → P (.int j) G) : Post (mIndex f g ρ G) P := by
  obtain ⟨j, h1, h2⟩ := find_pt v pts hv
  unfold mIndex
  rw [hf]
  show Post (if isL (.lst (ptsD pts)) = true then (g ρ G).bind (fun y G2 => oIndex (.lst (ptsD pts)) y G2) else .stuck) P
  rw [if_pos (show isL (.lst (ptsD pts)) = true from rfl), hg]
  show Post (oIndex (.lst (ptsD pts)) (ptD v) G) P
  unfold oIndex
  simp only [view, pnL_pts 58, pn_pt 59, Bool.and_self, if_true, h1]
  exact q j h2
theorem pts_at {pts : List Pt} {i : Int} (h0 : 0 ≤ i) (h1 : i < pts.length) : ∃ v, pts[i.toNat]? = some v ∧ L2.atI (ptsD pts) i = some (ptD v) := by
  have hl : i.toNat < pts.length := by omega
  refine ⟨pts[i.toNat], List.getElem?_eq_getElem hl, ?_⟩
  rw [atI_in _ _ h0 (by simp only [ptsD, List.length_map]; omega)]
  simp [ptsD, hl]
theorem str_at {nm : List Str} {i : Int} (h0 : 0 ≤ i) (h1 : i < nm.length) : ∃ v, nm[i.toNat]? = some v ∧ L2.atI (nm.map D.str) i = some (.str v) := by
  have hl : i.toNat < nm.length := by omega
  refine ⟨nm[i.toNat], List.getElem?_eq_getElem hl, ?_⟩
  rw [atI_in _ _ h0 (by simp only [List.length_map]; omega)]
  simp [hl]
section
variable {G : GH} {P : D → GH → Prop}
theorem ixP0_ok {u : Pt} (q : P (.int u.1) G) : Post (oIx (ptD u) (.int 0) G) P := ix0_ok q
theorem ixP1_ok {u : Pt} (q : P (.int u.2) G) : Post (oIx (ptD u) (.int 1) G) P := ix1_ok q
theorem ixA_ok {xs : List D} {i : Int} {x : D} (h : L2.atI xs i = some x) (q : P x G) : Post (oIx (.lst xs) (.int i) G) P := p_ixL rfl ⟨_, h, q⟩
theorem ixAT_ok {xs : List D} {i : Int} {x : D} (h : L2.atI xs i = some x) (q : P x G) : Post (oIx (.tup xs) (.int i) G) P := p_ixT ⟨_, h, q⟩
theorem ixK_ok {kvs : List (L2.Key × D)} {k : Str} {x : D} (h : valD kvs (.inr k) = some x) (q : P x G) : Post (oIx (.dic kvs) (.str k) G) P := p_ixD rfl ⟨_, h, q⟩
end
theorem small_of {i : Int} (h0 : -1000 < i) (h1 : i < 1000) : smallI i = true := by
  simp only [smallI, Bool.and_eq_true, decide_eq_true_eq]
  constructor
  · exact Int.lt_trans (by decide) h0
  · exact Int.lt_trans h1 (by decide)
theorem minT_ok {G : GH} {P : D → GH → Prop} {u : Pt} (q : P (.int (min u.1 u.2)) G) : Post (oMinT (ptD u) G) P := q
theorem maxT_ok {G : GH} {P : D → GH → Prop} {u : Pt} (q : P (.int (max u.1 u.2)) G) : Post (oMaxT (ptD u) G) P := q
structure NmOk (nm : List Str) : Prop where
  len : nm.length = 8
  nd : nm.Nodup
  sub : ∀ x ∈ nm, x ∈ NAMES
theorem nodup_names : NAMES.Nodup := by decide +kernel
theorem nm_turn (t : Nat) : NmOk (NAMES.drop t ++ NAMES.take t) := by
  have hp : (NAMES.drop t ++ NAMES.take t).Perm NAMES := by
    have := List.perm_append_comm (l₁ := NAMES.drop t) (l₂ := NAMES.take t)
    rw [List.take_append_drop] at this
    exact this
  exact ⟨hp.length_eq, hp.nodup_iff.mpr nodup_names, fun x hx => hp.mem_iff.mp hx⟩
theorem cut_turn (l : List Str) (t : Nat) (ht : t ≤ l.length) : cutD (l.map D.str) (some (t : Int)) none ++ cutD (l.map D.str) none (some (t : Int)) = (l.drop t ++ l.take t).map D.str := by
  unfold cutD
  rw [HT.sIx_none, HT.sIx_nat, HT.sIx_none, HT.sIx_nat, List.length_map, Nat.min_eq_left ht]
  rw [List.take_of_length_le (l := List.drop t (List.map D.str l)) (by simp)]
  simp
/-- a road between points of a row -/
def Rd1 (nm : List Str) (pts : List Pt) (q : Str × Str × Bool) : Prop := ∃ (a b : Nat) (A B : Pt), nm[a]? = some q.1 ∧ nm[b]? = some q.2.1 ∧ pts[a]? = some A ∧ pts[b]? = some B ∧ ¬ (A.1 = B.1 ∧ A.2 = B.2) ∧ (A.1 = B.1 ∨ A.2 = B.2) ∧ far A B ≤ 6
theorem Rd1.more {nm : List Str} {pts : List Pt} {q : Str × Str × Bool} (v : Pt) (h : Rd1 nm pts q) : Rd1 nm (pts ++ [v]) q := by
  obtain ⟨a, b, A, B, h1, h2, h3, h4, h5⟩ := h
  refine ⟨a, b, A, B, h1, h2, ?_, ?_, h5⟩
  · rw [List.getElem?_append_left (List.getElem?_eq_some_iff.mp h3).1]; exact h3
  · rw [List.getElem?_append_left (List.getElem?_eq_some_iff.mp h4).1]; exact h4
def inR (v : Pt) : Prop := 0 ≤ v.1 ∧ v.1 ≤ 60 ∧ 0 ≤ v.2 ∧ v.2 ≤ 60
structure PtsOk (pts : List Pt) : Prop where
  lo : 1 ≤ pts.length
  hi : pts.length ≤ 8
  rg : ∀ v ∈ pts, inR v
/-! ### from points to a web -/
def zipP (nm : List Str) (pts : List Pt) : Pls := nm.zip pts
theorem look_zip {n : Str} : ∀ {nm : List Str} {pts : List Pt} {a : Nat} {A : Pt}, nm.Nodup → nm[a]? = some n → pts[a]? = some A → look (zipP nm pts) n = some A
  | [], _, a, A, _, h, _ => by simp at h
  | m :: nm, [], a, A, _, _, h => by simp at h
  | m :: nm, u :: pts, 0, A, _, h, h' => by
    simp at h h'
    subst h; subst h'
    simp [look, zipP, List.find?_cons]
  | m :: nm, u :: pts, a + 1, A, hn, h, h' => by
    simp at h h'
    have hm : ¬ m = n := by
      intro e; subst e
      exact (List.nodup_cons.mp hn).1 (List.mem_of_getElem? h)
    have := look_zip (List.nodup_cons.mp hn).2 h h'
    simpa [look, zipP, List.find?_cons, hm] using this
theorem zip_names {nm : List Str} {pts : List Pt} (h : pts.length ≤ nm.length) : (zipP nm pts).map (·.1) = nm.take pts.length := by
  unfold zipP
  induction nm generalizing pts with
  | nil => simp
  | cons m nm ih =>
    cases pts with
    | nil => simp
    | cons u pts => simpa using ih (by simpa using h)
theorem far_comm (A B : Pt) : far A B = far B A := by
  unfold far; split <;> split <;> split <;> split <;> omega
theorem web_of {nm : List Str} {pts : List Pt} {rds : Rds} (hn : NmOk nm) (hp : PtsOk pts) (h1 : 1 ≤ rds.length) (h2 : rds.length ≤ 16) (hr : ∀ q ∈ rds, Rd1 nm pts q) : Web (zipP nm pts) rds ∧ ((zipP nm pts).map (·.1)).Nodup := by
  have rdok : ∀ q ∈ rds, ∃ A B, RdOk (zipP nm pts) q A B ∧ far A B ≤ 6 := fun q hq => by
    obtain ⟨a, b, A, B, e1, e2, e3, e4, e5, e6, e7⟩ := hr q hq
    exact ⟨A, B, ⟨look_zip hn.nd e1 e3, look_zip hn.nd e2 e4, e5, e6⟩, e7⟩
  refine ⟨⟨⟨?_, ?_, ?_⟩, h1, by omega, fun q hq => ?_, ?_⟩, ?_⟩
  · have := hp.hi
    simp only [zipP, List.length_zip]; omega
  · intro q hq
    exact hn.sub _ (List.of_mem_zip hq).1
  · intro q hq
    exact hp.rg _ (List.of_mem_zip hq).2
  · obtain ⟨A, B, h, _⟩ := rdok q hq
    exact ⟨A, B, h⟩
  · have key : ∀ l : Rds, (∀ q ∈ l, ∃ A B, RdOk (zipP nm pts) q A B ∧ far A B ≤ 6) → total (zipP nm pts) l ≤ 6 * l.length := by
      intro l
      induction l with
      | nil => intro _; simp [total]
      | cons q l ih =>
        intro h
        obtain ⟨A, B, h3, h4⟩ := h q List.mem_cons_self
        have := ih fun q' hq' => h q' (List.mem_cons_of_mem _ hq')
        unfold total at this ⊢
        rw [List.map_cons, List.sum_cons, rfar_eq h3, List.length_cons]
        omega
    have := key rds rdok
    omega
  · rw [zip_names (by rw [hn.len]; exact hp.hi)]
    exact hn.nd.sublist (List.take_sublist _ _)
end K10

set_option Elab.async false
set_option linter.all false
set_option maxRecDepth 100000
set_option maxHeartbeats 4000000
/-! The plain law of k10, 9: the web that the law draws: the loop. -/
local macro_rules | `(tactic| array_mem_dec) => `(tactic| (repeat (first | with_reducible refine p_seq ?_ | with_reducible refine p_asg ?_ | with_reducible refine p_ret ?_ | with_reducible refine p_drop ?_ | with_reducible refine p_op ?_ | with_reducible refine p_un ?_ | with_reducible refine p_cons ?_ | with_reducible refine p_nil ?_ | with_reducible refine p_c ?_ | with_reducible refine q_var ?_ | with_reducible refine q_varO ?_ | with_reducible refine p_call ?_ | with_reducible refine p_tup ?_ | with_reducible refine p_lst ?_ | with_reducible refine p_iter ?_ | with_reducible refine p_for ?_ | with_reducible refine p_comp ?_ | with_reducible refine p_fComp ?_ | with_reducible refine p_fLst ?_ | with_reducible refine p_Tru ?_ | with_reducible refine p_B ?_ | with_reducible refine p_And ?_ | with_reducible refine p_Or ?_ | with_reducible refine p_Not ?_ | with_reducible refine p_AndV ?_ | with_reducible refine p_OrV ?_ | with_reducible refine p_NotV ?_ | with_reducible refine p_Chain ?_ | with_reducible refine p_next ?_ | with_reducible refine p_par ?_ | with_reducible refine p_fz ?_ | with_reducible refine add_ok ?_ | with_reducible refine sub_ok ?_ | with_reducible refine lt_ok ?_ | with_reducible refine le_ok ?_ | with_reducible refine gt_ok ?_ | with_reducible refine ge_ok ?_ | with_reducible refine abs_ok ?_ | with_reducible refine lenL_ok ?_ | with_reducible refine lenT_ok ?_ | with_reducible refine lenD_ok ?_ | with_reducible refine min2_ok ?_ | with_reducible refine max2_ok ?_ | with_reducible refine ix0_ok ?_ | with_reducible refine ix1_ok ?_ | with_reducible refine ix2_ok ?_ | with_reducible refine truB_ok ?_ | with_reducible refine eqI_ok ?_ | with_reducible refine neI_ok ?_ | ((with_reducible refine mod_ok ?_ ?_); decide) | ((with_reducible refine div_ok ?_ ?_ ?_); decide; decide) | with_reducible refine q_isi ?_ | with_reducible refine isN_ok ?_ | with_reducible refine isT_ok ?_ | with_reducible refine isB_ok ?_ | with_reducible refine p_sl ?_ | with_reducible refine p_noP ?_ | with_reducible refine p_P ?_ | with_reducible refine slT_ok ?_ | with_reducible refine slL_ok ?_ | with_reducible refine frzL_ok ?_ | with_reducible refine frzD_ok ?_ | ((with_reducible refine p_ifT ?_ ?_); exact rfl) | ((with_reducible refine p_ifF ?_ ?_); exact rfl) | ((with_reducible show Exists _); refine ⟨_, rfl, ?_⟩) | ((with_reducible refine isx_ok (b := true) ?_ ?_); exact rfl) | ((with_reducible refine isx_ok (b := false) ?_ ?_); exact rfl) | with_reducible refine p_raise ?_ | with_reducible refine ixP0_ok ?_ | with_reducible refine ixP1_ok ?_ | with_reducible refine ixA_ok (by assumption) ?_ | with_reducible refine ixAT_ok (by assumption) ?_ | with_reducible refine ixK_ok (by assumption) ?_ | ((with_reducible refine (And.intro ?_ ?_ : List.length _ ≤ LIM ∧ _)); exact Nat.le_of_ble_eq_true rfl) | ((with_reducible refine d_now (by assumption) ?_ ?_); exact rfl) | ((with_reducible refine d_meth (by assumption) ?_ ?_ ?_); exact rfl; exact rfl))))
namespace K10
open PySem Gh
noncomputable def bodyW : SF := (sSeq (sAsg (mCall m__law_draw (mCons (mVar 0) (mCons (mVar 1) (mCons (mUn oLen (mVarO 6)) mNil)))) (gN 9))
  (sSeq (sAsg (mCall m__law_pick (mCons (mVar 0) (mCons (mVar 1) (mCons (mLst (mCons (mTup (mCons (mC (.int 1)) (mCons (mC (.int 0)) mNil))) (mCons (mTup (mCons (mC (.int 0)) (mCons (mC (.int 1)) mNil))) (mCons (mTup (mCons (mOp oSub (mC (.int 0)) (mC (.int 1))) (mCons (mC (.int 0)) mNil))) (mCons (mTup (mCons (mC (.int 0)) (mCons (mOp oSub (mC (.int 0)) (mC (.int 1))) mNil))) mNil))))) mNil)))) (gN 10))
  (sSeq (sAsg (mOp oAdd (mC (.int 1)) (mCall m__law_draw (mCons (mVar 0) (mCons (mVar 1) (mCons (mVar 3) mNil))))) (gN 11))
  (sSeq (sAsg (mTup (mCons (mOp oAdd (mOp oIx (mOp oIx (mVarO 6) (mVarO 9)) (mC (.int 0))) (mOp oMul (mOp oIx (mVarO 10) (mC (.int 0))) (mVarO 11))) (mCons (mOp oAdd (mOp oIx (mOp oIx (mVarO 6) (mVarO 9)) (mC (.int 1))) (mOp oMul (mOp oIx (mVarO 10) (mC (.int 1))) (mVarO 11))) mNil))) (gN 12))
  (sSeq (sIf (mOr (mB (mOp oLt (mUn oMinT (mVarO 12)) (mC (.int 0)))) (mOr (mB (mOp oGt (mUn oMaxT (mVarO 12)) (mC (.int 60)))) (mAnd (mB (mOp oEq (mUn oLen (mVarO 6)) (mC (.int 8)))) (mB (mOp oNotIn (mVarO 12) (mVarO 6))))))
  (sAsg (mTup (mCons (mOp oIx (mOp oIx (mVarO 6) (mVarO 9)) (mC (.int 0))) (mCons (mOp oMod (mOp oAdd (mOp oIx (mOp oIx (mVarO 6) (mVarO 9)) (mC (.int 1))) (mC (.int 1))) (mC (.int 61))) mNil))) (gN 12))
  sNext)
  (sSeq (sIf (mOr (mB (mOp oGt (mUn oAbs (mOp oSub (mOp oIx (mVarO 12) (mC (.int 1))) (mOp oIx (mOp oIx (mVarO 6) (mVarO 9)) (mC (.int 1))))) (mC (.int 59)))) (mAnd (mB (mOp oEq (mUn oLen (mVarO 6)) (mC (.int 8)))) (mB (mOp oNotIn (mVarO 12) (mVarO 6)))))
  sCont
  sNext)
  (sSeq (sIf (mB (mOp oNotIn (mVarO 12) (mVarO 6)))
  (sAppO 6 (mVar 12))
  sNext)
  (sSeq (sAsg (mTup (mCons (mOp oIx (mVarO 4) (mVarO 9)) (mCons (mOp oIx (mVarO 4) (mIndex (mVarO 6) (mVarO 12))) mNil))) (gN 13))
  (sAppO 7 (mOp oAdd (mIf (mB (mOp oEq (mCall m__law_draw (mCons (mVar 0) (mCons (mVar 1) (mCons (mC (.int 2)) mNil)))) (mC (.int 0)))) (mVar 13) (mUn oRevT (mVarO 13))) (mTup (mCons (mOp oEq (mCall m__law_draw (mCons (mVar 0) (mCons (mVar 1) (mCons (mC (.int 4)) mNil)))) (mC (.int 0))) mNil))))))))))))
def envW (ns : List Int) (mo fa : Int) (nm : List Str) (t : Int) (pts : List Pt) (rds : Rds) (a b c d e f : Option SV) : En := [some (.v (.scr ns)), some (.v (.cel 0)), some (.v (.int mo)), some (.v (.int fa)), some (.v (.lst (nm.map D.str))), some (.v (.int t)), some (.own (.lst (ptsD pts))), some (.own (.lst (rdD rds))), a, b, c, d, e, f]
/-- the town alone -/
def T1 (G : GH) (n : Nat) : Prop := G.length = 1 ∧ Tw G n
theorem draw1 (ns : List Int) (G : GH) (n : Nat) (many : Int) (hT : T1 G n) (hn : n < 90000) (hm : 0 < many) :
    Post (m__law_draw [.scr ns, .cel 0, .int many] G) fun d G1 => T1 G1 (n + 1) ∧ ∃ r : Int, d = .int r ∧ 0 ≤ r ∧ r < many :=
  (draw_ok ns G n many hT.2 hn hm).mono fun d G1 ⟨⟨x, h1⟩, h2, h3⟩ => ⟨⟨by rw [h1, List.length_set]; exact hT.1, h2⟩, h3⟩
theorem pick1 (ns : List Int) (G : GH) (n : Nat) (xs : List D) (hT : T1 G n) (hn : n < 90000) (hx : xs ≠ []) :
    Post (m__law_pick [.scr ns, .cel 0, .lst xs] G) fun d G1 => T1 G1 (n + 1) ∧ d ∈ xs :=
  (pick_ok ns G n xs hT.2 hn hx).mono fun d G1 ⟨⟨x, h1⟩, h2, h3⟩ => ⟨⟨by rw [h1, List.length_set]; exact hT.1, h2⟩, h3⟩
structure LoopW (ns : List Int) (mo fa : Int) (nm : List Str) (t : Int) (k : Nat) (ρ : En) (G : GH) (pts : List Pt) (rds : Rds) : Prop where
  en : ∃ a b c d e f, ρ = envW ns mo fa nm t pts rds a b c d e f
  pt : PtsOk pts
  rd : ∀ q ∈ rds, Rd1 nm pts q
  rl : rds.length ≤ k
  tw : ∃ n, T1 G n ∧ n ≤ 24 + 5 * k
theorem bodyW_ok {ns : List Int} {mo fa : Int} (hfa : 1 ≤ fa ∧ fa ≤ 6) {nm : List Str} {t : Int} {k : Nat} {ρ : En} {G : GH} {pts : List Pt} {rds : Rds} (hn : NmOk nm) (hk : k < 100) (h : LoopW ns mo fa nm t k ρ G pts rds) (z : D) :
    Post (bodyW (ρ.set 8 (some (.v z))) G) fun fl G3 => match fl with
      | .nx ρ3 => ∃ pts rds, LoopW ns mo fa nm t (k + 1) ρ3 G3 pts rds
      | .ct ρ3 => ∃ pts rds, LoopW ns mo fa nm t (k + 1) ρ3 G3 pts rds
      | _ => False := by
  obtain ⟨⟨a, b, c, d, e, f, rfl⟩, hp, hr, hl, n, ht, hnk⟩ := h
  unfold bodyW
  unfold envW
  bv_omega
  refine (draw1 ns G n _ ht (by omega) ?_).mono fun d1 G1 ⟨t1, at1, e1, a0, a1⟩ => ?_
  · have := hp.lo
    simp only [ptsD, List.length_map]; omega
  subst e1
  bv_omega
  refine (pick1 ns G1 (n + 1) _ t1 (by omega) (by simp)).mono fun dir G2 ⟨t2, hdir⟩ => ?_
  obtain ⟨v, hv1, hv2⟩ := pts_at a0 (show at1 < (pts.length : Int) by simpa [ptsD] using a1)
  have hvr := hp.rg v (List.mem_of_getElem? hv1)
  obtain ⟨u, hu, hdir1⟩ : ∃ u : Pt, dir = ptD u ∧ ((u.1 = 0 ∧ (u.2 = 1 ∨ u.2 = -1)) ∨ (u.2 = 0 ∧ (u.1 = 1 ∨ u.1 = -1))) := by
    simp only [List.mem_cons, List.not_mem_nil, or_false] at hdir
    rcases hdir with h | h | h | h
    · exact ⟨(1, 0), h, by simp⟩
    · exact ⟨(0, 1), h, by simp⟩
    · exact ⟨(0 - 1, 0), h, by simp⟩
    · exact ⟨(0, 0 - 1), h, by simp⟩
  subst hu
  bv_omega
  refine (draw1 ns G2 (n + 1 + 1) fa t2 (by omega) (by omega)).mono fun d3 G3 ⟨t3, by1, e3, b0, b1⟩ => ?_
  subst e3
  bv_omega
  have hb4 : 1 ≤ 1 + by1 ∧ 1 + by1 ≤ 6 := by omega
  generalize hby : 1 + by1 = B at hb4 ⊢
  have sB : smallI B = true := small_of (by omega) (by omega)
  refine mul_ok (by rw [sB]; simp) ?_
  bv_omega
  refine mul_ok (by rw [sB]; simp) ?_
  array_mem_dec
  refine Post.mono (P := fun fl G4 => G4 = G3 ∧ ∃ w : Pt, fl = .nx (envW ns mo fa nm t pts rds (some (.v z)) (some (.v (.int at1))) (some (.v (ptD u))) (some (.v (.int B))) (some (.v (ptD w))) f) ∧ inR w ∧ ((¬ (v.1 = w.1 ∧ v.2 = w.2) ∧ (v.1 = w.1 ∨ v.2 = w.2) ∧ far v w ≤ 6) ∨ (v.1 = w.1 ∧ v.2 = 60 ∧ w.2 = 0))) ?_ fun fl G4 ⟨e1, w, e2, hwr, hw⟩ => ?_
  · generalize hw1 : ((v.1 + u.1 * B, v.2 + u.2 * B) : Pt) = w1
    have hw1' : D.tup [.int (v.1 + u.1 * B), .int (v.2 + u.2 * B)] = ptD w1 := by rw [← hw1]; rfl
    rw [hw1']
    refine p_if ?_
    refine Post.mono (P := fun b G4 => G4 = G3 ∧ (b = false → inR w1)) ?_ fun b G4 ⟨e1, hb⟩ => ?_
    · bv_omega
      refine minT_ok ?_
      bv_omega
      refine ite_same (fun e => ⟨rfl, fun z => by cases z⟩) fun e => ?_
      bv_omega
      refine maxT_ok ?_
      bv_omega
      refine ite_same (fun e => ⟨rfl, fun z => by cases z⟩) fun e' => ?_
      have hin : inR w1 := by
        simp only [decide_eq_false_iff_not] at e e'
        unfold inR; omega
      bv_omega
      refine ite_same (fun e => ?_) fun e => ?_
      · bv_omega
        refine ninPts_ok ?_
        bv_omega
        exact ⟨rfl, fun _ => hin⟩
      · exact ⟨rfl, fun _ => hin⟩
    subst e1
    refine ite_same (fun e => ?_) fun e => ?_
    · bv_omega
      refine ⟨rfl, (v.1, (v.2 + 1) % 61), rfl, ?_, ?_⟩
      · unfold inR at hvr ⊢; dsimp only; omega
      · unfold inR at hvr
        by_cases h60 : v.2 = 60
        · right; dsimp only; omega
        · left
          refine ⟨by dsimp only; omega, by dsimp only; omega, ?_⟩
          unfold far; dsimp only
          split <;> split <;> omega
    · bv_omega
      refine ⟨rfl, w1, rfl, hb e, .inl ?_⟩
      subst hw1
      unfold far
      dsimp only
      rcases hdir1 with ⟨h1, h2 | h2⟩ | ⟨h1, h2 | h2⟩ <;> rw [h1, h2] <;> refine ⟨by omega, by omega, ?_⟩ <;> split <;> split <;> omega
  subst e1; subst e2
  unfold envW
  dsimp only
  array_mem_dec
  have hlen8 : ((ptsD pts).length : Int) = pts.length := by simp [ptsD]
  refine p_if ?_
  refine Post.mono (P := fun b G5 => G5 = G4 ∧ (b = false → ¬ (v.2 = 60 ∧ w.2 = 0) ∧ (pts.length = 8 → w ∈ pts))) ?_ fun b G5 ⟨e1, hb⟩ => ?_
  · bv_omega
    refine ite_same (fun e => ⟨rfl, fun z => by cases z⟩) fun e => ?_
    have h59 : ¬ (v.2 = 60 ∧ w.2 = 0) := by
      simp only [decide_eq_false_iff_not] at e
      intro z
      rw [z.1, z.2] at e
      exact e (by decide)
    bv_omega
    refine ite_same (fun e => ?_) fun e => ?_
    · bv_omega
      refine ninPts_ok ?_
      bv_omega
      exact ⟨rfl, fun z => ⟨h59, fun _ => by simpa using z⟩⟩
    · exact ⟨rfl, fun _ => ⟨h59, fun z => by simp only [decide_eq_false_iff_not, hlen8] at e; omega⟩⟩
  subst e1
  refine ite_same (fun e => ?_) fun e => ?_
  · refine p_cont ?_
    exact ⟨pts, rds, ⟨_, _, _, _, _, _, rfl⟩, hp, hr, by omega, _, t3, by omega⟩
  obtain ⟨h59, h8⟩ := hb e
  have hw' := hw.resolve_right fun z => h59 z.2
  array_mem_dec
  refine Post.mono (P := fun fl G6 => G6 = G5 ∧ ∃ pts', fl = .nx (envW ns mo fa nm t pts' rds (some (.v z)) (some (.v (.int at1))) (some (.v (ptD u))) (some (.v (.int B))) (some (.v (ptD w))) f) ∧ PtsOk pts' ∧ w ∈ pts' ∧ pts'[at1.toNat]? = some v ∧ ∀ q ∈ rds, Rd1 nm pts' q) ?_ fun fl G6 ⟨e1, pts', e2, hp', hwp, hv', hr'⟩ => ?_
  · refine p_if ?_
    bv_omega
    refine ninPts_ok ?_
    bv_omega
    refine ite_same (fun e => ?_) fun e => ?_
    · have hwn : w ∉ pts := by simpa using e
      refine p_appO rfl ?_
      bv_omega
      refine ⟨?_, rfl, pts ++ [w], ?_, ⟨?_, ?_, ?_⟩, ?_, ?_, ?_⟩
      · exact lim16 (by have := hp.hi; simp only [ptsD, List.length_map]; omega)
      · rw [show ptsD pts ++ [ptD w] = ptsD (pts ++ [w]) by simp [ptsD]]; rfl
      · simp
      · have := hp.hi
        have : pts.length ≠ 8 := fun z => hwn (h8 z)
        simp; omega
      · intro x hx
        rcases List.mem_append.mp hx with hx | hx
        · exact hp.rg x hx
        · rw [List.mem_singleton.mp hx]; exact hwr
      · simp
      · rw [List.getElem?_append_left (List.getElem?_eq_some_iff.mp hv1).1]; exact hv1
      · exact fun q hq => (hr q hq).more w
    · bv_omega
      exact ⟨rfl, pts, rfl, hp, by simpa using e, hv1, hr⟩
  subst e1; subst e2
  unfold envW
  dsimp only
  have hl8 := hp'.hi
  have hat8 : at1.toNat < pts'.length := (List.getElem?_eq_some_iff.mp hv').1
  obtain ⟨na, hna1, hna2⟩ := str_at (nm := nm) a0 (by rw [hn.len]; omega)
  bv_omega
  refine index_ok rfl rfl hwp fun j hj => ?_
  have hj8 : j < pts'.length := (List.getElem?_eq_some_iff.mp hj).1
  obtain ⟨nb, hnb1, hnb2⟩ := str_at (nm := nm) (i := (j : Int)) (by omega) (by rw [hn.len]; omega)
  rw [Int.toNat_natCast] at hnb1
  array_mem_dec
  refine p_appO rfl ?_
  array_mem_dec
  refine Post.mono (P := fun d7 G7 => T1 G7 (n + 1 + 1 + 1 + 1) ∧ (d7 = .tup [.str na, .str nb] ∨ d7 = .tup [.str nb, .str na])) ?_ fun d7 G7 ⟨t7, h7⟩ => ?_
  · bv_omega
    refine (draw1 ns G6 (n + 1 + 1 + 1) 2 t3 (by omega) (by decide)).mono fun d8 G8 ⟨t8, c8, e8, _, _⟩ => ?_
    subst e8
    bv_omega
    refine ite_same (fun e => ?_) fun e => ?_
    · bv_omega
      exact ⟨t8, .inl rfl⟩
    · bv_omega
      exact ⟨t8, .inr rfl⟩
  bv_omega
  refine (draw1 ns G7 (n + 1 + 1 + 1 + 1) 4 t7 (by omega) (by decide)).mono fun d9 G9 ⟨t9, c9, e9, _, _⟩ => ?_
  subst e9
  bv_omega
  have hrl : (rdD rds).length < LIM := by rw [rdD_len]; exact Nat.lt_of_le_of_lt (Nat.le_of_lt (Nat.lt_of_le_of_lt hl hk)) (by decide)
  have fin : ∀ x y : Str, Rd1 nm pts' (x, y, decide (c9 = 0)) → ∃ pts2 rds2, LoopW ns mo fa nm t (k + 1) (envW ns mo fa nm t pts' (rds ++ [(x, y, decide (c9 = 0))]) (some (.v z)) (some (.v (.int at1))) (some (.v (ptD u))) (some (.v (.int B))) (some (.v (ptD w))) (some (.v (.tup [.str na, .str nb])))) G9 pts2 rds2 := fun x y hxy => by
    refine ⟨_, _, ⟨_, _, _, _, _, _, rfl⟩, hp', ?_, ?_, _, t9, by omega⟩
    · intro q hq
      rcases List.mem_append.mp hq with hq | hq
      · exact hr' q hq
      · rw [List.mem_singleton.mp hq]; exact hxy
    · simp; omega
  have app : ∀ x y : Str, rdD rds ++ [.tup ([.str x, .str y] ++ [.bl (decide (c9 = 0))])] = rdD (rds ++ [(x, y, decide (c9 = 0))]) := fun x y => by simp [rdD, rdD1]
  rcases h7 with h7 | h7
  · subst h7
    refine addT_ok (by show 3 ≤ 1000; decide) ?_
    refine ⟨hrl, ?_⟩
    rw [app]
    exact fin na nb ⟨_, _, v, w, hna1, hnb1, hv', hj, hw'⟩
  · subst h7
    refine addT_ok (by show 3 ≤ 1000; decide) ?_
    refine ⟨hrl, ?_⟩
    rw [app]
    refine fin nb na ⟨_, _, w, v, hnb1, hna1, hj, hv', ?_, ?_, ?_⟩
    · exact fun z => hw'.1 ⟨z.1.symm, z.2.symm⟩
    · exact hw'.2.1.imp Eq.symm Eq.symm
    · rw [far_comm]; exact hw'.2.2
end K10

set_option Elab.async false
set_option linter.all false
set_option maxRecDepth 100000
set_option maxHeartbeats 4000000
/-! The plain law of k10, 10: the web that the law draws. -/
namespace K10
open PySem Gh
noncomputable def restW : SF := (sSeq (sAsg (mCall m__law_pick (mCons (mVar 0) (mCons (mVar 1) (mCons (mLst (mCons (mTup (mCons (mC (.int 1)) (mCons (mC (.int 0)) mNil))) (mCons (mTup (mCons (mC (.int 0)) (mCons (mC (.int 1)) mNil))) (mCons (mTup (mCons (mOp oSub (mC (.int 0)) (mC (.int 1))) (mCons (mC (.int 0)) mNil))) (mCons (mTup (mCons (mC (.int 0)) (mCons (mOp oSub (mC (.int 0)) (mC (.int 1))) mNil))) mNil))))) mNil)))) (gN 10))
  (sSeq (sAsg (mOp oAdd (mC (.int 1)) (mCall m__law_draw (mCons (mVar 0) (mCons (mVar 1) (mCons (mVar 3) mNil))))) (gN 11))
  (sSeq (sAsg (mTup (mCons (mOp oAdd (mOp oIx (mOp oIx (mVarO 6) (mVarO 9)) (mC (.int 0))) (mOp oMul (mOp oIx (mVarO 10) (mC (.int 0))) (mVarO 11))) (mCons (mOp oAdd (mOp oIx (mOp oIx (mVarO 6) (mVarO 9)) (mC (.int 1))) (mOp oMul (mOp oIx (mVarO 10) (mC (.int 1))) (mVarO 11))) mNil))) (gN 12))
  (sSeq (sIf (mOr (mB (mOp oLt (mUn oMinT (mVarO 12)) (mC (.int 0)))) (mOr (mB (mOp oGt (mUn oMaxT (mVarO 12)) (mC (.int 60)))) (mAnd (mB (mOp oEq (mUn oLen (mVarO 6)) (mC (.int 8)))) (mB (mOp oNotIn (mVarO 12) (mVarO 6))))))
  (sAsg (mTup (mCons (mOp oIx (mOp oIx (mVarO 6) (mVarO 9)) (mC (.int 0))) (mCons (mOp oMod (mOp oAdd (mOp oIx (mOp oIx (mVarO 6) (mVarO 9)) (mC (.int 1))) (mC (.int 1))) (mC (.int 61))) mNil))) (gN 12))
  sNext)
  (sSeq (sIf (mOr (mB (mOp oGt (mUn oAbs (mOp oSub (mOp oIx (mVarO 12) (mC (.int 1))) (mOp oIx (mOp oIx (mVarO 6) (mVarO 9)) (mC (.int 1))))) (mC (.int 59)))) (mAnd (mB (mOp oEq (mUn oLen (mVarO 6)) (mC (.int 8)))) (mB (mOp oNotIn (mVarO 12) (mVarO 6)))))
  sCont
  sNext)
  (sSeq (sIf (mB (mOp oNotIn (mVarO 12) (mVarO 6)))
  (sAppO 6 (mVar 12))
  sNext)
  (sSeq (sAsg (mTup (mCons (mOp oIx (mVarO 4) (mVarO 9)) (mCons (mOp oIx (mVarO 4) (mIndex (mVarO 6) (mVarO 12))) mNil))) (gN 13))
  (sAppO 7 (mOp oAdd (mIf (mB (mOp oEq (mCall m__law_draw (mCons (mVar 0) (mCons (mVar 1) (mCons (mC (.int 2)) mNil)))) (mC (.int 0)))) (mVar 13) (mUn oRevT (mVarO 13))) (mTup (mCons (mOp oEq (mCall m__law_draw (mCons (mVar 0) (mCons (mVar 1) (mCons (mC (.int 4)) mNil)))) (mC (.int 0))) mNil)))))))))))
def webD (p : Pls) (r : Rds) : D := .tup [.dic (plD p), .lst (rdD r)]
theorem pnL_rd : ∀ (rds : Rds), (∀ q ∈ rds, PyData.strOk q.1 = true ∧ PyData.strOk q.2.1 = true) → pnL 59 (rdD rds) = true
  | [], _ => by simp [rdD, pnL]
  | q :: r, h => by
    have ih := pnL_rd r fun q' hq' => h q' (List.mem_cons_of_mem _ hq')
    obtain ⟨h1, h2⟩ := h q List.mem_cons_self
    simp only [rdD, List.map_cons, pnL] at ih ⊢
    rw [ih]
    simp [rdD1, pn, pnL, h1, h2]
theorem names_ok : ∀ x ∈ NAMES, PyData.strOk x = true := by decide +kernel
theorem eqNil_ok {G : GH} {P : D → GH → Prop} {xs : List D} (h : pnL 59 xs = true) (q : P (.bl xs.isEmpty) G) : Post (oEq (.lst xs) (.lst []) G) P := by
  unfold oEq oEqN
  rw [if_pos (by simp [view, pn, pnL, h])]
  have e : eqB (view G (.lst xs)) (view G (.lst [])) = xs.isEmpty := by
    cases xs <;> simp [view, eqB, eqL]
  rw [e]
  exact q
def zipF (nm : List Str) (pts : List Pt) : D → D
  | .int i => .tup [((nm[i.toNat]?).elim .non D.str), ((pts[i.toNat]?).elim .non ptD)]
  | _ => .non
theorem zip_map : ∀ (nm : List Str) (pts : List Pt), pts.length ≤ nm.length → (upto 0 pts.length).map (zipF nm pts) = itD (zipP nm pts) := by
  intro nm pts h
  apply List.ext_getElem?
  intro i
  by_cases hi : i < pts.length
  · have hi2 : i < nm.length := by omega
    simp [upto, hi, hi2, zipF, itD, zipP, List.getElem?_zip_eq_some, List.getElem?_eq_getElem (show i < (nm.zip pts).length by simp [List.length_zip]; omega)]
  · have : ¬ i < (nm.zip pts).length := by simp [List.length_zip]; omega
    simp [upto, itD, zipP]
    rw [List.getElem?_eq_none (by simp; omega), List.getElem?_eq_none (by simp [List.length_zip]; omega)]
    rfl
theorem p_dictL {ρ : En} {G : GH} {Pc : Cell → GH → Prop} {f : EF} {p : Pls} (hn : (p.map (·.1)).Nodup) (h : Post (f ρ G) fun d G1 => d = .lst (itD p) ∧ Pc (.dic (plD p)) G1) : Post (fDict f ρ G) Pc := by
  refine Post.bind.mpr (h.mono fun d G1 ⟨e1, q⟩ => ?_)
  subst e1
  simp only [view, pairs_eq, merge_pl hn]
  exact q
theorem zipTail {ns : List Int} {mo fa : Int} {nm : List Str} {t : Int} {pts : List Pt} {rds : Rds} {a b c d e f : Option SV} {G : GH} (hn : NmOk nm) (hp : PtsOk pts) :
    mFz (fComp (mComp (mRng1 (mCons (mUn oLen (mVarO 6)) mNil)) (gN 8) mYes (mTup (mCons (mOp oIx (mVarO 4) (mVarO 8)) (mCons (mOp oIx (mVarO 6) (mVarO 8)) mNil))) [8])) ((envW ns mo fa nm t pts rds a b c d e f).set 7 (some (.v (.lst (rdD rds))))) G = .ok (.lst (itD (zipP nm pts))) G := by
  refine post_ok ?_
  unfold envW
  bv_omega
  with_reducible refine p_rng1 ?_
  bv_omega
  have hb := hp.hi
  have hpl : (ptsD pts).length = pts.length := by simp [ptsD]
  rw [hpl]
  refine ⟨by omega, by omega, ?_, ?_⟩
  · exact lim16' (by simp [upto]; omega)
  rw [Int.toNat_natCast]
  refine p_compL (F := zipF nm pts) (fun d hd => post_ok ?_) (frzL_ok ?_)
  · obtain ⟨i, hi, rfl⟩ := List.mem_map.mp hd
    have hi' : i < pts.length := List.mem_range.mp hi
    obtain ⟨x, hx1, hx2⟩ := str_at (nm := nm) (i := (0 : Int) + (i : Int)) (by omega) (by rw [hn.len]; omega)
    obtain ⟨y, hy1, hy2⟩ := pts_at (pts := pts) (i := (0 : Int) + (i : Int)) (by omega) (by omega)
    bv_omega
    exact ⟨by simp only [zipF, hx1, hy1]; rfl, rfl⟩
  · rw [zip_map nm pts (by rw [hn.len]; exact hb)]
    exact ⟨rfl, rfl⟩
theorem web_ok (ns : List Int) {mo fa : Int} (hmo : 1 ≤ mo ∧ mo ≤ 12) (hfa : 1 ≤ fa ∧ fa ≤ 6) (G : GH) (n0 : Nat) (hn0 : n0 ≤ 20) (hT : T1 G n0) : Post (m__law_web [.scr ns, .cel 0, .int mo, .int fa] G) fun d G1 => ∃ p r n, d = webD p r ∧ Web p r ∧ (p.map (·.1)).Nodup ∧ p ≠ [] ∧ T1 G1 n ∧ n ≤ 120 ∧ ∀ q ∈ r, rfar p q ≤ 6 := by
  unfold m__law_web b__law_web
  refine p_def rfl ?_
  bv_omega
  refine (draw1 ns G n0 8 hT (by omega) (by decide)).mono fun d1 G1 ⟨t1, u, e1, a0, a1⟩ => ?_
  subst e1
  bv_omega
  refine addL_ok (by simp [cutD]; omega) ?_
  obtain ⟨ut, rfl⟩ : ∃ ut : Nat, u = (ut : Int) := ⟨u.toNat, by omega⟩
  have hcut : cutD [D.str "x", .str "b", .str "a", .str "square", .str "zzzzzzzz", .str "c", .str "d", .str "mill"] (some (ut : Int)) none ++ cutD [D.str "x", .str "b", .str "a", .str "square", .str "zzzzzzzz", .str "c", .str "d", .str "mill"] none (some (ut : Int)) = (NAMES.drop ut ++ NAMES.take ut).map D.str := cut_turn NAMES ut (by show ut ≤ 8; omega)
  rw [hcut]
  have hn := nm_turn ut
  generalize NAMES.drop ut ++ NAMES.take ut = nm at hn ⊢
  bv_omega
  refine p_own ?_
  bv_omega
  refine (draw1 ns G1 _ 61 t1 (by omega) (by decide)).mono fun d2 G2 ⟨t2, x0, e2, x1, x2⟩ => ?_
  subst e2
  bv_omega
  refine (draw1 ns G2 _ 61 t2 (by omega) (by decide)).mono fun d3 G3 ⟨t3, y0, e3, y1, y2⟩ => ?_
  subst e3
  bv_omega
  refine ⟨by show 6 < 14; decide, ?_⟩
  bv_omega
  refine p_own ?_
  bv_omega
  refine ⟨by show 7 < 14; decide, ?_⟩
  bv_omega
  with_reducible refine p_rng1 ?_
  bv_omega
  with_reducible refine Post.mono (draw1 ns G3 _ mo t3 (by omega) (by omega)) ?_
  intro d4 G4 h4
  obtain ⟨t4, m0, e4, m1, m2⟩ := h4
  subst e4
  bv_omega
  refine ⟨by omega, by omega, ?_⟩
  have hm : (1 + m0).toNat ≤ 12 := by omega
  generalize (1 + m0).toNat = M at hm ⊢
  refine p_forL (fun k ρ G => ∃ pts rds, LoopW ns mo fa nm ut k ρ G pts rds) (n := 0) ⟨[(x0, y0)], [], ⟨_, _, _, _, _, _, rfl⟩, ⟨by simp, by simp, ?_⟩, by simp, by simp, _, t4, by omega⟩ ?_ ?_
  · intro v hv
    rw [List.mem_singleton.mp hv]
    unfold inR; dsimp only; omega
  · intro k d ρ1 G5 hk h5
    obtain ⟨pts, rds, h5⟩ := h5
    have hkM : k < M := by
      have := (List.getElem?_eq_some_iff.mp hk).1
      simpa [upto] using this
    exact (bodyW_ok hfa hn (by omega) h5 d).mono fun fl G6 h6 => by
      cases fl <;> exact h6
  intro ρ1 G5 h5
  obtain ⟨pts, rds, ⟨a, b, c, d, e, f, rfl⟩, hp, hr, hl, n, ht, hnk⟩ := h5
  have hlM : rds.length ≤ 12 := by simp [upto] at hl; omega
  have hnM : n ≤ 90 := by simp [upto] at hnk; omega
  have hpn : pnL 59 (rdD rds) = true := pnL_rd rds fun q hq => by
    obtain ⟨a, b, A, B, e1, e2, _⟩ := hr q hq
    exact ⟨names_ok _ (hn.sub _ (List.mem_of_getElem? e1)), names_ok _ (hn.sub _ (List.mem_of_getElem? e2))⟩
  dsimp only
  refine p_seq ?_
  refine Post.mono (P := fun fl G6 => G6 = G5 ∧ ∃ pts' rds', fl = .nx (envW ns mo fa nm ut pts' rds' a b c d e f) ∧ PtsOk pts' ∧ (∀ q ∈ rds', Rd1 nm pts' q) ∧ 1 ≤ rds'.length ∧ rds'.length ≤ 12) ?_ fun fl G6 ⟨e1, pts', rds', e2, hp', hr', hl1, hl2⟩ => ?_
  · unfold envW
    bv_omega
    refine eqNil_ok hpn ?_
    bv_omega
    refine ite_same (fun e => ?_) fun e => ?_
    · obtain ⟨na, hna1, hna2⟩ := str_at (nm := nm) (i := 0) (by omega) (by rw [hn.len]; omega)
      obtain ⟨nb, hnb1, hnb2⟩ := str_at (nm := nm) (i := 1) (by omega) (by rw [hn.len]; omega)
      refine p_seq (p_own ?_)
      bv_omega
      refine ⟨by show 6 < 14; decide, ?_⟩
      bv_omega
      refine p_own ?_
      bv_omega
      refine ⟨by show 7 < 14; decide, rfl, [(3, 3), (3, 4)], [(na, nb, false)], rfl, ⟨by simp, by simp, ?_⟩, ?_, by simp, by simp⟩
      · intro v hv
        simp only [List.mem_cons, List.not_mem_nil, or_false] at hv
        rcases hv with hv | hv <;> (subst hv; unfold inR; dsimp only; omega)
      · intro q hq
        rw [List.mem_singleton.mp hq]
        exact ⟨0, 1, (3, 3), (3, 4), hna1, hnb1, rfl, rfl, by decide, by decide, by decide⟩
    · refine p_next ⟨rfl, pts, rds, rfl, hp, hr, ?_, hlM⟩
      cases rds with
      | nil => simp [rdD] at e
      | cons _ _ => simp
  subst e1; subst e2
  dsimp only
  have hwn := web_of hn hp' hl1 (by omega) hr'
  have hw := hwn.1
  have hnd := hwn.2
  have hz := @zipTail ns mo fa nm ut pts' rds' a b c d e f G6 hn hp'
  with_reducible refine p_frz (c := .lst (rdD rds')) ?_ ?_
  · exact rfl
  bv_omega
  with_reducible refine p_dictL hnd ?_
  with_reducible refine Post.of_eq hz ?_
  refine ⟨rfl, ?_⟩
  bv_omega
  have hfar : ∀ q ∈ rds', rfar (zipP nm pts') q ≤ 6 := fun q hq => by
    obtain ⟨a, b, A, B, e1, e2, e3, e4, e5, e6, e7⟩ := hr' q hq
    rw [rfar_eq ⟨look_zip hn.nd e1 e3, look_zip hn.nd e2 e4, e5, e6⟩]
    exact e7
  refine ⟨zipP nm pts', rds', n, rfl, hw, hnd, ?_, ht, by omega, hfar⟩
  intro z
  have h1 : (zipP nm pts').length = 0 := by rw [z]; rfl
  have h2 := hp'.lo
  have h3 := hn.len
  unfold zipP at h1
  rw [List.length_zip] at h1
  omega
end K10

set_option Elab.async false
set_option linter.all false
set_option maxRecDepth 100000
set_option maxHeartbeats 4000000
/-! The plain law of k10. -/
namespace K10
open PySem Gh
theorem ninD_ok {G : GH} {P : D → GH → Prop} {x : Str} {d : D} {kvs : List (L2.Key × D)} (h : view G d = .dic kvs) (q : P (.bl !(valD kvs (.inr x)).isSome) G) : Post (oNotIn (.str x) d G) P := by
  unfold oNotIn oInN
  rw [h]
  simp only [dGet, h, keyOf, Option.map_some]
  exact q
theorem plD_len (p : Pls) : (plD p).length = p.length := by simp [plD]
/-! ### sorted -/
theorem insI_perm (i : Int) : ∀ l : List Int, (insI i l).Perm (i :: l)
  | [] => List.Perm.refl _
  | j :: r => by
    unfold insI
    split
    · exact List.Perm.refl _
    · exact ((insI_perm i r).cons j).trans (List.Perm.swap i j r)
theorem sortI_perm : ∀ l : List Int, (sortI l).Perm l
  | [] => List.Perm.refl _
  | i :: r => (insI_perm i _).trans ((sortI_perm r).cons i)
theorem insS_perm (i : Str) : ∀ l : List Str, (insS i l).Perm (i :: l)
  | [] => List.Perm.refl _
  | j :: r => by
    unfold insS
    split
    · exact List.Perm.refl _
    · exact ((insS_perm i r).cons j).trans (List.Perm.swap i j r)
theorem sortS_perm : ∀ l : List Str, (sortS l).Perm l
  | [] => List.Perm.refl _
  | i :: r => (insS_perm i _).trans ((sortS_perm r).cons i)
theorem keys_pl : ∀ p : Pls, keyStrs (plD p) = some (p.map (·.1))
  | [] => rfl
  | q :: r => by
    have ih := keys_pl r
    simp only [plD, List.map_cons] at ih ⊢
    simp only [keyStrs, ih]
    rfl
theorem p_sortK {ρ : En} {G : GH} {Pc : Cell → GH → Prop} {f : EF} {p : Pls} (hp : p.length ≤ 16) (h : Post (f ρ G) fun d G1 => d = .dic (plD p) ∧ Pc (.lst ((sortS (p.map (·.1))).map D.str)) G1) : Post (fSortKeys f ρ G) Pc := by
  refine Post.bind.mpr (h.mono fun d G1 ⟨e1, q⟩ => ?_)
  subst e1
  simp only [view, keys_pl]
  rw [if_pos (by rw [List.length_map]; omega)]
  exact q
end K10

set_option Elab.async false
set_option linter.all false
set_option maxRecDepth 100000
set_option maxHeartbeats 1000000
/-! The plain law of k10, 14: the least lengths (all mids asked). -/
namespace K10
open PySem Gh
def dirs (p : Pls) (r : Rds) : List (Str × Str × Int) := r.flatMap fun q => (q.1, q.2.1, rfar p q) :: (if q.2.2 then [] else [(q.2.1, q.1, rfar p q)])
theorem mem_dirs {p : Pls} {r : Rds} {a b : Str} {w : Int} : (a, b, w) ∈ dirs p r ↔ ∃ q ∈ r, w = rfar p q ∧ ((a = q.1 ∧ b = q.2.1) ∨ (q.2.2 = false ∧ a = q.2.1 ∧ b = q.1)) := by
  unfold dirs
  simp only [List.mem_flatMap, List.mem_cons]
  constructor
  · rintro ⟨q, hq, h⟩
    refine ⟨q, hq, ?_⟩
    rcases h with h | h
    · simp only [Prod.mk.injEq] at h
      exact ⟨h.2.2, .inl ⟨h.1, h.2.1⟩⟩
    · cases hb : q.2.2 with
      | true => rw [hb] at h; simp at h
      | false =>
        rw [hb] at h
        simp at h
        exact ⟨h.2.2, .inr ⟨rfl, h.1, h.2.1⟩⟩
  · rintro ⟨q, hq, rfl, ⟨rfl, rfl⟩ | ⟨hb, rfl, rfl⟩⟩
    · exact ⟨q, hq, .inl rfl⟩
    · exact ⟨q, hq, .inr (by rw [hb]; simp)⟩
/-- roads of places -/
structure RdsOk (p : Pls) (r : Rds) : Prop where
  pl : PlOk p
  rd : ∀ q ∈ r, ∃ a b, RdOk p q a b
  len : r.length ≤ 20
theorem far_nn (a b : Int × Int) : 0 ≤ far a b := by unfold far; split <;> split <;> omega
theorem rfar_nn (p : Pls) (q : Str × Str × Bool) : 0 ≤ rfar p q := by
  unfold rfar; split
  · exact far_nn _ _
  · exact Int.le_refl _
abbrev srt (p : Pls) : List Str := sortS (p.map (·.1))
theorem mem_srt {p : Pls} {n : Str} : n ∈ srt p ↔ n ∈ p.map (·.1) := (sortS_perm _).mem_iff
theorem look_srt {p : Pls} {n : Str} {z : Pt} (h : look p n = some z) : n ∈ srt p := mem_srt.mpr (List.mem_map.mpr ⟨_, look_mem h, rfl⟩)
theorem srt_ok {p : Pls} (hp : PlOk p) {n : Str} (h : n ∈ srt p) : PyData.strOk n = true := by
  obtain ⟨q, h1, h2⟩ := List.mem_map.mp (mem_srt.mp h)
  rw [← h2]
  exact names_ok _ (hp.nm q h1)
theorem srt_len {p : Pls} (hp : PlOk p) : (srt p).length ≤ 16 := by
  have h := (sortS_perm (p.map (·.1))).length_eq
  rw [List.length_map] at h
  show (sortS (p.map (·.1))).length ≤ 16
  have := hp.len
  omega
/-- a table of all pairs -/
structure Tab (ns : List Str) (kvs : List (List L2.Key × D)) (T : Str → Str → Int) : Prop where
  val : ∀ a ∈ ns, ∀ b ∈ ns, valD kvs (kk a b) = some (.int (T a b))
  len : kvs.length ≤ 256
theorem lim256 {n : Nat} (h : n ≤ 256) : n < LIM := Nat.lt_of_le_of_lt h (by decide)
theorem Tab.put {ns : List Str} {kvs : List (List L2.Key × D)} {T : Str → Str → Int} (h : Tab ns kvs T) {i j : Str} (hi : i ∈ ns) (hj : j ∈ ns) (v : Int) : Tab ns (putKD kvs (kk i j) (.int v)) (Sp.upd T i j v) := by
  refine ⟨fun a ha b hb => ?_, by rw [len_put_old _ (h.val i hi j hj)]; exact h.len⟩
  rw [val_put]
  unfold Sp.upd
  by_cases e : a = i ∧ b = j
  · rw [if_pos (kk_inj.mpr e), if_pos e]
  · rw [if_neg (fun z => e (kk_inj.mp z)), if_neg e]
    exact h.val a ha b hb
def envH (p : Pls) (r : Rds) (kvs : List (List L2.Key × D)) (a b c d e : Option SV) : En := [some (.v (.tup [.dic (plD p), .lst (rdD r)])), some (.v (.lst ((srt p).map D.str))), some (.own (.dit kvs)), a, b, c, d, e]
noncomputable def bodyH1 : SF := (sPutO 2 (mTup (mCons (mVar 3) (mCons (mVar 6) mNil))) (mIf (mB (mOp oEq (mVarO 3) (mVarO 6))) (mC (.int 0)) (mC (.int 1000000000))))
theorem initH {p : Pls} {r : Rds} (hp : PlOk p) {a b c d e : Option SV} {G : GH} {Pf : Fl → GH → Prop}
    (q : ∀ kvs a d, Tab (srt p) kvs Sp.start → Pf (.nx (envH p r kvs a b c d e)) G) : Post ((sFor (mIter (mVar 1)) (gN 3)
  (sFor (mIter (mVar 1)) (gN 6)
  (sPutO 2 (mTup (mCons (mVar 3) (mCons (mVar 6) mNil))) (mIf (mB (mOp oEq (mVarO 3) (mVarO 6))) (mC (.int 0)) (mC (.int 1000000000)))))) (envH p r [] a b c d e) G) Pf := by
  have hl := srt_len hp
  unfold envH
  bv_omega
  refine .inl ⟨_, rfl, ?_⟩
  refine p_forL (fun k ρ G1 => G1 = G ∧ ∃ kvs a d, ρ = envH p r kvs a b c d e ∧ kvs.length ≤ k * 16 ∧ k ≤ 16 ∧ ∀ x ∈ (srt p).take k, ∀ y ∈ srt p, valD kvs (kk x y) = some (.int (Sp.start x y))) (n := 0) ⟨rfl, [], _, _, rfl, by simp, by omega, by simp⟩ ?_ ?_
  · intro k d ρ1 G1 hk h1
    obtain ⟨rfl, kvs, a1, d1, rfl, hlen, hk16, hv⟩ := h1
    rw [Nat.zero_add] at *
    rw [List.getElem?_map] at hk
    obtain ⟨x, hx, rfl⟩ := Option.map_eq_some_iff.mp hk
    have hkl : k < (srt p).length := (List.getElem?_eq_some_iff.mp hx).1
    have hxn := List.mem_of_getElem? hx
    unfold envH
    show Post (sFor _ _ _ _ _) _; bv_omega
    refine .inl ⟨_, rfl, ?_⟩
    refine p_forL (fun l ρ G2 => G2 = G1 ∧ ∃ kvs d, ρ = envH p r kvs (some (.v (.str x))) b c d e ∧ kvs.length ≤ k * 16 + l ∧ l ≤ 16 ∧ (∀ x ∈ (srt p).take k, ∀ y ∈ srt p, valD kvs (kk x y) = some (.int (Sp.start x y))) ∧ ∀ y ∈ (srt p).take l, valD kvs (kk x y) = some (.int (Sp.start x y))) (n := 0) ⟨rfl, kvs, _, rfl, by omega, by omega, hv, by simp⟩ ?_ ?_
    · intro l d ρ2 G2 hl2 h2
      obtain ⟨rfl, kvs, d2, rfl, hlen2, hl16, hv2, hw2⟩ := h2
      rw [Nat.zero_add] at *
      rw [List.getElem?_map] at hl2
      obtain ⟨y, hy, rfl⟩ := Option.map_eq_some_iff.mp hl2
      have hll : l < (srt p).length := (List.getElem?_eq_some_iff.mp hy).1
      have hyn := List.mem_of_getElem? hy
      unfold envH
      show Post (sPutO _ _ _ _ _) _
      refine p_putOT rfl ?_
      refine Post.mono (P := fun d G3 => d = .int (Sp.start x y) ∧ G3 = G2) ?_ fun d G3 ⟨e1, e2⟩ => ?_
      · bv_omega
        refine eqS_ok (srt_ok hp hxn) (srt_ok hp hyn) ?_
        bv_omega
        refine ite_same (fun e => ?_) fun e => ?_
        · have : x = y := by simpa using e
          bv_omega
          exact ⟨by rw [Sp.start, if_pos this], rfl⟩
        · have : ¬ x = y := by simpa using e
          bv_omega
          exact ⟨by rw [Sp.start, if_neg this], rfl⟩
      subst e1; subst e2
      bv_omega
      refine ⟨x, y, rfl, lim256 (by have : k * 16 ≤ 240 := by omega
                                    omega), rfl, _, _, rfl, ?_, by omega, ?_, ?_⟩
      · have := len_put kvs (kk x y) (.int (Sp.start x y)); omega
      · intro x' hx' y' hy'
        rw [val_put]
        by_cases z : kk x' y' = kk x y
        · rw [if_pos z]; obtain ⟨rfl, rfl⟩ := kk_inj.mp z; rfl
        · rw [if_neg z]; exact hv2 x' hx' y' hy'
      · intro y' hy'
        rw [val_put]
        by_cases z : kk x y' = kk x y
        · rw [if_pos z]; obtain ⟨_, rfl⟩ := kk_inj.mp z; rfl
        · rw [if_neg z]
          refine hw2 y' ?_
          rw [List.take_add_one, hy] at hy'
          rcases List.mem_append.mp hy' with h | h
          · exact h
          · simp at h; exact (z (by rw [h])).elim
    · intro ρ2 G2 h2
      obtain ⟨rfl, kvs, d2, rfl, hlen2, hl16, hv2, hw2⟩ := h2
      rw [Nat.zero_add, List.length_map] at *
      refine ⟨rfl, kvs, _, _, rfl, by omega, by omega, ?_⟩
      intro x' hx' y' hy'
      rw [List.take_add_one, hx] at hx'
      rcases List.mem_append.mp hx' with h | h
      · exact hv2 x' h y' hy'
      · simp at h; subst h
        exact hw2 y' (by rw [List.take_length]; exact hy')
  · intro ρ1 G1 h1
    obtain ⟨rfl, kvs, a1, d1, rfl, hlen, hk16, hv⟩ := h1
    rw [Nat.zero_add, List.length_map, List.take_length] at *
    exact q kvs _ _ ⟨hv, by omega⟩
end K10

set_option Elab.async false
set_option linter.all false
set_option maxRecDepth 100000
set_option maxHeartbeats 1000000
/-! The plain law of k10, 15: roads laid into the table, all mids asked. -/
namespace K10
open PySem Gh
/-- what the table knows behind the first k roads -/
structure Laid (p : Pls) (r : Rds) (k : Nat) (T : Str → Str → Int) : Prop where
  snd : Sp.Snd (dirs p r) T
  dg : ∀ a ∈ srt p, T a a = 0
  le : ∀ a b w, (a, b, w) ∈ dirs p (r.take k) → T a b ≤ w
theorem dirs_take {p : Pls} {r : Rds} {k : Nat} {q : Str × Str × Bool} (hq : r[k]? = some q) {a b : Str} {w : Int} (h : (a, b, w) ∈ dirs p (r.take (k + 1))) : (a, b, w) ∈ dirs p (r.take k) ∨ (w = rfar p q ∧ ((a = q.1 ∧ b = q.2.1) ∨ (q.2.2 = false ∧ a = q.2.1 ∧ b = q.1))) := by
  obtain ⟨q', h1, h2, h3⟩ := mem_dirs.mp h
  rw [List.take_add_one, hq] at h1
  rcases List.mem_append.mp h1 with z | z
  · exact .inl (mem_dirs.mpr ⟨q', z, h2, h3⟩)
  · simp at z; subst z; exact .inr ⟨h2, h3⟩
theorem rlx_dg {ns : List Str} {T : Str → Str → Int} {E : List (Str × Str × Int)} (s : Sp.Snd E T) {i j : Str} {v : Int} (hv : 0 ≤ v) (h : ∀ a ∈ ns, T a a = 0) : ∀ a ∈ ns, Sp.rlx T i j v a a = 0 := by
  intro a ha
  have h1 := Sp.rlx_le T i j v a a
  rw [h a ha] at h1
  have h2 : 0 ≤ Sp.rlx T i j v a a := by
    unfold Sp.rlx Sp.upd
    split
    · split
      · exact hv
      · exact s.nn _ _
    · exact s.nn _ _
  omega
theorem roadsH {p : Pls} {r : Rds} (hr : RdsOk p r) {kvs : List (List L2.Key × D)} (ht : Tab (srt p) kvs Sp.start) {a b c d e : Option SV} {G : GH} {Pf : Fl → GH → Prop}
    (q : ∀ kvs T a b d e, Tab (srt p) kvs T → Laid p r r.length T → Pf (.nx (envH p r kvs a b c d e)) G) : Post ((sFor (mRng1 (mCons (mUn oLen (mOp oIx (mVarO 0) (mC (.int 1)))) mNil)) (gN 4)
  (sSeq (sAsg (mOp oIx (mOp oIx (mVarO 0) (mC (.int 1))) (mVarO 4)) (gT [3, 6, 7]))
  (sSeq (sPutO 2 (mTup (mCons (mVar 3) (mCons (mVar 6) mNil))) (mOp oMin2 (mOp oIx (mVarO 2) (mTup (mCons (mVar 3) (mCons (mVar 6) mNil)))) (mCall m_long_of (mCons (mVar 0) (mCons (mVar 4) mNil)))))
  (sIf (mNot (mTru (mVarO 7)))
  (sPutO 2 (mTup (mCons (mVar 6) (mCons (mVar 3) mNil))) (mOp oMin2 (mOp oIx (mVarO 2) (mTup (mCons (mVar 6) (mCons (mVar 3) mNil)))) (mCall m_long_of (mCons (mVar 0) (mCons (mVar 4) mNil)))))
  sNext)))) (envH p r kvs a b c d e) G) Pf := by
  have hll := hr.len
  have hrl := rdD_len r
  unfold envH
  bv_omega
  with_reducible refine p_rng1 ?_
  bv_omega
  rw [hrl]
  refine ⟨by omega, by omega, ?_⟩
  rw [Int.toNat_natCast]
  refine p_forL (fun k ρ G1 => G1 = G ∧ ∃ kvs T a b d e, ρ = envH p r kvs a b c d e ∧ Tab (srt p) kvs T ∧ Laid p r k T) (n := 0) ⟨rfl, kvs, Sp.start, _, _, _, _, rfl, ht, ⟨Sp.snd_start, fun a _ => by simp [Sp.start], fun a b w h => by simp [dirs] at h⟩⟩ ?_ ?_
  · intro k dk ρ1 G1 hk h1
    obtain ⟨rfl, kvs, T, a1, b1, d1, e1, rfl, hT, hL⟩ := h1
    rw [Nat.zero_add] at *
    have hkr : k < r.length := by
      have := (List.getElem?_eq_some_iff.mp hk).1
      simpa [upto] using this
    have hdk : dk = .int (k : Int) := by
      simp [upto, hkr] at hk
      exact hk.symm
    subst hdk
    obtain ⟨q0, hq0⟩ : ∃ q0, r[k]? = some q0 := ⟨_, List.getElem?_eq_getElem hkr⟩
    have hat := rd_at hq0
    obtain ⟨A, B, hab⟩ := hr.rd q0 (List.mem_of_getElem? hq0)
    have hlong := long_ok p r k q0 A B hq0 hab G1
    have hi := look_srt hab.la
    have hj := look_srt hab.lb
    have hw : rfar p q0 = far A B := rfar_eq hab
    have hnn := far_nn A B
    have hmem : (q0.1, q0.2.1, far A B) ∈ dirs p r := mem_dirs.mpr ⟨q0, List.mem_of_getElem? hq0, hw.symm, .inl ⟨rfl, rfl⟩⟩
    unfold envH
    show Post (sSeq _ _ _ _) _
    refine p_seq (p_asgT ?_)
    bv_omega
    refine ⟨rfl, ?_⟩
    bv_omega
    refine p_putOT rfl ?_
    bv_omega
    refine ixT_ok (hT.val _ hi _ hj) ?_
    bv_omega
    refine Post.of_eq hlong ?_
    bv_omega
    refine ⟨q0.1, q0.2.1, rfl, lim256 hT.len, ?_⟩
    have hT2 := hT.put hi hj (if far A B < T q0.1 q0.2.1 then far A B else T q0.1 q0.2.1)
    have s2 := hL.snd.rlx (i := q0.1) (j := q0.2.1) (v := far A B) hnn fun _ => Sp.Walk.one hmem
    have g2 := rlx_dg hL.snd (i := q0.1) (j := q0.2.1) hnn hL.dg
    bv_omega
    refine ite_same (fun hb => ?_) fun hb => ?_
    · have hb' : q0.2.2 = false := by simpa using hb
      have hmem' : (q0.2.1, q0.1, far A B) ∈ dirs p r := mem_dirs.mpr ⟨q0, List.mem_of_getElem? hq0, hw.symm, .inr ⟨hb', rfl, rfl⟩⟩
      refine p_putOT rfl ?_
      bv_omega
      refine ixT_ok (hT2.val _ hj _ hi) ?_
      bv_omega
      refine Post.of_eq hlong ?_
      bv_omega
      refine ⟨q0.2.1, q0.1, rfl, lim256 hT2.len, ?_⟩
      have hT3 := hT2.put hj hi (if far A B < Sp.rlx T q0.1 q0.2.1 (far A B) q0.2.1 q0.1 then far A B else Sp.rlx T q0.1 q0.2.1 (far A B) q0.2.1 q0.1)
      refine ⟨rfl, _, Sp.rlx (Sp.rlx T q0.1 q0.2.1 (far A B)) q0.2.1 q0.1 (far A B), _, _, _, _, rfl, hT3, ⟨s2.rlx hnn fun _ => Sp.Walk.one hmem', rlx_dg s2 hnn g2, ?_⟩⟩
      intro x y w h
      have l1 := Sp.rlx_le (Sp.rlx T q0.1 q0.2.1 (far A B)) q0.2.1 q0.1 (far A B) x y
      have l2 := Sp.rlx_le T q0.1 q0.2.1 (far A B) x y
      rcases dirs_take hq0 h with z | ⟨z1, ⟨rfl, rfl⟩ | ⟨z2, rfl, rfl⟩⟩
      · have := hL.le x y w z; omega
      · have := Sp.rlx_at T q0.1 q0.2.1 (far A B); omega
      · have := Sp.rlx_at (Sp.rlx T q0.1 q0.2.1 (far A B)) q0.2.1 q0.1 (far A B); omega
    · have hb' : q0.2.2 = true := by simpa using hb
      refine p_next ?_
      refine ⟨rfl, _, Sp.rlx T q0.1 q0.2.1 (far A B), _, _, _, _, rfl, hT2, ⟨s2, g2, ?_⟩⟩
      intro x y w h
      have l2 := Sp.rlx_le T q0.1 q0.2.1 (far A B) x y
      rcases dirs_take hq0 h with z | ⟨z1, ⟨rfl, rfl⟩ | ⟨z2, rfl, rfl⟩⟩
      · have := hL.le x y w z; omega
      · have := Sp.rlx_at T q0.1 q0.2.1 (far A B); omega
      · rw [hb'] at z2; cases z2
  · intro ρ1 G1 h1
    obtain ⟨rfl, kvs, T, a1, b1, d1, e1, rfl, hT, hL⟩ := h1
    rw [show 0 + (upto 0 r.length).length = r.length by simp [upto]] at hL
    exact q kvs T _ _ _ _ hT hL
end K10

set_option Elab.async false
set_option linter.all false
set_option maxRecDepth 100000
set_option maxHeartbeats 1000000
/-! The plain law of k10, 16: all mids asked; lengths. -/
namespace K10
open PySem Gh
theorem snd_via {E : List (Str × Str × Int)} {T : Str → Str → Int} (h : Sp.Snd E T) (m : Str) : Sp.Snd E (Sp.via T m) := by
  refine ⟨fun a b => ?_, fun a b hl => ?_⟩
  · rcases Sp.via_or T m a b with z | z <;> rw [z]
    · exact h.nn _ _
    · have := h.nn a m; have := h.nn m b; omega
  · rcases Sp.via_or T m a b with z | z <;> rw [z] at hl ⊢
    · exact h.rl _ _ hl
    · have h1 := h.nn a m
      have h2 := h.nn m b
      exact (h.rl a m (by omega)).app (h.rl m b (by omega))
/-- what stands in the table while a mid is asked -/
def half (T : Str → Str → Int) (m : Str) (dn : Str → Str → Bool) : Str → Str → Int := fun a b => if dn a b = true then Sp.via T m a b else T a b
theorem half_row {T : Str → Str → Int} {m : Str} {dn : Str → Str → Bool} (h : T m m = 0) (a : Str) : half T m dn a m = T a m := by
  unfold half; split
  · exact Sp.via_left h a
  · rfl
theorem half_col {T : Str → Str → Int} {m : Str} {dn : Str → Str → Bool} (h : T m m = 0) (b : Str) : half T m dn m b = T m b := by
  unfold half; split
  · exact Sp.via_right h b
  · rfl
theorem half_new {T : Str → Str → Int} {m : Str} {dn : Str → Str → Bool} (x y : Str) : (if T x m + T m y < half T m dn x y then T x m + T m y else half T m dn x y) = Sp.via T m x y := by
  unfold half
  split
  · have := Sp.via_at T m x y
    split
    · omega
    · rfl
  · rfl
theorem half_put {T : Str → Str → Int} {m x y : Str} {dn dn' : Str → Str → Bool} (h : ∀ a b, dn' a b = (dn a b || (decide (a = x) && decide (b = y)))) : Sp.upd (half T m dn) x y (Sp.via T m x y) = half T m dn' := by
  funext a b
  unfold Sp.upd half
  rw [h a b]
  by_cases e : a = x ∧ b = y
  · obtain ⟨rfl, rfl⟩ := e
    simp
  · rw [if_neg e]
    have : (decide (a = x) && decide (b = y)) = false := by
      simp only [Bool.and_eq_false_iff, decide_eq_false_iff_not]
      by_cases ha : a = x
      · exact .inr fun hb => e ⟨ha, hb⟩
      · exact .inl ha
    rw [this, Bool.or_false]
theorem half_end {T : Str → Str → Int} {m : Str} {dn : Str → Str → Bool} (a b : Str) (h : dn a b = true) : half T m dn a b = Sp.via T m a b := by unfold half; rw [if_pos h]
def dnK (ns : List Str) (i : Nat) (x : Str) (j : Nat) : Str → Str → Bool := fun a b => decide (a ∈ ns.take i) || (decide (a = x) && decide (b ∈ ns.take j))
theorem Tab.cong {ns : List Str} {kvs : List (List L2.Key × D)} {T T' : Str → Str → Int} (h : Tab ns kvs T) (e : ∀ a ∈ ns, ∀ b ∈ ns, T a b = T' a b) : Tab ns kvs T' :=
  ⟨fun a ha b hb => by rw [h.val a ha b hb, e a ha b hb], h.len⟩
noncomputable def midB : SF := (sFor (mIter (mVar 1)) (gN 3)
  (sFor (mIter (mVar 1)) (gN 6)
  (sPutO 2 (mTup (mCons (mVar 3) (mCons (mVar 6) mNil))) (mOp oMin2 (mOp oIx (mVarO 2) (mTup (mCons (mVar 3) (mCons (mVar 6) mNil)))) (mOp oAdd (mOp oIx (mVarO 2) (mTup (mCons (mVar 3) (mCons (mVar 5) mNil)))) (mOp oIx (mVarO 2) (mTup (mCons (mVar 5) (mCons (mVar 6) mNil)))))))))
theorem midH {p : Pls} {r : Rds} {m : Str} (hm : m ∈ srt p) {T : Str → Str → Int} (h0 : T m m = 0) {kvs : List (List L2.Key × D)} (ht : Tab (srt p) kvs T) {a b d e : Option SV} {G : GH} {Pf : Fl → GH → Prop}
    (q : ∀ kvs a d, Tab (srt p) kvs (Sp.via T m) → Pf (.nx (envH p r kvs a b (some (.v (.str m))) d e)) G) : Post (midB (envH p r kvs a b (some (.v (.str m))) d e) G) Pf := by
  unfold midB envH
  bv_omega
  refine .inl ⟨_, rfl, ?_⟩
  refine p_forL (fun i ρ G1 => G1 = G ∧ ∃ kvs a d, ρ = envH p r kvs a b (some (.v (.str m))) d e ∧ Tab (srt p) kvs (half T m (fun a _ => decide (a ∈ (srt p).take i)))) (n := 0) ⟨rfl, kvs, _, _, rfl, ht.cong fun a _ b _ => by simp [half]⟩ ?_ ?_
  · intro i di ρ1 G1 hi h1
    obtain ⟨rfl, kvs, a1, d1, rfl, hT⟩ := h1
    rw [Nat.zero_add] at *
    rw [List.getElem?_map] at hi
    obtain ⟨x, hx, rfl⟩ := Option.map_eq_some_iff.mp hi
    have hxn := List.mem_of_getElem? hx
    unfold envH
    show Post (sFor _ _ _ _ _) _; bv_omega
    refine .inl ⟨_, rfl, ?_⟩
    refine p_forL (fun j ρ G2 => G2 = G1 ∧ ∃ kvs d, ρ = envH p r kvs (some (.v (.str x))) b (some (.v (.str m))) d e ∧ Tab (srt p) kvs (half T m (dnK (srt p) i x j))) (n := 0) ⟨rfl, kvs, _, rfl, hT.cong fun a _ b _ => by simp [half, dnK]⟩ ?_ ?_
    · intro j dj ρ2 G2 hj h2
      obtain ⟨rfl, kvs, d2, rfl, hT⟩ := h2
      rw [Nat.zero_add] at *
      rw [List.getElem?_map] at hj
      obtain ⟨y, hy, rfl⟩ := Option.map_eq_some_iff.mp hj
      have hyn := List.mem_of_getElem? hy
      unfold envH
      show Post (sPutO _ _ _ _ _) _
      refine p_putOT rfl ?_
      bv_omega
      refine ixT_ok (hT.val _ hxn _ hyn) ?_
      bv_omega
      refine ixT_ok (hT.val _ hxn _ hm) ?_
      bv_omega
      refine ixT_ok (hT.val _ hm _ hyn) ?_
      bv_omega
      refine ⟨x, y, rfl, lim256 hT.len, rfl, _, _, rfl, ?_⟩
      rw [half_row h0, half_col h0, half_new]
      have := hT.put hxn hyn (Sp.via T m x y)
      rw [half_put (dn' := dnK (srt p) i x (j + 1))] at this
      · exact this
      · intro a b
        unfold dnK
        rw [List.take_add_one, hy]
        simp only [Option.toList_some, List.mem_append, List.mem_singleton, Bool.decide_or, Bool.and_or_distrib_left, Bool.or_assoc]
    · intro ρ2 G2 h2
      obtain ⟨rfl, kvs, d2, rfl, hT⟩ := h2
      rw [Nat.zero_add, List.length_map] at *
      refine ⟨rfl, kvs, _, _, rfl, hT.cong fun a ha b hb => ?_⟩
      have e1 : dnK (srt p) i x (srt p).length a b = decide (a ∈ (srt p).take (i + 1)) := by
        unfold dnK
        rw [List.take_length, List.take_add_one, hx]
        simp [hb]
      unfold half
      rw [e1]
  · intro ρ1 G1 h1
    obtain ⟨rfl, kvs, a1, d1, rfl, hT⟩ := h1
    rw [Nat.zero_add, List.length_map, List.take_length] at *
    exact q kvs _ _ (hT.cong fun a ha b _ => half_end a b (by simpa using ha))
theorem tri_sub {ns M M' : List Str} {T : Str → Str → Int} (h : Sp.Tri ns M T) (s : ∀ k ∈ M', k ∈ M) : Sp.Tri ns M' T := ⟨h.dg, fun k hk => h.tr k (s k hk)⟩
theorem midsH {p : Pls} {r : Rds} (hr : RdsOk p r) {kvs : List (List L2.Key × D)} {T0 : Str → Str → Int} (ht : Tab (srt p) kvs T0) (hL : Laid p r r.length T0) {a b c d e : Option SV} {G : GH} {Pf : Fl → GH → Prop}
    (q : ∀ kvs T a c d, Tab (srt p) kvs T → Sp.Dist (dirs p r) (srt p) T → Pf (.nx (envH p r kvs a b c d e)) G) : Post ((sFor (mIter (mVar 1)) (gN 5)
  (sFor (mIter (mVar 1)) (gN 3)
  (sFor (mIter (mVar 1)) (gN 6)
  (sPutO 2 (mTup (mCons (mVar 3) (mCons (mVar 6) mNil))) (mOp oMin2 (mOp oIx (mVarO 2) (mTup (mCons (mVar 3) (mCons (mVar 6) mNil)))) (mOp oAdd (mOp oIx (mVarO 2) (mTup (mCons (mVar 3) (mCons (mVar 5) mNil)))) (mOp oIx (mVarO 2) (mTup (mCons (mVar 5) (mCons (mVar 6) mNil)))))))))) (envH p r kvs a b c d e) G) Pf := by
  unfold envH
  bv_omega
  refine .inl ⟨_, rfl, ?_⟩
  refine p_forL (fun k ρ G1 => G1 = G ∧ ∃ kvs T a c d, ρ = envH p r kvs a b c d e ∧ Tab (srt p) kvs T ∧ Sp.Snd (dirs p r) T ∧ Sp.Tri (srt p) ((srt p).take k) T ∧ ∀ a b w, (a, b, w) ∈ dirs p r → T a b ≤ w) (n := 0) ⟨rfl, kvs, T0, _, _, _, rfl, ht, hL.snd, ⟨hL.dg, by simp⟩, fun a b w h => hL.le a b w (by rw [List.take_length]; exact h)⟩ ?_ ?_
  · intro k dk ρ1 G1 hk h1
    obtain ⟨rfl, kvs, T, a1, c1, d1, rfl, hT, hs, htr, hle⟩ := h1
    rw [Nat.zero_add] at *
    rw [List.getElem?_map] at hk
    obtain ⟨m, hm, rfl⟩ := Option.map_eq_some_iff.mp hk
    have hmn := List.mem_of_getElem? hm
    refine midH hmn (htr.dg m hmn) hT fun kvs' a' d' hT' => ?_
    refine ⟨rfl, kvs', Sp.via T m, _, _, _, rfl, hT', snd_via hs m, ?_, ?_⟩
    · refine tri_sub (Sp.tri_via hmn (fun k hk => List.mem_of_mem_take hk) htr hs.nn fun a _ b _ => rfl) fun k' hk' => ?_
      rw [List.take_add_one, hm] at hk'
      rcases List.mem_append.mp hk' with z | z
      · exact List.mem_cons_of_mem _ z
      · simp at z; rw [z]; exact List.mem_cons_self
    · intro a b w h
      have := hle a b w h
      have := Sp.via_le T m a b
      omega
  · intro ρ1 G1 h1
    obtain ⟨rfl, kvs, T, a1, c1, d1, rfl, hT, hs, htr, hle⟩ := h1
    rw [Nat.zero_add, List.length_map, List.take_length] at htr
    refine q kvs T _ _ _ hT (Sp.dist_of hs htr fun a b w h => ⟨?_, ?_, hle a b w h⟩)
    · obtain ⟨q', h1, _, ⟨rfl, _⟩ | ⟨_, rfl, _⟩⟩ := mem_dirs.mp h
      · obtain ⟨A, B, hab⟩ := hr.rd q' h1; exact look_srt hab.la
      · obtain ⟨A, B, hab⟩ := hr.rd q' h1; exact look_srt hab.lb
    · obtain ⟨q', h1, _, ⟨_, rfl⟩ | ⟨_, _, rfl⟩⟩ := mem_dirs.mp h
      · obtain ⟨A, B, hab⟩ := hr.rd q' h1; exact look_srt hab.lb
      · obtain ⟨A, B, hab⟩ := hr.rd q' h1; exact look_srt hab.la
theorem lengths_ok {p : Pls} {r : Rds} (hr : RdsOk p r) (G : GH) : Post (m_lengths [.tup [.dic (plD p), .lst (rdD r)]] G) fun d G1 => G1 = G ∧ ∃ kvs T, d = .dit kvs ∧ Tab (srt p) kvs T ∧ Sp.Dist (dirs p r) (srt p) T := by
  unfold m_lengths b_lengths
  refine p_def rfl ?_
  bv_omega
  refine p_sortK hr.pl.len ?_
  bv_omega
  refine ⟨rfl, ?_⟩
  bv_omega
  refine p_own ?_
  refine Post.ok.mpr ⟨by show 2 < 8; decide, ?_⟩
  dsimp only
  refine p_seq ?_
  refine initH (r := r) hr.pl (fun kvs a d hT => ?_)
  dsimp only
  refine p_seq ?_
  refine roadsH hr hT fun kvs T a b d e hT hL => ?_
  dsimp only
  refine p_seq ?_
  refine midsH hr hT hL fun kvs T a c d hT hD => ?_
  dsimp only
  refine p_frz rfl ?_
  refine frzT_ok ?_
  bv_omega
  exact ⟨rfl, kvs, T, rfl, hT, hD⟩
end K10

set_option Elab.async false
set_option linter.all false
/-! Lengths from spot to spot: plain facts, no program in sight. -/
namespace Sp
section
variable {N : Type} [DecidableEq N]
structure Rd (N : Type) where
  a : N
  b : N
  ow : Bool
  lg : Int
abbrev Spt := Nat × Int
def dirR (rs : List (Rd N)) : List (N × N × Int) := rs.flatMap fun q => (q.a, q.b, q.lg) :: (if q.ow then [] else [(q.b, q.a, q.lg)])
theorem mem_dirR {rs : List (Rd N)} {x y : N} {w : Int} : (x, y, w) ∈ dirR rs ↔ ∃ q ∈ rs, w = q.lg ∧ ((x = q.a ∧ y = q.b) ∨ (q.ow = false ∧ x = q.b ∧ y = q.a)) := by
  unfold dirR
  rw [List.mem_flatMap]
  constructor
  · rintro ⟨q, hq, h⟩
    refine ⟨q, hq, ?_⟩
    rcases List.mem_cons.mp h with e | e
    · cases e; exact ⟨rfl, .inl ⟨rfl, rfl⟩⟩
    · cases ho : q.ow with
      | true => rw [ho] at e; simp at e
      | false => rw [ho] at e; simp at e; exact ⟨e.2.2, .inr ⟨rfl, e.1, e.2.1⟩⟩
  · rintro ⟨q, hq, rfl, ⟨rfl, rfl⟩ | ⟨ho, rfl, rfl⟩⟩
    · exact ⟨q, hq, by simp⟩
    · exact ⟨q, hq, by simp [ho]⟩
/-- a spot on the road q -/
structure On (rs : List (Rd N)) (s : Spt) (q : Rd N) : Prop where
  at' : rs[s.1]? = some q
  lo : 0 ≤ s.2
  hi : s.2 ≤ q.lg
structure Web (rs : List (Rd N)) (ns : List N) (T : N → N → Int) : Prop where
  dist : Dist (dirR rs) ns T
  lg : ∀ q ∈ rs, 1 ≤ q.lg ∧ q.lg ≤ 100
  na : ∀ q ∈ rs, q.a ∈ ns ∧ q.b ∈ ns
  ln : ns.length ≤ 16
def absI (i : Int) : Int := if i < 0 then -i else i
def strt (q : Rd N) (s t : Spt) : Int := if s.1 ≠ t.1 ∨ (t.2 < s.2 ∧ q.ow = true) then FAR else absI (t.2 - s.2)
def lv (q : Rd N) (f : Int) : List (N × Int) := (q.b, q.lg - f) :: (if q.ow = false ∨ f = 0 then [(q.a, f)] else [])
def cm (q : Rd N) (f : Int) : List (N × Int) := (q.a, f) :: (if q.ow = false ∨ f = q.lg then [(q.b, q.lg - f)] else [])
def min' (m v : Int) : Int := if v < m then v else m
theorem min'_le (m v : Int) : min' m v ≤ m ∧ min' m v ≤ v := by unfold min'; split <;> omega
theorem min'_or (m v : Int) : min' m v = m ∨ min' m v = v := by unfold min'; split <;> simp
def inn (T : N → N → Int) (x : N × Int) (l : List (N × Int)) (m : Int) : Int := l.foldl (fun m y => min' m (x.2 + T x.1 y.1 + y.2)) m
def LB (T : N → N → Int) (q o : Rd N) (s t : Spt) : Int := (lv q s.2).foldl (fun m x => inn T x (cm o t.2) m) (strt q s t)
theorem inn_spec (T : N → N → Int) (x : N × Int) : ∀ (l : List (N × Int)) (m : Int), inn T x l m ≤ m ∧ (∀ y ∈ l, inn T x l m ≤ x.2 + T x.1 y.1 + y.2) ∧ (inn T x l m = m ∨ ∃ y ∈ l, inn T x l m = x.2 + T x.1 y.1 + y.2)
  | [], m => ⟨Int.le_refl _, fun y hy => (by cases hy), .inl rfl⟩
  | y :: l, m => by
    obtain ⟨h1, h2, h3⟩ := inn_spec T x l (min' m (x.2 + T x.1 y.1 + y.2))
    have h4 := min'_le m (x.2 + T x.1 y.1 + y.2)
    have e : inn T x (y :: l) m = inn T x l (min' m (x.2 + T x.1 y.1 + y.2)) := rfl
    rw [e]
    refine ⟨by omega, fun z hz => ?_, ?_⟩
    · rcases List.mem_cons.mp hz with z' | z'
      · subst z'; omega
      · exact h2 z z'
    · rcases h3 with h3 | ⟨z, hz, h3⟩
      · rcases min'_or m (x.2 + T x.1 y.1 + y.2) with h5 | h5
        · exact .inl (h3.trans h5)
        · exact .inr ⟨y, List.mem_cons_self, h3.trans h5⟩
      · exact .inr ⟨z, List.mem_cons_of_mem _ hz, h3⟩
theorem out_spec (T : N → N → Int) (l : List (N × Int)) : ∀ (k : List (N × Int)) (m : Int), k.foldl (fun m x => inn T x l m) m ≤ m ∧ (∀ x ∈ k, ∀ y ∈ l, k.foldl (fun m x => inn T x l m) m ≤ x.2 + T x.1 y.1 + y.2) ∧ (k.foldl (fun m x => inn T x l m) m = m ∨ ∃ x ∈ k, ∃ y ∈ l, k.foldl (fun m x => inn T x l m) m = x.2 + T x.1 y.1 + y.2)
  | [], m => ⟨Int.le_refl _, fun y hy => (by cases hy), .inl rfl⟩
  | x :: k, m => by
    obtain ⟨h1, h2, h3⟩ := out_spec T l k (inn T x l m)
    obtain ⟨g1, g2, g3⟩ := inn_spec T x l m
    rw [List.foldl_cons]
    refine ⟨by omega, fun z hz y hy => ?_, ?_⟩
    · rcases List.mem_cons.mp hz with z' | z'
      · subst z'; have := g2 y hy; omega
      · exact h2 z z' y hy
    · rcases h3 with h3 | ⟨z, hz, y, hy, h3⟩
      · rcases g3 with g3 | ⟨y, hy, g3⟩
        · exact .inl (h3.trans g3)
        · exact .inr ⟨x, List.mem_cons_self, y, hy, h3.trans g3⟩
      · exact .inr ⟨z, List.mem_cons_of_mem _ hz, y, hy, h3⟩
variable {rs : List (Rd N)} {ns : List N} {T : N → N → Int}
theorem LB_str (q o : Rd N) (s t : Spt) : LB T q o s t ≤ strt q s t := (out_spec T _ _ _).1
theorem LB_via (q o : Rd N) (s t : Spt) {x y : N × Int} (hx : x ∈ lv q s.2) (hy : y ∈ cm o t.2) : LB T q o s t ≤ x.2 + T x.1 y.1 + y.2 := (out_spec T _ _ _).2.1 x hx y hy
theorem LB_or (q o : Rd N) (s t : Spt) : LB T q o s t = strt q s t ∨ ∃ x ∈ lv q s.2, ∃ y ∈ cm o t.2, LB T q o s t = x.2 + T x.1 y.1 + y.2 := (out_spec T _ _ _).2.2
theorem mem_lv {q : Rd N} {f : Int} {x : N × Int} : x ∈ lv q f ↔ x = (q.b, q.lg - f) ∨ ((q.ow = false ∨ f = 0) ∧ x = (q.a, f)) := by
  unfold lv
  rw [List.mem_cons]
  split
  · rename_i h; simp [h]
  · rename_i h; simp [h]
theorem mem_cm {q : Rd N} {f : Int} {x : N × Int} : x ∈ cm q f ↔ x = (q.a, f) ∨ ((q.ow = false ∨ f = q.lg) ∧ x = (q.b, q.lg - f)) := by
  unfold cm
  rw [List.mem_cons]
  split
  · rename_i h; simp [h]
  · rename_i h; simp [h]
theorem lv_nn {s : Spt} {q : Rd N} (h : On rs s q) {x : N × Int} (hx : x ∈ lv q s.2) : 0 ≤ x.2 ∧ x.2 ≤ q.lg := by
  have h1 := h.lo; have h2 := h.hi
  rcases mem_lv.mp hx with e | ⟨_, e⟩ <;> (rw [e]; dsimp only; omega)
theorem cm_nn {s : Spt} {q : Rd N} (h : On rs s q) {x : N × Int} (hx : x ∈ cm q s.2) : 0 ≤ x.2 ∧ x.2 ≤ q.lg := by
  have h1 := h.lo; have h2 := h.hi
  rcases mem_cm.mp hx with e | ⟨_, e⟩ <;> (rw [e]; dsimp only; omega)
theorem On.mem {s : Spt} {q : Rd N} (h : On rs s q) : q ∈ rs := List.mem_of_getElem? h.at'
theorem lv_ns (W : Web rs ns T) {s : Spt} {q : Rd N} (h : On rs s q) {x : N × Int} (hx : x ∈ lv q s.2) : x.1 ∈ ns := by
  have := W.na q h.mem
  rcases mem_lv.mp hx with e | ⟨_, e⟩ <;> (rw [e]; simp [this])
theorem cm_ns (W : Web rs ns T) {s : Spt} {q : Rd N} (h : On rs s q) {x : N × Int} (hx : x ∈ cm q s.2) : x.1 ∈ ns := by
  have := W.na q h.mem
  rcases mem_cm.mp hx with e | ⟨_, e⟩ <;> (rw [e]; simp [this])
theorem strt_le (W : Web rs ns T) {s t : Spt} {q o : Rd N} (hs : On rs s q) (ht : On rs t o) : 0 ≤ strt q s t ∧ strt q s t ≤ FAR := by
  have h1 := hs.lo; have h2 := ht.lo; have h3 := hs.hi; have h4 := ht.hi
  have h5 := (W.lg q hs.mem).2; have h6 := (W.lg o ht.mem).2
  have hF : FAR = 1000000000 := rfl
  unfold strt absI
  split
  · omega
  · split <;> omega
theorem LB_nn (W : Web rs ns T) {s t : Spt} {q o : Rd N} (hs : On rs s q) (ht : On rs t o) : 0 ≤ LB T q o s t ∧ LB T q o s t ≤ FAR := by
  have h := strt_le W hs ht
  refine ⟨?_, Int.le_trans (LB_str q o s t) h.2⟩
  rcases LB_or (T := T) q o s t with e | ⟨x, hx, y, hy, e⟩ <;> rw [e]
  · exact h.1
  · have := (lv_nn hs hx).1; have := (cm_nn ht hy).1; have := W.dist.nn x.1 y.1; omega
theorem LB_self (W : Web rs ns T) {s : Spt} {q : Rd N} (hs : On rs s q) : LB T q q s s = 0 := by
  have h1 := LB_nn W hs hs
  have h2 := LB_str (T := T) q q s s
  have h3 : strt q s s = 0 := by
    unfold strt
    rw [if_neg (by simp)]
    simp [absI]
  omega
/-- a least length is not very great -/
theorem LB_small (W : Web rs ns T) {s t : Spt} {q o : Rd N} (hs : On rs s q) (ht : On rs t o) (h : LB T q o s t < FAR) : LB T q o s t ≤ 1800 := by
  have h1 := hs.lo; have h2 := ht.lo; have h3 := hs.hi; have h4 := ht.hi
  have h5 := (W.lg q hs.mem).2; have h6 := (W.lg o ht.mem).2
  rcases LB_or (T := T) q o s t with e | ⟨x, hx, y, hy, e⟩
  · rw [e] at h ⊢
    unfold strt at h ⊢
    split at h
    · omega
    · rename_i hn
      rw [if_neg hn]
      unfold absI
      split <;> omega
  · rw [e] at h ⊢
    have b1 := lv_nn hs hx; have b2 := cm_nn ht hy
    have hT : T x.1 y.1 < FAR := by omega
    have := dist_small W.dist (fun a b w he => by
      obtain ⟨q', hq', rfl, h'⟩ := mem_dirR.mp he
      have n := W.na q' hq'
      have l := W.lg q' hq'
      rcases h' with ⟨rfl, rfl⟩ | ⟨_, rfl, rfl⟩
      · exact ⟨n.1, n.2, l.1, l.2⟩
      · exact ⟨n.2, n.1, l.1, l.2⟩) y.1 16 x.1 (lv_ns W hs hx) (Nat.le_trans List.countP_le_length W.ln) hT
    omega
/-- one road more -/
theorem T_road (W : Web rs ns T) {x a b : N} {w : Int} (hx : x ∈ ns) (he : (a, b, w) ∈ dirR rs) (h : T x a < FAR) : T x b ≤ T x a + w :=
  W.dist.le x b _ ((W.dist.rl x a h).app (.one he)) hx
theorem T_self (W : Web rs ns T) {x : N} (hx : x ∈ ns) : T x x = 0 := by
  have h1 := W.dist.le x x 0 (.nil x) hx
  have h2 := W.dist.nn x x
  omega
/-- a spot at a place -/
def At (q : Rd N) (s : Spt) (x : N) : Prop := (s.2 = 0 ∧ x = q.a) ∨ (s.2 = q.lg ∧ x = q.b)
/-- one step, or none, from spot to spot -/
inductive Step (rs : List (Rd N)) : Spt → Spt → Int → Prop
  | fwd {i : Nat} {f : Int} {q : Rd N} : On rs (i, f) q → On rs (i, f + 1) q → Step rs (i, f) (i, f + 1) 1
  | bwd {i : Nat} {f : Int} {q : Rd N} : On rs (i, f) q → On rs (i, f - 1) q → q.ow = false → Step rs (i, f) (i, f - 1) 1
  | jmp {s t : Spt} {q o : Rd N} {x : N} : On rs s q → On rs t o → At q s x → At o t x → Step rs s t 0
theorem at_cm {t : Spt} {o : Rd N} {x : N} (h : At o t x) : (x, 0) ∈ cm o t.2 := by
  rw [mem_cm]
  rcases h with ⟨e, rfl⟩ | ⟨e, rfl⟩
  · left; rw [e]
  · right; exact ⟨.inr e, by rw [e]; simp⟩
theorem at_ns (W : Web rs ns T) {t : Spt} {o : Rd N} (h : On rs t o) {x : N} (hx : At o t x) : x ∈ ns := by
  have := W.na o h.mem
  rcases hx with ⟨_, rfl⟩ | ⟨_, rfl⟩
  · exact this.1
  · exact this.2
theorem On.same {s : Spt} {q q' : Rd N} (h : On rs s q) (h' : On rs s q') : q = q' := by
  have := h.at'
  rw [h'.at'] at this
  exact (Option.some.inj this).symm
theorem LB_step (W : Web rs ns T) {s u v : Spt} {q o o' : Rd N} {w : Int} (hs : On rs s q) (hu : On rs u o) (hv : On rs v o') (h : Step rs u v w) : LB T q o' s v ≤ LB T q o s u + w := by
  have hle := (LB_nn W hs hv).2
  have hw : 0 ≤ w := by cases h <;> omega
  by_cases hF : LB T q o s u < FAR
  case neg => omega
  have s1 := hs.lo; have s2 := hs.hi
  cases h with
  | fwd h1 h2 =>
    rename_i i f qq
    have e1 := hu.same h1; have e2 := h2.same hv
    subst e1; subst e2
    have a1 := h1.lo; have a2 := h1.hi; have a3 := h2.hi
    dsimp only at a1 a2 a3
    rcases LB_or (T := T) q o s (i, f) with e | ⟨x, hx, y, hy, e⟩
    · rw [e] at hF ⊢
      refine Int.le_trans (LB_str q o s (i, f + 1)) ?_
      unfold strt at hF ⊢
      split at hF
      · omega
      · rename_i hn
        dsimp only at hn ⊢
        rw [if_neg hn, if_neg (fun z => hn (z.imp id fun z => ⟨by omega, z.2⟩))]
        unfold absI
        split <;> split <;> omega
    · rw [e]
      rcases mem_cm.mp hy with z | ⟨ho, z⟩
      · have := LB_via (T := T) q o s (i, f + 1) hx (mem_cm.mpr (.inl rfl))
        rw [z]; dsimp only at this ⊢; omega
      · have how : o.ow = false := ho.resolve_right (by dsimp only; omega)
        have := LB_via (T := T) q o s (i, f + 1) hx (mem_cm.mpr (.inr ⟨.inl how, rfl⟩))
        rw [z]; dsimp only at this ⊢; omega
  | bwd h1 h2 how =>
    rename_i i f qq
    have e1 := hu.same h1; have e2 := h2.same hv
    subst e1; subst e2
    have a1 := h1.lo; have a2 := h1.hi; have a3 := h2.lo
    dsimp only at a1 a2 a3
    rcases LB_or (T := T) q o s (i, f) with e | ⟨x, hx, y, hy, e⟩
    · rw [e] at hF ⊢
      refine Int.le_trans (LB_str q o s (i, f - 1)) ?_
      unfold strt at hF ⊢
      split at hF
      · omega
      · rename_i hn
        dsimp only at hn ⊢
        rw [if_neg hn, if_neg (fun z => hn (.inl (z.resolve_right fun z => by
          have hsi : s.1 = i := Classical.byContradiction fun k => hn (.inl k)
          have : q = o := by
            have := hs.at'
            rw [hsi, h1.at'] at this
            exact (Option.some.inj this).symm
          rw [this, how] at z
          cases z.2)))]
        unfold absI
        split <;> split <;> omega
    · rw [e]
      rcases mem_cm.mp hy with z | ⟨ho, z⟩
      · have := LB_via (T := T) q o s (i, f - 1) hx (mem_cm.mpr (.inl rfl))
        rw [z]; dsimp only at this ⊢; omega
      · have := LB_via (T := T) q o s (i, f - 1) hx (mem_cm.mpr (.inr ⟨.inl how, rfl⟩))
        rw [z]; dsimp only at this ⊢; omega
  | jmp h1 h2 hx0 hy0 =>
    rename_i qq oo x0
    have e1 := hu.same h1; have e2 := hv.same h2
    subst e1; subst e2
    have u1 := h1.lo; have u2 := h1.hi
    have lg := W.lg o h1.mem
    have hxn := at_ns W h1 hx0
    have hc := at_cm hy0
    rcases LB_or (T := T) q o s u with e | ⟨x, hx, y, hy, e⟩
    · rw [e] at hF ⊢
      have key : ∃ c, (x0, c) ∈ lv q s.2 ∧ c = strt q s u := by
        unfold strt at hF ⊢
        split at hF
        · omega
        · rename_i hn
          rw [if_neg hn]
          have hsi : s.1 = u.1 := Classical.byContradiction fun k => hn (.inl k)
          have eq : q = o := by
            have := hs.at'
            rw [hsi, h1.at'] at this
            exact (Option.some.inj this).symm
          subst eq
          rcases hx0 with ⟨z, rfl⟩ | ⟨z, rfl⟩
          · refine ⟨s.2, mem_lv.mpr (.inr ⟨?_, rfl⟩), ?_⟩
            · by_cases h0 : s.2 = 0
              · exact .inr h0
              · left
                cases ho : q.ow with
                | false => rfl
                | true => exact (hn (.inr ⟨by omega, ho⟩)).elim
            · unfold absI; split <;> omega
          · refine ⟨q.lg - s.2, mem_lv.mpr (.inl rfl), ?_⟩
            unfold absI; split <;> omega
      obtain ⟨c, h3, h4⟩ := key
      have := LB_via (T := T) q o' s v h3 hc
      dsimp only at this
      rw [T_self W hxn] at this
      omega
    · rw [e] at hF ⊢
      have b1 := (lv_nn hs hx).1; have b2 := (cm_nn h1 hy).1
      have hT : T x.1 y.1 < FAR := by omega
      have hl := LB_via (T := T) q o' s v hx hc
      have key : T x.1 x0 ≤ T x.1 y.1 + y.2 := by
        rcases mem_cm.mp hy with z | ⟨ho, z⟩ <;> rw [z] at hT ⊢ <;> dsimp only at hT ⊢
        · rcases hx0 with ⟨k, rfl⟩ | ⟨k, rfl⟩
          · omega
          · rw [k]
            exact T_road W (lv_ns W hs hx) (mem_dirR.mpr ⟨o, h1.mem, rfl, .inl ⟨rfl, rfl⟩⟩) hT
        · rcases hx0 with ⟨k, rfl⟩ | ⟨k, rfl⟩
          · have how : o.ow = false := ho.resolve_right (by omega)
            rw [k, Int.sub_zero]
            exact T_road W (lv_ns W hs hx) (mem_dirR.mpr ⟨o, h1.mem, rfl, .inr ⟨how, rfl, rfl⟩⟩) hT
          · omega
      dsimp only at hl
      omega
/-- what no step makes less is no more than the least length -/
theorem closed_le (W : Web rs ns T) {g : Spt → Int} {s t : Spt} {q o : Rd N} (hs : On rs s q) (ht : On rs t o) (g0 : g s ≤ 0) (hg : ∀ u v w, Step rs u v w → g v ≤ g u + w) (h : LB T q o s t < FAR) : g t ≤ LB T q o s t := by
  have up : ∀ (k : Nat) (i : Nat) (f : Int) (q : Rd N), On rs (i, f) q → On rs (i, f + k) q → g (i, f + k) ≤ g (i, f) + k := by
    intro k
    induction k with
    | zero => intro i f q _ _; simp
    | succ k ih =>
      intro i f q h1 h2
      have l1 := h1.lo; have l2 := h2.hi
      dsimp only at l1 l2
      have h3 : On rs (i, f + k) q := ⟨h1.at', by dsimp only; omega, by dsimp only; omega⟩
      have h4 : f + ((k + 1 : Nat) : Int) = f + k + 1 := by omega
      rw [h4] at h2 ⊢
      have := ih i f q h1 h3
      have := hg _ _ _ (.fwd h3 h2)
      omega
  have dn : ∀ (k : Nat) (i : Nat) (f : Int) (q : Rd N), q.ow = false → On rs (i, f) q → On rs (i, f - k) q → g (i, f - k) ≤ g (i, f) + k := by
    intro k
    induction k with
    | zero => intro i f q _ _ _; simp
    | succ k ih =>
      intro i f q ho h1 h2
      have l1 := h1.hi; have l2 := h2.lo
      dsimp only at l1 l2
      have h3 : On rs (i, f - k) q := ⟨h1.at', by dsimp only; omega, by dsimp only; omega⟩
      have h4 : f - ((k + 1 : Nat) : Int) = f - k - 1 := by omega
      rw [h4] at h2 ⊢
      have := ih i f q ho h1 h3
      have := hg _ _ _ (.bwd h3 h2 ho)
      omega
  have along : ∀ (i : Nat) (f f' : Int) (q : Rd N), On rs (i, f) q → On rs (i, f') q → (f ≤ f' ∨ q.ow = false) → g (i, f') ≤ g (i, f) + absI (f' - f) := by
    intro i f f' q h1 h2 hor
    by_cases hle : f ≤ f'
    · have e : f' = f + ((f' - f).toNat : Int) := by omega
      have := up (f' - f).toNat i f q h1 (by rw [← e]; exact h2)
      rw [← e] at this
      unfold absI
      split <;> omega
    · have e : f' = f - ((f - f').toNat : Int) := by omega
      have := dn (f - f').toNat i f q (hor.resolve_left hle) h1 (by rw [← e]; exact h2)
      rw [← e] at this
      unfold absI
      split <;> omega
  have road : ∀ {a b : N} {l : Int}, Walk (dirR rs) a b l → ∀ u qu, On rs u qu → At qu u a → ∃ v qv, On rs v qv ∧ At qv v b ∧ g v ≤ g u + l := by
    intro a b l hw
    induction hw with
    | nil a => intro u qu h1 h2; exact ⟨u, qu, h1, h2, by omega⟩
    | cons e _ ih =>
      rename_i a b c w l
      intro u qu h1 h2
      obtain ⟨q', hq', rfl, h3⟩ := mem_dirR.mp e
      obtain ⟨i, hi, ei⟩ := List.getElem_of_mem hq'
      have hat : rs[i]? = some q' := by rw [List.getElem?_eq_getElem hi, ei]
      have lg := W.lg q' hq'
      have o0 : On rs (i, 0) q' := ⟨hat, Int.le_refl _, by dsimp only; omega⟩
      have o1 : On rs (i, q'.lg) q' := ⟨hat, by dsimp only; omega, Int.le_refl _⟩
      rcases h3 with ⟨rfl, rfl⟩ | ⟨ho, rfl, rfl⟩
      · have j := hg _ _ _ (.jmp h1 o0 h2 (.inl ⟨rfl, rfl⟩))
        have k := along i 0 q'.lg q' o0 o1 (.inl (by omega))
        obtain ⟨v, qv, g1, g2, g3⟩ := ih (i, q'.lg) q' o1 (.inr ⟨rfl, rfl⟩)
        refine ⟨v, qv, g1, g2, ?_⟩
        unfold absI at k
        split at k <;> omega
      · have j := hg _ _ _ (.jmp h1 o1 h2 (.inr ⟨rfl, rfl⟩))
        have k := along i q'.lg 0 q' o1 o0 (.inr ho)
        obtain ⟨v, qv, g1, g2, g3⟩ := ih (i, 0) q' o0 (.inl ⟨rfl, rfl⟩)
        refine ⟨v, qv, g1, g2, ?_⟩
        unfold absI at k
        split at k <;> omega
  have s1 := hs.lo; have s2 := hs.hi; have t1 := ht.lo; have t2 := ht.hi
  have lq := W.lg q hs.mem; have lo := W.lg o ht.mem
  rcases LB_or (T := T) q o s t with e | ⟨x, hx, y, hy, e⟩
  · rw [e] at h ⊢
    unfold strt at h ⊢
    split at h
    · omega
    · rename_i hn
      rw [if_neg hn]
      have hst : s.1 = t.1 := Classical.byContradiction fun k => hn (.inl k)
      have eq : q = o := by
        have := hs.at'
        rw [hst, ht.at'] at this
        exact (Option.some.inj this).symm
      subst eq
      have ht' : On rs (s.1, t.2) q := ⟨hs.at', t1, t2⟩
      have := along s.1 s.2 t.2 q hs ht' (by
        by_cases hle : s.2 ≤ t.2
        · exact .inl hle
        · right
          cases ho : q.ow with
          | false => rfl
          | true => exact (hn (.inr ⟨by omega, ho⟩)).elim)
      have et : (s.1, t.2) = t := by rw [hst]
      have es : (s.1, s.2) = s := rfl
      rw [et, es] at this
      omega
  · rw [e] at h ⊢
    have b1 := (lv_nn hs hx).1; have b2 := (cm_nn ht hy).1
    have hT : T x.1 y.1 < FAR := by omega
    have o0 : On rs (s.1, 0) q := ⟨hs.at', Int.le_refl _, by dsimp only; omega⟩
    have o1 : On rs (s.1, q.lg) q := ⟨hs.at', by dsimp only; omega, Int.le_refl _⟩
    have r0 : On rs (t.1, 0) o := ⟨ht.at', Int.le_refl _, by dsimp only; omega⟩
    have r1 : On rs (t.1, o.lg) o := ⟨ht.at', by dsimp only; omega, Int.le_refl _⟩
    have es : (s.1, s.2) = s := rfl
    have et : (t.1, t.2) = t := rfl
    -- out of s
    have h1 : ∃ u qu, On rs u qu ∧ At qu u x.1 ∧ g u ≤ g s + x.2 := by
      rcases mem_lv.mp hx with z | ⟨ho, z⟩
      · refine ⟨_, q, o1, .inr ⟨rfl, by rw [z]⟩, ?_⟩
        have := along s.1 s.2 q.lg q hs o1 (.inl (by omega))
        rw [es] at this
        rw [z]
        dsimp only
        unfold absI at this
        split at this <;> omega
      · refine ⟨_, q, o0, .inl ⟨rfl, by rw [z]⟩, ?_⟩
        have := along s.1 s.2 0 q hs o0 (by
          rcases ho with ho | ho
          · exact .inr ho
          · exact .inl (by omega))
        rw [es] at this
        rw [z]
        dsimp only
        unfold absI at this
        split at this <;> omega
    obtain ⟨u, qu, u1, u2, u3⟩ := h1
    obtain ⟨v, qv, v1, v2, v3⟩ := road (W.dist.rl x.1 y.1 hT) u qu u1 u2
    have h2 : g t ≤ g v + y.2 := by
      rcases mem_cm.mp hy with z | ⟨ho, z⟩
      · have j := hg _ _ _ (.jmp v1 r0 v2 (.inl ⟨rfl, by rw [z]⟩))
        have := along t.1 0 t.2 o r0 ht (.inl (by omega))
        rw [et] at this
        rw [z]
        dsimp only
        unfold absI at this
        split at this <;> omega
      · have j := hg _ _ _ (.jmp v1 r1 v2 (.inr ⟨rfl, by rw [z]⟩))
        have := along t.1 o.lg t.2 o r1 ht (by
          rcases ho with ho | ho
          · exact .inr ho
          · exact .inl (by omega))
        rw [et] at this
        rw [z]
        dsimp only
        unfold absI at this
        split at this <;> omega
    omega
end
end Sp

set_option Elab.async false
set_option linter.all false
set_option maxRecDepth 100000
set_option maxHeartbeats 1000000
/-! The plain law of k10: spots and lengths, by their values. -/
namespace K10
open PySem Gh
abbrev Spot := Sp.Spt
def spD (s : Spot) : D := .tup [.int s.1, .int s.2]
def wD (p : Pls) (r : Rds) : D := .tup [.dic (plD p), .lst (rdD r)]
def rdR (p : Pls) (q : Str × Str × Bool) : Sp.Rd Str := ⟨q.1, q.2.1, q.2.2, rfar p q⟩
def rsR (p : Pls) (r : Rds) : List (Sp.Rd Str) := r.map (rdR p)
theorem dirs_eq (p : Pls) (r : Rds) : dirs p r = Sp.dirR (rsR p r) := by
  unfold dirs Sp.dirR rsR
  rw [List.flatMap_map]
  rfl
abbrev On (p : Pls) (r : Rds) (s : Spot) (q : Str × Str × Bool) : Prop := r[s.1]? = some q ∧ 0 ≤ s.2 ∧ s.2 ≤ rfar p q
theorem on_sp {p : Pls} {r : Rds} {s : Spot} {q : Str × Str × Bool} (h : On p r s q) : Sp.On (rsR p r) s (rdR p q) := ⟨by simp [rsR, h.1], h.2.1, h.2.2⟩
def SpOk (p : Pls) (r : Rds) (s : Spot) : Prop := ∃ q, On p r s q
theorem longW {p : Pls} {r : Rds} (hr : RdsOk p r) {i : Nat} {q : Str × Str × Bool} (hq : r[i]? = some q) (G : GH) : m_long_of [.tup [.dic (plD p), .lst (rdD r)], .int i] G = .ok (.int (rfar p q)) G := by
  obtain ⟨A, B, hab⟩ := hr.rd q (List.mem_of_getElem? hq)
  rw [rfar_eq hab]
  exact long_ok p r i q A B hq hab G
theorem far_pos {A B : Pt} (h : ¬ (A.1 = B.1 ∧ A.2 = B.2)) : 1 ≤ far A B := by
  unfold far; split <;> split <;> omega
theorem rfar_pos {p : Pls} {r : Rds} (hr : RdsOk p r) {q : Str × Str × Bool} (hq : q ∈ r) : 1 ≤ rfar p q := by
  obtain ⟨A, B, hab⟩ := hr.rd q hq
  rw [rfar_eq hab]
  exact far_pos hab.ne
theorem web_sp {p : Pls} {r : Rds} (hr : RdsOk p r) (hs : ∀ q ∈ r, rfar p q < 99) {T : Str → Str → Int} (hD : Sp.Dist (dirs p r) (srt p) T) : Sp.Web (rsR p r) (srt p) T := by
  refine ⟨by rw [← dirs_eq]; exact hD, fun q hq => ?_, fun q hq => ?_, srt_len hr.pl⟩
  · obtain ⟨q', hq', rfl⟩ := List.mem_map.mp hq
    have h1 := rfar_pos hr hq'
    have h2 := hs q' hq'
    show 1 ≤ rfar p q' ∧ rfar p q' ≤ 100
    omega
  · obtain ⟨q', hq', rfl⟩ := List.mem_map.mp hq
    obtain ⟨A, B, hab⟩ := hr.rd q' hq'
    exact ⟨look_srt hab.la, look_srt hab.lb⟩
/-- the least length by the table T -/
def lb (p : Pls) (r : Rds) (T : Str → Str → Int) (s t : Spot) : Int := match r[s.1]?, r[t.1]? with
  | some q, some o => Sp.LB T (rdR p q) (rdR p o) s t
  | _, _ => 0
theorem lb_eq {p : Pls} {r : Rds} {T : Str → Str → Int} {s t : Spot} {q o : Str × Str × Bool} (hs : On p r s q) (ht : On p r t o) : lb p r T s t = Sp.LB T (rdR p q) (rdR p o) s t := by
  unfold lb
  rw [hs.1, ht.1]
def endD (x : Str × Int) : D := .tup [.str x.1, .int x.2]
theorem abs_eq (i : Int) : (if i < 0 then -i else i) = Sp.absI i := rfl
theorem straight_val {p : Pls} {r : Rds} {a b : Spot} {q : Str × Str × Bool} (ha : On p r a q) (G : GH) : m_straight [wD p r, spD a, spD b] G = .ok (.int (Sp.strt (rdR p q) a b)) G := by
  have hat := rd_at ha.1
  refine post_ok ?_
  unfold m_straight b_straight wD spD
  refine p_def rfl ?_
  refine p_seq (p_if ?_)
  refine Post.mono (P := fun k G1 => G1 = G ∧ k = decide (a.1 ≠ b.1 ∨ (b.2 < a.2 ∧ q.2.2 = true))) ?_ fun k G1 ⟨e, e2⟩ => ?_
  · bv_omega
    refine ite_same (fun e => ?_) fun e => ?_
    · refine ⟨rfl, ?_⟩
      have e' : ¬ (a.1 : Int) = (b.1 : Int) := by simpa using e
      have : a.1 ≠ b.1 := fun z => e' (by rw [z])
      simp [this]
    have e' : (a.1 : Int) = (b.1 : Int) := by simpa using e
    have h1 : a.1 = b.1 := by omega
    bv_omega
    refine ite_same (fun e2 => ?_) fun e2 => ?_
    · bv_omega
      unfold rdD1
      bv_omega
      refine ⟨rfl, ?_⟩
      have h2 : b.2 < a.2 := by simpa using e2
      cases q.2.2 <;> simp [h1, h2]
    · refine ⟨rfl, ?_⟩
      have h2 : ¬ b.2 < a.2 := by simpa using e2
      simp [h1, h2]
  subst e
  refine ite_same (fun e => ?_) fun e => ?_
  · bv_omega
    refine ⟨?_, rfl⟩
    rw [e2] at e
    unfold Sp.strt
    rw [if_pos (show a.1 ≠ b.1 ∨ (b.2 < a.2 ∧ (rdR p q).ow = true) from of_decide_eq_true e)]
  · bv_omega
    refine ⟨?_, rfl⟩
    rw [e2] at e
    unfold Sp.strt
    rw [if_neg (show ¬ (a.1 ≠ b.1 ∨ (b.2 < a.2 ∧ (rdR p q).ow = true)) from of_decide_eq_false e)]
    rfl
theorem leaving_val {p : Pls} {r : Rds} (hr : RdsOk p r) {a : Spot} {q : Str × Str × Bool} (ha : On p r a q) (G : GH) : m_leaving [wD p r, spD a] G = .ok (.lst ((Sp.lv (rdR p q) a.2).map endD)) G := by
  have hat := rd_at ha.1
  refine post_ok ?_
  unfold m_leaving b_leaving wD spD
  refine p_def rfl ?_
  refine p_seq (p_asgT ?_)
  bv_omega
  refine ⟨rfl, ?_⟩
  bv_omega
  refine p_own ?_
  bv_omega
  refine Post.of_eq (longW hr ha.1 G) ?_
  bv_omega
  refine ⟨by show 2 < 6; decide, ?_⟩
  dsimp only
  refine p_seq (p_if ?_)
  refine Post.mono (P := fun k G1 => G1 = G ∧ k = decide (q.2.2 = false ∨ a.2 = 0)) ?_ fun k G1 ⟨e, e2⟩ => ?_
  · bv_omega
    refine ite_same (fun e => ⟨rfl, ?_⟩) fun e => ?_
    · have : q.2.2 = false := by simpa using e
      simp [this]
    · bv_omega
      refine ⟨rfl, ?_⟩
      have : q.2.2 = true := by simpa using e
      simp [this]
  subst e
  refine ite_same (fun e => ?_) fun e => ?_
  · rw [e2] at e
    have e' : q.2.2 = false ∨ a.2 = 0 := by simpa using e
    refine p_appO rfl ?_
    bv_omega
    refine ⟨by show 1 < 100000; decide, ?_⟩
    dsimp only
    refine p_frz rfl ?_
    bv_omega
    refine ⟨?_, rfl⟩
    unfold Sp.lv
    rw [if_pos (show (rdR p q).ow = false ∨ a.2 = 0 from e')]
    rfl
  · rw [e2] at e
    have e' : ¬ (q.2.2 = false ∨ a.2 = 0) := by simpa using e
    refine p_next ?_
    dsimp only
    refine p_frz rfl ?_
    bv_omega
    refine ⟨?_, rfl⟩
    unfold Sp.lv
    rw [if_neg (show ¬ ((rdR p q).ow = false ∨ a.2 = 0) from e')]
    rfl
theorem coming_val {p : Pls} {r : Rds} (hr : RdsOk p r) {a : Spot} {q : Str × Str × Bool} (ha : On p r a q) (G : GH) : m_coming [wD p r, spD a] G = .ok (.lst ((Sp.cm (rdR p q) a.2).map endD)) G := by
  have hat := rd_at ha.1
  refine post_ok ?_
  unfold m_coming b_coming wD spD
  refine p_def rfl ?_
  refine p_seq (p_asgT ?_)
  bv_omega
  refine ⟨rfl, ?_⟩
  bv_omega
  refine Post.of_eq (longW hr ha.1 G) ?_
  bv_omega
  refine p_own ?_
  bv_omega
  refine ⟨by show 3 < 7; decide, ?_⟩
  dsimp only
  refine p_seq (p_if ?_)
  refine Post.mono (P := fun k G1 => G1 = G ∧ k = decide (q.2.2 = false ∨ a.2 = rfar p q)) ?_ fun k G1 ⟨e, e2⟩ => ?_
  · bv_omega
    refine ite_same (fun e => ⟨rfl, ?_⟩) fun e => ?_
    · have : q.2.2 = false := by simpa using e
      simp [this]
    · bv_omega
      refine ⟨rfl, ?_⟩
      have : q.2.2 = true := by simpa using e
      simp [this]
  subst e
  refine ite_same (fun e => ?_) fun e => ?_
  · rw [e2] at e
    have e' : q.2.2 = false ∨ a.2 = rfar p q := by simpa using e
    refine p_appO rfl ?_
    bv_omega
    refine ⟨by show 1 < 100000; decide, ?_⟩
    dsimp only
    refine p_frz rfl ?_
    bv_omega
    refine ⟨?_, rfl⟩
    unfold Sp.cm
    rw [if_pos (show (rdR p q).ow = false ∨ a.2 = (rdR p q).lg from e')]
    rfl
  · rw [e2] at e
    have e' : ¬ (q.2.2 = false ∨ a.2 = rfar p q) := by simpa using e
    refine p_next ?_
    dsimp only
    refine p_frz rfl ?_
    bv_omega
    refine ⟨?_, rfl⟩
    unfold Sp.cm
    rw [if_neg (show ¬ ((rdR p q).ow = false ∨ a.2 = (rdR p q).lg) from e')]
    rfl
theorem lv_srt {p : Pls} {r : Rds} (hr : RdsOk p r) {q : Str × Str × Bool} (hq : q ∈ r) {f : Int} : ∀ x ∈ Sp.lv (rdR p q) f, x.1 ∈ srt p := fun x hx => by
  obtain ⟨A, B, hab⟩ := hr.rd q hq
  rcases Sp.mem_lv.mp hx with e | ⟨_, e⟩ <;> rw [e]
  · exact look_srt hab.lb
  · exact look_srt hab.la
theorem cm_srt {p : Pls} {r : Rds} (hr : RdsOk p r) {q : Str × Str × Bool} (hq : q ∈ r) {f : Int} : ∀ x ∈ Sp.cm (rdR p q) f, x.1 ∈ srt p := fun x hx => by
  obtain ⟨A, B, hab⟩ := hr.rd q hq
  rcases Sp.mem_cm.mp hx with e | ⟨_, e⟩ <;> rw [e]
  · exact look_srt hab.la
  · exact look_srt hab.lb
theorem lengthby_val {p : Pls} {r : Rds} (hr : RdsOk p r) {kvs : List (List L2.Key × D)} {T : Str → Str → Int} (hT : Tab (srt p) kvs T) {a b : Spot} (ha : SpOk p r a) (hb : SpOk p r b) (G : GH) : m_length_by [wD p r, .dit kvs, spD a, spD b] G = .ok (.int (lb p r T a b)) G := by
  obtain ⟨q, ha⟩ := ha
  obtain ⟨o, hb⟩ := hb
  rw [lb_eq ha hb]
  have h0 := straight_val (b := b) ha G
  have h1 := leaving_val hr ha G
  have h3 := coming_val hr hb G
  have h2 := lv_srt hr (List.mem_of_getElem? ha.1) (f := a.2)
  have h4 := cm_srt hr (List.mem_of_getElem? hb.1) (f := b.2)
  unfold Sp.LB
  generalize Sp.lv (rdR p q) a.2 = la at h1 h2 ⊢
  generalize Sp.cm (rdR p o) b.2 = lc at h3 h4 ⊢
  generalize Sp.strt (rdR p q) a b = L0 at h0 ⊢
  refine post_ok ?_
  unfold m_length_by b_length_by
  refine p_def rfl ?_
  bv_omega
  refine Post.of_eq h0 ?_
  bv_omega
  refine Post.of_eq h1 ?_
  refine .inl ⟨_, rfl, ?_⟩
  refine p_forL (fun k ρ G1 => G1 = G ∧ ∃ (x5 x6 x7 x8 : Option SV), ρ = [some (.v (wD p r)), some (.v (.dit kvs)), some (.v (spD a)), some (.v (spD b)), some (.v (.int ((la.take k).foldl (fun m x => Sp.inn T x lc m) L0))), x5, x6, x7, x8]) (n := 0) ⟨rfl, _, _, _, _, rfl⟩ ?_ ?_
  · intro k d ρ1 G1 hk i1
    obtain ⟨rfl, x5, x6, x7, x8, rfl⟩ := i1
    rw [Nat.zero_add] at *
    rw [List.getElem?_map] at hk
    obtain ⟨x, hx, rfl⟩ := Option.map_eq_some_iff.mp hk
    have hxn := h2 x (List.mem_of_getElem? hx)
    rw [List.take_add_one, hx, Option.toList_some, List.foldl_append, List.foldl_cons, List.foldl_nil]
    generalize (la.take k).foldl (fun m x => Sp.inn T x lc m) L0 = L1
    unfold endD
    show Post (sFor _ _ _ _ _) _
    bv_omega
    refine Post.of_eq h3 ?_
    refine .inl ⟨_, rfl, ?_⟩
    refine p_forL (fun k ρ G2 => G2 = G1 ∧ ∃ (x7 x8 : Option SV), ρ = [some (.v (wD p r)), some (.v (.dit kvs)), some (.v (spD a)), some (.v (spD b)), some (.v (.int (Sp.inn T x (lc.take k) L1))), some (.v (.str x.1)), some (.v (.int x.2)), x7, x8]) (n := 0) ⟨rfl, _, _, rfl⟩ ?_ ?_
    · intro k d ρ2 G2 hk i2
      obtain ⟨rfl, x7, x8, rfl⟩ := i2
      rw [Nat.zero_add] at *
      rw [List.getElem?_map] at hk
      obtain ⟨y, hy, rfl⟩ := Option.map_eq_some_iff.mp hk
      have hyn := h4 y (List.mem_of_getElem? hy)
      have hin : Sp.inn T x (lc.take (k + 1)) L1 = Sp.min' (Sp.inn T x (lc.take k) L1) (x.2 + T x.1 y.1 + y.2) := by
        unfold Sp.inn
        rw [List.take_add_one, hy, Option.toList_some, List.foldl_append]
        rfl
      rw [hin]
      unfold endD
      show Post (sAsg _ _ _ _) _
      bv_omega
      refine ixT_ok (hT.val _ hxn _ hyn) ?_
      bv_omega
      exact ⟨rfl, _, _, rfl⟩
    · intro ρ2 G2 i2
      obtain ⟨rfl, x7, x8, rfl⟩ := i2
      rw [Nat.zero_add, List.length_map, List.take_length]
      exact ⟨rfl, _, _, _, _, rfl⟩
  · intro ρ1 G1 i1
    obtain ⟨rfl, x5, x6, x7, x8, rfl⟩ := i1
    rw [Nat.zero_add, List.length_map, List.take_length]
    dsimp only
    bv_omega
    exact ⟨rfl, rfl⟩
/-! ### all spots -/
def rowS (k : Nat) (w : Int) : List Spot := (List.range (w + 1).toNat).map fun (f : Nat) => (k, (f : Int))
def rowsS (p : Pls) (r : Rds) (k : Nat) : List Spot := match r[k]? with
  | some q => rowS k (rfar p q)
  | none => []
def spots (p : Pls) (r : Rds) (n : Nat) : List Spot := (List.range n).flatMap (rowsS p r)
theorem spots_succ (p : Pls) (r : Rds) (n : Nat) : spots p r (n + 1) = spots p r n ++ rowsS p r n := by
  unfold spots
  rw [List.range_succ, List.flatMap_append]
  simp
theorem rowS_map (k : Nat) (w : Int) : ((upto 0 (w + 1).toNat).map fun d => D.tup [.int (k : Int), d]) = (rowS k w).map spD := by
  unfold upto rowS
  rw [List.map_map, List.map_map]
  apply List.map_congr_left
  intro f _
  simp [spD]
theorem mem_rowS {k : Nat} {w : Int} (hw : 0 ≤ w) {s : Spot} : s ∈ rowS k w ↔ s.1 = k ∧ 0 ≤ s.2 ∧ s.2 ≤ w := by
  unfold rowS
  rw [List.mem_map]
  constructor
  · rintro ⟨f, hf, rfl⟩
    have := List.mem_range.mp hf
    exact ⟨rfl, by simp, by dsimp only; omega⟩
  · rintro ⟨h1, h2, h3⟩
    refine ⟨s.2.toNat, List.mem_range.mpr (by omega), ?_⟩
    obtain ⟨a, b⟩ := s
    dsimp only at *
    rw [h1, Int.toNat_of_nonneg h2]
theorem mem_spots {p : Pls} {r : Rds} {n : Nat} {s : Spot} : s ∈ spots p r n ↔ SpOk p r s ∧ s.1 < n := by
  unfold spots
  rw [List.mem_flatMap]
  constructor
  · rintro ⟨k, hk, h⟩
    have hk := List.mem_range.mp hk
    unfold rowsS at h
    cases hq : r[k]? with
    | none => rw [hq] at h; cases h
    | some q =>
      rw [hq] at h
      obtain ⟨h1, h2, h3⟩ := (mem_rowS (rfar_nn p q)).mp h
      exact ⟨⟨q, by rw [h1]; exact hq, h2, h3⟩, by omega⟩
  · rintro ⟨⟨q, h1, h2, h3⟩, h4⟩
    refine ⟨s.1, List.mem_range.mpr h4, ?_⟩
    unfold rowsS
    rw [h1]
    exact (mem_rowS (rfar_nn p q)).mpr ⟨rfl, h2, h3⟩
theorem spots_len {p : Pls} {r : Rds} (hs : ∀ q ∈ r, rfar p q < 99) : ∀ n, (spots p r n).length ≤ 100 * n
  | 0 => by simp [spots]
  | n + 1 => by
    rw [spots_succ, List.length_append]
    have := spots_len hs n
    have : (rowsS p r n).length ≤ 100 := by
      unfold rowsS
      cases hq : r[n]? with
      | none => simp
      | some q =>
        have := hs q (List.mem_of_getElem? hq)
        simp [rowS]
        omega
    omega
abbrev every (p : Pls) (r : Rds) : List Spot := spots p r r.length
theorem mem_every {p : Pls} {r : Rds} {s : Spot} : s ∈ every p r ↔ SpOk p r s := by
  rw [mem_spots]
  constructor
  · exact fun h => h.1
  · rintro ⟨q, h1, h2⟩
    exact ⟨⟨q, h1, h2⟩, (List.getElem?_eq_some_iff.mp h1).1⟩
theorem lim3000 {n : Nat} (h : n ≤ 3000) : n < LIM := Nat.lt_of_le_of_lt h (by decide)
end K10

set_option Elab.async false
set_option linter.all false
set_option maxRecDepth 100000
set_option maxHeartbeats 1000000
/-! The plain law of k10: what is looked at; the law's own spots. -/
namespace K10
open PySem Gh
theorem isspot_ok {p : Pls} {r : Rds} (hr : RdsOk p r) {s : Spot} (hs : SpOk p r s) (G : GH) : m_is_spot [.tup [.dic (plD p), .lst (rdD r)], spD s] G = .ok (.bl true) G := by
  obtain ⟨q, hq, lo, hi⟩ := hs
  have hl : s.1 < r.length := (List.getElem?_eq_some_iff.mp hq).1
  have hrl := rdD_len r
  refine post_ok ?_
  unfold m_is_spot b_is_spot spD
  refine p_def rfl ?_
  bv_omega
  refine Post.of_eq (whole_ok s.1 0 _ G (by omega) (by omega)) ?_
  bv_omega
  refine Post.of_eq (longW hr hq G) ?_
  bv_omega
  exact Post.of_eq (whole_ok s.2 0 _ G lo hi) ⟨rfl, rfl⟩
theorem lookspot_ok {p : Pls} {r : Rds} (hr : RdsOk p r) {s : Spot} (hs : SpOk p r s) (G : GH) : m_look_spot [.tup [.dic (plD p), .lst (rdD r)], spD s] G = .ok .non G := by
  refine post_ok ?_
  unfold m_look_spot b_look_spot
  refine p_def rfl ?_
  bv_omega
  refine Post.of_eq (isspot_ok hr hs G) ?_
  bv_omega
  exact ⟨rfl, rfl⟩
theorem web_rds {p : Pls} {r : Rds} (h : Web p r) : RdsOk p r := ⟨h.pl, h.rd, h.hi⟩
def lawlongF (p : Pls) : D → D
  | .str n => (look p n).elim .non ptD
  | _ => .non
theorem lawlong_ok (p : Pls) (r : Rds) (k : Nat) (q : Str × Str × Bool) (a b : Int × Int) (hk : r[k]? = some q) (h : RdOk p q a b) (G : GH) : m__law_long [.tup [.dic (plD p), .lst (rdD r)], .int k] G = .ok (.int (far a b)) G := by
  refine post_ok ?_
  have va : valD (plD p) (.inr q.1) = some (ptD a) := by rw [val_look, h.la]; rfl
  have vb : valD (plD p) (.inr q.2.1) = some (ptD b) := by rw [val_look, h.lb]; rfl
  have hat := rd_at hk
  unfold m__law_long b__law_long
  refine p_def rfl ?_
  bv_omega
  refine Post.inS ?_
  bv_omega
  unfold rdD1
  bv_omega
  refine .inr ⟨_, rfl, by show 2 < 100000; decide, ?_⟩
  refine p_compL (F := lawlongF p) (fun d hd => post_ok ?_) (frzL_ok ?_)
  · have hd' : d = .str q.1 ∨ d = .str q.2.1 := by
      have : d ∈ [D.str q.1, D.str q.2.1] := hd
      simpa using this
    bv_omega
    rcases hd' with e | e
    · subst e
      refine ixK_ok va ?_
      exact ⟨by simp [lawlongF, h.la], rfl⟩
    · subst e
      refine ixK_ok vb ?_
      exact ⟨by simp [lawlongF, h.lb], rfl⟩
  · have e : (cutD [D.str q.1, D.str q.2.1, D.bl q.2.2] none (some 2)).map (lawlongF p) = [ptD a, ptD b] := by
      show ([D.str q.1, D.str q.2.1]).map (lawlongF p) = _
      simp [lawlongF, h.la, h.lb]
    rw [e]
    show Post _ _
    bv_omega
    exact ⟨rfl, rfl⟩
theorem lawlong_val {p : Pls} {r : Rds} (hr : RdsOk p r) {i : Nat} {q : Str × Str × Bool} (hq : r[i]? = some q) (G : GH) : m__law_long [.tup [.dic (plD p), .lst (rdD r)], .int i] G = .ok (.int (rfar p q)) G := by
  obtain ⟨A, B, hab⟩ := hr.rd q (List.mem_of_getElem? hq)
  rw [rfar_eq hab]
  exact lawlong_ok p r i q A B hq hab G
theorem lawspots_val {p : Pls} {r : Rds} (hr : RdsOk p r) (hs : ∀ q ∈ r, rfar p q < 99) (G : GH) : m__law_spots [wD p r] G = .ok (.lst ((every p r).map spD)) G := by
  have hrl := rdD_len r
  have hll := hr.len
  refine post_ok ?_
  unfold m__law_spots b__law_spots wD
  refine p_def rfl ?_
  bv_omega
  refine p_rng1 ?_
  bv_omega
  rw [hrl]
  refine ⟨by omega, by omega, ?_⟩
  rw [Int.toNat_natCast]
  refine p_forL (fun k ρ G1 => G1 = G ∧ ∃ (x y : Option SV), ρ = [some (.v (.tup [.dic (plD p), .lst (rdD r)])), some (.v (.lst ((spots p r k).map spD))), x, y]) (n := 0) ⟨rfl, _, _, rfl⟩ ?_ ?_
  · intro k dk ρ1 G1 hk i1
    obtain ⟨rfl, x, y, rfl⟩ := i1
    rw [Nat.zero_add] at *
    have hkr : k < r.length := by
      have := (List.getElem?_eq_some_iff.mp hk).1
      simpa [upto] using this
    have hdk : dk = .int (k : Int) := by
      simp [upto, hkr] at hk
      exact hk.symm
    subst hdk
    obtain ⟨q, hq⟩ : ∃ q, r[k]? = some q := ⟨_, List.getElem?_eq_getElem hkr⟩
    have hlong := lawlong_val hr hq G1
    have hq99 := hs q (List.mem_of_getElem? hq)
    have hnn := rfar_nn p q
    have hsl2 := spots_len (p := p) (r := r) hs (k + 1)
    have hrw : rowsS p r k = rowS k (rfar p q) := by unfold rowsS; rw [hq]
    rw [spots_succ, hrw] at hsl2 ⊢
    show Post (sAsg _ _ _ _) _
    bv_omega
    refine p_rng1 ?_
    bv_omega
    refine Post.of_eq hlong ?_
    bv_omega
    rw [Int.add_comm]
    refine ⟨by omega, by omega, ?_, ?_⟩
    · exact lim3000 (by simp [upto]; omega)
    refine p_compL (F := fun d => D.tup [.int (k : Int), d]) (fun d hd => post_ok ?_) ?_
    · bv_omega
      exact ⟨rfl, rfl⟩
    · rw [rowS_map]
      bv_omega
      have hadd : ((spots p r k).map spD).length + ((rowS k (rfar p q)).map spD).length ≤ LIM := by
        rw [List.length_map, List.length_map]
        rw [List.length_append] at hsl2
        exact Nat.le_of_lt (lim3000 (by omega))
      show Post (if _ then _ else _) _
      rw [if_pos hadd, ← List.map_append]
      exact ⟨rfl, _, _, rfl⟩
  · intro ρ1 G1 i1
    obtain ⟨rfl, x, y, rfl⟩ := i1
    have hu : (upto 0 r.length).length = r.length := by simp [upto]
    rw [Nat.zero_add, hu]
    dsimp only
    bv_omega
    exact ⟨rfl, rfl⟩
theorem every_ne {p : Pls} {r : Rds} (h : 1 ≤ r.length) : every p r ≠ [] := by
  intro z
  obtain ⟨q, hq⟩ : ∃ q, r[0]? = some q := ⟨_, List.getElem?_eq_getElem (by omega)⟩
  have : ((0, 0) : Spot) ∈ every p r := mem_every.mpr ⟨q, hq, Int.le_refl _, rfar_nn p q⟩
  rw [z] at this
  cases this
theorem compY {i : Nat} {e : EF} {ρ : En} {d : D} {r : List D} {G : GH} {Pl : List D → GH → Prop} (h : Post (e (ρ.set i (some (.v d))) G) fun y G3 => Post (compL (gN i) mYes e ρ r G3) fun ys G4 => Pl (y :: ys) G4) : Post (compL (gN i) mYes e ρ (d :: r) G) Pl := by
  unfold compL
  show Post ((e (ρ.set i (some (.v d))) G).bind _) Pl
  exact Post.bind.mpr (h.mono fun y G3 h3 => Post.bind.mpr h3)
theorem draw_some {ns : List Int} {p : Pls} {r : Rds} {ss : List Spot} (hss : ∀ s ∈ ss, SpOk p r s) (hne : ss ≠ []) {ρ : En} {i : Nat} {f : EF} (hf : ∀ x G, f (ρ.set i x) G = m__law_pick [.scr ns, .cel 0, .lst (ss.map spD)] G) :
    ∀ (ds : List D) (G : GH) (n : Nat) {Pl : List D → GH → Prop}, T1 G n → n + ds.length < 80000 → (∀ (xs : List Spot) G1, xs.length = ds.length → (∀ s ∈ xs, SpOk p r s) → T1 G1 (n + ds.length) → Pl (xs.map spD) G1) → Post (compL (gN i) mYes f ρ ds G) Pl
  | [], G, n, Pl, hT, _, q => q [] G rfl (by simp) hT
  | d :: ds, G, n, Pl, hT, hn, q => by
    rw [List.length_cons] at hn
    refine compY ?_
    rw [hf]
    refine (pick1 ns G n _ hT (by omega) (by simpa using hne)).mono fun x G1 ⟨t1, m1⟩ => ?_
    obtain ⟨s, hs, rfl⟩ := List.mem_map.mp m1
    refine draw_some hss hne hf ds G1 (n + 1) t1 (by omega) fun xs G2 hl hx ht => ?_
    refine q (s :: xs) G2 (by simp [hl]) (fun y hy => ?_) (by rw [List.length_cons, show n + (ds.length + 1) = n + 1 + ds.length by omega]; exact ht)
    rcases List.mem_cons.mp hy with z | z
    · rw [z]; exact hss s hs
    · exact hx y z
theorem eqL_of {n : Nat} (h : ∀ d, pn n d = true → eqB d d = true) : ∀ xs : List D, pnL n xs = true → eqL xs xs = true
  | [], _ => by simp [eqL]
  | x :: xs, hx => by
    simp only [pnL, Bool.and_eq_true] at hx
    simp only [eqL, Bool.and_eq_true]
    exact ⟨h x hx.1, eqL_of h xs hx.2⟩
theorem eqB_self : ∀ (n : Nat) (d : D), pn n d = true → eqB d d = true
  | 0, d, h => by cases d <;> simp_all [pn, eqB]
  | n + 1, d, h => by
    cases d with
    | lst xs => simp only [eqB]; exact eqL_of (eqB_self n) xs (by simpa [pn] using h)
    | tup xs => simp only [eqB]; exact eqL_of (eqB_self n) xs (by simpa [pn] using h)
    | _ => simp_all [pn, eqB]
theorem view_pn {n : Nat} {d : D} (h : pn n d = true) (G : GH) : view G d = d := by
  cases d <;> first | rfl | (cases n <;> simp [pn] at h)
theorem neP_ok {d : D} {G : GH} {P : D → GH → Prop} (h : pn 60 d = true) (q : P (.bl false) G) : Post (oNe d d G) P := by
  unfold oNe oEqN
  rw [view_pn h, if_pos (by simp [h]), eqB_self 60 d h]
  exact q
theorem eqP_ok {d : D} {G : GH} {P : D → GH → Prop} (h : pn 60 d = true) (q : P (.bl true) G) : Post (oEq d d G) P := by
  unfold oEq oEqN
  rw [view_pn h, if_pos (by simp [h]), eqB_self 60 d h]
  exact q
theorem pnL_map {α : Type} {n : Nat} {f : α → D} : ∀ l : List α, (∀ a ∈ l, pn n (f a) = true) → pnL n (l.map f) = true
  | [], _ => by simp [pnL]
  | a :: l, h => by
    simp only [List.map_cons, pnL, Bool.and_eq_true]
    exact ⟨h a List.mem_cons_self, pnL_map l fun b hb => h b (List.mem_cons_of_mem _ hb)⟩
theorem pn_sp (n : Nat) (s : Spot) : pn (n + 1) (spD s) = true := by simp [spD, pn, pnL]
def Len (x : Int) : Prop := 0 ≤ x ∧ (x < Sp.FAR → x ≤ 1800)
theorem lb_len {p : Pls} {r : Rds} (hr : RdsOk p r) (hs : ∀ q ∈ r, rfar p q < 99) {T : Str → Str → Int} (hD : Sp.Dist (dirs p r) (srt p) T) {s t : Spot} (h1 : SpOk p r s) (h2 : SpOk p r t) : Len (lb p r T s t) := by
  obtain ⟨q, h1⟩ := h1
  obtain ⟨o, h2⟩ := h2
  rw [lb_eq h1 h2]
  have W := web_sp hr hs hD
  exact ⟨(Sp.LB_nn W (on_sp h1) (on_sp h2)).1, fun h => Sp.LB_small W (on_sp h1) (on_sp h2) h⟩
def spOf : D → Spot
  | .tup [.int a, .int b] => (a.toNat, b)
  | _ => (0, 0)
theorem spOf_spD (s : Spot) : spOf (spD s) = s := by
  obtain ⟨a, b⟩ := s
  simp [spOf, spD]
end K10

set_option Elab.async false
set_option linter.all false
set_option maxRecDepth 100000
set_option maxHeartbeats 1000000
/-! The plain law of k10: lengths by a third spot, both ways, and with roads made two-way. -/
namespace K10
open PySem Gh
section
variable {p : Pls} {r : Rds} {T : Str → Str → Int}
theorem sp_on {u : Sp.Spt} {q : Sp.Rd Str} (h : Sp.On (rsR p r) u q) : ∃ o, On p r u o ∧ q = rdR p o := by
  have h1 := h.at'
  unfold rsR at h1
  rw [List.getElem?_map] at h1
  obtain ⟨o, ho, rfl⟩ := Option.map_eq_some_iff.mp h1
  exact ⟨o, ⟨ho, h.lo, h.hi⟩, rfl⟩
theorem step_ends {u v : Sp.Spt} {w : Int} (h : Sp.Step (rsR p r) u v w) : SpOk p r u ∧ SpOk p r v ∧ 0 ≤ w := by
  cases h with
  | fwd h1 h2 => obtain ⟨o, h1, _⟩ := sp_on h1; obtain ⟨o', h2, _⟩ := sp_on h2; exact ⟨⟨_, h1⟩, ⟨_, h2⟩, by decide⟩
  | bwd h1 h2 _ => obtain ⟨o, h1, _⟩ := sp_on h1; obtain ⟨o', h2, _⟩ := sp_on h2; exact ⟨⟨_, h1⟩, ⟨_, h2⟩, by decide⟩
  | jmp h1 h2 _ _ => obtain ⟨o, h1, _⟩ := sp_on h1; obtain ⟨o', h2, _⟩ := sp_on h2; exact ⟨⟨_, h1⟩, ⟨_, h2⟩, by decide⟩
/-- without one-way roads -/
def Two (r : Rds) : Prop := ∀ q ∈ r, q.2.2 = false
theorem step_back (h2 : Two r) {u v : Sp.Spt} {w : Int} (h : Sp.Step (rsR p r) u v w) : Sp.Step (rsR p r) v u w := by
  cases h with
  | fwd h1 h2' =>
    rename_i i f q
    obtain ⟨o, ho, e⟩ := sp_on h1
    have := Sp.Step.bwd (rs := rsR p r) (i := i) (f := f + 1) h2' (by rw [Int.add_sub_cancel]; exact h1) (by rw [e]; exact h2 o (List.mem_of_getElem? ho.1))
    rwa [Int.add_sub_cancel] at this
  | bwd h1 h2' _ =>
    rename_i i f q _
    have := Sp.Step.fwd (rs := rsR p r) (i := i) (f := f - 1) h2' (by rw [Int.sub_add_cancel]; exact h1)
    rwa [Int.sub_add_cancel] at this
  | jmp h1 h2 h3 h4 => exact .jmp h2 h1 h4 h3
variable (W : Sp.Web (rsR p r) (srt p) T)
include W
theorem lb_step {s u v : Spot} {w : Int} (hs : SpOk p r s) (h : Sp.Step (rsR p r) u v w) : lb p r T s v ≤ lb p r T s u + w := by
  obtain ⟨⟨o, hu⟩, ⟨o', hv⟩, _⟩ := step_ends h
  obtain ⟨q, hs⟩ := hs
  rw [lb_eq hs hu, lb_eq hs hv]
  exact Sp.LB_step W (on_sp hs) (on_sp hu) (on_sp hv) h
theorem lb_self {s : Spot} (hs : SpOk p r s) : lb p r T s s = 0 := by
  obtain ⟨q, hs⟩ := hs
  rw [lb_eq hs hs]
  exact Sp.LB_self W (on_sp hs)
theorem lb_nn {s t : Spot} (hs : SpOk p r s) (ht : SpOk p r t) : 0 ≤ lb p r T s t ∧ lb p r T s t ≤ Sp.FAR := by
  obtain ⟨q, hs⟩ := hs
  obtain ⟨o, ht⟩ := ht
  rw [lb_eq hs ht]
  exact Sp.LB_nn W (on_sp hs) (on_sp ht)
theorem lb_closed {g : Spot → Int} {s t : Spot} (hs : SpOk p r s) (ht : SpOk p r t) (g0 : g s ≤ 0) (hg : ∀ u v w, Sp.Step (rsR p r) u v w → g v ≤ g u + w) (h : lb p r T s t < Sp.FAR) : g t ≤ lb p r T s t := by
  obtain ⟨q, hs⟩ := hs
  obtain ⟨o, ht⟩ := ht
  rw [lb_eq hs ht] at h ⊢
  exact Sp.closed_le W (on_sp hs) (on_sp ht) g0 hg h
theorem lb_tri {s u t : Spot} (hs : SpOk p r s) (hu : SpOk p r u) (ht : SpOk p r t) : lb p r T s t ≤ lb p r T s u + lb p r T u t := by
  have h1 := lb_nn W hs ht
  have h2 := lb_nn W hs hu
  have h3 := lb_nn W hu ht
  by_cases h : lb p r T u t < Sp.FAR
  · have := lb_closed W (g := fun v => lb p r T s v - lb p r T s u) hu ht (by omega) (fun a b w st => by
      have := lb_step W hs st
      omega) h
    omega
  · omega
theorem lb_sym1 (h2 : Two r) {s t : Spot} (hs : SpOk p r s) (ht : SpOk p r t) : lb p r T t s ≤ lb p r T s t := by
  have h1 := lb_nn W ht hs
  by_cases h : lb p r T s t < Sp.FAR
  · exact lb_closed W (g := fun v => lb p r T v s) hs ht (by rw [lb_self W hs]; exact Int.le_refl _) (fun u v w st => by
      obtain ⟨hu, hv, _⟩ := step_ends st
      have a := lb_step W hv (step_back h2 st)
      rw [lb_self W hv] at a
      have b := lb_tri W hv hu hs
      omega) h
  · omega
theorem lb_sym (h2 : Two r) {s t : Spot} (hs : SpOk p r s) (ht : SpOk p r t) : lb p r T s t = lb p r T t s := Int.le_antisymm (lb_sym1 W h2 ht hs) (lb_sym1 W h2 hs ht)
end
/-! ### roads made two-way -/
def free1 (q : Str × Str × Bool) : Str × Str × Bool := (q.1, q.2.1, false)
def free (r : Rds) : Rds := r.map free1
theorem free_two (r : Rds) : Two (free r) := fun q hq => by
  obtain ⟨o, _, rfl⟩ := List.mem_map.mp hq
  rfl
theorem free_far (p : Pls) (q : Str × Str × Bool) : rfar p (free1 q) = rfar p q := rfl
theorem free_web {p : Pls} {r : Rds} (h : Web p r) : Web p (free r) := by
  refine ⟨h.pl, by rw [free, List.length_map]; exact h.lo, by rw [free, List.length_map]; exact h.hi, fun q hq => ?_, ?_⟩
  · obtain ⟨o, ho, rfl⟩ := List.mem_map.mp hq
    obtain ⟨a, b, hab⟩ := h.rd o ho
    exact ⟨a, b, hab.la, hab.lb, hab.ne, hab.st⟩
  · have e : total p (free r) = total p r := by
      unfold total free
      rw [List.map_map]
      rfl
    rw [e]
    exact h.to
theorem free_small {p : Pls} {r : Rds} {b : Int} (h : ∀ q ∈ r, rfar p q < b) : ∀ q ∈ free r, rfar p q < b := fun q hq => by
  obtain ⟨o, ho, rfl⟩ := List.mem_map.mp hq
  exact h o ho
theorem free_on {p : Pls} {r : Rds} {s : Spot} {q : Str × Str × Bool} (h : On p r s q) : On p (free r) s (free1 q) := ⟨by unfold free; rw [List.getElem?_map, h.1]; rfl, h.2.1, h.2.2⟩
theorem free_ok {p : Pls} {r : Rds} {s : Spot} (h : SpOk p r s) : SpOk p (free r) s := by
  obtain ⟨q, h⟩ := h
  exact ⟨_, free_on h⟩
theorem free_sp {p : Pls} {r : Rds} {u : Sp.Spt} {q : Sp.Rd Str} (h : Sp.On (rsR p r) u q) : Sp.On (rsR p (free r)) u { q with ow := false } := by
  obtain ⟨o, h', rfl⟩ := sp_on h
  exact on_sp (free_on h')
theorem free_step {p : Pls} {r : Rds} {u v : Sp.Spt} {w : Int} (h : Sp.Step (rsR p r) u v w) : Sp.Step (rsR p (free r)) u v w := by
  cases h with
  | fwd h1 h2 => exact .fwd (free_sp h1) (free_sp h2)
  | bwd h1 h2 h3 => exact .bwd (free_sp h1) (free_sp h2) rfl
  | jmp h1 h2 h3 h4 => exact .jmp (free_sp h1) (free_sp h2) h3 h4
theorem lb_free {p : Pls} {r : Rds} {T T' : Str → Str → Int} (W : Sp.Web (rsR p r) (srt p) T) (W' : Sp.Web (rsR p (free r)) (srt p) T') {s t : Spot} (hs : SpOk p r s) (ht : SpOk p r t) : lb p (free r) T' s t ≤ lb p r T s t := by
  have h1 := lb_nn W' (free_ok hs) (free_ok ht)
  by_cases h : lb p r T s t < Sp.FAR
  · exact lb_closed W (g := fun v => lb p (free r) T' s v) hs ht (by rw [lb_self W' (free_ok hs)]; exact Int.le_refl _) (fun u v w st => lb_step W' (free_ok hs) (free_step st)) h
  · omega
/-! ### length -/
def lenD (x : Int) : D := if x < Sp.FAR then .int x else .non
theorem lookboth_ok {p : Pls} {r : Rds} (h : Web p r) {s t : Spot} (hs : SpOk p r s) (ht : SpOk p r t) (G : GH) : m_look_both [wD p r, spD s, spD t] G = .ok .non G := by
  have hr := web_rds h
  refine post_ok ?_
  unfold m_look_both b_look_both
  refine p_def rfl ?_
  bv_omega
  refine Post.of_eq (look_ok p r h G) ?_
  bv_omega
  refine Post.of_eq (lookspot_ok hr hs G) ?_
  bv_omega
  refine Post.of_eq (lookspot_ok hr ht G) ?_
  exact ⟨rfl, rfl⟩
theorem length_val {p : Pls} {r : Rds} (h : Web p r) {s t : Spot} (hs : SpOk p r s) (ht : SpOk p r t) (G : GH) : Post (m_length [wD p r, spD s, spD t] G) fun d G1 => G1 = G ∧ ∃ T, Sp.Dist (dirs p r) (srt p) T ∧ d = lenD (lb p r T s t) := by
  have hr := web_rds h
  have hF : Sp.FAR = 1000000000 := rfl
  unfold m_length b_length
  refine p_def rfl ?_
  bv_omega
  refine Post.of_eq (lookboth_ok h hs ht G) ?_
  bv_omega
  refine (lengths_ok hr G).mono fun d G1 hd => ?_
  obtain ⟨rfl, kvs, T, rfl, hT, hD⟩ := hd
  bv_omega
  refine Post.of_eq (lengthby_val hr hT hs ht G1) ?_
  bv_omega
  refine ite_same (fun e => ?_) fun e => ?_
  · bv_omega
    have e : (1000000000 : Int) ≤ lb p r T s t := by simpa using e
    refine ⟨rfl, T, hD, ?_⟩
    unfold lenD
    rw [if_neg (by omega)]
  · bv_omega
    have e : ¬ (1000000000 : Int) ≤ lb p r T s t := by simpa using e
    refine ⟨rfl, T, hD, ?_⟩
    unfold lenD
    rw [if_pos (by omega)]
end K10

set_option Elab.async false
set_option linter.all false
set_option maxRecDepth 100000
set_option maxHeartbeats 1000000
/-! The plain law of k10: steps from a place, places between. -/
namespace K10
open PySem Gh
theorem neS_ok {a b : Str} {G : GH} {P : D → GH → Prop} (ha : PyData.strOk a = true) (hb : PyData.strOk b = true) (q : P (.bl (!decide (a = b))) G) : Post (oNe (.str a) (.str b) G) P := by
  unfold oNe oEqN
  rw [if_pos (by simp [view, pn, ha, hb])]
  have e : (a == b) = decide (a = b) := by
    by_cases h : a = b <;> simp [h]
  simp only [view, eqB, e, if_true]
  exact q
theorem forC {g : GF} {b : SF} {d : D} {r : List D} {ρ : En} {G : GH} {Pf : Fl → GH → Prop} (h : Post (g d ρ G) fun ρ2 G2 => Post (b ρ2 G2) fun fl G3 => match fl with | .nx ρ3 => Post (forL g b r ρ3 G3) Pf | _ => False) : Post (forL g b (d :: r) ρ G) Pf := by
  unfold forL
  refine Post.bind.mpr (h.mono fun ρ2 G2 h2 => Post.bind.mpr (h2.mono fun fl G3 h3 => ?_))
  cases fl with
  | nx ρ3 => exact h3
  | _ => exact h3.elim
theorem forN {g : GF} {b : SF} {ρ : En} {G : GH} {Pf : Fl → GH → Prop} (h : Pf (.nx ρ) G) : Post (forL g b [] ρ G) Pf := h
section
variable (p : Pls) (T : Str → Str → Int) (here goal : Str)
def pc (w : Int) (good : Bool) (f l : Str) : List Str := if good = true ∧ f = here ∧ w + T l goal = T here goal then [l] else []
def nx1 (q : Str × Str × Bool) : List Str := pc T here goal (rfar p q) true q.1 q.2.1 ++ pc T here goal (rfar p q) (!q.2.2) q.2.1 q.1
def nexts (r : Rds) : List Str := r.flatMap (nx1 p T here goal)
end
theorem pc_len (T : Str → Str → Int) (here goal : Str) (w : Int) (g : Bool) (f l : Str) : (pc T here goal w g f l).length ≤ 1 := by
  unfold pc; split <;> simp
theorem nx1_len (p : Pls) (T : Str → Str → Int) (here goal : Str) (q : Str × Str × Bool) : (nx1 p T here goal q).length ≤ 2 := by
  unfold nx1
  rw [List.length_append]
  have := pc_len T here goal (rfar p q) true q.1 q.2.1
  have := pc_len T here goal (rfar p q) (!q.2.2) q.2.1 q.1
  omega
theorem nexts_len (p : Pls) (T : Str → Str → Int) (here goal : Str) : ∀ r : Rds, (nexts p T here goal r).length ≤ 2 * r.length
  | [] => by simp [nexts]
  | q :: r => by
    have := nexts_len p T here goal r
    have := nx1_len p T here goal q
    unfold nexts at *
    rw [List.flatMap_cons, List.length_append, List.length_cons]
    omega
theorem nexts_take {p : Pls} {T : Str → Str → Int} {here goal : Str} {r : Rds} {k : Nat} {q : Str × Str × Bool} (h : r[k]? = some q) : nexts p T here goal (r.take (k + 1)) = nexts p T here goal (r.take k) ++ nx1 p T here goal q := by
  unfold nexts
  rw [List.take_add_one, h, Option.toList_some, List.flatMap_append]
  simp
theorem mem_pc {T : Str → Str → Int} {here goal : Str} {w : Int} {g : Bool} {f l x : Str} : x ∈ pc T here goal w g f l ↔ g = true ∧ f = here ∧ w + T l goal = T here goal ∧ x = l := by
  unfold pc
  split
  · rename_i h; simp [h]
  · rename_i h
    constructor
    · intro z; cases z
    · rintro ⟨a, b, c, d⟩; exact (h ⟨a, b, c⟩).elim
theorem mem_nexts {p : Pls} {T : Str → Str → Int} {here goal x : Str} {r : Rds} : x ∈ nexts p T here goal r ↔ ∃ w, (here, x, w) ∈ dirs p r ∧ w + T x goal = T here goal := by
  unfold nexts
  rw [List.mem_flatMap]
  constructor
  · rintro ⟨q, hq, h⟩
    unfold nx1 at h
    rcases List.mem_append.mp h with h | h
    · obtain ⟨_, h1, h2, rfl⟩ := mem_pc.mp h
      exact ⟨_, mem_dirs.mpr ⟨q, hq, rfl, .inl ⟨h1.symm, rfl⟩⟩, h2⟩
    · obtain ⟨h0, h1, h2, rfl⟩ := mem_pc.mp h
      exact ⟨_, mem_dirs.mpr ⟨q, hq, rfl, .inr ⟨by simpa using h0, h1.symm, rfl⟩⟩, h2⟩
  · rintro ⟨w, h1, h2⟩
    obtain ⟨q, hq, rfl, h3⟩ := mem_dirs.mp h1
    refine ⟨q, hq, ?_⟩
    unfold nx1
    rcases h3 with ⟨a, rfl⟩ | ⟨a, b, rfl⟩
    · exact List.mem_append.mpr (.inl (mem_pc.mpr ⟨rfl, a.symm, h2, rfl⟩))
    · exact List.mem_append.mpr (.inr (mem_pc.mpr ⟨by simp [a], b.symm, h2, rfl⟩))
def envS (p : Pls) (r : Rds) (kvs : List (List L2.Key × D)) (here goal : Str) (L : List Str) (x5 x6 x7 x8 x9 x10 x11 : Option SV) : En := [some (.v (wD p r)), some (.v (.dit kvs)), some (.v (.str here)), some (.v (.str goal)), some (.own (.lst (L.map D.str))), x5, x6, x7, x8, x9, x10, x11]
noncomputable def bodyS : SF := (sIf (mAnd (mTru (mVarO 11)) (mAnd (mB (mOp oEq (mVarO 9) (mVarO 2))) (mB (mOp oEq (mOp oAdd (mCall m_long_of (mCons (mVar 0) (mCons (mVar 5) mNil))) (mOp oIx (mVarO 1) (mTup (mCons (mVar 10) (mCons (mVar 3) mNil))))) (mOp oIx (mVarO 1) (mTup (mCons (mVar 2) (mCons (mVar 3) mNil))))))))
  (sAppO 4 (mVar 10))
  sNext)
section
variable {p : Pls} {r : Rds} {kvs : List (List L2.Key × D)} {T : Str → Str → Int} {here goal : Str}
theorem bodyS_ok (hr : RdsOk p r) (hT : Tab (srt p) kvs T) (hh : here ∈ srt p) (hg : goal ∈ srt p) {k : Nat} {q : Str × Str × Bool} (hq : r[k]? = some q) {f l : Str} (hf : f ∈ srt p) (hl : l ∈ srt p) {g : Bool} {L : List Str} (hL : L.length ≤ 100) {x6 x7 x8 : Option SV} {G : GH} :
    Post (bodyS (envS p r kvs here goal L (some (.v (.int k))) x6 x7 x8 (some (.v (.str f))) (some (.v (.str l))) (some (.v (.bl g)))) G) fun fl G1 => match fl with
      | .nx ρ1 => G1 = G ∧ ρ1 = envS p r kvs here goal (L ++ pc T here goal (rfar p q) g f l) (some (.v (.int k))) x6 x7 x8 (some (.v (.str f))) (some (.v (.str l))) (some (.v (.bl g)))
      | _ => False := by
  unfold bodyS envS
  refine p_if ?_
  refine Post.mono (P := fun c G1 => G1 = G ∧ c = decide (g = true ∧ f = here ∧ rfar p q + T l goal = T here goal)) ?_ fun c G1 ⟨e, e2⟩ => ?_
  · bv_omega
    refine ite_same (fun e => ?_) fun e => ?_
    · bv_omega
      refine eqS_ok (srt_ok hr.pl hf) (srt_ok hr.pl hh) ?_
      bv_omega
      refine ite_same (fun e2 => ?_) fun e2 => ?_
      · have e2 : f = here := of_decide_eq_true e2
        bv_omega
        refine Post.of_eq (longW hr hq G) ?_
        bv_omega
        refine ixT_ok (hT.val _ hl _ hg) ?_
        bv_omega
        refine ixT_ok (hT.val _ hh _ hg) ?_
        bv_omega
        refine ⟨rfl, ?_⟩
        rw [e]
        simp [e2]
      · have e2 : ¬ f = here := of_decide_eq_false e2
        refine ⟨rfl, ?_⟩
        simp [e2]
    · refine ⟨rfl, ?_⟩
      have e : g = false := e
      simp [e]
  subst e
  refine ite_same (fun e => ?_) fun e => ?_
  · rw [e2] at e
    have e : g = true ∧ f = here ∧ rfar p q + T l goal = T here goal := of_decide_eq_true e
    refine p_appO rfl ?_
    bv_omega
    refine ⟨lim3000 (by rw [List.length_map]; omega), ?_⟩
    have e3 : pc T here goal (rfar p q) g f l = [l] := by unfold pc; rw [if_pos e]
    rw [e3, List.map_append]
    exact ⟨rfl, rfl⟩
  · rw [e2] at e
    have e : ¬ (g = true ∧ f = here ∧ rfar p q + T l goal = T here goal) := of_decide_eq_false e
    refine p_next ?_
    have e3 : pc T here goal (rfar p q) g f l = [] := by unfold pc; rw [if_neg e]
    rw [e3, List.append_nil]
    exact ⟨rfl, rfl⟩
theorem rd_srt (hr : RdsOk p r) {q : Str × Str × Bool} (hq : q ∈ r) : q.1 ∈ srt p ∧ q.2.1 ∈ srt p := by
  obtain ⟨A, B, hab⟩ := hr.rd q hq
  exact ⟨look_srt hab.la, look_srt hab.lb⟩
theorem steps_val (hr : RdsOk p r) (hT : Tab (srt p) kvs T) (hh : here ∈ srt p) (hg : goal ∈ srt p) (G : GH) : m_steps_from [wD p r, .dit kvs, .str here, .str goal] G = .ok (.lst ((sortS (nubS (nexts p T here goal r))).map D.str)) G := by
  have hrl := rdD_len r
  have hll := hr.len
  have hw : wD p r = .tup [.dic (plD p), .lst (rdD r)] := rfl
  refine post_ok ?_
  unfold m_steps_from b_steps_from
  rw [hw]
  refine p_def rfl ?_
  refine p_seq (p_own ?_)
  bv_omega
  refine ⟨by show 4 < 12; decide, ?_⟩
  dsimp only
  bv_omega
  refine p_rng1 ?_
  bv_omega
  rw [hrl]
  refine ⟨by omega, by omega, ?_⟩
  rw [Int.toNat_natCast]
  refine p_forL (fun k ρ G1 => G1 = G ∧ ∃ (x5 x6 x7 x8 x9 x10 x11 : Option SV), ρ = envS p r kvs here goal (nexts p T here goal (r.take k)) x5 x6 x7 x8 x9 x10 x11) (n := 0) ⟨rfl, _, _, _, _, _, _, _, rfl⟩ ?_ ?_
  · intro k dk ρ1 G1 hk i1
    obtain ⟨rfl, x5, x6, x7, x8, x9, x10, x11, rfl⟩ := i1
    rw [Nat.zero_add] at *
    have hkr : k < r.length := by
      have := (List.getElem?_eq_some_iff.mp hk).1
      simpa [upto] using this
    have hdk : dk = .int (k : Int) := by
      simp [upto, hkr] at hk
      exact hk.symm
    subst hdk
    obtain ⟨q, hq⟩ : ∃ q, r[k]? = some q := ⟨_, List.getElem?_eq_getElem hkr⟩
    have hat := rd_at hq
    obtain ⟨s1, s2⟩ := rd_srt hr (List.mem_of_getElem? hq)
    have hlen := nexts_len p T here goal (r.take k)
    rw [List.length_take] at hlen
    rw [nexts_take hq]
    generalize nexts p T here goal (r.take k) = L at hlen ⊢
    unfold envS
    rw [hw]
    show Post (sSeq _ _ _ _) _
    bv_omega
    refine p_asgT ?_
    bv_omega
    refine ⟨rfl, ?_⟩
    bv_omega
    refine .inr ⟨_, rfl, ?_⟩
    refine forC ?_
    show Post (bodyS (envS p r kvs here goal L (some (.v (.int k))) (some (.v (.str q.1))) (some (.v (.str q.2.1))) (some (.v (.bl q.2.2))) (some (.v (.str q.1))) (some (.v (.str q.2.1))) (some (.v (.bl true)))) G1) _
    refine (bodyS_ok hr hT hh hg hq s1 s2 (by omega)).mono fun fl G2 h2 => ?_
    cases fl with
    | nx ρ2 =>
      obtain ⟨rfl, rfl⟩ := h2
      dsimp only
      refine forC ?_
      show Post (bodyS (envS p r kvs here goal (L ++ pc T here goal (rfar p q) true q.1 q.2.1) (some (.v (.int k))) (some (.v (.str q.1))) (some (.v (.str q.2.1))) (some (.v (.bl q.2.2))) (some (.v (.str q.2.1))) (some (.v (.str q.1))) (some (.v (.bl !q.2.2)))) G2) _
      have := pc_len T here goal (rfar p q) true q.1 q.2.1
      refine (bodyS_ok hr hT hh hg hq s2 s1 (by rw [List.length_append]; omega)).mono fun fl G3 h3 => ?_
      cases fl with
      | nx ρ3 =>
        obtain ⟨rfl, rfl⟩ := h3
        refine forN ?_
        rw [List.append_assoc]
        exact ⟨rfl, _, _, _, _, _, _, _, rfl⟩
      | _ => exact h3.elim
    | _ => exact h2.elim
  · intro ρ1 G1 i1
    obtain ⟨rfl, x5, x6, x7, x8, x9, x10, x11, rfl⟩ := i1
    have hu : (upto 0 r.length).length = r.length := by simp [upto]
    rw [Nat.zero_add, hu, List.take_length]
    have hlen := nexts_len p T here goal r
    dsimp only
    unfold envS
    refine p_frz rfl ?_
    refine frzL_ok ?_
    refine p_ret (p_fz ?_)
    refine Post.bind.mpr ?_
    bv_omega
    show Post (match strsOf ((nexts p T here goal r).map D.str) with | some L => _ | none => _) _
    rw [strsOf_map]
    show Post (if _ then _ else _) _
    rw [if_pos (by omega)]
    exact ⟨rfl, rfl⟩
end
end K10

set_option Elab.async false
set_option linter.all false
set_option maxRecDepth 100000
set_option maxHeartbeats 1000000
/-! The plain law of k10: places between, ways. -/
namespace K10
open PySem Gh
/-- a row of places, each next to the last -/
inductive Way (E : List (Str × Str × Int)) : Str → List Str → Str → Int → Prop
  | one (a : Str) : Way E a [a] a 0
  | snoc {a b c : Str} {xs : List Str} {l w : Int} : Way E a xs b l → (b, c, w) ∈ E → Way E a (xs ++ [c]) c (l + w)
theorem Way.ne {E : List (Str × Str × Int)} {a b : Str} {xs : List Str} {l : Int} (h : Way E a xs b l) : xs ≠ [] := by
  cases h with
  | one => simp
  | snoc => simp
theorem Way.last {E : List (Str × Str × Int)} {a b : Str} {xs : List Str} {l : Int} (h : Way E a xs b l) : ∃ ys, xs = ys ++ [b] := by
  cases h with
  | one => exact ⟨[], rfl⟩
  | snoc h _ => exact ⟨_, rfl⟩
theorem Way.nn {E : List (Str × Str × Int)} {a b : Str} {xs : List Str} {l : Int} (h : Way E a xs b l) (hE : ∀ b c w, (b, c, w) ∈ E → 1 ≤ w) : 0 ≤ l := by
  induction h with
  | one => exact Int.le_refl _
  | snoc _ e ih => have := hE _ _ _ e; omega
theorem at_last {xs : List D} {x : D} : L2.atI (xs ++ [x]) (-1) = some x := by
  unfold L2.atI L2.ixN
  rw [if_neg (by decide), if_pos (by rw [List.length_append, List.length_singleton]; omega)]
  show (xs ++ [x])[((-1 : Int) + ((xs ++ [x]).length : Int)).toNat]? = some x
  have e : ((-1 : Int) + ((xs ++ [x]).length : Int)).toNat = xs.length := by
    rw [List.length_append, List.length_singleton]; omega
  rw [e]
  simp
section
variable {p : Pls} {r : Rds} {kvs : List (List L2.Key × D)} {T : Str → Str → Int}
theorem dirs_in (hr : RdsOk p r) (hs : ∀ q ∈ r, rfar p q < 99) : ∀ a b w, (a, b, w) ∈ dirs p r → a ∈ srt p ∧ b ∈ srt p ∧ 1 ≤ w ∧ w ≤ 100 := fun a b w h => by
  obtain ⟨q, hq, rfl, h'⟩ := mem_dirs.mp h
  obtain ⟨s1, s2⟩ := rd_srt hr hq
  have h1 := rfar_pos hr hq
  have h2 := hs q hq
  rcases h' with ⟨rfl, rfl⟩ | ⟨_, rfl, rfl⟩
  · exact ⟨s1, s2, h1, by omega⟩
  · exact ⟨s2, s1, h1, by omega⟩
theorem T_le1600 (hr : RdsOk p r) (hs : ∀ q ∈ r, rfar p q < 99) (hD : Sp.Dist (dirs p r) (srt p) T) {a b : Str} (ha : a ∈ srt p) (h : T a b < Sp.FAR) : T a b ≤ 1600 :=
  Sp.dist_small hD (dirs_in hr hs) b 16 a ha (Nat.le_trans List.countP_le_length (srt_len hr.pl)) h
/-- there is a step -/
theorem has_next (hr : RdsOk p r) (hs : ∀ q ∈ r, rfar p q < 99) (hD : Sp.Dist (dirs p r) (srt p) T) {a b : Str} (ha : a ∈ srt p) (hb : b ∈ srt p) (hne : a ≠ b) (h : T a b < Sp.FAR) : ∃ x, x ∈ nexts p T a b r := by
  have hw := hD.rl a b h
  generalize hl : T a b = l at hw
  cases hw with
  | nil => exact (hne rfl).elim
  | cons e h2 =>
    rename_i c w l'
    obtain ⟨_, hc, w1, _⟩ := dirs_in hr hs _ _ _ e
    have h3 := hD.le c b l' h2 hc
    have h4 := hD.le a b (w + T c b) (.cons e (hD.rl c b (by omega))) ha
    exact ⟨c, mem_nexts.mpr ⟨w, e, by omega⟩⟩
theorem between_val (hr : RdsOk p r) (hs : ∀ q ∈ r, rfar p q < 99) (hD : Sp.Dist (dirs p r) (srt p) T) (hT : Tab (srt p) kvs T) {here goal : Str} (hh : here ∈ srt p) (hg : goal ∈ srt p) (hF : T here goal < Sp.FAR) (G : GH) :
    Post (m_places_between [wD p r, .dit kvs, .str here, .str goal] G) fun d G1 => G1 = G ∧ ∃ xs, d = .lst (xs.map D.str) ∧ Way (dirs p r) here xs goal (T here goal) := by
  have h16 := T_le1600 hr hs hD hh hF
  have hnn := hD.nn
  unfold m_places_between b_places_between
  refine p_def rfl ?_
  refine p_seq (p_own ?_)
  bv_omega
  refine ⟨by show 4 < 5; decide, ?_⟩
  dsimp only
  refine p_seq ?_
  refine p_whileL (fun m ρ G1 => G1 = G ∧ ∃ xs a l, ρ = [some (.v (wD p r)), some (.v (.dit kvs)), some (.v (.str here)), some (.v (.str goal)), some (.own (.lst (xs.map D.str)))] ∧ a ∈ srt p ∧ Way (dirs p r) here xs a l ∧ l + T a goal = T here goal ∧ (xs.length : Int) + T a goal ≤ T here goal + 1 ∧ (m : Int) = T a goal) ?_ _ (T here goal).toNat _ _ ⟨rfl, [here], here, 0, rfl, hh, .one here, by omega, by simp; omega, by have := hnn here goal; omega⟩ (by show (T here goal).toNat < 1000000000; omega)
  intro m ρ G1 i1
  obtain ⟨rfl, xs, a, l, rfl, ha, hw, hsum, hlen, hm⟩ := i1
  obtain ⟨ys, rfl⟩ := hw.last
  have hla : L2.atI ((ys ++ [a]).map D.str) (-1) = some (.str a) := by rw [List.map_append]; exact at_last
  have hlnn : 0 ≤ l := hw.nn fun b c w e => (dirs_in hr hs _ _ _ e).2.2.1
  bv_omega
  refine neS_ok (srt_ok hr.pl ha) (srt_ok hr.pl hg) ?_
  bv_omega
  refine ite_same (fun e => ?_) fun e => ?_
  · have e : a ≠ goal := by simpa using e
    obtain ⟨x, hx⟩ := has_next hr hs hD ha hg e (by omega)
    have hne : sortS (nubS (nexts p T a goal r)) ≠ [] := fun z => by
      have : x ∈ sortS (nubS (nexts p T a goal r)) := (sortS_perm _).mem_iff.mpr ((mem_nubS _).mpr hx)
      rw [z] at this
      cases this
    obtain ⟨c, cs, hc⟩ : ∃ c cs, sortS (nubS (nexts p T a goal r)) = c :: cs := by
      cases hz : sortS (nubS (nexts p T a goal r)) with
      | nil => exact (hne hz).elim
      | cons c cs => exact ⟨c, cs, rfl⟩
    have hcm : c ∈ nexts p T a goal r := (mem_nubS _).mp ((sortS_perm _).mem_iff.mp (by rw [hc]; exact List.mem_cons_self))
    obtain ⟨w, he, hwt⟩ := mem_nexts.mp hcm
    obtain ⟨_, hcs, w1, _⟩ := dirs_in hr hs _ _ _ he
    have hcn := hnn c goal
    have hst := steps_val hr hT ha hg G1
    rw [hc] at hst
    have hat0 : L2.atI ((c :: cs).map D.str) 0 = some (.str c) := by
      rw [atI_in _ _ (by omega) (by simp)]
      simp
    refine p_appO rfl ?_
    bv_omega
    refine Post.of_eq hst ?_
    bv_omega
    refine ⟨lim3000 (by rw [List.length_map]; omega), ?_⟩
    refine ⟨(T c goal).toNat, by omega, rfl, ys ++ [a] ++ [c], c, l + w, ?_, hcs, .snoc hw he, by omega, by rw [List.length_append, List.length_singleton]; omega, by omega⟩
    rw [List.map_append (l₁ := ys ++ [a])]
    rfl
  · have e : a = goal := by simpa using e
    subst e
    dsimp only
    refine p_frz rfl ?_
    refine frzL_ok ?_
    bv_omega
    have h0 : T a a = 0 := by
      have := hD.le a a 0 (.nil a) ha
      have := hnn a a
      omega
    have el : l = T here a := by omega
    rw [← el]
    exact ⟨rfl, _, rfl, hw⟩
end
end K10

set_option Elab.async false
set_option linter.all false
set_option maxRecDepth 100000
set_option maxHeartbeats 1000000
/-! The plain law of k10: ways. -/
namespace K10
open PySem Gh
def rowD (z : List Str) : D := .lst (z.map D.str)
theorem strsLL_map : ∀ xs : List (List Str), strsLL (xs.map rowD) = some xs
  | [] => rfl
  | x :: xs => by
    show (match strsOf (x.map D.str), strsLL (xs.map rowD) with | some x, some xs => some (x :: xs) | _, _ => none) = _
    rw [strsOf_map, strsLL_map xs]
theorem minLL_ok {rows : List (List Str)} (h : rows ≠ []) {G : GH} {P : D → GH → Prop} (q : ∀ x ∈ rows, P (rowD x) G) : Post (oMinLL (.lst (rows.map rowD)) G) P := by
  show Post (match strsLL (rows.map rowD) with | some (x :: r) => _ | _ => _) P
  rw [strsLL_map]
  cases rows with
  | nil => exact (h rfl).elim
  | cons z zs => exact q _ (minOf_mem zs z)
section
variable {p : Pls} {r : Rds} {kvs : List (List L2.Key × D)} {T : Str → Str → Int}
/-- a way between two spots -/
def WayB (p : Pls) (r : Rds) (T : Str → Str → Int) (la lc : List (Str × Int)) (L : Int) (xs : List Str) : Prop := ∃ x ∈ la, ∃ y ∈ lc, Way (dirs p r) x.1 xs y.1 (T x.1 y.1) ∧ x.2 + T x.1 y.1 + y.2 = L
def WayOk (p : Pls) (r : Rds) (T : Str → Str → Int) (q o : Str × Str × Bool) (s t : Spot) (xs : List Str) : Prop :=
  (xs = [] ∧ Sp.strt (rdR p q) s t = lb p r T s t) ∨ (xs ≠ [] ∧ WayB p r T (Sp.lv (rdR p q) s.2) (Sp.cm (rdR p o) t.2) (lb p r T s t) xs)
def envB (p : Pls) (r : Rds) (kvs : List (List L2.Key × D)) (s t : Spot) (L : Int) (rows : List (List Str)) (x6 x7 x8 x9 : Option SV) : En := [some (.v (wD p r)), some (.v (.dit kvs)), some (.v (spD s)), some (.v (spD t)), some (.v (.int L)), some (.own (.lst (rows.map rowD))), x6, x7, x8, x9]
theorem wayby_val (hr : RdsOk p r) (hs : ∀ q ∈ r, rfar p q < 99) (hD : Sp.Dist (dirs p r) (srt p) T) (hT : Tab (srt p) kvs T) {s t : Spot} {q o : Str × Str × Bool} (ha : On p r s q) (hb : On p r t o) (hF : lb p r T s t < Sp.FAR) (G : GH) :
    Post (m_way_by [wD p r, .dit kvs, spD s, spD t] G) fun d G1 => G1 = G ∧ ∃ xs, d = rowD xs ∧ WayOk p r T q o s t xs := by
  have hL := lengthby_val hr hT ⟨q, ha⟩ ⟨o, hb⟩ G
  have h0 := straight_val (b := t) ha G
  have h1 := leaving_val hr ha G
  have h3 := coming_val hr hb G
  have h2 := lv_srt hr (List.mem_of_getElem? ha.1) (f := s.2)
  have h4 := cm_srt hr (List.mem_of_getElem? hb.1) (f := t.2)
  have h5 : ∀ x ∈ Sp.lv (rdR p q) s.2, 0 ≤ x.2 := fun x hx => (Sp.lv_nn (on_sp ha) hx).1
  have h6 : ∀ y ∈ Sp.cm (rdR p o) t.2, 0 ≤ y.2 := fun y hy => (Sp.cm_nn (on_sp hb) hy).1
  have h7 : (Sp.lv (rdR p q) s.2).length ≤ 2 := by unfold Sp.lv; split <;> simp
  have h8 : (Sp.cm (rdR p o) t.2).length ≤ 2 := by unfold Sp.cm; split <;> simp
  have hor := Sp.LB_or (T := T) (rdR p q) (rdR p o) s t
  rw [← lb_eq ha hb] at hor
  unfold WayOk
  generalize lb p r T s t = L at hL hor hF ⊢
  generalize Sp.strt (rdR p q) s t = L0 at h0 hor ⊢
  generalize Sp.lv (rdR p q) s.2 = la at h1 h2 h5 h7 hor ⊢
  generalize Sp.cm (rdR p o) t.2 = lc at h3 h4 h6 h8 hor ⊢
  unfold m_way_by b_way_by
  refine p_def rfl ?_
  bv_omega
  refine Post.of_eq hL ?_
  bv_omega
  refine Post.of_eq h0 ?_
  bv_omega
  refine ite_same (fun e => ?_) fun e => ?_
  · bv_omega
    exact ⟨rfl, [], rfl, .inl ⟨rfl, of_decide_eq_true e⟩⟩
  have e : ¬ L0 = L := of_decide_eq_false e
  refine p_next ?_
  dsimp only
  refine p_seq (p_own ?_)
  bv_omega
  refine ⟨by show 5 < 10; decide, ?_⟩
  dsimp only
  bv_omega
  refine Post.of_eq h1 ?_
  refine .inl ⟨_, rfl, ?_⟩
  refine p_forL (fun k ρ G1 => G1 = G ∧ ∃ (rows : List (List Str)) (x6 x7 x8 x9 : Option SV), ρ = envB p r kvs s t L rows x6 x7 x8 x9 ∧ (∀ z ∈ rows, WayB p r T la lc L z) ∧ (∀ x ∈ la.take k, ∀ y ∈ lc, x.2 + T x.1 y.1 + y.2 = L → rows ≠ []) ∧ rows.length ≤ 10 * k) (n := 0) ⟨rfl, [], _, _, _, _, rfl, by simp, by simp, by simp⟩ ?_ ?_
  · intro k d ρ1 G1 hk i1
    obtain ⟨rfl, rows, x6, x7, x8, x9, rfl, r1, r2, r3⟩ := i1
    rw [Nat.zero_add] at *
    rw [List.getElem?_map] at hk
    obtain ⟨x, hx, rfl⟩ := Option.map_eq_some_iff.mp hk
    have hkl : k < la.length := (List.getElem?_eq_some_iff.mp hx).1
    have hxm := List.mem_of_getElem? hx
    have hxn := h2 x hxm
    unfold endD envB
    show Post (sFor _ _ _ _ _) _
    bv_omega
    refine Post.of_eq h3 ?_
    refine .inl ⟨_, rfl, ?_⟩
    refine p_forL (fun j ρ G2 => G2 = G1 ∧ ∃ (rows : List (List Str)) (x8 x9 : Option SV), ρ = envB p r kvs s t L rows (some (.v (.str x.1))) (some (.v (.int x.2))) x8 x9 ∧ (∀ z ∈ rows, WayB p r T la lc L z) ∧ (∀ x ∈ la.take k, ∀ y ∈ lc, x.2 + T x.1 y.1 + y.2 = L → rows ≠ []) ∧ (∀ y ∈ lc.take j, x.2 + T x.1 y.1 + y.2 = L → rows ≠ []) ∧ rows.length ≤ 10 * k + j) (n := 0) ⟨rfl, rows, _, _, rfl, r1, r2, by simp, by omega⟩ ?_ ?_
    · intro j d ρ2 G2 hk i2
      obtain ⟨rfl, rows, x8, x9, rfl, r1, r2, r3, r4⟩ := i2
      rw [Nat.zero_add] at *
      rw [List.getElem?_map] at hk
      obtain ⟨y, hy, rfl⟩ := Option.map_eq_some_iff.mp hk
      have hym := List.mem_of_getElem? hy
      have hyn := h4 y hym
      have hjl : j < lc.length := (List.getElem?_eq_some_iff.mp hy).1
      unfold envB endD
      show Post (sIf _ _ _ _ _) _
      bv_omega
      refine ixT_ok (hT.val _ hxn _ hyn) ?_
      bv_omega
      refine ite_same (fun e2 => ?_) fun e2 => ?_
      · have e2 : x.2 + T x.1 y.1 + y.2 = L := of_decide_eq_true e2
        have hx0 := h5 x hxm
        have hy0 := h6 y hym
        refine p_appO rfl ?_
        bv_omega
        refine (between_val hr hs hD hT hxn hyn (by omega) G2).mono fun d3 G3 h3 => ?_
        obtain ⟨rfl, xs, rfl, hw⟩ := h3
        refine ⟨lim3000 (by rw [List.length_map]; omega), rfl, rows ++ [xs], some (.v (.str y.1)), some (.v (.int y.2)), ?_, ?_, ?_, ?_, by rw [List.length_append, List.length_singleton]; omega⟩
        · rw [List.map_append]
          rfl
        · intro z hz
          rcases List.mem_append.mp hz with h | h
          · exact r1 z h
          · rw [List.mem_singleton.mp h]
            exact ⟨x, hxm, y, hym, hw, e2⟩
        · exact fun _ _ _ _ _ => by simp
        · exact fun _ _ _ => by simp
      · have e2 : ¬ x.2 + T x.1 y.1 + y.2 = L := of_decide_eq_false e2
        refine p_next ?_
        refine ⟨rfl, rows, _, _, rfl, r1, r2, ?_, by omega⟩
        intro y' hy' h'
        rw [List.take_add_one, hy] at hy'
        rcases List.mem_append.mp hy' with h | h
        · exact r3 y' h h'
        · simp at h
          rw [h] at h'
          exact (e2 h').elim
    · intro ρ2 G2 i2
      obtain ⟨rfl, rows, x8, x9, rfl, r1, r2, r3, r4⟩ := i2
      rw [Nat.zero_add, List.length_map] at *
      rw [List.take_length] at r3
      refine ⟨rfl, rows, _, _, _, _, rfl, r1, ?_, by omega⟩
      intro x' hx' y' hy' h'
      rw [List.take_add_one, hx] at hx'
      rcases List.mem_append.mp hx' with h | h
      · exact r2 x' h y' hy' h'
      · simp at h
        rw [h] at h'
        exact r3 y' hy' h'
  · intro ρ1 G1 i1
    obtain ⟨rfl, rows, x6, x7, x8, x9, rfl, r1, r2, r3⟩ := i1
    rw [Nat.zero_add, List.length_map, List.take_length] at *
    have hne : rows ≠ [] := by
      rcases hor with h | ⟨x, hx, y, hy, h⟩
      · exact (e h.symm).elim
      · exact r2 x hx y hy h.symm
    dsimp only
    unfold envB
    refine p_frz rfl ?_
    refine frzL_ok ?_
    bv_omega
    refine minLL_ok hne fun xs hxs => ?_
    have hB := r1 xs hxs
    refine ⟨rfl, xs, rfl, .inr ⟨?_, hB⟩⟩
    obtain ⟨_, _, _, _, hw, _⟩ := hB
    exact hw.ne
theorem way_val (h : Web p r) (hs : ∀ q ∈ r, rfar p q < 99) {s t : Spot} {q o : Str × Str × Bool} (ha : On p r s q) (hb : On p r t o) (hF : ∀ T, Sp.Dist (dirs p r) (srt p) T → lb p r T s t < Sp.FAR) (G : GH) :
    Post (m_way [wD p r, spD s, spD t] G) fun d G1 => G1 = G ∧ ∃ T xs, Sp.Dist (dirs p r) (srt p) T ∧ d = rowD xs ∧ WayOk p r T q o s t xs := by
  have hr := web_rds h
  unfold m_way b_way
  refine p_def rfl ?_
  bv_omega
  refine Post.of_eq (lookboth_ok h ⟨q, ha⟩ ⟨o, hb⟩ G) ?_
  bv_omega
  refine (lengths_ok hr G).mono fun d G1 hd => ?_
  obtain ⟨rfl, kvs, T, rfl, hT, hD⟩ := hd
  have hf := hF T hD
  have hFF : Sp.FAR = 1000000000 := rfl
  bv_omega
  refine Post.of_eq (lengthby_val hr hT ⟨q, ha⟩ ⟨o, hb⟩ G1) ?_
  bv_omega
  rw [decide_eq_false (show ¬ (1000000000 : Int) ≤ lb p r T s t by omega)]
  bv_omega
  refine (wayby_val hr hs hD hT ha hb hf G1).mono fun d2 G2 h2 => ?_
  obtain ⟨rfl, xs, rfl, hw⟩ := h2
  exact ⟨rfl, T, xs, hD, rfl, hw⟩
theorem lb_uniq (hr : RdsOk p r) (hs : ∀ q ∈ r, rfar p q < 99) {T' : Str → Str → Int} (hD : Sp.Dist (dirs p r) (srt p) T) (hD' : Sp.Dist (dirs p r) (srt p) T') {s t : Spot} (h1 : SpOk p r s) (h2 : SpOk p r t) : lb p r T s t = lb p r T' s t := by
  have one : ∀ T T', Sp.Dist (dirs p r) (srt p) T → Sp.Dist (dirs p r) (srt p) T' → lb p r T' s t ≤ lb p r T s t := fun T T' hD hD' => by
    have W := web_sp hr hs hD
    have W' := web_sp hr hs hD'
    have hn := lb_nn W' h1 h2
    by_cases h : lb p r T s t < Sp.FAR
    · exact lb_closed W (g := fun v => lb p r T' s v) h1 h2 (by rw [lb_self W' h1]; exact Int.le_refl _) (fun u v w st => lb_step W' h1 st) h
    · omega
  exact Int.le_antisymm (one T' T hD' hD) (one T T' hD hD')
end
end K10

set_option Elab.async false
set_option linter.all false
set_option maxRecDepth 100000
set_option maxHeartbeats 1000000
/-! The plain law of k10: where one can go from each spot. -/
namespace K10
open PySem Gh
abbrev kY (s : Spot) : List L2.Key := kS s.1 s.2
theorem kY_inj {s t : Spot} : kY s = kY t ↔ s = t := by
  obtain ⟨a, b⟩ := s
  obtain ⟨c, d⟩ := t
  rw [kS_inj]
  simp only [Prod.mk.injEq]
  constructor
  · rintro ⟨h1, h2⟩; exact ⟨by omega, h2⟩
  · rintro ⟨h1, h2⟩; exact ⟨by omega, h2⟩
theorem row_nd (k : Nat) (w : Int) : (rowS k w).Nodup := by
  unfold rowS
  rw [List.nodup_iff_pairwise_ne, List.pairwise_map]
  exact List.nodup_iff_pairwise_ne.mp List.nodup_range |>.imp fun h z => h (by have := congrArg Prod.snd z; dsimp only at this; omega)
theorem spots_nd (p : Pls) (r : Rds) : ∀ n, (spots p r n).Nodup
  | 0 => by simp [spots]
  | n + 1 => by
    rw [spots_succ, List.nodup_append]
    refine ⟨spots_nd p r n, ?_, fun s hs t ht e => ?_⟩
    · unfold rowsS
      split
      · exact row_nd _ _
      · exact List.nodup_nil
    · subst e
      have h1 := (mem_spots.mp hs).2
      unfold rowsS at ht
      split at ht
      · have := ((mem_rowS (rfar_nn p _)).mp ht).1
        omega
      · cases ht
/-- the place that a spot is at -/
def plc (p : Pls) (r : Rds) (u : Spot) : Option Str := match r[u.1]? with
  | some q => if u.2 = 0 then some q.1 else if u.2 = rfar p q then some q.2.1 else none
  | none => none
def fbOf (p : Pls) (r : Rds) (u : Spot) : List (Spot × Int) := match r[u.1]? with
  | some q => (if u.2 < rfar p q then [((u.1, u.2 + 1), 1)] else []) ++ (if 0 < u.2 ∧ q.2.2 = false then [((u.1, u.2 - 1), 1)] else [])
  | none => []
def edD (e : Spot × Int) : D := .tup [spD e.1, .int e.2]
theorem fb_len (p : Pls) (r : Rds) (u : Spot) : (fbOf p r u).length ≤ 2 := by
  unfold fbOf
  split
  · rw [List.length_append]
    split <;> split <;> simp
  · simp
def atX (p : Pls) (r : Rds) (x : Str) (P : List Spot) : List Spot := P.filter fun u => decide (plc p r u = some x)
structure EndsOk (p : Pls) (r : Rds) (es : List (L2.Key × D)) (P : List Spot) : Prop where
  nd : (es.map (·.1)).Nodup
  ks : ∀ k ∈ es.map (·.1), ∃ x, k = .inr x
  val : ∀ x, valD es (.inr x) = if atX p r x P = [] then none else some (.lst ((atX p r x P).map spD))
  len : es.length ≤ P.length
theorem EndsOk.get {p : Pls} {r : Rds} {es : List (L2.Key × D)} {P : List Spot} (h : EndsOk p r es P) (x : Str) : (valD es (.inr x)).getD (.lst []) = .lst ((atX p r x P).map spD) := by
  rw [h.val]
  split
  · rename_i e; rw [e]; rfl
  · rfl
theorem keys_put {κ : Type} [DecidableEq κ] (kvs : List (κ × D)) (k : κ) (v : D) : (putKD kvs k v).map (·.1) = if k ∈ kvs.map (·.1) then kvs.map (·.1) else kvs.map (·.1) ++ [k] := by
  unfold putKD
  by_cases h : k ∈ kvs.map (·.1)
  · rw [if_pos h, if_pos]
    · rw [List.map_map]
      apply List.map_congr_left
      intro kv _
      simp only [Function.comp]
      split <;> rfl
    · obtain ⟨kv, h1, h2⟩ := List.mem_map.mp h
      exact List.any_eq_true.mpr ⟨kv, h1, by simpa using h2⟩
  · rw [if_neg h, if_neg]
    · simp
    · intro z
      obtain ⟨kv, h1, h2⟩ := List.any_eq_true.mp z
      exact h (List.mem_map.mpr ⟨kv, h1, by simpa using h2⟩)
theorem atX_snoc {p : Pls} {r : Rds} {x : Str} {P : List Spot} {u : Spot} : atX p r x (P ++ [u]) = atX p r x P ++ (if plc p r u = some x then [u] else []) := by
  unfold atX
  rw [List.filter_append]
  congr 1
  by_cases h : plc p r u = some x <;> simp [h]
theorem EndsOk.add {p : Pls} {r : Rds} {es : List (L2.Key × D)} {P : List Spot} (h : EndsOk p r es P) {u : Spot} {x : Str} (hx : plc p r u = some x) : EndsOk p r (putKD es (.inr x) (.lst ((atX p r x P).map spD ++ [spD u]))) (P ++ [u]) := by
  refine ⟨?_, ?_, fun y => ?_, ?_⟩
  · rw [keys_put]
    split
    · exact h.nd
    · rename_i hn
      rw [List.nodup_append]
      exact ⟨h.nd, by simp, fun a ha b hb e => by rw [List.mem_singleton.mp hb] at e; rw [e] at ha; exact hn ha⟩
  · intro k hk
    rw [keys_put] at hk
    split at hk
    · exact h.ks k hk
    · rcases List.mem_append.mp hk with z | z
      · exact h.ks k z
      · exact ⟨x, List.mem_singleton.mp z⟩
  · rw [val_put, atX_snoc, hx]
    by_cases e : y = x
    · subst e
      rw [if_pos rfl, if_pos rfl, if_neg (by simp)]
      simp
    · rw [if_neg (fun z => e (Sum.inr.inj z)), if_neg (fun z => e (Option.some.inj z).symm), List.append_nil]
      exact h.val y
  · have := len_put es (.inr x) (.lst ((atX p r x P).map spD ++ [spD u]))
    have := h.len
    rw [List.length_append]
    simp
    omega
theorem EndsOk.skip {p : Pls} {r : Rds} {es : List (L2.Key × D)} {P : List Spot} (h : EndsOk p r es P) {u : Spot} (hx : plc p r u = none) : EndsOk p r es (P ++ [u]) := by
  refine ⟨h.nd, h.ks, fun y => ?_, ?_⟩
  · have e : atX p r y (P ++ [u]) = atX p r y P := by rw [atX_snoc, hx]; simp
    rw [e]
    exact h.val y
  · have := h.len
    rw [List.length_append]
    omega
theorem addM_ok {P : D → GH → Prop} {G : GH} {xs ys : List D} (h : xs.length + ys.length ≤ 5000) (q : P (.lst (xs ++ ys)) G) : Post (oAdd (.lst xs) (.lst ys) G) P := by
  show Post (if _ then _ else _) P
  rw [if_pos (Nat.le_trans h (by decide))]; exact q
theorem atX_len {p : Pls} {r : Rds} {x : Str} {P : List Spot} : (atX p r x P).length ≤ P.length := List.length_filter_le _ _
structure NextA (p : Pls) (r : Rds) (G0 : GH) (P : List Spot) (kvs : List (List L2.Key × D)) (es : List (L2.Key × D)) (G : GH) : Prop where
  fd : ∀ (i : Nat) u, P[i]? = some u → valD kvs (kY u) = some (.cel (G0.length + i)) ∧ G[G0.length + i]? = some (.lst ((fbOf p r u).map edD))
  gl : G.length = G0.length + P.length
  pre : ∀ i, i < G0.length → G[i]? = G0[i]?
  kl : kvs.length ≤ P.length
  en : EndsOk p r es P
def envN (p : Pls) (r : Rds) (kvs : List (List L2.Key × D)) (es : List (L2.Key × D)) (a b c d : Option SV) : En := [some (.v (wD p r)), some (.own (.dit kvs)), some (.own (.dic es)), a, b, c, d]
noncomputable def bodyA : SF := (sSeq (sPutO 1 (mVar 3) (mCel (fLst mNil)))
  (sSeq (sAsg (mOp oIx (mOp oIx (mVarO 0) (mC (.int 1))) (mOp oIx (mVarO 3) (mC (.int 0)))) (gN 5))
  (sSeq (sIf (mB (mOp oEq (mOp oIx (mVarO 3) (mC (.int 1))) (mC (.int 0))))
  (sPutO 2 (mOp oIx (mVarO 5) (mC (.int 0))) (mOp oAdd (mGet (mVarO 2) (mOp oIx (mVarO 5) (mC (.int 0))) (mLst mNil)) (mLst (mCons (mVar 3) mNil))))
  sNext)
  (sSeq (sIf (mB (mOp oEq (mOp oIx (mVarO 3) (mC (.int 1))) (mCall m__law_long (mCons (mVar 0) (mCons (mOp oIx (mVarO 3) (mC (.int 0))) mNil)))))
  (sPutO 2 (mOp oIx (mVarO 5) (mC (.int 1))) (mOp oAdd (mGet (mVarO 2) (mOp oIx (mVarO 5) (mC (.int 1))) (mLst mNil)) (mLst (mCons (mVar 3) mNil))))
  sNext)
  (sSeq (sIf (mB (mOp oLt (mOp oIx (mVarO 3) (mC (.int 1))) (mCall m__law_long (mCons (mVar 0) (mCons (mOp oIx (mVarO 3) (mC (.int 0))) mNil)))))
  (sDrop (mApp (mOp oIx (mVarO 1) (mVarO 3)) (mTup (mCons (mTup (mCons (mOp oIx (mVarO 3) (mC (.int 0))) (mCons (mOp oAdd (mOp oIx (mVarO 3) (mC (.int 1))) (mC (.int 1))) mNil))) (mCons (mC (.int 1)) mNil)))))
  sNext)
  (sIf (mAnd (mB (mOp oGt (mOp oIx (mVarO 3) (mC (.int 1))) (mC (.int 0)))) (mNot (mTru (mOp oIx (mVarO 5) (mC (.int 2))))))
  (sDrop (mApp (mOp oIx (mVarO 1) (mVarO 3)) (mTup (mCons (mTup (mCons (mOp oIx (mVarO 3) (mC (.int 0))) (mCons (mOp oSub (mOp oIx (mVarO 3) (mC (.int 1))) (mC (.int 1))) mNil))) (mCons (mC (.int 1)) mNil)))))
  sNext))))))
theorem p_putOK {ρ : En} {G : GH} {Pf : Fl → GH → Prop} {fk fv : EF} {i : Nat} {kvs : List (L2.Key × D)} (hi : ρ[i]? = some (some (.own (.dic kvs)))) (h : Post (fv ρ G) fun v G1 => Post (fk ρ G1) fun k G2 => ∃ kk, k = .str kk ∧ kvs.length < LIM ∧ Pf (.nx (ρ.set i (some (.own (.dic (putKD kvs (.inr kk) v)))))) G2) : Post (sPutO i fk fv ρ G) Pf := p_putO hi h
noncomputable def tailA3 : SF := (sSeq (sIf (mB (mOp oLt (mOp oIx (mVarO 3) (mC (.int 1))) (mCall m__law_long (mCons (mVar 0) (mCons (mOp oIx (mVarO 3) (mC (.int 0))) mNil)))))
  (sDrop (mApp (mOp oIx (mVarO 1) (mVarO 3)) (mTup (mCons (mTup (mCons (mOp oIx (mVarO 3) (mC (.int 0))) (mCons (mOp oAdd (mOp oIx (mVarO 3) (mC (.int 1))) (mC (.int 1))) mNil))) (mCons (mC (.int 1)) mNil)))))
  sNext)
  (sIf (mAnd (mB (mOp oGt (mOp oIx (mVarO 3) (mC (.int 1))) (mC (.int 0)))) (mNot (mTru (mOp oIx (mVarO 5) (mC (.int 2))))))
  (sDrop (mApp (mOp oIx (mVarO 1) (mVarO 3)) (mTup (mCons (mTup (mCons (mOp oIx (mVarO 3) (mC (.int 0))) (mCons (mOp oSub (mOp oIx (mVarO 3) (mC (.int 1))) (mC (.int 1))) mNil))) (mCons (mC (.int 1)) mNil)))))
  sNext))
noncomputable def tailA2 : SF := (sSeq (sIf (mB (mOp oEq (mOp oIx (mVarO 3) (mC (.int 1))) (mC (.int 0))))
  (sPutO 2 (mOp oIx (mVarO 5) (mC (.int 0))) (mOp oAdd (mGet (mVarO 2) (mOp oIx (mVarO 5) (mC (.int 0))) (mLst mNil)) (mLst (mCons (mVar 3) mNil))))
  sNext)
  (sSeq (sIf (mB (mOp oEq (mOp oIx (mVarO 3) (mC (.int 1))) (mCall m__law_long (mCons (mVar 0) (mCons (mOp oIx (mVarO 3) (mC (.int 0))) mNil)))))
  (sPutO 2 (mOp oIx (mVarO 5) (mC (.int 1))) (mOp oAdd (mGet (mVarO 2) (mOp oIx (mVarO 5) (mC (.int 1))) (mLst mNil)) (mLst (mCons (mVar 3) mNil))))
  sNext)
  (sSeq (sIf (mB (mOp oLt (mOp oIx (mVarO 3) (mC (.int 1))) (mCall m__law_long (mCons (mVar 0) (mCons (mOp oIx (mVarO 3) (mC (.int 0))) mNil)))))
  (sDrop (mApp (mOp oIx (mVarO 1) (mVarO 3)) (mTup (mCons (mTup (mCons (mOp oIx (mVarO 3) (mC (.int 0))) (mCons (mOp oAdd (mOp oIx (mVarO 3) (mC (.int 1))) (mC (.int 1))) mNil))) (mCons (mC (.int 1)) mNil)))))
  sNext)
  (sIf (mAnd (mB (mOp oGt (mOp oIx (mVarO 3) (mC (.int 1))) (mC (.int 0)))) (mNot (mTru (mOp oIx (mVarO 5) (mC (.int 2))))))
  (sDrop (mApp (mOp oIx (mVarO 1) (mVarO 3)) (mTup (mCons (mTup (mCons (mOp oIx (mVarO 3) (mC (.int 0))) (mCons (mOp oSub (mOp oIx (mVarO 3) (mC (.int 1))) (mC (.int 1))) mNil))) (mCons (mC (.int 1)) mNil)))))
  sNext))))
/-- the two steps along the road -/
theorem tailA3_ok {p : Pls} {r : Rds} (hr : RdsOk p r) {u : Spot} {q : Str × Str × Bool} (hu : On p r u q) {kvs : List (List L2.Key × D)} {es : List (L2.Key × D)} {k : Nat} {G : GH} {b d : Option SV} (hk : valD kvs (kY u) = some (.cel k)) (hG : G[k]? = some (.lst [])) :
    Post (tailA3 (envN p r kvs es (some (.v (spD u))) b (some (.v (rdD1 q))) d) G) fun fl G1 => match fl with
      | .nx ρ1 => ρ1 = envN p r kvs es (some (.v (spD u))) b (some (.v (rdD1 q))) d ∧ G1 = G.set k (.lst ((fbOf p r u).map edD))
      | _ => False := by
  have hk' : valD kvs (kS u.1 u.2) = some (.cel k) := hk
  have hll := lawlong_val hr hu.1 G
  have hlt : k < G.length := (List.getElem?_eq_some_iff.mp hG).1
  have efb : fbOf p r u = (if u.2 < rfar p q then [((u.1, u.2 + 1), 1)] else []) ++ (if 0 < u.2 ∧ q.2.2 = false then [((u.1, u.2 - 1), 1)] else []) := by
    unfold fbOf; rw [hu.1]
  rw [efb]
  unfold tailA3 envN
  refine p_seq ?_
  refine Post.mono (P := fun fl G1 => fl = .nx [some (.v (wD p r)), some (.own (.dit kvs)), some (.own (.dic es)), some (.v (spD u)), b, some (.v (rdD1 q)), d] ∧ G1 = G.set k (.lst ((if u.2 < rfar p q then [(((u.1, u.2 + 1), 1) : Spot × Int)] else []).map edD))) ?_ fun fl G1 ⟨e1, e2⟩ => ?_
  · unfold spD wD
    bv_omega
    refine Post.of_eq hll ?_
    bv_omega
    refine ite_same (fun e => ?_) fun e => ?_
    · have h1 : u.2 < rfar p q := by simpa using e
      rw [if_pos h1]
      bv_omega
      refine p_app ?_
      bv_omega
      refine ixS_ok hk' ?_
      refine ⟨k, [], rfl, hG, ?_⟩
      bv_omega
      refine ⟨[], hG, by show 0 < 100000; decide, rfl, rfl⟩
    · have h1 : ¬ u.2 < rfar p q := by simpa using e
      rw [if_neg h1]
      bv_omega
      refine ⟨rfl, ?_⟩
      apply List.ext_getElem?
      intro i
      by_cases hi : k = i
      · subst hi
        rw [List.getElem?_set_self hlt, hG]
        rfl
      · rw [List.getElem?_set_ne hi]
  subst e1
  dsimp only
  generalize hL : (if u.2 < rfar p q then [(((u.1, u.2 + 1), 1) : Spot × Int)] else []) = L at e2 ⊢
  have hLl : L.length ≤ 1 := by rw [← hL]; split <;> simp
  have hG1 : G1[k]? = some (.lst (L.map edD)) := by rw [e2, List.getElem?_set_self hlt]
  refine p_if ?_
  refine Post.mono (P := fun c G2 => G2 = G1 ∧ c = decide (0 < u.2 ∧ q.2.2 = false)) ?_ fun c G2 ⟨e3, e4⟩ => ?_
  · unfold spD rdD1
    bv_omega
    refine ite_same (fun e => ?_) fun e => ?_
    · have h1 : 0 < u.2 := by simpa using e
      bv_omega
      refine ⟨rfl, ?_⟩
      cases q.2.2 <;> simp [h1]
    · have h1 : ¬ 0 < u.2 := by simpa using e
      exact ⟨rfl, by simp [h1]⟩
  subst e3
  refine ite_same (fun e => ?_) fun e => ?_
  · rw [e4] at e
    have h1 : 0 < u.2 ∧ q.2.2 = false := of_decide_eq_true e
    rw [if_pos h1]
    unfold spD
    refine p_drop (p_app ?_)
    bv_omega
    refine ixS_ok hk' ?_
    refine ⟨k, _, rfl, hG1, ?_⟩
    bv_omega
    refine ⟨_, hG1, by rw [List.length_map]; exact Nat.lt_of_le_of_lt hLl (by decide), rfl, ?_⟩
    rw [e2, List.set_set, List.map_append]
    rfl
  · rw [e4] at e
    have h1 : ¬ (0 < u.2 ∧ q.2.2 = false) := of_decide_eq_false e
    rw [if_neg h1, List.append_nil]
    exact ⟨rfl, e2⟩
theorem tailA2_ok {p : Pls} {r : Rds} (hr : RdsOk p r) {P : List Spot} (hPl : P.length ≤ 2000) {u : Spot} {q : Str × Str × Bool} (hu : On p r u q) {kvs : List (List L2.Key × D)} {es : List (L2.Key × D)} (hes : EndsOk p r es P) {k : Nat} {G : GH} {b d : Option SV} (hk : valD kvs (kY u) = some (.cel k)) (hG : G[k]? = some (.lst [])) :
    Post (tailA2 (envN p r kvs es (some (.v (spD u))) b (some (.v (rdD1 q))) d) G) fun fl G1 => match fl with
      | .nx ρ1 => ∃ es', EndsOk p r es' (P ++ [u]) ∧ ρ1 = envN p r kvs es' (some (.v (spD u))) b (some (.v (rdD1 q))) d ∧ G1 = G.set k (.lst ((fbOf p r u).map edD))
      | _ => False := by
  have hll := lawlong_val hr hu.1 G
  have hpos := rfar_pos hr (List.mem_of_getElem? hu.1)
  have hel : es.length < LIM := Nat.lt_of_le_of_lt (Nat.le_trans hes.len hPl) (by decide)
  have go : ∀ es', EndsOk p r es' (P ++ [u]) → Post (tailA3 (envN p r kvs es' (some (.v (spD u))) b (some (.v (rdD1 q))) d) G) fun fl G1 => match fl with
      | .nx ρ1 => ∃ es', EndsOk p r es' (P ++ [u]) ∧ ρ1 = envN p r kvs es' (some (.v (spD u))) b (some (.v (rdD1 q))) d ∧ G1 = G.set k (.lst ((fbOf p r u).map edD))
      | _ => False := fun es' he => (tailA3_ok hr hu hk hG).mono fun fl G1 h1 => by
    cases fl with
    | nx ρ1 => exact ⟨es', he, h1.1, h1.2⟩
    | _ => exact h1.elim
  unfold tailA2 envN
  refine p_seq ?_
  by_cases h0 : u.2 = 0
  · have hplc : plc p r u = some q.1 := by unfold plc; rw [hu.1]; simp [h0]
    refine Post.mono (P := fun fl G1 => fl = .nx (envN p r kvs (putKD es (.inr q.1) (.lst ((atX p r q.1 P).map spD ++ [spD u]))) (some (.v (spD u))) b (some (.v (rdD1 q))) d) ∧ G1 = G) ?_ fun fl G1 ⟨e1, e2⟩ => ?_
    · unfold spD rdD1
      bv_omega
      rw [decide_eq_true h0]
      bv_omega
      refine p_putOK rfl ?_
      bv_omega
      refine p_getK (a := q.1) (kvs := es) (z := .lst []) ⟨rfl, rfl⟩ ⟨rfl, rfl⟩ ⟨rfl, rfl⟩ ?_
      rw [hes.get]
      bv_omega
      refine addM_ok (by have := @atX_len p r q.1 P; simp; omega) ?_
      bv_omega
      exact ⟨hel, rfl, rfl⟩
    subst e1; subst e2
    dsimp only
    refine p_seq ?_
    refine Post.mono (P := fun fl G2 => fl = .nx (envN p r kvs (putKD es (.inr q.1) (.lst ((atX p r q.1 P).map spD ++ [spD u]))) (some (.v (spD u))) b (some (.v (rdD1 q))) d) ∧ G2 = G1) ?_ fun fl G2 ⟨e1, e2⟩ => ?_
    · unfold envN spD wD
      bv_omega
      refine Post.of_eq hll ?_
      bv_omega
      rw [decide_eq_false (by omega)]
      bv_omega
      exact ⟨rfl, rfl⟩
    subst e1; subst e2
    exact go _ (hes.add hplc)
  · refine Post.mono (P := fun fl G1 => fl = .nx (envN p r kvs es (some (.v (spD u))) b (some (.v (rdD1 q))) d) ∧ G1 = G) ?_ fun fl G1 ⟨e1, e2⟩ => ?_
    · unfold spD rdD1
      bv_omega
      rw [decide_eq_false h0]
      bv_omega
      exact ⟨rfl, rfl⟩
    subst e1; subst e2
    dsimp only
    refine p_seq ?_
    by_cases h1 : u.2 = rfar p q
    · have hplc : plc p r u = some q.2.1 := by unfold plc; rw [hu.1]; simp [h0, h1]; omega
      refine Post.mono (P := fun fl G2 => fl = .nx (envN p r kvs (putKD es (.inr q.2.1) (.lst ((atX p r q.2.1 P).map spD ++ [spD u]))) (some (.v (spD u))) b (some (.v (rdD1 q))) d) ∧ G2 = G1) ?_ fun fl G2 ⟨e1, e2⟩ => ?_
      · unfold envN spD rdD1 wD
        bv_omega
        refine Post.of_eq hll ?_
        bv_omega
        rw [decide_eq_true h1]
        bv_omega
        refine p_putOK rfl ?_
        bv_omega
        refine p_getK (a := q.2.1) (kvs := es) (z := .lst []) ⟨rfl, rfl⟩ ⟨rfl, rfl⟩ ⟨rfl, rfl⟩ ?_
        rw [hes.get]
        bv_omega
        refine addM_ok (by have := @atX_len p r q.2.1 P; simp; omega) ?_
        bv_omega
        exact ⟨hel, rfl, rfl⟩
      subst e1; subst e2
      exact go _ (hes.add hplc)
    · have hplc : plc p r u = none := by unfold plc; rw [hu.1]; simp [h0, h1]
      refine Post.mono (P := fun fl G2 => fl = .nx (envN p r kvs es (some (.v (spD u))) b (some (.v (rdD1 q))) d) ∧ G2 = G1) ?_ fun fl G2 ⟨e1, e2⟩ => ?_
      · unfold envN spD wD
        bv_omega
        refine Post.of_eq hll ?_
        bv_omega
        rw [decide_eq_false h1]
        bv_omega
        exact ⟨rfl, rfl⟩
      subst e1; subst e2
      exact go _ (hes.skip hplc)
theorem bodyA_ok {p : Pls} {r : Rds} (hr : RdsOk p r) {G0 : GH} {P : List Spot} {u : Spot} (hu : SpOk p r u) (hP : u ∉ P) (hPl : P.length ≤ 2000) {kvs : List (List L2.Key × D)} {es : List (L2.Key × D)} {G : GH} (h : NextA p r G0 P kvs es G) {b c d : Option SV} :
    Post (bodyA (envN p r kvs es (some (.v (spD u))) b c d) G) fun fl G1 => match fl with
      | .nx ρ1 => ∃ kvs' es' a c, ρ1 = envN p r kvs' es' a b c d ∧ NextA p r G0 (P ++ [u]) kvs' es' G1
      | _ => False := by
  obtain ⟨q, hu⟩ := hu
  have hat := rd_at hu.1
  have hll := fun G => lawlong_val hr hu.1 G
  have hpos := rfar_pos hr (List.mem_of_getElem? hu.1)
  have hkl : kvs.length < LIM := Nat.lt_of_le_of_lt (Nat.le_trans h.kl hPl) (by decide)
  have hel : es.length < LIM := Nat.lt_of_le_of_lt (Nat.le_trans h.en.len hPl) (by decide)
  have hval : valD (putKD kvs (kY u) (.cel G.length)) (kY u) = some (.cel G.length) := by rw [val_put, if_pos rfl]
  have hnew : (G ++ [Cell.lst []])[G.length]? = some (.lst []) := by simp
  -- what all ways come to
  have fin : ∀ (es' : List (L2.Key × D)) (fl : Fl) (G1 : GH), EndsOk p r es' (P ++ [u]) →
      (match fl with
        | .nx ρ1 => ρ1 = envN p r (putKD kvs (kY u) (.cel G.length)) es' (some (.v (spD u))) b (some (.v (rdD1 q))) d ∧ G1 = (G ++ [Cell.lst []]).set G.length (.lst ((fbOf p r u).map edD))
        | _ => False) →
      (match fl with
        | .nx ρ1 => ∃ kvs' es' a c, ρ1 = envN p r kvs' es' a b c d ∧ NextA p r G0 (P ++ [u]) kvs' es' G1
        | _ => False) := by
    intro es' fl G1 hes hfl
    cases fl with
    | nx ρ1 =>
      obtain ⟨e1, e2⟩ := hfl
      subst e1; subst e2
      refine ⟨_, _, _, _, rfl, ⟨fun i v hv => ?_, ?_, fun i hi => ?_, ?_, hes⟩⟩
      · by_cases hi : i < P.length
        · rw [List.getElem?_append_left hi] at hv
          obtain ⟨h1, h2⟩ := h.fd i v hv
          have hne : v ≠ u := fun z => hP (z ▸ List.mem_of_getElem? hv)
          refine ⟨by rw [val_put, if_neg (fun z => hne (kY_inj.mp z))]; exact h1, ?_⟩
          have := h.gl
          rw [List.getElem?_set_ne (by omega), List.getElem?_append_left (by omega)]
          exact h2
        · rw [List.getElem?_append_right (by omega)] at hv
          have h0 : i - P.length = 0 := by
            have := (List.getElem?_eq_some_iff.mp hv).1
            simp at this
            omega
          rw [h0] at hv
          simp at hv
          subst hv
          have := h.gl
          have ei : G0.length + i = G.length := by omega
          rw [ei]
          exact ⟨hval, by rw [List.getElem?_set_self (by simp)]⟩
      · have := h.gl
        simp
        omega
      · have := h.gl
        rw [List.getElem?_set_ne (by omega), List.getElem?_append_left (by omega)]
        exact h.pre i hi
      · have := len_put kvs (kY u) (.cel G.length)
        have := h.kl
        rw [List.length_append]
        simp
        omega
    | _ => exact hfl.elim
  unfold bodyA envN
  refine p_seq (p_putOS rfl ?_)
  refine p_cel ?_
  bv_omega
  unfold spD
  refine ⟨_, _, rfl, hkl, ?_⟩
  dsimp only
  refine p_seq ?_
  refine Post.mono (P := fun fl G1 => fl = .nx (envN p r (putKD kvs (kY u) (.cel G.length)) es (some (.v (spD u))) b (some (.v (rdD1 q))) d) ∧ G1 = G ++ [Cell.lst []]) ?_ fun fl G1 ⟨e1, e2⟩ => ?_
  · unfold wD
    bv_omega
    exact ⟨rfl, rfl⟩
  subst e1; subst e2
  dsimp only
  refine (tailA2_ok hr hPl hu h.en hval hnew).mono fun fl G1 h1 => ?_
  cases fl with
  | nx ρ1 =>
    obtain ⟨es', he, e1, e2⟩ := h1
    exact fin es' (.nx ρ1) G1 he ⟨e1, e2⟩
  | _ => exact h1.elim
end K10

set_option Elab.async false
set_option linter.all false
set_option maxRecDepth 100000
set_option maxHeartbeats 1000000
/-! The plain law of k10: where one can go from each spot, all. -/
namespace K10
open PySem Gh
/-- a list, or a cell with one (not the town) -/
def HoldsL (G : GH) (d : D) (ds : List D) : Prop := d = .lst ds ∨ ∃ k, k ≠ 0 ∧ d = .cel k ∧ G[k]? = some (.lst ds)
theorem HoldsL.view {G : GH} {d : D} {ds : List D} (h : HoldsL G d ds) : view G d = .lst ds := by
  rcases h with rfl | ⟨k, _, rfl, h⟩
  · rfl
  · exact view_lst h
def zeros (p : Pls) (r : Rds) (x : Str) (u : Spot) : List (Spot × Int) := ((atX p r x (every p r)).filter fun v => !decide (v = u)).map fun v => (v, 0)
def finL (p : Pls) (r : Rds) (u : Spot) : List (Spot × Int) := fbOf p r u ++ (match plc p r u with
  | some x => zeros p r x u
  | none => [])
structure NextB (p : Pls) (r : Rds) (done : Spot → Bool) (kvs : List (List L2.Key × D)) (G : GH) : Prop where
  fd : ∀ u ∈ every p r, ∃ d, valD kvs (kY u) = some d ∧ HoldsL G d ((if done u = true then finL p r u else fbOf p r u).map edD)
  kl : kvs.length ≤ 2000
theorem addV_ok {P : D → GH → Prop} {G : GH} {d : D} {xs ys : List D} (hd : view G d = .lst xs) (h : xs.length + ys.length ≤ 5000) (q : P (.lst (xs ++ ys)) G) : Post (oAdd d (.lst ys) G) P := by
  unfold oAdd
  rw [hd]
  show Post (if _ then _ else _) P
  rw [if_pos (Nat.le_trans h (by decide))]; exact q
theorem neSp_ok {s t : Spot} {G : GH} {P : D → GH → Prop} (q : P (.bl (!decide (s = t))) G) : Post (oNe (spD s) (spD t) G) P := by
  refine nePt_ok (a := ((s.1 : Int), s.2)) (b := ((t.1 : Int), t.2)) ?_
  have e : (decide ((s.1 : Int) = (t.1 : Int)) && decide (s.2 = t.2)) = decide (s = t) := by
    obtain ⟨a, b⟩ := s
    obtain ⟨c, d⟩ := t
    simp only [Prod.mk.injEq]
    by_cases h1 : a = c <;> by_cases h2 : b = d <;> simp [h1, h2] <;> omega
  dsimp only
  rw [e]
  exact q
noncomputable def bodyB : SF := (sPutO 1 (mVar 3) (mOp oAdd (mOp oIx (mVarO 1) (mVarO 3)) (mFz (fComp (mComp (mIter (mOp oIx (mVarO 2) (mVarO 4))) (gN 6) (mB (mOp oNe (mVarO 6) (mVarO 3))) (mTup (mCons (mVar 6) (mCons (mC (.int 0)) mNil))) [6])))))
theorem zeros_len {p : Pls} {r : Rds} (hE : (every p r).length ≤ 2000) (x : Str) (u : Spot) : (zeros p r x u).length ≤ 2000 := by
  unfold zeros
  rw [List.length_map]
  refine Nat.le_trans (List.length_filter_le _ _) ?_
  exact Nat.le_trans atX_len hE
theorem bodyB_ok {p : Pls} {r : Rds} (hE : (every p r).length ≤ 2000) {es : List (L2.Key × D)} {x : Str} (hv : valD es (.inr x) = some (.lst ((atX p r x (every p r)).map spD))) {u : Spot} (hu : u ∈ every p r) (hp : plc p r u = some x) {done : Spot → Bool} (hd : done u = false) {kvs : List (List L2.Key × D)} {G : GH} (h : NextB p r done kvs G) {c d : Option SV} :
    Post (bodyB (envN p r kvs es (some (.v (spD u))) (some (.v (.str x))) c d) G) fun fl G1 => match fl with
      | .nx ρ1 => G1 = G ∧ ∃ kvs', ρ1 = envN p r kvs' es (some (.v (spD u))) (some (.v (.str x))) c d ∧ NextB p r (fun v => done v || decide (v = u)) kvs' G
      | _ => False := by
  obtain ⟨du, h1, h2⟩ := h.fd u hu
  rw [hd] at h2
  have h1' : valD kvs (kS u.1 u.2) = some du := h1
  have hlx := @atX_len p r x (every p r)
  have hzl := zeros_len hE x u
  have hfl := fb_len p r u
  have hfin : finL p r u = fbOf p r u ++ zeros p r x u := by unfold finL; rw [hp]
  unfold bodyB envN
  refine p_putOS rfl ?_
  bv_omega
  unfold spD
  refine ixS_ok h1' ?_
  bv_omega
  refine .inl ⟨_, rfl, ?_, ?_⟩
  · rw [List.length_map]; exact lim3000 (by omega)
  refine p_compF (T := fun d => !decide (spOf d = u)) (F := fun d => edD (spOf d, 0)) (fun dd hdd => post_ok ?_) (fun dd hdd _ => post_ok ?_) ?_
  · obtain ⟨v, hv', rfl⟩ := List.mem_map.mp hdd
    bv_omega
    refine neSp_ok (s := v) (t := u) ?_
    bv_omega
    rw [spOf_spD]
    exact ⟨rfl, rfl⟩
  · obtain ⟨v, hv', rfl⟩ := List.mem_map.mp hdd
    bv_omega
    rw [spOf_spD]
    exact ⟨rfl, rfl⟩
  have ez : ((List.filter (fun d => !decide (spOf d = u)) ((atX p r x (every p r)).map spD)).map fun d => edD (spOf d, 0)) = (zeros p r x u).map edD := by
    unfold zeros
    rw [List.filter_map, List.map_map, List.map_map]
    have e1 : (fun d => !decide (spOf d = u)) ∘ spD = fun v => !decide (v = u) := by
      funext v; simp only [Function.comp, spOf_spD]
    have e2 : (fun d => edD (spOf d, 0)) ∘ spD = edD ∘ fun v => (v, 0) := by
      funext v; simp only [Function.comp, spOf_spD]
    rw [e1, e2]
  rw [ez]
  bv_omega
  refine addV_ok (h2.view) (by simp; omega) ?_
  bv_omega
  rw [← List.map_append]
  refine ⟨_, _, rfl, Nat.lt_of_le_of_lt h.kl (by decide), rfl, _, rfl, ⟨fun v hv' => ?_, ?_⟩⟩
  · rw [val_put]
    by_cases e : v = u
    · subst e
      rw [if_pos rfl]
      refine ⟨_, rfl, .inl ?_⟩
      simp [hfin]
    · rw [if_neg (fun z => e (kY_inj.mp z))]
      obtain ⟨dv, g1, g2⟩ := h.fd v hv'
      refine ⟨dv, g1, ?_⟩
      simp only [e, decide_false, Bool.or_false]
      exact g2
  · rw [len_put_old _ h1']
    exact h.kl
/-- all roads from a spot: just the steps -/
structure EdgesOk (p : Pls) (r : Rds) (u : Spot) (es : List (Spot × Int)) : Prop where
  snd : ∀ e ∈ es, Sp.Step (rsR p r) u e.1 e.2 ∧ SpOk p r e.1
  cpl : ∀ v w, Sp.Step (rsR p r) u v w → v = u ∨ (v, w) ∈ es
  len : es.length ≤ 3000
structure StepsAt (p : Pls) (r : Rds) (kvs : List (List L2.Key × D)) (G : GH) : Prop where
  at' : ∀ u ∈ every p r, ∃ d es, valD kvs (kY u) = some d ∧ HoldsL G d (es.map edD) ∧ EdgesOk p r u es
theorem on_of {p : Pls} {r : Rds} {s : Spot} {o : Sp.Rd Str} (h : Sp.On (rsR p r) s o) : ∃ q, On p r s q ∧ o = rdR p q := by
  have := h.at'
  unfold rsR at this
  rw [List.getElem?_map] at this
  obtain ⟨q, h1, h2⟩ := Option.map_eq_some_iff.mp this
  subst h2
  exact ⟨q, ⟨h1, h.lo, h.hi⟩, rfl⟩
theorem at_plc {p : Pls} {r : Rds} (hr : RdsOk p r) {s : Spot} {q : Str × Str × Bool} (h : On p r s q) {x : Str} : Sp.At (rdR p q) s x ↔ plc p r s = some x := by
  have hpos := rfar_pos hr (List.mem_of_getElem? h.1)
  unfold Sp.At plc
  rw [h.1]
  dsimp only [rdR]
  constructor
  · rintro (⟨h1, rfl⟩ | ⟨h1, rfl⟩)
    · rw [if_pos h1]
    · rw [if_neg (by omega), if_pos h1]
  · intro e
    split at e
    · rename_i h1
      exact .inl ⟨h1, (Option.some.inj e).symm⟩
    · split at e
      · rename_i h1
        exact .inr ⟨h1, (Option.some.inj e).symm⟩
      · cases e
theorem edges_ok {p : Pls} {r : Rds} (hr : RdsOk p r) (hE : (every p r).length ≤ 2000) {u : Spot} (hu : u ∈ every p r) : EdgesOk p r u (finL p r u) := by
  obtain ⟨q, huq⟩ := mem_every.mp hu
  have hon := on_sp huq
  have efb : fbOf p r u = (if u.2 < rfar p q then [((u.1, u.2 + 1), 1)] else []) ++ (if 0 < u.2 ∧ q.2.2 = false then [((u.1, u.2 - 1), 1)] else []) := by
    unfold fbOf; rw [huq.1]
  obtain ⟨q1, q2, q3⟩ := huq
  obtain ⟨i, f⟩ := u
  dsimp only at q1 q2 q3 efb
  refine ⟨fun e he => ?_, fun v w hs => ?_, ?_⟩
  · unfold finL at he
    rcases List.mem_append.mp he with he | he
    · rw [efb] at he
      rcases List.mem_append.mp he with he | he
      · split at he
        · rename_i h1
          rw [List.mem_singleton.mp he]
          have hon' : On p r (i, f + 1) q := ⟨q1, by dsimp only; omega, by dsimp only; omega⟩
          exact ⟨.fwd hon (on_sp hon'), q, hon'⟩
        · cases he
      · split at he
        · rename_i h1
          rw [List.mem_singleton.mp he]
          have hon' : On p r (i, f - 1) q := ⟨q1, by dsimp only; omega, by dsimp only; omega⟩
          exact ⟨.bwd hon (on_sp hon') h1.2, q, hon'⟩
        · cases he
    · cases hp : plc p r (i, f) with
      | none => rw [hp] at he; cases he
      | some x =>
        rw [hp] at he
        obtain ⟨v, hv, rfl⟩ := List.mem_map.mp he
        have hv1 := (List.mem_filter.mp hv).1
        obtain ⟨hv2, hv3⟩ := List.mem_filter.mp hv1
        obtain ⟨o, hvo⟩ := mem_every.mp hv2
        exact ⟨.jmp hon (on_sp hvo) ((at_plc hr ⟨q1, q2, q3⟩).mpr hp) ((at_plc hr hvo).mpr (by simpa using hv3)), o, hvo⟩
  · cases hs with
    | fwd h1 h2 =>
      right
      obtain ⟨o, ho, rfl⟩ := on_of h2
      have : o = q := by
        have := ho.1
        dsimp only at this
        rw [q1] at this
        exact (Option.some.inj this).symm
      subst this
      have hhi := ho.2.2
      dsimp only at hhi
      unfold finL
      rw [efb, if_pos (by omega)]
      simp
    | bwd h1 h2 how =>
      right
      obtain ⟨o, ho, rfl⟩ := on_of h2
      have : o = q := by
        have := ho.1
        dsimp only at this
        rw [q1] at this
        exact (Option.some.inj this).symm
      subst this
      have hlo := ho.2.1
      dsimp only at hlo
      unfold finL
      rw [efb, if_pos (show 0 < f ∧ o.2.2 = false from ⟨by omega, how⟩)]
      simp
    | jmp h1 h2 hx hy =>
      by_cases e : v = (i, f)
      · exact .inl e
      right
      obtain ⟨o1, ho1, rfl⟩ := on_of h1
      obtain ⟨o2, ho2, rfl⟩ := on_of h2
      have hp := (at_plc hr ho1).mp hx
      have hp2 := (at_plc hr ho2).mp hy
      unfold finL
      rw [hp]
      refine List.mem_append_right _ (List.mem_map.mpr ⟨v, List.mem_filter.mpr ⟨List.mem_filter.mpr ⟨mem_every.mpr ⟨_, ho2⟩, by simpa using hp2⟩, by simpa using e⟩, rfl⟩)
  · unfold finL
    rw [List.length_append]
    have := fb_len p r (i, f)
    split
    · rename_i x _
      have := zeros_len hE x (i, f)
      omega
    · simp; omega
theorem keys_in {es : List (L2.Key × D)} {x : Str} {d : D} (h : valD es (.inr x) = some d) : (.inr x : L2.Key) ∈ es.map (·.1) := by
  unfold valD at h
  obtain ⟨kv, h1, _⟩ := Option.map_eq_some_iff.mp h
  have h2 := List.find?_some h1
  exact List.mem_map.mpr ⟨kv, List.mem_of_find?_eq_some h1, by simpa using h2⟩
theorem keys_val {es : List (L2.Key × D)} {x : Str} (h : (.inr x : L2.Key) ∈ es.map (·.1)) : ∃ d, valD es (.inr x) = some d := by
  cases e : valD es (.inr x) with
  | some d => exact ⟨d, rfl⟩
  | none =>
    unfold valD at e
    have e' := Option.map_eq_none_iff.mp e
    obtain ⟨kv, h1, h2⟩ := List.mem_map.mp h
    have := List.find?_eq_none.mp e' kv h1
    simp [h2] at this
open Classical in
noncomputable def doneI (p : Pls) (r : Rds) (nm : List L2.Key) (u : Spot) : Bool := match plc p r u with
  | some x => decide ((.inr x : L2.Key) ∈ nm)
  | none => false
theorem NextB.cong {p : Pls} {r : Rds} {f g : Spot → Bool} {kvs : List (List L2.Key × D)} {G : GH} (h : NextB p r f kvs G) (e : ∀ u ∈ every p r, f u = g u) : NextB p r g kvs G :=
  ⟨fun u hu => by rw [← e u hu]; exact h.fd u hu, h.kl⟩
theorem next_ok {p : Pls} {r : Rds} (hr : RdsOk p r) (hs : ∀ q ∈ r, rfar p q < 99) {G : GH} (hG : 1 ≤ G.length) :
    Post (m__law_next [wD p r] G) fun d G1 => (∀ i, i < G.length → G1[i]? = G[i]?) ∧ G.length ≤ G1.length ∧ ∃ kvs, d = .dit kvs ∧ StepsAt p r kvs G1 := by
  have hE : (every p r).length ≤ 2000 := by
    have := spots_len (p := p) (r := r) hs r.length
    have := hr.len
    show (spots p r r.length).length ≤ 2000
    omega
  have hnd := spots_nd p r r.length
  unfold m__law_next b__law_next
  refine p_def rfl ?_
  refine p_seq (p_own ?_)
  refine (show ∀ {P : Cell → GH → Prop}, P (.dit []) G → Post (fDnewT (Gh.start 7 [wD p r]) G) P from fun q => q) ?_
  refine ⟨by show 1 < 7; decide, ?_⟩
  dsimp only
  refine p_seq (p_own ?_)
  refine (show ∀ {ρ : En} {P : Cell → GH → Prop}, P (.dic []) G → Post (fDnewK ρ G) P from fun q => q) ?_
  refine ⟨by show 2 < 7; decide, ?_⟩
  dsimp only
  refine p_seq (p_for (p_iter ?_))
  bv_omega
  refine Post.of_eq (lawspots_val hr hs G) ?_
  refine .inl ⟨_, rfl, ?_⟩
  refine p_forL (fun j ρ G1 => ∃ kvs es a c, ρ = envN p r kvs es a none c none ∧ NextA p r G ((every p r).take j) kvs es G1) (n := 0) ⟨[], [], _, _, rfl, ⟨by simp, by simp, fun _ _ => rfl, by simp, ⟨by simp, by simp, fun x => rfl, by simp⟩⟩⟩ ?_ ?_
  · intro j d ρ1 G1 hj i1
    rw [Nat.zero_add] at *
    obtain ⟨kvs, es, a, c, rfl, hN⟩ := i1
    rw [List.getElem?_map] at hj
    obtain ⟨u, hu, rfl⟩ := Option.map_eq_some_iff.mp hj
    have hjl : j < (every p r).length := (List.getElem?_eq_some_iff.mp hu).1
    have hnot : u ∉ (every p r).take j := fun z => by
      obtain ⟨i, hi, ei⟩ := List.getElem_of_mem z
      rw [List.length_take] at hi
      rw [List.getElem_take] at ei
      have e2 : (every p r)[j] = u := by
        rw [List.getElem?_eq_getElem hjl] at hu
        exact Option.some.inj hu
      have := (List.getElem_inj hnd).mp (ei.trans e2.symm)
      omega
    refine (bodyA_ok hr (mem_every.mp (List.mem_of_getElem? hu)) hnot (by rw [List.length_take]; omega) hN).mono fun fl G2 h2 => ?_
    cases fl with
    | nx ρ2 =>
      obtain ⟨kvs', es', a', c', e1, h3⟩ := h2
      refine ⟨kvs', es', a', c', e1, ?_⟩
      rw [List.take_add_one, hu]
      exact h3
    | _ => exact h2.elim
  · intro ρ1 G1 i1
    rw [Nat.zero_add, List.length_map, List.take_length] at i1
    obtain ⟨kvs, es, a, c, rfl, hN⟩ := i1
    have hB0 : NextB p r (fun _ => false) kvs G1 := by
      refine ⟨fun u hu => ?_, Nat.le_trans hN.kl hE⟩
      obtain ⟨i, hi, ei⟩ := List.getElem_of_mem hu
      obtain ⟨g1, g2⟩ := hN.fd i u (by rw [List.getElem?_eq_getElem hi, ei])
      exact ⟨_, g1, .inr ⟨_, by omega, rfl, g2⟩⟩
    dsimp only
    unfold envN
    refine p_seq (p_for (p_iter (p_fz (p_keysF (kvs := es) ?_))))
    bv_omega
    refine ⟨rfl, ?_⟩
    bv_omega
    refine .inl ⟨_, rfl, ?_⟩
    refine p_forL (fun i ρ G2 => G2 = G1 ∧ ∃ kvs a b c d, ρ = envN p r kvs es a b c d ∧ NextB p r (doneI p r ((es.map (·.1)).take i)) kvs G1) (n := 0) ⟨rfl, kvs, _, _, _, _, rfl, hB0.cong fun u _ => by unfold doneI; split <;> simp⟩ ?_ ?_
    · intro i dn ρ2 G2 hi i2
      rw [Nat.zero_add] at *
      obtain ⟨rfl, kvs2, a2, b2, c2, d2, rfl, hB⟩ := i2
      have hki : (es.map (·.1))[i]? = (es[i]?).map (·.1) := by rw [List.getElem?_map]
      rw [List.getElem?_map] at hi
      obtain ⟨kv, hkv, rfl⟩ := Option.map_eq_some_iff.mp hi
      rw [hkv] at hki
      have hki : (es.map (·.1))[i]? = some kv.1 := hki
      obtain ⟨x, hx⟩ := hN.en.ks kv.1 (List.mem_of_getElem? hki)
      rw [hx] at hki
      obtain ⟨dv, hdv⟩ := keys_val (List.mem_of_getElem? hki)
      have hv : valD es (.inr x) = some (.lst ((atX p r x (every p r)).map spD)) := by
        have := hN.en.val x
        rw [this] at hdv ⊢
        split at hdv
        · cases hdv
        · rename_i hne; rw [if_neg hne]
      have hxn : (.inr x : L2.Key) ∉ (es.map (·.1)).take i := fun z => by
        obtain ⟨j, hj, ej⟩ := List.getElem_of_mem z
        rw [List.length_take] at hj
        rw [List.getElem_take] at ej
        have hil : i < (es.map (·.1)).length := (List.getElem?_eq_some_iff.mp hki).1
        have e2 : (es.map (·.1))[i] = .inr x := by
          rw [List.getElem?_eq_getElem hil] at hki
          exact Option.some.inj hki
        have := (List.getElem_inj hN.en.nd).mp (ej.trans e2.symm)
        omega
      have hlx : (atX p r x (every p r)).Nodup := hnd.sublist List.filter_sublist
      rw [hx, show keyD (Sum.inr x) = D.str x from rfl]
      show Post (sFor _ _ _ _ _) _
      unfold envN
      refine p_for (p_iter ?_)
      bv_omega
      refine .inl ⟨_, rfl, ?_⟩
      refine p_forL (fun j ρ G3 => G3 = G2 ∧ ∃ kvs a c d, ρ = envN p r kvs es a (some (.v (.str x))) c d ∧ NextB p r (fun v => doneI p r ((es.map (·.1)).take i) v || decide (v ∈ (atX p r x (every p r)).take j)) kvs G2) (n := 0) ⟨rfl, kvs2, _, _, _, rfl, hB.cong fun u _ => by simp⟩ ?_ ?_
      · intro j du ρ3 G3 hj i3
        rw [Nat.zero_add] at *
        obtain ⟨rfl, kvs3, a3, c3, d3, rfl, hB3⟩ := i3
        rw [List.getElem?_map] at hj
        obtain ⟨u, hu, rfl⟩ := Option.map_eq_some_iff.mp hj
        obtain ⟨hu1, hu2⟩ := List.mem_filter.mp (List.mem_of_getElem? hu)
        have hp : plc p r u = some x := by simpa using hu2
        have hnj : u ∉ (atX p r x (every p r)).take j := fun z => by
          obtain ⟨k, hk, ek⟩ := List.getElem_of_mem z
          rw [List.length_take] at hk
          rw [List.getElem_take] at ek
          have hjl : j < (atX p r x (every p r)).length := (List.getElem?_eq_some_iff.mp hu).1
          have e2 : (atX p r x (every p r))[j] = u := by
            rw [List.getElem?_eq_getElem hjl] at hu
            exact Option.some.inj hu
          have := (List.getElem_inj hlx).mp (ek.trans e2.symm)
          omega
        have hdn : (doneI p r ((es.map (·.1)).take i) u || decide (u ∈ (atX p r x (every p r)).take j)) = false := by
          unfold doneI
          rw [hp]
          simp [hxn, hnj]
        refine (bodyB_ok hE hv hu1 hp hdn hB3).mono fun fl G4 h4 => ?_
        cases fl with
        | nx ρ4 =>
          obtain ⟨e1, kvs4, e2, hB4⟩ := h4
          refine ⟨e1, kvs4, _, _, _, e2, hB4.cong fun v _ => ?_⟩
          rw [List.take_add_one, hu, Option.toList_some]
          by_cases h1 : v ∈ (atX p r x (every p r)).take j <;> by_cases h2 : v = u <;> simp [h1, h2]
        | _ => exact h4.elim
      · intro ρ3 G3 i3
        rw [Nat.zero_add, List.length_map, List.take_length] at i3
        obtain ⟨rfl, kvs3, a3, c3, d3, rfl, hB3⟩ := i3
        refine ⟨rfl, kvs3, _, _, _, _, rfl, hB3.cong fun v hv' => ?_⟩
        unfold doneI
        rw [List.take_add_one, hki, Option.toList_some]
        cases hpv : plc p r v with
        | none =>
          have : v ∉ atX p r x (every p r) := fun z => by
            have := (List.mem_filter.mp z).2
            rw [hpv] at this
            simp at this
          simp [this]
        | some y =>
          have : v ∈ atX p r x (every p r) ↔ y = x := by
            unfold atX
            rw [List.mem_filter, hpv]
            simp [hv']
          by_cases h1 : (.inr y : L2.Key) ∈ (es.map (·.1)).take i <;> by_cases h2 : y = x <;> simp [h1, h2, this]
    · intro ρ2 G2 i2
      rw [Nat.zero_add] at i2
      obtain ⟨rfl, kvs2, a2, b2, c2, d2, rfl, hB⟩ := i2
      rw [List.length_map, ← List.length_map (f := fun kv : L2.Key × D => kv.1), List.take_length] at hB
      dsimp only
      unfold envN
      refine p_frz rfl ?_
      refine frzT_ok ?_
      bv_omega
      refine ⟨hN.pre, by have := hN.gl; omega, kvs2, rfl, ⟨fun u hu => ?_⟩⟩
      obtain ⟨d, g1, g2⟩ := hB.fd u hu
      refine ⟨d, finL p r u, g1, ?_, edges_ok hr hE hu⟩
      have : (if doneI p r (es.map (·.1)) u = true then finL p r u else fbOf p r u) = finL p r u := by
        unfold doneI
        cases hpu : plc p r u with
        | none => simp [finL, hpu]
        | some x =>
          have hmem : u ∈ atX p r x (every p r) := List.mem_filter.mpr ⟨hu, by simp [hpu]⟩
          have : (.inr x : L2.Key) ∈ es.map (·.1) := by
            refine keys_in (d := .lst ((atX p r x (every p r)).map spD)) ?_
            rw [hN.en.val, if_neg (fun z => by rw [z] at hmem; cases hmem)]
          simp [this]
      rw [this] at g2
      exact g2
end K10

set_option Elab.async false
set_option linter.all false
set_option maxRecDepth 100000
set_option maxHeartbeats 1000000
/-! The plain law of k10: the law's own search. -/
namespace K10
open PySem Gh
abbrev M : Int := 1000000
def upS (g : Spot → Int) (v : Spot) (x : Int) : Spot → Int := fun u => if u = v then x else g u
structure FarT (p : Pls) (r : Rds) (kvs : List (List L2.Key × D)) (g : Spot → Int) : Prop where
  val : ∀ u, valD kvs (kY u) = if g u < M then some (.int (g u)) else none
  len : kvs.length ≤ (every p r).countP fun u => decide (g u < M)
  nn : ∀ u, 0 ≤ g u ∧ g u ≤ M
  dom : ∀ u, g u < M → SpOk p r u
  up : ∀ u, g u < M → g u < ((every p r).countP fun u => decide (g u < M) : Nat)
theorem FarT.put {p : Pls} {r : Rds} {kvs : List (List L2.Key × D)} {g : Spot → Int} (h : FarT p r kvs g) {v : Spot} (hv : SpOk p r v) {x : Int} (h0 : 0 ≤ x) (h1 : x < g v) {y : Spot} (hy : g y < M) (hxy : x ≤ g y + 1) : FarT p r (putKD kvs (kY v) (.int x)) (upS g v x) := by
  have hm := (h.nn v).2
  have hmono : ∀ u ∈ every p r, decide (g u < M) = true → decide (upS g v x u < M) = true := fun u _ hu => by
    unfold upS
    by_cases e : u = v
    · rw [if_pos e]; simp; omega
    · rw [if_neg e]; exact hu
  have hcm := Sp.countP_mono (p := fun u => decide (g u < M)) (q := fun u => decide (upS g v x u < M)) (every p r) hmono
  have hcl : ¬ g v < M → (every p r).countP (fun u => decide (g u < M)) < (every p r).countP fun u => decide (upS g v x u < M) := fun e =>
    Sp.countP_lt (c := v) (p := fun u => decide (g u < M)) (q := fun u => decide (upS g v x u < M)) (every p r) hmono (mem_every.mpr hv) (by simp [upS]; omega) (by simpa using e)
  refine ⟨fun u => ?_, ?_, fun u => ?_, fun u hu => ?_, fun u hu => ?_⟩
  · rw [val_put]
    unfold upS
    by_cases e : u = v
    · subst e
      rw [if_pos rfl, if_pos rfl, if_pos (by omega)]
    · rw [if_neg (fun z => e (kY_inj.mp z)), if_neg e]
      exact h.val u
  · by_cases e : g v < M
    · have := h.val v
      rw [if_pos e] at this
      rw [len_put_old _ this]
      exact Nat.le_trans h.len hcm
    · have := hcl e
      have := len_put kvs (kY v) (.int x)
      have := h.len
      omega
  · unfold upS
    split
    · omega
    · exact h.nn u
  · unfold upS at hu
    split at hu
    · rename_i e; rw [e]; exact hv
    · exact h.dom u hu
  · have hyu := h.up y hy
    by_cases e : u = v
    · subst e
      have e1 : upS g u x u = x := by simp [upS]
      rw [e1]
      by_cases e2 : g u < M
      · have := h.up u e2
        omega
      · have := hcl e2
        omega
    · have e1 : upS g v x u = g u := by simp [upS, e]
      rw [e1] at hu ⊢
      have := h.up u hu
      omega
def Low (p : Pls) (r : Rds) (s : Spot) (g : Spot → Int) : Prop := ∀ T, Sp.Dist (dirs p r) (srt p) T → ∀ u, SpOk p r u → g u < M → lb p r T s u ≤ g u
def Rel (p : Pls) (r : Rds) (g : Spot → Int) (u : Spot) : Prop := ∀ v w, Sp.Step (rsR p r) u v w → g v ≤ g u + w
def cap (p : Pls) (r : Rds) (x : Int) : Nat := if x < (every p r).length then x.toNat else (every p r).length
def Phi (p : Pls) (r : Rds) (g : Spot → Int) : Nat := ((every p r).map fun u => cap p r (g u)).sum
theorem phi_le (p : Pls) (r : Rds) (g : Spot → Int) : Phi p r g ≤ (every p r).length * (every p r).length := Sp.sum_le _ fun u _ => by unfold cap; split <;> omega
theorem step_le {p : Pls} {r : Rds} {u v : Spot} {w : Int} (h : Sp.Step (rsR p r) u v w) : w ≤ 1 := by cases h <;> omega
theorem step_nn {p : Pls} {r : Rds} {u v : Spot} {w : Int} (h : Sp.Step (rsR p r) u v w) : 0 ≤ w := by cases h <;> omega
theorem low_step {p : Pls} {r : Rds} (hr : RdsOk p r) (hs : ∀ q ∈ r, rfar p q < 99) {s : Spot} (hsp : SpOk p r s) {g : Spot → Int} (h : Low p r s g) {u v : Spot} {w : Int} (hu : SpOk p r u) (hv : SpOk p r v) (hm : g u < M) (st : Sp.Step (rsR p r) u v w) : ∀ T, Sp.Dist (dirs p r) (srt p) T → lb p r T s v ≤ g u + w := by
  intro T hD
  have h1 := h T hD u hu hm
  obtain ⟨qs, hsp⟩ := hsp
  obtain ⟨qu, hu⟩ := hu
  obtain ⟨qv, hv⟩ := hv
  rw [lb_eq hsp hu] at h1
  rw [lb_eq hsp hv]
  have := Sp.LB_step (web_sp hr hs hD) (on_sp hsp) (on_sp hu) (on_sp hv) st
  omega
/-- the state of a pass: fresh from the i-th on is still to be looked at -/
structure Pass (p : Pls) (r : Rds) (s : Spot) (ph : Nat) (todo : List Spot) (kvs : List (List L2.Key × D)) (g : Spot → Int) (later : List Spot) : Prop where
  ft : FarT p r kvs g
  low : Low p r s g
  st : g s ≤ 0
  lt : ∀ u ∈ later, g u < M
  td : ∀ u ∈ todo, g u < M
  cl : ∀ u, g u < M → u ∈ later ∨ u ∈ todo ∨ Rel p r g u
  ph1 : Phi p r g ≤ ph
  ph2 : later ≠ [] → Phi p r g < ph
  ll : later.length + Phi p r g ≤ ph
def envF (kv : D) (s : Spot) (kvs : List (List L2.Key × D)) (fresh later : List Spot) (a b c : Option SV) : En := [some (.v kv), some (.v (spD s)), some (.own (.dit kvs)), some (.v (.lst (fresh.map spD))), some (.own (.lst (later.map spD))), a, b, c]
noncomputable def bodyE : SF := (sIf (mB (mOp oLt (mOp oAdd (mOp oIx (mVarO 2) (mVarO 5)) (mVarO 7)) (mGet (mVarO 2) (mVar 6) (mOp oPow (mC (.int 10)) (mC (.int 6))))))
  (sSeq (sPutO 2 (mVar 6) (mOp oAdd (mOp oIx (mVarO 2) (mVarO 5)) (mVarO 7)))
  (sAppO 4 (mVar 6)))
  sNext)
theorem Pass.put {p : Pls} {r : Rds} (hr : RdsOk p r) (hs : ∀ q ∈ r, rfar p q < 99) {s : Spot} (hsp : SpOk p r s) {ph : Nat} {todo : List Spot} {kvs : List (List L2.Key × D)} {g : Spot → Int} {later : List Spot} (h : Pass p r s ph todo kvs g later) {u v : Spot} {w : Int} (hu : g u < M) (hv : SpOk p r v) (st : Sp.Step (rsR p r) u v w) (hlt : g u + w < g v) : Pass p r s ph todo (putKD kvs (kY v) (.int (g u + w))) (upS g v (g u + w)) (later ++ [v]) := by
  have hw := step_nn st
  have hw1 := step_le st
  have h0 := (h.ft.nn u).1
  have hgv := (h.ft.nn v).2
  have le : ∀ y, upS g v (g u + w) y ≤ g y := fun y => by
    unfold upS
    split
    · rename_i e; rw [e]; omega
    · exact Int.le_refl _
  have lm : ∀ y, g y < M → upS g v (g u + w) y < M := fun y hy => by have := le y; omega
  have hphi : Phi p r (upS g v (g u + w)) < Phi p r g := by
    have hcnt : (every p r).countP (fun u => decide (g u < M)) ≤ (every p r).length := List.countP_le_length
    have hup := h.ft.up u hu
    refine Sp.sum_lt (c := v) (every p r) (fun y _ => ?_) (mem_every.mpr hv) ?_
    · have := le y
      unfold cap
      split <;> split <;> omega
    · have e1 : upS g v (g u + w) v = g u + w := by simp [upS]
      rw [e1]
      by_cases e : g v < M
      · have := h.ft.up v e
        unfold cap
        rw [if_pos (by omega), if_pos (by omega)]
        omega
      · -- v is new: it is none of those that are counted
        have hlt : (every p r).countP (fun u => decide (g u < M)) < (every p r).length := by
          rcases Nat.lt_or_ge ((every p r).countP fun u => decide (g u < M)) (every p r).length with z | z
          · exact z
          · have := List.countP_eq_length.mp (Nat.le_antisymm List.countP_le_length z) v (mem_every.mpr hv)
            simp at this
            omega
        unfold cap
        split <;> split <;> omega
  have hp1 := h.ph1
  have hll := h.ll
  refine ⟨h.ft.put hv (by omega) hlt hu (by omega), fun T hD y hy hm => ?_, Int.le_trans (le s) h.st, fun y hy => ?_, fun y hy => lm y (h.td y hy), fun y hy => ?_, by omega, fun _ => by omega, ?_⟩
  · unfold upS
    by_cases e : y = v
    · subst e
      rw [if_pos rfl]
      exact low_step hr hs hsp h.low (h.ft.dom u hu) hy hu st T hD
    · rw [if_neg e]
      unfold upS at hm
      rw [if_neg e] at hm
      exact h.low T hD y hy hm
  · rcases List.mem_append.mp hy with z | z
    · exact lm y (h.lt y z)
    · rw [List.mem_singleton.mp z]
      unfold upS
      rw [if_pos rfl]
      omega
  · by_cases e : y = v
    · left; rw [e]; simp
    · have hy' : g y < M := by unfold upS at hy; rwa [if_neg e] at hy
      rcases h.cl y hy' with z | z | z
      · exact .inl (List.mem_append_left _ z)
      · exact .inr (.inl z)
      · right; right
        intro a b hab
        have e1 : upS g v (g u + w) y = g y := by unfold upS; rw [if_neg e]
        rw [e1]
        have := z a b hab
        have := le a
        omega
  · rw [List.length_append]
    simp
    omega
end K10

set_option Elab.async false
set_option linter.all false
set_option maxRecDepth 100000
set_option maxHeartbeats 1000000
/-! The plain law of k10: the law's own search, its loops. -/
namespace K10
open PySem Gh
/-- the edges of u looked at so far -/
def Seen (g : Spot → Int) (u : Spot) (later : List Spot) (es : List (Spot × Int)) : Prop := u ∈ later ∨ ∀ e ∈ es, g e.1 ≤ g u + e.2
theorem edgeStep {p : Pls} {r : Rds} (hr : RdsOk p r) (hs : ∀ q ∈ r, rfar p q < 99) {s : Spot} (hsp : SpOk p r s) {kv : D} {ph : Nat} (hph : ph ≤ 40000) {todo fresh : List Spot} {kvs : List (List L2.Key × D)} {g : Spot → Int} {later : List Spot} (h : Pass p r s ph todo kvs g later) {u : Spot} (hu : g u < M) {e : Spot × Int} (hv : SpOk p r e.1) (st : Sp.Step (rsR p r) u e.1 e.2) {es : List (Spot × Int)} (hse : Seen g u later es) (hE : (every p r).length ≤ 200) {G : GH} :
    Post (bodyE (envF kv s kvs fresh later (some (.v (spD u))) (some (.v (spD e.1))) (some (.v (.int e.2)))) G) fun fl G1 => match fl with
      | .nx ρ1 => G1 = G ∧ ∃ kvs' g' later', ρ1 = envF kv s kvs' fresh later' (some (.v (spD u))) (some (.v (spD e.1))) (some (.v (.int e.2))) ∧ Pass p r s ph todo kvs' g' later' ∧ g' u < M ∧ Seen g' u later' (es ++ [e])
      | _ => False := by
  obtain ⟨v, w⟩ := e
  dsimp only at hv st ⊢
  have hvu : valD kvs (kS u.1 u.2) = some (.int (g u)) := by
    have := h.ft.val u
    rw [if_pos hu] at this
    exact this
  have hgv : (valD kvs (kS v.1 v.2)).getD (.int 1000000) = .int (g v) := by
    have h1 := h.ft.val v
    have h2 := (h.ft.nn v).2
    have h1 : valD kvs (kS v.1 v.2) = if g v < M then some (.int (g v)) else none := h1
    rw [h1]
    split
    · rfl
    · have : g v = 1000000 := by show g v = M; omega
      rw [this]; rfl
  have hw := step_nn st
  have hkl : kvs.length < LIM := Nat.lt_of_le_of_lt (Nat.le_trans h.ft.len (Nat.le_trans List.countP_le_length hE)) (by decide)
  have hll : later.length < LIM := Nat.lt_of_le_of_lt (Nat.le_trans (Nat.le_trans (Nat.le_add_right _ _) h.ll) hph) (by decide)
  unfold bodyE envF
  refine p_if ?_
  refine Post.mono (P := fun c G1 => G1 = G ∧ c = decide (g u + w < g v)) ?_ fun c G1 ⟨e1, e2⟩ => ?_
  · unfold spD
    bv_omega
    refine ixS_ok hvu ?_
    bv_omega
    refine p_getS (a := v.1) (b := v.2) (kvs := kvs) (z := .int 1000000) ⟨rfl, rfl⟩ ⟨rfl, rfl⟩ ⟨rfl, rfl⟩ ?_
    rw [hgv]
    bv_omega
    exact ⟨rfl, rfl⟩
  subst e1
  refine ite_same (fun ec => ?_) fun ec => ?_
  · rw [e2] at ec
    have hlt : g u + w < g v := of_decide_eq_true ec
    have hP := h.put hr hs hsp hu hv st hlt
    refine p_seq (p_putOS rfl ?_)
    unfold spD
    bv_omega
    refine ixS_ok hvu ?_
    bv_omega
    refine ⟨_, _, rfl, hkl, ?_⟩
    dsimp only
    refine p_appO rfl ?_
    bv_omega
    refine ⟨by rw [List.length_map]; exact hll, rfl, _, _, later ++ [v], ?_, hP, ?_, ?_⟩
    · rw [List.map_append]; rfl
    · unfold upS
      split
      · have := (h.ft.nn v).2; omega
      · exact hu
    · by_cases e : u = v
      · left; rw [e]; simp
      · rcases hse with z | z
        · exact .inl (List.mem_append_left _ z)
        · right
          intro e' he'
          have eu : upS g v (g u + w) u = g u := by unfold upS; rw [if_neg e]
          rw [eu]
          rcases List.mem_append.mp he' with z2 | z2
          · have := z e' z2
            unfold upS
            split
            · rename_i e3; rw [e3] at this; omega
            · exact this
          · rw [List.mem_singleton.mp z2]
            unfold upS
            rw [if_pos rfl]
            exact Int.le_refl _
  · rw [e2] at ec
    have hlt : ¬ g u + w < g v := of_decide_eq_false ec
    refine p_next ?_
    refine ⟨rfl, kvs, g, later, rfl, h, hu, ?_⟩
    rcases hse with z | z
    · exact .inl z
    · right
      intro e' he'
      rcases List.mem_append.mp he' with z2 | z2
      · exact z e' z2
      · rw [List.mem_singleton.mp z2]
        dsimp only
        omega
noncomputable def bodyD : SF := (sForV (mOp oIx (mVarO 0) (mVarO 5)) (gT [6, 7])
  (sIf (mB (mOp oLt (mOp oAdd (mOp oIx (mVarO 2) (mVarO 5)) (mVarO 7)) (mGet (mVarO 2) (mVar 6) (mOp oPow (mC (.int 10)) (mC (.int 6))))))
  (sSeq (sPutO 2 (mVar 6) (mOp oAdd (mOp oIx (mVarO 2) (mVarO 5)) (mVarO 7)))
  (sAppO 4 (mVar 6)))
  sNext))
/-- one spot looked at -/
theorem spotStep {p : Pls} {r : Rds} (hr : RdsOk p r) (hs : ∀ q ∈ r, rfar p q < 99) {s : Spot} (hsp : SpOk p r s) {stp : List (List L2.Key × D)} {ph : Nat} (hph : ph ≤ 40000) (hE : (every p r).length ≤ 200) {u : Spot} {todo fresh : List Spot} {kvs : List (List L2.Key × D)} {g : Spot → Int} {later : List Spot} (h : Pass p r s ph (u :: todo) kvs g later) {G : GH} (hst : StepsAt p r stp G) {b c : Option SV} :
    Post (bodyD (envF (.dit stp) s kvs fresh later (some (.v (spD u))) b c) G) fun fl G1 => match fl with
      | .nx ρ1 => G1 = G ∧ ∃ kvs' g' later' a b c, ρ1 = envF (.dit stp) s kvs' fresh later' a b c ∧ Pass p r s ph todo kvs' g' later'
      | _ => False := by
  have hu : g u < M := h.td u List.mem_cons_self
  have hsu := h.ft.dom u hu
  obtain ⟨d, es, h1, h2, h3⟩ := hst.at' u (mem_every.mpr hsu)
  have h1' : valD stp (kS u.1 u.2) = some d := h1
  unfold bodyD envF
  refine p_forV (ds := es.map edD) (fun j ρ G1 => G1 = G ∧ ∃ kvs' g' later' b c, ρ = envF (.dit stp) s kvs' fresh later' (some (.v (spD u))) b c ∧ Pass p r s ph (u :: todo) kvs' g' later' ∧ g' u < M ∧ Seen g' u later' (es.take j)) (by rw [List.length_map]; have := h3.len; omega) ?_ ?_ ?_
  · unfold spD
    bv_omega
    refine ixS_ok h1' ?_
    refine ⟨⟨rfl, kvs, g, later, b, c, rfl, h, hu, .inr (by simp)⟩, ?_⟩
    rcases h2 with e | ⟨k, hk0, e, hk⟩
    · exact .inl e
    · exact .inr ⟨k, e, fun j ρ G1 hi => by rw [hi.1]; exact hk⟩
  · intro j de ρ1 G1 hj i1
    obtain ⟨rfl, kvs', g', later', b', c', rfl, hP, hu', hse⟩ := i1
    rw [List.getElem?_map] at hj
    obtain ⟨e, he, rfl⟩ := Option.map_eq_some_iff.mp hj
    obtain ⟨s1, s2⟩ := h3.snd e (List.mem_of_getElem? he)
    unfold edD
    refine (show ∀ {P : En → GH → Prop}, P (envF (.dit stp) s kvs' fresh later' (some (.v (spD u))) (some (.v (spD e.1))) (some (.v (.int e.2)))) G1 → Post (gT [6, 7] (.tup [spD e.1, .int e.2]) (envF (.dit stp) s kvs' fresh later' (some (.v (spD u))) b' c') G1) P from fun q => q) ?_
    refine (edgeStep hr hs hsp hph hP hu' s2 s1 hse hE).mono fun fl G2 hf => ?_
    cases fl with
    | nx ρ2 =>
      obtain ⟨e1, kvs2, g2, later2, e2, hP2, hu2, hse2⟩ := hf
      refine ⟨e1, kvs2, g2, later2, _, _, e2, hP2, hu2, ?_⟩
      rw [List.take_add_one, he]
      exact hse2
    | _ => exact hf.elim
  · intro ρ1 G1 i1
    obtain ⟨rfl, kvs', g', later', b', c', rfl, hP, hu', hse⟩ := i1
    rw [List.length_map, List.take_length] at hse
    refine ⟨rfl, kvs', g', later', _, _, _, rfl, ⟨hP.ft, hP.low, hP.st, hP.lt, fun y hy => hP.td y (List.mem_cons_of_mem _ hy), fun y hy => ?_, hP.ph1, hP.ph2, hP.ll⟩⟩
    rcases hP.cl y hy with z | z | z
    · exact .inl z
    · rcases List.mem_cons.mp z with z | z
      · subst z
        rcases hse with z2 | z2
        · exact .inl z2
        · right; right
          intro v w hvw
          rcases h3.cpl v w hvw with z3 | z3
          · rw [z3]
            have := step_nn hvw
            omega
          · exact z2 (v, w) z3
      · exact .inr (.inl z)
    · exact .inr (.inr z)
theorem pnL_sp (n : Nat) : ∀ l : List Spot, pnL (n + 2) (l.map spD) = true
  | [] => by simp [pnL]
  | s :: l => by
    simp only [List.map_cons, pnL, Bool.and_eq_true]
    exact ⟨by simp [spD, pn, pnL], pnL_sp n l⟩
theorem neNilS_ok {G : GH} {P : D → GH → Prop} {l : List Spot} (q : P (.bl !l.isEmpty) G) : Post (oNe (.lst (l.map spD)) (.lst []) G) P := by
  unfold oNe oEqN
  have h1 : pnL 59 (l.map spD) = true := pnL_sp 57 l
  rw [if_pos (by simp [view, pn, pnL, h1])]
  have e : eqB (view G (.lst (l.map spD))) (view G (.lst [])) = l.isEmpty := by
    cases l <;> simp [view, eqB, eqL]
  rw [e]
  exact q
/-- the lengths from s to all, just as the table tells -/
def FarOk (p : Pls) (r : Rds) (s : Spot) (kvs : List (List L2.Key × D)) : Prop := ∀ T, Sp.Dist (dirs p r) (srt p) T → ∀ t, SpOk p r t → valD kvs (kY t) = if lb p r T s t < Sp.FAR then some (.int (lb p r T s t)) else none
def envW0 (stp : List (List L2.Key × D)) (s : Spot) (kvs : List (List L2.Key × D)) (fresh : List Spot) (l a b c : Option SV) : En := [some (.v (.dit stp)), some (.v (spD s)), some (.own (.dit kvs)), some (.v (.lst (fresh.map spD))), l, a, b, c]
/-- all roads from what is found are looked at, but for those of fresh -/
structure Front (p : Pls) (r : Rds) (s : Spot) (fresh : List Spot) (kvs : List (List L2.Key × D)) (g : Spot → Int) : Prop where
  ft : FarT p r kvs g
  low : Low p r s g
  st : g s ≤ 0
  td : ∀ u ∈ fresh, g u < M
  cl : ∀ u, g u < M → u ∈ fresh ∨ Rel p r g u
theorem front_end {p : Pls} {r : Rds} (hr : RdsOk p r) (hs : ∀ q ∈ r, rfar p q < 99) {s : Spot} (hsp : SpOk p r s) {kvs : List (List L2.Key × D)} {g : Spot → Int} (h : Front p r s [] kvs g) : FarOk p r s kvs := by
  intro T hD t ht
  have W := web_sp hr hs hD
  have hF : Sp.FAR = 1000000000 := rfl
  have hcl : ∀ u v w, Sp.Step (rsR p r) u v w → g v ≤ g u + w := fun u v w st => by
    by_cases e : g u < M
    · rcases h.cl u e with z | z
      · cases z
      · exact z v w st
    · have := (h.ft.nn v).2
      have := step_nn st
      omega
  rw [h.ft.val t]
  obtain ⟨q, hsq⟩ := hsp
  obtain ⟨o, hto⟩ := ht
  have e := lb_eq (T := T) hsq hto
  by_cases hl : lb p r T s t < Sp.FAR
  · have h1 : g t ≤ lb p r T s t := by
      rw [e] at hl ⊢
      exact Sp.closed_le W (on_sp hsq) (on_sp hto) h.st hcl hl
    have h2 : lb p r T s t ≤ 1800 := by
      rw [e] at hl ⊢
      exact Sp.LB_small W (on_sp hsq) (on_sp hto) hl
    have hm : g t < M := by show g t < 1000000; omega
    have h3 := h.low T hD t ⟨o, hto⟩ hm
    have : g t = lb p r T s t := by omega
    rw [if_pos hm, if_pos hl, this]
  · rw [if_neg hl, if_neg]
    intro hm
    have h3 := h.low T hD t ⟨o, hto⟩ hm
    have : M = 1000000 := rfl
    omega
theorem far_ok {p : Pls} {r : Rds} (hr : RdsOk p r) (hs : ∀ q ∈ r, rfar p q < 99) (hE : (every p r).length ≤ 200) {s : Spot} (hsp : SpOk p r s) {stp : List (List L2.Key × D)} {G : GH} (hst : StepsAt p r stp G) :
    Post (m__law_far [.dit stp, spD s] G) fun d G1 => G1 = G ∧ ∃ kvs, d = .dit kvs ∧ FarOk p r s kvs := by
  have hEE : (every p r).length * (every p r).length ≤ 40000 := Nat.mul_le_mul hE hE
  unfold m__law_far b__law_far
  refine p_def rfl ?_
  refine p_seq (p_own ?_)
  refine (show ∀ {P : Cell → GH → Prop}, P (.dit []) G → Post (fDnewT (Gh.start 8 [.dit stp, spD s]) G) P from fun q => q) ?_
  refine ⟨by show 2 < 8; decide, ?_⟩
  dsimp only
  refine p_seq (p_putOS rfl ?_)
  bv_omega
  refine ⟨(s.1 : Int), s.2, rfl, by show 0 < 100000; decide, ?_⟩
  dsimp only
  refine p_seq ?_
  bv_omega
  generalize hg0 : upS (fun _ => M) s 0 = g0
  have hft0 : FarT p r (putKD [] (kY s) (.int 0)) g0 := by
    have g0s : g0 s = 0 := by rw [← hg0]; simp [upS]
    have g0n : ∀ u, u ≠ s → g0 u = M := fun u e => by rw [← hg0]; simp [upS, e]
    have hcnt : 1 ≤ (every p r).countP fun u => decide (g0 u < M) := List.countP_pos_iff.mpr ⟨s, mem_every.mpr hsp, by rw [g0s]; decide⟩
    refine ⟨fun u => ?_, ?_, fun u => ?_, fun u hu => ?_, fun u hu => ?_⟩
    · rw [val_put]
      by_cases e : u = s
      · subst e; rw [if_pos rfl, g0s]; rfl
      · rw [if_neg (fun z => e (kY_inj.mp z)), g0n u e]; rfl
    · exact Nat.le_trans (len_put [] (kY s) (.int 0)) hcnt
    · by_cases e : u = s
      · rw [e, g0s]; decide
      · rw [g0n u e]; decide
    · by_cases e : u = s
      · rw [e]; exact hsp
      · rw [g0n u e] at hu; exact absurd hu (by decide)
    · by_cases e : u = s
      · rw [e, g0s]; omega
      · rw [g0n u e] at hu; exact absurd hu (by decide)
  have hF0 : Front p r s [s] (putKD [] (kY s) (.int 0)) g0 := by
    have g0s : g0 s = 0 := by rw [← hg0]; simp [upS]
    have g0n : ∀ u, u ≠ s → g0 u = M := fun u e => by rw [← hg0]; simp [upS, e]
    refine ⟨hft0, fun T hD u hu hm => ?_, by rw [g0s]; exact Int.le_refl _, fun u hu => ?_, fun u hu => ?_⟩
    · by_cases e : u = s
      · subst e
        obtain ⟨q, hq⟩ := hu
        rw [g0s, lb_eq hq hq, Sp.LB_self (web_sp hr hs hD) (on_sp hq)]
        exact Int.le_refl _
      · rw [g0n u e] at hm; exact absurd hm (by decide)
    · rw [List.mem_singleton.mp hu, g0s]; decide
    · by_cases e : u = s
      · left; rw [e]; simp
      · rw [g0n u e] at hu; exact absurd hu (by decide)
  generalize putKD [] (kY s) (.int 0) = kvs0 at hft0 hF0 ⊢
  unfold sWhile
  refine p_whileL (fun m ρ G1 => G1 = G ∧ ∃ fresh kvs g l a b c, ρ = envW0 stp s kvs fresh l a b c ∧ Front p r s fresh kvs g ∧ m = 2 * Phi p r g + (if fresh = [] then 0 else 1)) ?_ _ (2 * Phi p r g0 + 1) _ _ ⟨rfl, [s], kvs0, g0, _, _, _, _, rfl, hF0, by simp⟩ (by
    have := phi_le p r g0
    show 2 * Phi p r g0 + 1 < 1000000000
    omega)
  rintro m ρ G1 ⟨rfl, fresh, kvs, g, l, a, b, c, rfl, hF, rfl⟩
  have hphi := phi_le p r g
  unfold envW0
  bv_omega
  refine neNilS_ok ?_
  bv_omega
  by_cases hfr : fresh = []
  · subst hfr
    bv_omega
    refine p_frz rfl (frzT_ok ?_)
    bv_omega
    exact ⟨rfl, kvs, rfl, front_end hr hs hsp hF⟩
  · have hie : fresh.isEmpty = false := by cases fresh <;> simp at hfr ⊢
    rw [hie]
    refine p_ifT rfl ?_
    refine p_seq (p_own ?_)
    bv_omega
    refine ⟨by show 4 < 8; decide, ?_⟩
    dsimp only
    refine p_seq (p_for (p_iter ?_))
    bv_omega
    refine .inl ⟨_, rfl, ?_⟩
    refine p_forL (fun i ρ G2 => G2 = G1 ∧ ∃ kvs' g' later a b c, ρ = envF (.dit stp) s kvs' fresh later a b c ∧ Pass p r s (Phi p r g) (fresh.drop i) kvs' g' later) (n := 0) ⟨rfl, kvs, g, [], _, _, _, rfl, ⟨hF.ft, hF.low, hF.st, by simp, hF.td, fun u hu => .inr (hF.cl u hu), Nat.le_refl _, fun z => absurd rfl z, by simp⟩⟩ ?_ ?_
    · intro i du ρ2 G2 hi i2
      rw [Nat.zero_add] at *
      obtain ⟨rfl, kvs', g', later, a', b', c', rfl, hP⟩ := i2
      rw [List.getElem?_map] at hi
      obtain ⟨u, hu, rfl⟩ := Option.map_eq_some_iff.mp hi
      have hil : i < fresh.length := (List.getElem?_eq_some_iff.mp hu).1
      have ed : fresh.drop i = u :: fresh.drop (i + 1) := by
        rw [List.drop_eq_getElem_cons hil]
        rw [List.getElem?_eq_getElem hil] at hu
        rw [Option.some.inj hu]
      rw [ed] at hP
      refine (spotStep hr hs hsp (by omega) hE hP hst).mono fun fl G3 h3 => ?_
      cases fl with
      | nx ρ3 => exact h3
      | _ => exact h3.elim
    · intro ρ2 G2 i2
      rw [Nat.zero_add, List.length_map, List.drop_length] at i2
      obtain ⟨rfl, kvs', g', later, a', b', c', rfl, hP⟩ := i2
      dsimp only
      unfold envF
      refine p_frz rfl ?_
      bv_omega
      refine ⟨_, ?_, rfl, later, kvs', g', _, _, _, _, rfl, ⟨hP.ft, hP.low, hP.st, hP.lt, fun u hu => ?_⟩, rfl⟩
      · have h1 := hP.ph1
        rw [if_neg hfr]
        by_cases hl : later = []
        · rw [if_pos hl]; omega
        · have := hP.ph2 hl
          rw [if_neg hl]; omega
      · rcases hP.cl u hu with z | z | z
        · exact .inl z
        · cases z
        · exact .inr z
end K10

set_option Elab.async false
set_option linter.all false
set_option maxRecDepth 100000
set_option maxHeartbeats 1000000
/-! The plain law of k10, 17: the law's own table, gone over till nothing gets less. -/
namespace K10.Tb
open PySem Gh
def lawlongF (p : Pls) : D → D
  | .str n => (look p n).elim .non ptD
  | _ => .non
theorem lawlong_ok (p : Pls) (r : Rds) (k : Nat) (q : Str × Str × Bool) (a b : Int × Int) (hk : r[k]? = some q) (h : RdOk p q a b) (G : GH) : m__law_long [.tup [.dic (plD p), .lst (rdD r)], .int k] G = .ok (.int (far a b)) G := by
  refine post_ok ?_
  have va : valD (plD p) (.inr q.1) = some (ptD a) := by rw [val_look, h.la]; rfl
  have vb : valD (plD p) (.inr q.2.1) = some (ptD b) := by rw [val_look, h.lb]; rfl
  have hat := rd_at hk
  unfold m__law_long b__law_long
  refine p_def rfl ?_
  bv_omega
  refine Post.inS ?_
  bv_omega
  unfold rdD1
  bv_omega
  refine .inr ⟨_, rfl, by show 2 < 100000; decide, ?_⟩
  refine p_compL (F := lawlongF p) (fun d hd => post_ok ?_) (frzL_ok ?_)
  · have hd' : d = .str q.1 ∨ d = .str q.2.1 := by
      have : d ∈ [D.str q.1, D.str q.2.1] := hd
      simpa using this
    bv_omega
    rcases hd' with e | e
    · subst e
      refine ixK_ok va ?_
      exact ⟨by simp [lawlongF, h.la], rfl⟩
    · subst e
      refine ixK_ok vb ?_
      exact ⟨by simp [lawlongF, h.lb], rfl⟩
  · have e : (cutD [D.str q.1, D.str q.2.1, D.bl q.2.2] none (some 2)).map (lawlongF p) = [ptD a, ptD b] := by
      show ([D.str q.1, D.str q.2.1]).map (lawlongF p) = _
      simp [lawlongF, h.la, h.lb]
    rw [e]
    show Post _ _
    bv_omega
    exact ⟨rfl, rfl⟩
/-! ### the table -/
def pairs (ns : List Str) : List (Str × Str) := ns.flatMap fun a => ns.map fun b => (a, b)
theorem mem_pairs {ns : List Str} {a b : Str} : (a, b) ∈ pairs ns ↔ a ∈ ns ∧ b ∈ ns := by
  unfold pairs
  simp only [List.mem_flatMap, List.mem_map, Prod.mk.injEq]
  constructor
  · rintro ⟨x, hx, y, hy, rfl, rfl⟩; exact ⟨hx, hy⟩
  · rintro ⟨h1, h2⟩; exact ⟨a, h1, b, h2, rfl, rfl⟩
theorem len_flat (ns : List Str) : ∀ l : List Str, (l.flatMap fun a => ns.map fun b => (a, b)).length = l.length * ns.length
  | [] => by simp
  | a :: l => by simp [len_flat ns l, Nat.add_mul]; omega
theorem len_pairs {ns : List Str} (h : ns.length ≤ 16) : (pairs ns).length ≤ 256 := by
  unfold pairs
  rw [len_flat]
  exact Nat.mul_le_mul h h
abbrev TF := Str → Str → Int
def has (g : TF) : Str × Str → Bool := fun x => decide (g x.1 x.2 < 1000000)
def Phi (ns : List Str) (g : TF) : Nat := ((pairs ns).map fun x => (g x.1 x.2).toNat).sum
structure BT (ns : List Str) (kvs : List (List L2.Key × D)) (g : TF) : Prop where
  val : ∀ a b, valD kvs (kk a b) = if g a b < 1000000 then some (.int (g a b)) else none
  len : kvs.length ≤ (pairs ns).countP (has g)
structure BI (E : List (Str × Str × Int)) (ns : List Str) (g : TF) : Prop where
  g0 : ∀ a ∈ ns, g a a ≤ 0
  gs : ∀ a b, g a b < 1000000 → Sp.Walk E a b (g a b)
  gm : ∀ a b, g a b ≤ 1000000
  nn : ∀ a b, 0 ≤ g a b
theorem BT.lim {ns : List Str} {kvs : List (List L2.Key × D)} {g : TF} (h : BT ns kvs g) (hn : ns.length ≤ 16) : kvs.length ≤ 256 :=
  Nat.le_trans h.len (Nat.le_trans List.countP_le_length (len_pairs hn))
theorem BT.get {ns : List Str} {kvs : List (List L2.Key × D)} {g : TF} (h : BT ns kvs g) (m : ∀ a b, g a b ≤ 1000000) (a b : Str) : (valD kvs (kk a b)).getD (.int 1000000) = .int (g a b) := by
  rw [h.val]
  split
  · rfl
  · have := m a b
    rw [show g a b = 1000000 by omega]; rfl
theorem BT.put {ns : List Str} {kvs : List (List L2.Key × D)} {g : TF} (h : BT ns kvs g) {x y : Str} (hx : x ∈ ns) (hy : y ∈ ns) {v : Int} (hv : v < 1000000) : BT ns (putKD kvs (kk x y) (.int v)) (Sp.upd g x y v) := by
  refine ⟨fun a b => ?_, ?_⟩
  · rw [val_put]
    unfold Sp.upd
    by_cases e : a = x ∧ b = y
    · rw [if_pos (kk_inj.mpr e), if_pos e, if_pos hv]
    · rw [if_neg (fun z => e (kk_inj.mp z)), if_neg e, h.val]
  · have hmono : ∀ p ∈ pairs ns, has g p = true → has (Sp.upd g x y v) p = true := by
      intro p _ hp
      unfold has Sp.upd at *
      simp only [decide_eq_true_eq] at hp ⊢
      split
      · exact hv
      · exact hp
    by_cases ho : g x y < 1000000
    · have hval := h.val x y
      rw [if_pos ho] at hval
      rw [len_put_old _ hval]
      exact Nat.le_trans h.len (Sp.countP_mono _ hmono)
    · have h1 := len_put kvs (kk x y) (.int v)
      have h2 : (pairs ns).countP (has g) < (pairs ns).countP (has (Sp.upd g x y v)) := by
        refine Sp.countP_lt (c := (x, y)) _ hmono (mem_pairs.mpr ⟨hx, hy⟩) ?_ ?_
        · simp [has, Sp.upd, hv]
        · simp only [has, decide_eq_false_iff_not]; exact ho
      have := h.len
      omega
theorem BI.put {E : List (Str × Str × Int)} {ns : List Str} {g : TF} (h : BI E ns g) {x y c : Str} {w : Int} (he : (x, y, w) ∈ E) (hw : 0 ≤ w) (hl : g y c + w < g x c) : BI E ns (Sp.upd g x c (g y c + w)) := by
  have hm := h.gm x c
  have hyc : g y c < 1000000 := by omega
  refine ⟨fun a ha => ?_, fun a b => ?_, fun a b => ?_, fun a b => ?_⟩
  · unfold Sp.upd
    split
    · rename_i e; obtain ⟨rfl, rfl⟩ := e
      have := h.g0 a ha; omega
    · exact h.g0 a ha
  · unfold Sp.upd
    split
    · rename_i e; obtain ⟨rfl, rfl⟩ := e
      intro _
      rw [Int.add_comm]
      exact .cons he (h.gs y b hyc)
    · exact h.gs a b
  · unfold Sp.upd
    split
    · omega
    · exact h.gm a b
  · unfold Sp.upd
    split
    · have := h.nn y c; omega
    · exact h.nn a b
theorem phi_put {ns : List Str} {g : TF} {x c : Str} (hx : x ∈ ns) (hc : c ∈ ns) {v : Int} (h0 : 0 ≤ v) (hl : v < g x c) : Phi ns (Sp.upd g x c v) < Phi ns g := by
  unfold Phi
  refine Sp.sum_lt (c := (x, c)) _ (fun p _ => ?_) (mem_pairs.mpr ⟨hx, hc⟩) ?_
  · unfold Sp.upd
    split
    · rename_i e; obtain ⟨e1, e2⟩ := e; rw [e1, e2]; omega
    · exact Nat.le_refl _
  · simp only [Sp.upd_same]; omega
theorem phi_le {E : List (Str × Str × Int)} {ns : List Str} {g : TF} (h : BI E ns g) (hn : ns.length ≤ 16) : Phi ns g ≤ 256000000 := by
  unfold Phi
  have h1 := Sp.sum_le (f := fun x : Str × Str => (g x.1 x.2).toNat) (B := 1000000) (pairs ns) fun x _ => by
    have := h.gm x.1 x.2; omega
  have h2 := len_pairs hn
  exact Nat.le_trans h1 (Nat.mul_le_mul_right 1000000 h2)
/-- one pass, so far -/
structure Pass (ns : List Str) (g1 g : TF) (ag : Bool) (F : Prop) : Prop where
  no : ag = false → g = g1 ∧ F
  yes : ag = true → Phi ns g < Phi ns g1
theorem Pass.more {ns : List Str} {g1 g : TF} {ag : Bool} {F F' : Prop} (h : Pass ns g1 g ag F) (f : F → F') : Pass ns g1 g ag F' := ⟨fun e => ⟨(h.no e).1, f (h.no e).2⟩, h.yes⟩
def Fix (g : TF) (ns : List Str) (e : Str × Str × Int) : Prop := ∀ c ∈ ns, g e.1 c ≤ g e.2.1 c + e.2.2
end K10.Tb

set_option Elab.async false
set_option linter.all false
set_option maxRecDepth 100000
set_option maxHeartbeats 1000000
/-! The plain law of k10, 18: the law's own table: the loops. -/
namespace K10.Tb
open PySem Gh
def envT (p : Pls) (r : Rds) (kvs : List (List L2.Key × D)) (ag : Bool) (nm rd one other fl first last fr : Option SV) : En := [some (.v (.tup [.dic (plD p), .lst (rdD r)])), some (.own (.dit kvs)), nm, some (.v (.bl ag)), rd, one, other, fl, first, last, fr]
def keysL (p : Pls) : List Str := p.map (·.1)
theorem keys_map (p : Pls) : (plD p).map (fun kv => keyD kv.1) = (keysL p).map D.str := by
  simp [plD, keysL, keyD]
noncomputable def nameB : SF := (sSeq (sAsg (mOp oAdd (mGet (mVarO 1) (mTup (mCons (mVar 9) (mCons (mVar 2) mNil))) (mOp oPow (mC (.int 10)) (mC (.int 6)))) (mCall m__law_long (mCons (mVar 0) (mCons (mVar 4) mNil)))) (gN 10))
  (sIf (mB (mOp oLt (mVarO 10) (mGet (mVarO 1) (mTup (mCons (mVar 8) (mCons (mVar 2) mNil))) (mOp oPow (mC (.int 10)) (mC (.int 6))))))
  (sSeq (sPutO 1 (mTup (mCons (mVar 8) (mCons (mVar 2) mNil))) (mVar 10))
  (sAsg (mC (.bl true)) (gN 3)))
  sNext))
/-- one name -/
theorem nameT {p : Pls} {r : Rds} (hr : RdsOk p r) {k : Nat} {q : Str × Str × Bool} {A B : Pt} (hq : r[k]? = some q) (hab : RdOk p q A B) {x y : Str} (he : (x, y, far A B) ∈ dirs p r) (hx : x ∈ srt p) {c : Str} (hc : c ∈ srt p)
    {g1 g : TF} {kvs : List (List L2.Key × D)} {ag : Bool} {F : Prop} (hb : BT (srt p) kvs g) (hi : BI (dirs p r) (srt p) g) (hp : Pass (srt p) g1 g ag F) {one other fl fr : Option SV} {G : GH} :
    Post (nameB (envT p r kvs ag (some (.v (.str c))) (some (.v (.int k))) one other fl (some (.v (.str x))) (some (.v (.str y))) fr) G) fun f G1 => G1 = G ∧ ∃ kvs g ag fr, f = .nx (envT p r kvs ag (some (.v (.str c))) (some (.v (.int k))) one other fl (some (.v (.str x))) (some (.v (.str y))) fr) ∧ BT (srt p) kvs g ∧ BI (dirs p r) (srt p) g ∧ Pass (srt p) g1 g ag (F ∧ g1 x c ≤ g1 y c + far A B) := by
  have hnn := far_nn A B
  have hl16 := srt_len hr.pl
  unfold nameB envT
  refine p_seq (p_asg (p_op ?_))
  refine p_get (a := y) (b := c) (kvs := kvs) (z := .int 1000000) ⟨rfl, rfl⟩ ?_ ?_ ?_
  · bv_omega
    exact ⟨rfl, rfl⟩
  · bv_omega
    refine pow_ok ⟨by decide, by decide, by decide⟩ ?_
    exact ⟨rfl, rfl⟩
  rw [hb.get hi.gm]
  bv_omega
  refine Post.of_eq (lawlong_ok p r k q A B hq hab G) ?_
  bv_omega
  refine p_get (a := x) (b := c) (kvs := kvs) (z := .int 1000000) ⟨rfl, rfl⟩ ?_ ?_ ?_
  · bv_omega
    exact ⟨rfl, rfl⟩
  · bv_omega
    refine pow_ok ⟨by decide, by decide, by decide⟩ ?_
    exact ⟨rfl, rfl⟩
  rw [hb.get hi.gm]
  bv_omega
  refine ite_same (fun e => ?_) fun e => ?_
  · have hlt : g y c + far A B < g x c := by simpa using e
    have hmx := hi.gm x c
    refine p_seq (p_putOT rfl ?_)
    bv_omega
    refine ⟨x, c, rfl, lim256 (hb.lim hl16), ?_⟩
    bv_omega
    refine ⟨rfl, _, Sp.upd g x c (g y c + far A B), true, _, rfl, hb.put hx hc (by omega), hi.put he hnn hlt, ⟨fun z => (by cases z), fun _ => ?_⟩⟩
    have h2 := phi_put hx hc (by have := hi.nn y c; omega) hlt
    cases ag with
    | false => rw [(hp.no rfl).1] at h2 ⊢; exact h2
    | true => have := hp.yes rfl; omega
  · have hge : ¬ g y c + far A B < g x c := by simpa using e
    refine p_next ⟨rfl, kvs, g, ag, _, rfl, hb, hi, ⟨fun z => ?_, hp.yes⟩⟩
    obtain ⟨z1, z2⟩ := hp.no z
    subst z1
    exact ⟨rfl, z2, by omega⟩
noncomputable def dirB : SF := (sFor (mIter (mFz (fKeys (mOp oIx (mVarO 0) (mC (.int 0)))))) (gN 2)
  (sSeq (sAsg (mOp oAdd (mGet (mVarO 1) (mTup (mCons (mVar 9) (mCons (mVar 2) mNil))) (mOp oPow (mC (.int 10)) (mC (.int 6)))) (mCall m__law_long (mCons (mVar 0) (mCons (mVar 4) mNil)))) (gN 10))
  (sIf (mB (mOp oLt (mVarO 10) (mGet (mVarO 1) (mTup (mCons (mVar 8) (mCons (mVar 2) mNil))) (mOp oPow (mC (.int 10)) (mC (.int 6))))))
  (sSeq (sPutO 1 (mTup (mCons (mVar 8) (mCons (mVar 2) mNil))) (mVar 10))
  (sAsg (mC (.bl true)) (gN 3)))
  sNext)))
/-- one direction of a road -/
theorem dirT {p : Pls} {r : Rds} (hr : RdsOk p r) {k : Nat} {q : Str × Str × Bool} {A B : Pt} (hq : r[k]? = some q) (hab : RdOk p q A B) {x y : Str} (he : (x, y, far A B) ∈ dirs p r) (hx : x ∈ srt p)
    {g1 g : TF} {kvs : List (List L2.Key × D)} {ag : Bool} {F : Prop} (hb : BT (srt p) kvs g) (hi : BI (dirs p r) (srt p) g) (hp : Pass (srt p) g1 g ag F) {nm one other fl fr : Option SV} {G : GH} :
    Post (dirB (envT p r kvs ag nm (some (.v (.int k))) one other fl (some (.v (.str x))) (some (.v (.str y))) fr) G) fun f G1 => G1 = G ∧ ∃ kvs g ag nm fr, f = .nx (envT p r kvs ag nm (some (.v (.int k))) one other fl (some (.v (.str x))) (some (.v (.str y))) fr) ∧ BT (srt p) kvs g ∧ BI (dirs p r) (srt p) g ∧ Pass (srt p) g1 g ag (F ∧ Fix g1 (srt p) (x, y, far A B)) := by
  unfold dirB envT
  bv_omega
  refine p_keysF (kvs := plD p) ?_
  bv_omega
  refine ⟨rfl, ?_⟩
  rw [keys_map]
  bv_omega
  refine .inl ⟨_, rfl, ?_⟩
  refine p_forL (fun l ρ G1 => G1 = G ∧ ∃ kvs g ag nm fr, ρ = envT p r kvs ag nm (some (.v (.int k))) one other fl (some (.v (.str x))) (some (.v (.str y))) fr ∧ BT (srt p) kvs g ∧ BI (dirs p r) (srt p) g ∧ Pass (srt p) g1 g ag (F ∧ ∀ c ∈ (keysL p).take l, g1 x c ≤ g1 y c + far A B)) (n := 0) ⟨rfl, kvs, g, ag, _, _, rfl, hb, hi, hp.more fun z => ⟨z, by simp⟩⟩ ?_ ?_
  · intro l dl ρ1 G1 hl h1
    obtain ⟨rfl, kvs, g, ag, nm, fr, rfl, hb, hi, hp⟩ := h1
    rw [Nat.zero_add] at *
    rw [List.getElem?_map] at hl
    obtain ⟨c, hc, rfl⟩ := Option.map_eq_some_iff.mp hl
    have hcn : c ∈ srt p := mem_srt.mpr (List.mem_of_getElem? hc)
    refine (nameT hr hq hab he hx hcn hb hi hp).mono fun f G2 h2 => ?_
    obtain ⟨rfl, kvs, g, ag, fr, rfl, hb, hi, hp⟩ := h2
    refine ⟨rfl, kvs, g, ag, _, fr, rfl, hb, hi, hp.more fun z => ⟨z.1.1, fun c' hc' => ?_⟩⟩
    rw [List.take_add_one, hc] at hc'
    rcases List.mem_append.mp hc' with h | h
    · exact z.1.2 c' h
    · simp at h; rw [h]; exact z.2
  · intro ρ1 G1 h1
    obtain ⟨rfl, kvs, g, ag, nm, fr, rfl, hb, hi, hp⟩ := h1
    rw [Nat.zero_add, List.length_map, List.take_length] at *
    exact ⟨rfl, kvs, g, ag, nm, fr, rfl, hb, hi, hp.more fun z => ⟨z.1, fun c hc => z.2 c (mem_srt.mp hc)⟩⟩
end K10.Tb

set_option Elab.async false
set_option linter.all false
set_option maxRecDepth 100000
set_option maxHeartbeats 1000000
/-! The plain law of k10, 19: the law's own table. -/
namespace K10.Tb
open PySem Gh
theorem p_gT2 {ρ : En} {G : GH} {i j : Nat} {x y : D} {Pe : En → GH → Prop} (q : Pe ((ρ.set i (some (.v x))).set j (some (.v y))) G) : Post (gT [i, j] (.tup [x, y]) ρ G) Pe := q
theorem mulL_ok {G : GH} {P : D → GH → Prop} {x : D} {b : Bool} (q : P (.lst (if b then [x] else [])) G) : Post (oMul (.lst [x]) (.int (if b then 1 else 0)) G) P := by
  unfold oMul
  simp only [view]
  have h2 : [x].length * (if b = true then (1 : Int) else 0).toNat ≤ LIM := by
    cases b
    · show 0 ≤ 100000; decide
    · show 1 ≤ 100000; decide
  rw [if_pos ⟨inRg_iff.mpr (by cases b <;> decide), h2⟩]
  cases b
  · exact q
  · exact q
def dlist (q : Str × Str × Bool) : List (Str × Str) := (q.1, q.2.1) :: (if q.2.2 then [] else [(q.2.1, q.1)])
def prD (x : Str × Str) : D := .tup [.str x.1, .str x.2]
noncomputable def roadB : SF := (sSeq (sAsg (mOp oIx (mOp oIx (mVarO 0) (mC (.int 1))) (mVarO 4)) (gT [5, 6, 7]))
  (sFor (mIter (mOp oAdd (mLst (mCons (mTup (mCons (mVar 5) (mCons (mVar 6) mNil))) mNil)) (mOp oMul (mLst (mCons (mTup (mCons (mVar 6) (mCons (mVar 5) mNil))) mNil)) (mUn oToInt (mNotV (mVar 7)))))) (gT [8, 9])
  (sFor (mIter (mFz (fKeys (mOp oIx (mVarO 0) (mC (.int 0)))))) (gN 2)
  (sSeq (sAsg (mOp oAdd (mGet (mVarO 1) (mTup (mCons (mVar 9) (mCons (mVar 2) mNil))) (mOp oPow (mC (.int 10)) (mC (.int 6)))) (mCall m__law_long (mCons (mVar 0) (mCons (mVar 4) mNil)))) (gN 10))
  (sIf (mB (mOp oLt (mVarO 10) (mGet (mVarO 1) (mTup (mCons (mVar 8) (mCons (mVar 2) mNil))) (mOp oPow (mC (.int 10)) (mC (.int 6))))))
  (sSeq (sPutO 1 (mTup (mCons (mVar 8) (mCons (mVar 2) mNil))) (mVar 10))
  (sAsg (mC (.bl true)) (gN 3)))
  sNext)))))
theorem roadT {p : Pls} {r : Rds} (hr : RdsOk p r) {k : Nat} {q : Str × Str × Bool} {A B : Pt} (hq : r[k]? = some q) (hab : RdOk p q A B)
    {g1 g : TF} {kvs : List (List L2.Key × D)} {ag : Bool} {F : Prop} (hb : BT (srt p) kvs g) (hi : BI (dirs p r) (srt p) g) (hp : Pass (srt p) g1 g ag F) {nm one other fl first last fr : Option SV} {G : GH} :
    Post (roadB (envT p r kvs ag nm (some (.v (.int k))) one other fl first last fr) G) fun f G1 => G1 = G ∧ ∃ kvs g ag nm one other fl first last fr, f = .nx (envT p r kvs ag nm (some (.v (.int k))) one other fl first last fr) ∧ BT (srt p) kvs g ∧ BI (dirs p r) (srt p) g ∧ Pass (srt p) g1 g ag (F ∧ ∀ x ∈ dlist q, Fix g1 (srt p) (x.1, x.2, far A B)) := by
  have hat := rd_at hq
  have hw : rfar p q = far A B := rfar_eq hab
  have hqr := List.mem_of_getElem? hq
  have hdl : ∀ x ∈ dlist q, (x.1, x.2, far A B) ∈ dirs p r ∧ x.1 ∈ srt p := by
    intro x hx
    rcases List.mem_cons.mp hx with e | e
    · subst e
      exact ⟨mem_dirs.mpr ⟨q, hqr, hw.symm, .inl ⟨rfl, rfl⟩⟩, look_srt hab.la⟩
    · cases hb : q.2.2 with
      | true => rw [hb] at e; simp at e
      | false =>
        rw [hb] at e; simp at e; subst e
        exact ⟨mem_dirs.mpr ⟨q, hqr, hw.symm, .inr ⟨hb, rfl, rfl⟩⟩, look_srt hab.lb⟩
  unfold roadB envT
  refine p_seq (p_asgT ?_)
  bv_omega
  refine ⟨rfl, ?_⟩
  bv_omega
  refine Post.mono (P := fun d G1 => d = .int (if !q.2.2 then 1 else 0) ∧ G1 = G) ?_ fun d G1 ⟨e1, e2⟩ => ?_
  · exact ⟨rfl, rfl⟩
  subst e1; subst e2
  refine mulL_ok ?_
  refine addL_ok (by cases q.2.2 <;> simp) ?_
  have hdD : [D.tup [.str q.1, .str q.2.1]] ++ (if !q.2.2 then [D.tup [.str q.2.1, .str q.1]] else []) = (dlist q).map prD := by
    cases hb : q.2.2 <;> simp [dlist, hb, prD]
  rw [hdD]
  refine .inl ⟨_, rfl, ?_⟩
  refine p_forL (fun l ρ G2 => G2 = G1 ∧ ∃ kvs g ag nm first last fr, ρ = envT p r kvs ag nm (some (.v (.int k))) (some (.v (.str q.1))) (some (.v (.str q.2.1))) (some (.v (.bl q.2.2))) first last fr ∧ BT (srt p) kvs g ∧ BI (dirs p r) (srt p) g ∧ Pass (srt p) g1 g ag (F ∧ ∀ x ∈ (dlist q).take l, Fix g1 (srt p) (x.1, x.2, far A B))) (n := 0) ⟨rfl, kvs, g, ag, _, _, _, _, rfl, hb, hi, hp.more fun z => ⟨z, by simp⟩⟩ ?_ ?_
  · intro l dl ρ1 G2 hl h1
    obtain ⟨rfl, kvs, g, ag, nm, first, last, fr, rfl, hb, hi, hp⟩ := h1
    rw [Nat.zero_add] at *
    rw [List.getElem?_map] at hl
    obtain ⟨x, hx, rfl⟩ := Option.map_eq_some_iff.mp hl
    obtain ⟨h1, h2⟩ := hdl x (List.mem_of_getElem? hx)
    unfold prD
    refine p_gT2 ?_
    refine (dirT hr hq hab h1 h2 hb hi hp).mono fun f G3 h3 => ?_
    obtain ⟨rfl, kvs, g, ag, nm, fr, rfl, hb, hi, hp⟩ := h3
    refine ⟨rfl, kvs, g, ag, nm, _, _, fr, rfl, hb, hi, hp.more fun z => ⟨z.1.1, fun x' hx' => ?_⟩⟩
    rw [List.take_add_one, hx] at hx'
    rcases List.mem_append.mp hx' with h | h
    · exact z.1.2 x' h
    · simp at h; rw [h]; exact z.2
  · intro ρ1 G2 h1
    obtain ⟨rfl, kvs, g, ag, nm, first, last, fr, rfl, hb, hi, hp⟩ := h1
    rw [Nat.zero_add, List.length_map, List.take_length] at *
    exact ⟨rfl, kvs, g, ag, nm, _, _, _, first, last, fr, rfl, hb, hi, hp⟩
noncomputable def passB : SF := (sSeq (sAsg (mC (.bl false)) (gN 3))
  (sFor (mRng1 (mCons (mUn oLen (mOp oIx (mVarO 0) (mC (.int 1)))) mNil)) (gN 4)
  (sSeq (sAsg (mOp oIx (mOp oIx (mVarO 0) (mC (.int 1))) (mVarO 4)) (gT [5, 6, 7]))
  (sFor (mIter (mOp oAdd (mLst (mCons (mTup (mCons (mVar 5) (mCons (mVar 6) mNil))) mNil)) (mOp oMul (mLst (mCons (mTup (mCons (mVar 6) (mCons (mVar 5) mNil))) mNil)) (mUn oToInt (mNotV (mVar 7)))))) (gT [8, 9])
  (sFor (mIter (mFz (fKeys (mOp oIx (mVarO 0) (mC (.int 0)))))) (gN 2)
  (sSeq (sAsg (mOp oAdd (mGet (mVarO 1) (mTup (mCons (mVar 9) (mCons (mVar 2) mNil))) (mOp oPow (mC (.int 10)) (mC (.int 6)))) (mCall m__law_long (mCons (mVar 0) (mCons (mVar 4) mNil)))) (gN 10))
  (sIf (mB (mOp oLt (mVarO 10) (mGet (mVarO 1) (mTup (mCons (mVar 8) (mCons (mVar 2) mNil))) (mOp oPow (mC (.int 10)) (mC (.int 6))))))
  (sSeq (sPutO 1 (mTup (mCons (mVar 8) (mCons (mVar 2) mNil))) (mVar 10))
  (sAsg (mC (.bl true)) (gN 3)))
  sNext)))))))
theorem passT {p : Pls} {r : Rds} (hr : RdsOk p r) {g : TF} {kvs : List (List L2.Key × D)} {ag : Bool} (hb : BT (srt p) kvs g) (hi : BI (dirs p r) (srt p) g) {nm rd one other fl first last fr : Option SV} {G : GH} :
    Post (passB (envT p r kvs ag nm rd one other fl first last fr) G) fun f G1 => G1 = G ∧ ∃ kvs g2 ag nm rd one other fl first last fr, f = .nx (envT p r kvs ag nm rd one other fl first last fr) ∧ BT (srt p) kvs g2 ∧ BI (dirs p r) (srt p) g2 ∧ Pass (srt p) g g2 ag (∀ e ∈ dirs p r, Fix g (srt p) e) := by
  have hll := hr.len
  have hrl := rdD_len r
  unfold passB envT
  bv_omega
  refine p_rng1 ?_
  bv_omega
  rw [hrl]
  refine ⟨by omega, by omega, ?_⟩
  rw [Int.toNat_natCast]
  refine p_forL (fun l ρ G2 => G2 = G ∧ ∃ kvs g2 ag nm rd one other fl first last fr, ρ = envT p r kvs ag nm rd one other fl first last fr ∧ BT (srt p) kvs g2 ∧ BI (dirs p r) (srt p) g2 ∧ Pass (srt p) g g2 ag (∀ e ∈ dirs p (r.take l), Fix g (srt p) e)) (n := 0) ⟨rfl, kvs, g, false, _, _, _, _, _, _, _, _, rfl, hb, hi, ⟨fun _ => ⟨rfl, fun e he => by simp [dirs] at he⟩, fun z => (by cases z)⟩⟩ ?_ ?_
  · intro k dk ρ1 G1 hk h1
    obtain ⟨rfl, kvs, g2, ag, nm, rd, one, other, fl, first, last, fr, rfl, hb, hi, hp⟩ := h1
    rw [Nat.zero_add] at *
    have hkr : k < r.length := by
      have := (List.getElem?_eq_some_iff.mp hk).1
      simpa [upto] using this
    have hdk : dk = .int (k : Int) := by
      simp [upto, hkr] at hk
      exact hk.symm
    subst hdk
    obtain ⟨q0, hq0⟩ : ∃ q0, r[k]? = some q0 := ⟨_, List.getElem?_eq_getElem hkr⟩
    obtain ⟨A, B, hab⟩ := hr.rd q0 (List.mem_of_getElem? hq0)
    refine (roadT hr hq0 hab hb hi hp).mono fun f G2 h2 => ?_
    obtain ⟨rfl, kvs, g3, ag, nm, one, other, fl, first, last, fr, rfl, hb, hi, hp⟩ := h2
    refine ⟨rfl, kvs, g3, ag, nm, _, one, other, fl, first, last, fr, rfl, hb, hi, hp.more fun z => ?_⟩
    rintro ⟨a, b, w⟩ he
    rcases dirs_take hq0 he with h | ⟨rfl, ⟨rfl, rfl⟩ | ⟨hb', rfl, rfl⟩⟩
    · exact z.1 _ h
    · rw [rfar_eq hab]; exact z.2 (q0.1, q0.2.1) (by simp [dlist])
    · rw [rfar_eq hab]; exact z.2 (q0.2.1, q0.1) (by simp [dlist, hb'])
  · intro ρ1 G1 h1
    obtain ⟨rfl, kvs, g2, ag, nm, rd, one, other, fl, first, last, fr, rfl, hb, hi, hp⟩ := h1
    rw [show 0 + (upto 0 r.length).length = r.length by simp [upto], List.take_length] at hp
    exact ⟨rfl, kvs, g2, ag, nm, rd, one, other, fl, first, last, fr, rfl, hb, hi, hp⟩
/-- nothing gets less -/
structure Least (p : Pls) (r : Rds) (kvs : List (List L2.Key × D)) (g : TF) : Prop where
  bt : BT (srt p) kvs g
  bi : BI (dirs p r) (srt p) g
  fx : ∀ e ∈ dirs p r, Fix g (srt p) e
def tab0 (ks : List Str) : TF := fun a b => if a = b ∧ a ∈ ks then 0 else 1000000
theorem table_ok {p : Pls} {r : Rds} (hr : RdsOk p r) (G : GH) : Post (m__law_table [.tup [.dic (plD p), .lst (rdD r)]] G) fun d G1 => G1 = G ∧ ∃ kvs g, d = .dit kvs ∧ Least p r kvs g := by
  have hl16 := srt_len hr.pl
  have hk16 : (keysL p).length ≤ 16 := by simp [keysL]; exact hr.pl.len
  unfold m__law_table b__law_table
  refine p_def rfl ?_
  refine p_seq (p_own (Post.ok.mpr ⟨by show 1 < 11; decide, ?_⟩))
  dsimp only
  bv_omega
  refine p_keysF (kvs := plD p) ?_
  bv_omega
  refine ⟨rfl, ?_⟩
  rw [keys_map]
  bv_omega
  refine .inl ⟨_, rfl, ?_⟩
  refine p_forL (fun l ρ G1 => G1 = G ∧ ∃ kvs nm, ρ = [some (.v (.tup [.dic (plD p), .lst (rdD r)])), some (.own (.dit kvs)), nm, none, none, none, none, none, none, none, none] ∧ BT (srt p) kvs (tab0 ((keysL p).take l))) (n := 0) ⟨rfl, [], _, rfl, ⟨fun a b => by simp [tab0, valD], by simp⟩⟩ ?_ ?_
  · intro l dl ρ1 G1 hl h1
    obtain ⟨rfl, kvs, nm, rfl, hb⟩ := h1
    rw [Nat.zero_add] at *
    rw [List.getElem?_map] at hl
    obtain ⟨c, hc, rfl⟩ := Option.map_eq_some_iff.mp hl
    have hcn : c ∈ srt p := mem_srt.mpr (List.mem_of_getElem? hc)
    refine p_putOT rfl ?_
    bv_omega
    refine ⟨c, c, rfl, lim256 (hb.lim hl16), rfl, _, _, rfl, ?_⟩
    have := hb.put hcn hcn (v := 0) (by decide)
    have e : Sp.upd (tab0 ((keysL p).take l)) c c 0 = tab0 ((keysL p).take (l + 1)) := by
      funext a b
      unfold Sp.upd tab0
      rw [List.take_add_one, hc]
      simp only [Option.toList_some, List.mem_append, List.mem_singleton]
      by_cases h1 : a = c ∧ b = c
      · obtain ⟨rfl, rfl⟩ := h1; simp
      · rw [if_neg h1]
        by_cases h2 : a = b
        · subst h2
          have : ¬ a = c := fun z => h1 ⟨z, z⟩
          simp [this]
        · simp [h2]
    rw [e] at this
    exact this
  intro ρ1 G1 h1
  obtain ⟨rfl, kvs, nm, rfl, hb⟩ := h1
  rw [Nat.zero_add, List.length_map, List.take_length] at hb
  have hi : BI (dirs p r) (srt p) (tab0 (keysL p)) := by
    refine ⟨fun a ha => ?_, fun a b h => ?_, fun a b => ?_, fun a b => ?_⟩
    · unfold tab0; rw [if_pos ⟨rfl, mem_srt.mp ha⟩]; exact Int.le_refl _
    · unfold tab0 at h ⊢
      split at h
      · rename_i e; obtain ⟨rfl, hm⟩ := e; rw [if_pos ⟨rfl, hm⟩]; exact .nil a
      · exact absurd h (Int.lt_irrefl _)
    · unfold tab0; split <;> decide
    · unfold tab0; split <;> decide
  dsimp only
  bv_omega
  refine p_whileL (fun m ρ G2 => G2 = G1 ∧ ∃ kvs g ag nm rd one other fl first last fr, ρ = envT p r kvs ag nm rd one other fl first last fr ∧ BT (srt p) kvs g ∧ BI (dirs p r) (srt p) g ∧ m = Phi (srt p) g + (if ag then 1 else 0) ∧ (ag = false → ∀ e ∈ dirs p r, Fix g (srt p) e)) ?_ _ _ _ _ ⟨rfl, kvs, _, true, _, _, _, _, _, _, _, _, rfl, hb, hi, rfl, fun z => (by cases z)⟩ ?_
  · intro m ρ G2 h2
    obtain ⟨rfl, kvs, g, ag, nm, rd, one, other, fl, first, last, fr, rfl, hb, hi, hm, hf⟩ := h2
    have ht : Post (mTru (mVarO 3) (envT p r kvs ag nm rd one other fl first last fr) G2) fun k G3 => k = ag ∧ G3 = G2 := ⟨rfl, rfl⟩
    refine ht.mono fun k G3 ⟨e1, e2⟩ => ?_
    subst e1; subst e2
    refine ite_same (fun e => ?_) fun e => ?_
    · subst e
      refine (passT hr hb hi).mono fun f G4 h4 => ?_
      obtain ⟨rfl, kvs, g2, ag2, nm, rd, one, other, fl, first, last, fr, rfl, hb2, hi2, hp⟩ := h4
      refine ⟨_, ?_, rfl, kvs, g2, ag2, nm, rd, one, other, fl, first, last, fr, rfl, hb2, hi2, rfl, fun z => ?_⟩
      · rw [hm]
        cases ag2 with
        | true => have := hp.yes rfl; simp; omega
        | false => rw [(hp.no rfl).1]; simp
      · obtain ⟨z1, z2⟩ := hp.no z
        rw [z1]; exact z2
    · subst e
      dsimp only
      unfold envT
      refine p_frz rfl (frzT_ok ?_)
      bv_omega
      exact ⟨rfl, kvs, g, rfl, hb, hi, hf rfl⟩
  · have := phi_le hi hl16
    show Phi (srt p) (tab0 (keysL p)) + 1 < 1000000000
    omega
end K10.Tb

set_option Elab.async false
set_option linter.all false
namespace Or
open PySem
abbrev L (x y : Str) : Bool := PySem.W.DatumOrd.lt x y
theorem L_iff {x y : Str} : L x y = true ↔ x.cps.toList < y.cps.toList := by
  show decide (x.cps.toList < y.cps.toList) = true ↔ _
  exact decide_eq_true_iff
theorem L_irr (x : Str) : L x x = false := by
  cases h : L x x with
  | false => rfl
  | true => exact (List.lt_irrefl _ (L_iff.mp h)).elim
theorem L_trans {x y z : Str} (h1 : L x y = true) (h2 : L y z = true) : L x z = true := L_iff.mpr (List.lt_trans (L_iff.mp h1) (L_iff.mp h2))
theorem L_total {x y : Str} (h1 : L x y = false) (h2 : L y x = false) : x = y := by
  have a : ¬ x.cps.toList < y.cps.toList := fun z => by rw [L_iff.mpr z] at h1; cases h1
  have b : ¬ y.cps.toList < x.cps.toList := fun z => by rw [L_iff.mpr z] at h2; cases h2
  have e : x.cps.toList = y.cps.toList := List.le_antisymm (List.not_lt.mp b) (List.not_lt.mp a)
  obtain ⟨⟨a⟩⟩ := x
  obtain ⟨⟨b⟩⟩ := y
  cases e
  rfl
abbrev LL (x y : List Str) : Bool := PySem.W.listLt x y
theorem LL_cons (x y : Str) (xs ys : List Str) : LL (x :: xs) (y :: ys) = if x = y then LL xs ys else L x y := rfl
theorem LL_irr : ∀ x : List Str, LL x x = false
  | [] => rfl
  | x :: xs => by rw [LL_cons, if_pos rfl]; exact LL_irr xs
theorem LL_total : ∀ {x y : List Str}, LL x y = false → LL y x = false → x = y
  | [], [], _, _ => rfl
  | [], y :: ys, h, _ => by cases h
  | x :: xs, [], _, h => by cases h
  | x :: xs, y :: ys, h1, h2 => by
    rw [LL_cons] at h1 h2
    by_cases e : x = y
    · rw [if_pos e] at h1
      rw [if_pos e.symm] at h2
      rw [e, LL_total h1 h2]
    · rw [if_neg e] at h1
      rw [if_neg fun z => e z.symm] at h2
      exact (e (L_total h1 h2)).elim
theorem LL_trans : ∀ {x y z : List Str}, LL x y = true → LL y z = true → LL x z = true
  | [], [], _, h, _ => by cases h
  | [], y :: ys, [], _, h => by cases h
  | [], y :: ys, z :: zs, _, _ => rfl
  | x :: xs, [], _, h, _ => by cases h
  | x :: xs, y :: ys, [], _, h => by cases h
  | x :: xs, y :: ys, z :: zs, h1, h2 => by
    rw [LL_cons] at h1 h2 ⊢
    by_cases e1 : x = y
    · rw [if_pos e1] at h1
      subst e1
      by_cases e2 : x = z
      · rw [if_pos e2] at h2 ⊢
        exact LL_trans h1 h2
      · rw [if_neg e2] at h2 ⊢
        exact h2
    · rw [if_neg e1] at h1
      by_cases e2 : y = z
      · subst e2
        rw [if_neg e1]
        exact h1
      · rw [if_neg e2] at h2
        have h3 := L_trans h1 h2
        by_cases e3 : x = z
        · subst e3
          rw [L_irr] at h3
          cases h3
        · rw [if_neg e3]
          exact h3
/-- no less than what is no less -/
theorem LL_neg {x y z : List Str} (h1 : LL x y = false) (h2 : LL y z = false) : LL x z = false := by
  cases h : LL x z with
  | false => rfl
  | true =>
    cases h3 : LL y x with
    | true =>
      rw [LL_trans h3 h] at h2
      cases h2
    | false =>
      have e := LL_total h1 h3
      subst e
      rw [h] at h2
      cases h2
open Gh in
theorem min_le : ∀ (xs : List (List Str)) (x : List Str), ∀ z ∈ x :: xs, LL z (minLL x xs) = false
  | [], x, z, hz => by
    rw [List.mem_singleton.mp hz]
    exact LL_irr x
  | y :: r, x, z, hz => by
    have e : minLL x (y :: r) = minLL (if LL y x = true then y else x) r := rfl
    rw [e]
    have ih := min_le r (if LL y x = true then y else x)
    have h0 := ih _ List.mem_cons_self
    rcases List.mem_cons.mp hz with e | hz
    · subst e
      refine LL_neg ?_ h0
      split
      · rename_i h
        cases h3 : LL z y with
        | false => rfl
        | true => have := LL_trans h h3; rw [LL_irr] at this; cases this
      · exact LL_irr z
    · rcases List.mem_cons.mp hz with e | hz
      · subst e
        refine LL_neg ?_ h0
        split
        · exact LL_irr z
        · rename_i h
          cases h3 : LL z x with
          | false => rfl
          | true => exact (h h3).elim
      · exact ih z (List.mem_cons_of_mem _ hz)
open Gh in
theorem leS_L {x y : Str} (h : leS x y = true) : L y x = false := by
  unfold leS at h
  have e : L y x = PySem.Spec.ltCps y.cps.toList x.cps.toList := PyProof.Rows.lt_meets y x
  rw [e]
  simpa using h
end Or

set_option Elab.async false
set_option linter.all false
set_option maxRecDepth 100000
set_option maxHeartbeats 1000000
/-! The plain law of k10: all rows of places, and the first of them. -/
namespace K10
open PySem Gh
/-- the next places, in order -/
def nxt (p : Pls) (r : Rds) (T : Str → Str → Int) (goal here : Str) : List Str := sortS (nubS (nexts p T here goal r))
theorem mem_nxt {p : Pls} {r : Rds} {T : Str → Str → Int} {goal here x : Str} : x ∈ nxt p r T goal here ↔ ∃ w, (here, x, w) ∈ dirs p r ∧ w + T x goal = T here goal := by
  unfold nxt
  rw [(sortS_perm _).mem_iff, mem_nubS, mem_nexts]
theorem nxt_nd (p : Pls) (r : Rds) (T : Str → Str → Int) (goal here : Str) : (nxt p r T goal here).Nodup := (sortS_perm _).nodup_iff.mpr (nodup_nubS _)
def rows (p : Pls) (r : Rds) (T : Str → Str → Int) (goal : Str) : Nat → Str → List (List Str)
  | 0, here => if here = goal then [[here]] else []
  | d + 1, here => if here = goal then [[here]] else (nxt p r T goal here).flatMap fun x => (rows p r T goal d x).map (here :: ·)
/-- always the first -/
def gr (p : Pls) (r : Rds) (T : Str → Str → Int) (goal : Str) : Nat → Str → List Str
  | 0, here => [here]
  | d + 1, here => if here = goal then [here] else match nxt p r T goal here with
    | [] => [here]
    | c :: _ => here :: gr p r T goal d c
def fac : Nat → Nat
  | 0 => 1
  | n + 1 => (n + 1) * fac n
theorem fac_pos : ∀ n, 1 ≤ fac n
  | 0 => Nat.le_refl _
  | n + 1 => by
    have := fac_pos n
    show 1 ≤ (n + 1) * fac n
    exact Nat.le_trans this (Nat.le_mul_of_pos_left _ (Nat.succ_pos n))
theorem flat_len {α β : Type} {f : α → List β} {B : Nat} : ∀ l : List α, (∀ x ∈ l, (f x).length ≤ B) → (l.flatMap f).length ≤ l.length * B
  | [], _ => by simp
  | x :: l, h => by
    rw [List.flatMap_cons, List.length_append, List.length_cons, Nat.succ_mul]
    have := flat_len l fun y hy => h y (List.mem_cons_of_mem _ hy)
    have := h x List.mem_cons_self
    omega
def rank (p : Pls) (T : Str → Str → Int) (goal here : Str) : Nat := (srt p).countP fun c => decide (T c goal < T here goal)
section
variable {p : Pls} {r : Rds} {T : Str → Str → Int} {goal : Str}
variable (hr : RdsOk p r) (hs : ∀ q ∈ r, rfar p q < 99) (hD : Sp.Dist (dirs p r) (srt p) T) (hg : goal ∈ srt p)
include hr hs
theorem nxt_in {here x : Str} (h : x ∈ nxt p r T goal here) : x ∈ srt p ∧ T x goal < T here goal := by
  obtain ⟨w, h1, h2⟩ := mem_nxt.mp h
  obtain ⟨_, h3, h4, _⟩ := dirs_in hr hs _ _ _ h1
  exact ⟨h3, by omega⟩
theorem rank_lt {here x : Str} (h : x ∈ nxt p r T goal here) : rank p T goal x < rank p T goal here := by
  obtain ⟨h1, h2⟩ := nxt_in hr hs h
  refine Sp.countP_lt (c := x) _ (fun c _ hc => ?_) h1 ?_ ?_
  · have : T c goal < T x goal := of_decide_eq_true hc
    exact decide_eq_true (by omega)
  · exact decide_eq_true h2
  · exact decide_eq_false (by omega)
theorem nxt_len (here : Str) : (nxt p r T goal here).length ≤ rank p T goal here := by
  unfold rank
  rw [List.countP_eq_length_filter]
  refine List.Nodup.length_le_of_subset (nxt_nd p r T goal here) fun x hx => ?_
  obtain ⟨h1, h2⟩ := nxt_in hr hs hx
  exact List.mem_filter.mpr ⟨h1, decide_eq_true h2⟩
include hD hg
theorem nxt_ne {here : Str} (hh : here ∈ srt p) (hne : here ≠ goal) (hF : T here goal < Sp.FAR) : ∃ c cs, nxt p r T goal here = c :: cs := by
  obtain ⟨x, hx⟩ := has_next hr hs hD hh hg hne hF
  have : x ∈ nxt p r T goal here := by
    unfold nxt
    rw [(sortS_perm _).mem_iff, mem_nubS]
    exact hx
  cases hz : nxt p r T goal here with
  | nil => rw [hz] at this; cases this
  | cons c cs => exact ⟨c, cs, rfl⟩
theorem rank_pos {here : Str} (hh : here ∈ srt p) (hne : here ≠ goal) (hF : T here goal < Sp.FAR) : 1 ≤ rank p T goal here := by
  obtain ⟨c, cs, h⟩ := nxt_ne hr hs hD hg hh hne hF
  have := rank_lt hr hs (x := c) (here := here) (T := T) (goal := goal) (by rw [h]; exact List.mem_cons_self)
  omega
omit hD hg
theorem rows_len : ∀ (d : Nat) (here : Str), rank p T goal here ≤ d → (rows p r T goal d here).length ≤ fac d
  | 0, here, _ => by unfold rows fac; split <;> simp
  | d + 1, here, h => by
    unfold rows
    split
    · exact fac_pos (d + 1)
    · refine Nat.le_trans (flat_len (B := fac d) _ fun x hx => ?_) (Nat.mul_le_mul_right _ (Nat.le_trans (nxt_len hr hs here) h))
      rw [List.length_map]
      have := rank_lt hr hs hx
      exact rows_len d x (by omega)
omit hr hs
theorem rows_head : ∀ (d : Nat) (here : Str) (z : List Str), z ∈ rows p r T goal d here → ∃ z', z = here :: z'
  | 0, here, z, h => by
    unfold rows at h
    split at h
    · exact ⟨[], List.mem_singleton.mp h⟩
    · cases h
  | d + 1, here, z, h => by
    unfold rows at h
    split at h
    · exact ⟨[], List.mem_singleton.mp h⟩
    · obtain ⟨x, _, h⟩ := List.mem_flatMap.mp h
      obtain ⟨y, _, rfl⟩ := List.mem_map.mp h
      exact ⟨y, rfl⟩
theorem gr_head (d : Nat) (here : Str) : ∃ z', gr p r T goal d here = here :: z' := by
  cases d with
  | zero => exact ⟨[], rfl⟩
  | succ d =>
    unfold gr
    split
    · exact ⟨[], rfl⟩
    · split
      · exact ⟨[], rfl⟩
      · exact ⟨_, rfl⟩
include hr hs hD hg
/-- the first of all rows is the least -/
theorem rows_first : ∀ (d : Nat) (here : Str), here ∈ srt p → T here goal < Sp.FAR → rank p T goal here ≤ d → gr p r T goal d here ∈ rows p r T goal d here ∧ ∀ z ∈ rows p r T goal d here, Or.LL z (gr p r T goal d here) = false
  | 0, here, hh, hF, hk => by
    have e : here = goal := Classical.byContradiction fun k => by
      have := rank_pos hr hs hD hg hh k hF
      omega
    unfold rows gr
    rw [if_pos e]
    exact ⟨List.mem_singleton.mpr rfl, fun z hz => by rw [List.mem_singleton.mp hz]; exact Or.LL_irr _⟩
  | d + 1, here, hh, hF, hk => by
    unfold rows gr
    by_cases e : here = goal
    · rw [if_pos e, if_pos e]
      exact ⟨List.mem_singleton.mpr rfl, fun z hz => by rw [List.mem_singleton.mp hz]; exact Or.LL_irr _⟩
    · rw [if_neg e, if_neg e]
      obtain ⟨c, cs, hc⟩ := nxt_ne hr hs hD hg hh e hF
      have hcm : c ∈ nxt p r T goal here := by rw [hc]; exact List.mem_cons_self
      obtain ⟨h1, h2⟩ := nxt_in hr hs hcm
      have h3 := rank_lt hr hs hcm
      obtain ⟨i1, i2⟩ := rows_first d c h1 (by omega) (by omega)
      rw [hc]
      dsimp only
      refine ⟨List.mem_flatMap.mpr ⟨c, List.mem_cons_self, List.mem_map.mpr ⟨_, i1, rfl⟩⟩, fun z hz => ?_⟩
      obtain ⟨x, hx, hz⟩ := List.mem_flatMap.mp hz
      obtain ⟨z', hz', rfl⟩ := List.mem_map.mp hz
      rw [Or.LL_cons, if_pos rfl]
      rcases List.mem_cons.mp hx with ex | ex
      · subst ex; exact i2 z' hz'
      · have hsrt : (c :: cs).Pairwise (fun a b => leS a b = true) := by rw [← hc]; exact sortS_sorted _
        have hnd : (c :: cs).Nodup := by rw [← hc]; exact nxt_nd p r T goal here
        have hle := (List.pairwise_cons.mp hsrt).1 x ex
        have hne : x ≠ c := fun k => (List.nodup_cons.mp hnd).1 (k ▸ ex)
        obtain ⟨y, rfl⟩ := rows_head d x z' hz'
        obtain ⟨y2, e2⟩ := gr_head (p := p) (r := r) (T := T) (goal := goal) d c
        rw [e2, Or.LL_cons, if_neg hne]
        exact Or.leS_L hle
omit hg
/-- the law's table tells the same next places -/
theorem nexts_g {g : Str → Str → Int} (h1 : ∀ a ∈ srt p, T a goal < Sp.FAR → g a goal = T a goal) (h2 : ∀ a ∈ srt p, ¬ T a goal < Sp.FAR → g a goal = 1000000) {here : Str} (hh : here ∈ srt p) (hF : T here goal < Sp.FAR) : nexts p g here goal r = nexts p T here goal r := by
  have h16 := T_le1600 hr hs hD hh hF
  have hFF : Sp.FAR = 1000000000 := rfl
  have key : ∀ q ∈ r, ∀ (b : Bool) (f l : Str), l ∈ srt p → pc g here goal (rfar p q) b f l = pc T here goal (rfar p q) b f l := fun q hq b f l hl => by
    have w1 := rfar_pos hr hq
    have w2 := hs q hq
    have e : (rfar p q + g l goal = g here goal) ↔ (rfar p q + T l goal = T here goal) := by
      rw [h1 here hh hF]
      by_cases hl2 : T l goal < Sp.FAR
      · rw [h1 l hl hl2]
      · rw [h2 l hl hl2]
        constructor <;> intro z <;> omega
    unfold pc
    simp only [e]
  unfold nexts
  have cong : ∀ l : Rds, (∀ q ∈ l, q ∈ r) → l.flatMap (nx1 p g here goal) = l.flatMap (nx1 p T here goal) := by
    intro l
    induction l with
    | nil => intro _; rfl
    | cons q l ih =>
      intro hl
      have hq := hl q List.mem_cons_self
      obtain ⟨s1, s2⟩ := rd_srt hr hq
      rw [List.flatMap_cons, List.flatMap_cons, ih fun y hy => hl y (List.mem_cons_of_mem _ hy)]
      unfold nx1
      rw [key q hq _ _ _ s2, key q hq _ _ _ s1]
  exact cong r fun q hq => hq
end
end K10

set_option Elab.async false
set_option linter.all false
set_option maxRecDepth 100000
set_option maxHeartbeats 1000000
/-! The plain law of k10: the law's own rows, by their values. -/
namespace K10
open PySem Gh
noncomputable def bodyR (m : List D → GH → R D) : SF := (sSeq (sIf (mB (mOp oEq (mVarO 2) (mVarO 3)))
  (sRet (mLst (mCons (mLst (mCons (mVar 2) mNil)) mNil)))
  sNext)
  (sSeq (sAsg (mLst mNil) (gN 4))
  (sSeq (sFor (mRng1 (mCons (mUn oLen (mOp oIx (mVarO 0) (mC (.int 1)))) mNil)) (gN 5)
  (sSeq (sAsg (mOp oIx (mOp oIx (mVarO 0) (mC (.int 1))) (mVarO 5)) (gT [8, 9, 10]))
  (sFor (mIter (mOp oAdd (mLst (mCons (mTup (mCons (mVar 8) (mCons (mVar 9) mNil))) mNil)) (mOp oMul (mLst (mCons (mTup (mCons (mVar 9) (mCons (mVar 8) mNil))) mNil)) (mUn oToInt (mNotV (mVar 10)))))) (gT [11, 7])
  (sSeq (sAsg (mOp oAdd (mCall m__law_long (mCons (mVar 0) (mCons (mVar 5) mNil))) (mGet (mVarO 1) (mTup (mCons (mVar 7) (mCons (mVar 3) mNil))) (mOp oPow (mC (.int 10)) (mC (.int 6))))) (gN 12))
  (sAsg (mOp oAdd (mVarO 4) (mOp oMul (mLst (mCons (mVar 7) mNil)) (mUn oToInt (mAndV (mOp oEq (mVarO 11) (mVarO 2)) (mOp oEq (mVarO 12) (mOp oIx (mVarO 1) (mTup (mCons (mVar 2) (mCons (mVar 3) mNil))))))))) (gN 4))))))
  (sSeq (sAsg (mLst mNil) (gN 6))
  (sSeq (sFor (mIter (mFz (fSortSet (mVarO 4)))) (gN 7)
  (sAsg (mOp oAdd (mVarO 6) (mFz (fComp (mComp (mIter (mCall m (mCons (mVar 0) (mCons (mVar 1) (mCons (mVar 7) (mCons (mVar 3) mNil)))))) (gN 13) mYes (mOp oAdd (mLst (mCons (mVar 2) mNil)) (mVarO 13)) [13])))) (gN 6)))
  (sRet (mVar 6)))))))
noncomputable def roadN : SF := (sSeq (sAsg (mOp oIx (mOp oIx (mVarO 0) (mC (.int 1))) (mVarO 5)) (gT [8, 9, 10]))
  (sFor (mIter (mOp oAdd (mLst (mCons (mTup (mCons (mVar 8) (mCons (mVar 9) mNil))) mNil)) (mOp oMul (mLst (mCons (mTup (mCons (mVar 9) (mCons (mVar 8) mNil))) mNil)) (mUn oToInt (mNotV (mVar 10)))))) (gT [11, 7])
  (sSeq (sAsg (mOp oAdd (mCall m__law_long (mCons (mVar 0) (mCons (mVar 5) mNil))) (mGet (mVarO 1) (mTup (mCons (mVar 7) (mCons (mVar 3) mNil))) (mOp oPow (mC (.int 10)) (mC (.int 6))))) (gN 12))
  (sAsg (mOp oAdd (mVarO 4) (mOp oMul (mLst (mCons (mVar 7) mNil)) (mUn oToInt (mAndV (mOp oEq (mVarO 11) (mVarO 2)) (mOp oEq (mVarO 12) (mOp oIx (mVarO 1) (mTup (mCons (mVar 2) (mCons (mVar 3) mNil))))))))) (gN 4)))))
noncomputable def dirN : SF := (sSeq (sAsg (mOp oAdd (mCall m__law_long (mCons (mVar 0) (mCons (mVar 5) mNil))) (mGet (mVarO 1) (mTup (mCons (mVar 7) (mCons (mVar 3) mNil))) (mOp oPow (mC (.int 10)) (mC (.int 6))))) (gN 12))
  (sAsg (mOp oAdd (mVarO 4) (mOp oMul (mLst (mCons (mVar 7) mNil)) (mUn oToInt (mAndV (mOp oEq (mVarO 11) (mVarO 2)) (mOp oEq (mVarO 12) (mOp oIx (mVarO 1) (mTup (mCons (mVar 2) (mCons (mVar 3) mNil))))))))) (gN 4)))
/-- the law's table and the least lengths -/
structure GT (p : Pls) (kvs : List (List L2.Key × D)) (T g : Str → Str → Int) : Prop where
  val : ∀ a b, valD kvs (kk a b) = if g a b < 1000000 then some (.int (g a b)) else none
  gm : ∀ a b, g a b ≤ 1000000
  eq : ∀ a ∈ srt p, ∀ b ∈ srt p, (T a b < Sp.FAR ∧ g a b = T a b ∧ g a b < 1000000) ∨ (Sp.FAR ≤ T a b ∧ g a b = 1000000)
theorem GT.get {p : Pls} {kvs : List (List L2.Key × D)} {T g : Str → Str → Int} (h : GT p kvs T g) (a b : Str) : (valD kvs (kk a b)).getD (.int 1000000) = .int (g a b) := by
  rw [h.val]
  split
  · rfl
  · have := h.gm a b
    rw [show g a b = 1000000 by omega]; rfl
theorem GT.lo {p : Pls} {kvs : List (List L2.Key × D)} {T g : Str → Str → Int} (h : GT p kvs T g) {a b : Str} (ha : a ∈ srt p) (hb : b ∈ srt p) (hF : T a b < Sp.FAR) : g a b = T a b ∧ valD kvs (kk a b) = some (.int (g a b)) := by
  rcases h.eq a ha b hb with ⟨_, h1, h2⟩ | ⟨h1, _⟩
  · exact ⟨h1, by rw [h.val, if_pos h2]⟩
  · omega
def envR (p : Pls) (r : Rds) (kvs : List (List L2.Key × D)) (here goal : Str) (L : List Str) (x5 x6 x7 x8 x9 x10 x11 x12 : Option SV) : En := [some (.v (.tup [.dic (plD p), .lst (rdD r)])), some (.v (.dit kvs)), some (.v (.str here)), some (.v (.str goal)), some (.v (.lst (L.map D.str))), x5, x6, x7, x8, x9, x10, x11, x12, none]
section
variable {p : Pls} {r : Rds} {kvs : List (List L2.Key × D)} {T g : Str → Str → Int} {here goal : Str}
theorem add_one {L : List Str} {l : Str} {b : Bool} {G : GH} {P : D → GH → Prop} (hL : L.length ≤ 100) (q : P (.lst ((L ++ if b then [l] else []).map D.str)) G) : Post (oToInt (.bl b) G) fun d2 G2 => Post (oMul (.lst [.str l]) d2 G2) fun d3 G3 => Post (oAdd (.lst (L.map D.str)) d3 G3) P := by
  show Post (oMul (.lst [.str l]) (.int (if b then 1 else 0)) G) _
  refine Tb.mulL_ok ?_
  refine addL_ok (by rw [List.length_map]; cases b <;> simp <;> omega) ?_
  rw [List.map_append] at q
  cases b <;> exact q
theorem dirN_ok (hr : RdsOk p r) (hG : GT p kvs T g) (hh : here ∈ srt p) (hg : goal ∈ srt p) (hF : T here goal < Sp.FAR) {k : Nat} {q : Str × Str × Bool} (hq : r[k]? = some q) {f l : Str} (hf : f ∈ srt p) {L : List Str} (hL : L.length ≤ 100) {x6 x8 x9 x10 x12 : Option SV} {G : GH} :
    Post (dirN (envR p r kvs here goal L (some (.v (.int k))) x6 (some (.v (.str l))) x8 x9 x10 (some (.v (.str f))) x12) G) fun fl G1 => match fl with
      | .nx ρ1 => G1 = G ∧ ∃ x12, ρ1 = envR p r kvs here goal (L ++ pc g here goal (rfar p q) true f l) (some (.v (.int k))) x6 (some (.v (.str l))) x8 x9 x10 (some (.v (.str f))) x12
      | _ => False := by
  obtain ⟨_, hv⟩ := hG.lo hh hg hF
  unfold dirN envR
  bv_omega
  refine Post.of_eq (lawlong_val hr hq G) ?_
  refine p_get (a := l) (b := goal) (kvs := kvs) (z := .int 1000000) ⟨rfl, rfl⟩ ?_ ?_ ?_
  · bv_omega
    exact ⟨rfl, rfl⟩
  · bv_omega
    refine pow_ok ⟨by decide, by decide, by decide⟩ ?_
    exact ⟨rfl, rfl⟩
  rw [hG.get]
  bv_omega
  refine eqS_ok (srt_ok hr.pl hf) (srt_ok hr.pl hh) ?_
  bv_omega
  refine ite_same (fun e => ?_) fun e => ?_
  · have e : f = here := of_decide_eq_true e
    bv_omega
    refine ixT_ok hv ?_
    bv_omega
    refine add_one hL ?_
    have ep : (if decide (rfar p q + g l goal = g here goal) = true then [l] else []) = pc g here goal (rfar p q) true f l := by
      unfold pc
      simp [e]
    rw [ep]
    exact ⟨rfl, _, rfl⟩
  · have e : ¬ f = here := of_decide_eq_false e
    refine add_one hL ?_
    have ep : (if false = true then [l] else []) = pc g here goal (rfar p q) true f l := by
      unfold pc
      simp [e]
    rw [ep]
    exact ⟨rfl, _, rfl⟩
theorem roadN_ok (hr : RdsOk p r) (hG : GT p kvs T g) (hh : here ∈ srt p) (hg : goal ∈ srt p) (hF : T here goal < Sp.FAR) {k : Nat} {q : Str × Str × Bool} (hq : r[k]? = some q) {L : List Str} (hL : L.length ≤ 90) {x6 x7 x8 x9 x10 x11 x12 : Option SV} {G : GH} :
    Post (roadN (envR p r kvs here goal L (some (.v (.int k))) x6 x7 x8 x9 x10 x11 x12) G) fun fl G1 => match fl with
      | .nx ρ1 => G1 = G ∧ ∃ x7 x8 x9 x10 x11 x12, ρ1 = envR p r kvs here goal (L ++ nx1 p g here goal q) (some (.v (.int k))) x6 x7 x8 x9 x10 x11 x12
      | _ => False := by
  have hat := rd_at hq
  obtain ⟨s1, s2⟩ := rd_srt hr (List.mem_of_getElem? hq)
  unfold roadN envR
  refine p_seq (p_asgT ?_)
  bv_omega
  refine ⟨rfl, ?_⟩
  bv_omega
  refine Post.mono (P := fun d G1 => d = .int (if !q.2.2 then 1 else 0) ∧ G1 = G) ?_ fun d G1 ⟨e1, e2⟩ => ?_
  · exact ⟨rfl, rfl⟩
  subst e1; subst e2
  refine Tb.mulL_ok ?_
  refine addL_ok (by cases q.2.2 <;> simp) ?_
  refine .inl ⟨_, rfl, ?_⟩
  have hb1 := pc_len g here goal (rfar p q) true q.1 q.2.1
  cases hb : q.2.2 with
  | true =>
    show Post (forL _ _ [D.tup [.str q.1, .str q.2.1]] _ _) _
    refine forC ?_
    refine Tb.p_gT2 ?_
    refine (dirN_ok hr hG hh hg hF hq s1 (l := q.2.1) (by omega)).mono fun fl G3 h3 => ?_
    cases fl with
    | nx ρ3 =>
      obtain ⟨rfl, x12, rfl⟩ := h3
      refine forN ?_
      have e : nx1 p g here goal q = pc g here goal (rfar p q) true q.1 q.2.1 := by
        unfold nx1
        rw [hb]
        unfold pc
        simp
      rw [e]
      exact ⟨rfl, _, _, _, _, _, _, rfl⟩
    | _ => exact h3.elim
  | false =>
    show Post (forL _ _ [D.tup [.str q.1, .str q.2.1], D.tup [.str q.2.1, .str q.1]] _ _) _
    refine forC ?_
    refine Tb.p_gT2 ?_
    refine (dirN_ok hr hG hh hg hF hq s1 (l := q.2.1) (by omega)).mono fun fl G3 h3 => ?_
    cases fl with
    | nx ρ3 =>
      obtain ⟨rfl, x12, rfl⟩ := h3
      dsimp only
      refine forC ?_
      refine Tb.p_gT2 ?_
      refine (dirN_ok hr hG hh hg hF hq s2 (l := q.1) (by rw [List.length_append]; omega)).mono fun fl G4 h4 => ?_
      cases fl with
      | nx ρ4 =>
        obtain ⟨rfl, x12, rfl⟩ := h4
        refine forN ?_
        have e : L ++ nx1 p g here goal q = L ++ pc g here goal (rfar p q) true q.1 q.2.1 ++ pc g here goal (rfar p q) true q.2.1 q.1 := by
          unfold nx1
          rw [hb, List.append_assoc]
          rfl
        rw [e]
        exact ⟨rfl, _, _, _, _, _, _, rfl⟩
      | _ => exact h4.elim
    | _ => exact h3.elim
end
end K10

set_option Elab.async false
set_option linter.all false
set_option maxRecDepth 100000
set_option maxHeartbeats 1000000
/-! The plain law of k10: the law's own rows, all. -/
local macro_rules | `(tactic| array_get_dec) => `(tactic| (repeat (first | with_reducible refine p_seq ?_ | with_reducible refine p_asg ?_ | with_reducible refine p_ret ?_ | with_reducible refine p_drop ?_ | with_reducible refine p_op ?_ | with_reducible refine p_un ?_ | with_reducible refine p_cons ?_ | with_reducible refine p_nil ?_ | with_reducible refine p_c ?_ | with_reducible refine q_var ?_ | with_reducible refine q_varO ?_ | with_reducible refine p_call ?_ | with_reducible refine p_tup ?_ | with_reducible refine p_lst ?_ | with_reducible refine p_iter ?_ | with_reducible refine p_for ?_ | with_reducible refine p_comp ?_ | with_reducible refine p_fComp ?_ | with_reducible refine p_fLst ?_ | with_reducible refine p_Tru ?_ | with_reducible refine p_B ?_ | with_reducible refine p_And ?_ | with_reducible refine p_Or ?_ | with_reducible refine p_Not ?_ | with_reducible refine p_AndV ?_ | with_reducible refine p_OrV ?_ | with_reducible refine p_NotV ?_ | with_reducible refine p_If ?_ | with_reducible refine p_Chain ?_ | with_reducible refine p_if ?_ | with_reducible refine p_next ?_ | with_reducible refine p_par ?_ | with_reducible refine add_ok ?_ | with_reducible refine sub_ok ?_ | with_reducible refine lt_ok ?_ | with_reducible refine le_ok ?_ | with_reducible refine gt_ok ?_ | with_reducible refine ge_ok ?_ | with_reducible refine abs_ok ?_ | with_reducible refine lenL_ok ?_ | with_reducible refine lenT_ok ?_ | with_reducible refine lenD_ok ?_ | with_reducible refine min2_ok ?_ | with_reducible refine max2_ok ?_ | with_reducible refine ix0_ok ?_ | with_reducible refine ix1_ok ?_ | with_reducible refine ix2_ok ?_ | with_reducible refine truB_ok ?_ | with_reducible refine eqI_ok ?_ | with_reducible refine neI_ok ?_ | ((with_reducible refine mod_ok ?_ ?_); decide) | ((with_reducible refine div_ok ?_ ?_ ?_); decide; decide) | with_reducible refine q_isi ?_ | with_reducible refine isN_ok ?_ | with_reducible refine isT_ok ?_ | with_reducible refine isB_ok ?_ | with_reducible refine p_sl ?_ | with_reducible refine p_noP ?_ | with_reducible refine p_P ?_ | with_reducible refine slT_ok ?_ | with_reducible refine slL_ok ?_ | with_reducible refine frzL_ok ?_ | with_reducible refine frzD_ok ?_ | ((with_reducible refine p_ifT ?_ ?_); exact rfl) | ((with_reducible refine p_ifF ?_ ?_); exact rfl) | ((with_reducible show Exists _); refine ⟨_, rfl, ?_⟩) | ((with_reducible refine isx_ok (b := true) ?_ ?_); exact rfl) | ((with_reducible refine isx_ok (b := false) ?_ ?_); exact rfl) | with_reducible refine p_raise ?_ | with_reducible refine ixP0_ok ?_ | with_reducible refine ixP1_ok ?_ | with_reducible refine ixA_ok (by assumption) ?_ | with_reducible refine ixAT_ok (by assumption) ?_ | with_reducible refine ixK_ok (by assumption) ?_ | ((with_reducible refine (And.intro ?_ ?_ : List.length _ ≤ LIM ∧ _)); exact Nat.le_of_ble_eq_true rfl) | ((with_reducible refine d_now (by assumption) ?_ ?_); exact rfl) | ((with_reducible refine d_meth (by assumption) ?_ ?_ ?_); exact rfl; exact rfl))))
namespace K10
open PySem Gh
theorem addX_ok {xs ys : List D} {G : GH} {P : D → GH → Prop} (h : xs.length + ys.length ≤ 90000) (q : P (.lst (xs ++ ys)) G) : Post (oAdd (.lst xs) (.lst ys) G) P := by
  show Post (if _ then _ else _) P
  rw [if_pos (Nat.le_trans h (by decide))]; exact q
theorem lim90000 {n : Nat} (h : n ≤ 90000) : n < LIM := Nat.lt_of_le_of_lt h (by decide)
theorem sortset_ok {L : List Str} {f : EF} {ρ : En} {G : GH} {P : D → GH → Prop} (hL : L.length < 63) (hf : f ρ G = .ok (.lst (L.map D.str)) G) (q : P (.lst ((sortS (nubS L)).map D.str)) G) : Post (mFz (fSortSet f) ρ G) P := by
  refine p_fz ?_
  refine Post.bind.mpr ?_
  rw [hf]
  show Post (match strsOf (L.map D.str) with | some L => _ | none => _) _
  rw [strsOf_map]
  show Post (if _ then _ else _) _
  rw [if_pos hL]
  exact q
section
variable {p : Pls} {r : Rds} {kvs : List (List L2.Key × D)} {T g : Str → Str → Int} {goal : Str}
theorem rows_size : ∀ (d : Nat) (here : Str) (z : List Str), z ∈ rows p r T goal d here → z.length ≤ d + 1
  | 0, here, z, h => by
    unfold rows at h
    split at h
    · rw [List.mem_singleton.mp h]; simp
    · cases h
  | d + 1, here, z, h => by
    unfold rows at h
    split at h
    · rw [List.mem_singleton.mp h]; simp
    · obtain ⟨x, _, h⟩ := List.mem_flatMap.mp h
      obtain ⟨y, hy, rfl⟩ := List.mem_map.mp h
      have := rows_size d x y hy
      rw [List.length_cons]
      omega
def RowsV (p : Pls) (r : Rds) (kvs : List (List L2.Key × D)) (T : Str → Str → Int) (goal : Str) (m : List D → GH → R D) (d : Nat) : Prop := ∀ here, here ∈ srt p → T here goal < Sp.FAR → rank p T goal here ≤ d → ∀ G, m [wD p r, .dit kvs, .str here, .str goal] G = .ok (.lst ((rows p r T goal d here).map rowD)) G
variable (hr : RdsOk p r) (hs : ∀ q ∈ r, rfar p q < 99) (hD : Sp.Dist (dirs p r) (srt p) T) (hg : goal ∈ srt p)
include hr hs hD hg
theorem rows0 : RowsV p r kvs T goal m__law_rows_0 0 := fun here hh hF hk G => by
  have e : here = goal := Classical.byContradiction fun k => by
    have := rank_pos hr hs hD hg hh k hF
    omega
  refine post_ok ?_
  unfold m__law_rows_0 b__law_rows_0
  refine p_def rfl ?_
  bv_omega
  refine eqS_ok (srt_ok hr.pl hh) (srt_ok hr.pl hg) ?_
  rw [decide_eq_true e]
  bv_omega
  unfold rows
  rw [if_pos e]
  exact ⟨rfl, rfl⟩
theorem lrowS (hG : GT p kvs T g) {m : List D → GH → R D} {d : Nat} (hd : d ≤ 7) (hB : (d + 1) * fac d ≤ 50000) (hm : RowsV p r kvs T goal m d) : RowsV p r kvs T goal (mDef 4 14 (bodyR m)) (d + 1) := fun here hh hF hk G => by
  have hrl := rdD_len r
  have hll := hr.len
  have hw : wD p r = .tup [.dic (plD p), .lst (rdD r)] := rfl
  refine post_ok ?_
  unfold bodyR
  rw [hw]
  refine p_def rfl ?_
  bv_omega
  refine eqS_ok (srt_ok hr.pl hh) (srt_ok hr.pl hg) ?_
  bv_omega
  unfold rows
  refine ite_same (fun e => ?_) fun e => ?_
  · have e : here = goal := of_decide_eq_true e
    bv_omega
    rw [if_pos e]
    exact ⟨rfl, rfl⟩
  have e : ¬ here = goal := of_decide_eq_false e
  rw [if_neg e]
  bv_omega
  refine p_rng1 ?_
  bv_omega
  rw [hrl]
  refine ⟨by omega, by omega, ?_⟩
  rw [Int.toNat_natCast]
  refine p_forL (fun k ρ G1 => G1 = G ∧ ∃ (x5 x7 x8 x9 x10 x11 x12 : Option SV), ρ = envR p r kvs here goal (nexts p g here goal (r.take k)) x5 none x7 x8 x9 x10 x11 x12) (n := 0) ⟨rfl, _, _, _, _, _, _, _, rfl⟩ ?_ ?_
  · intro k dk ρ1 G1 hk i1
    obtain ⟨rfl, x5, x7, x8, x9, x10, x11, x12, rfl⟩ := i1
    rw [Nat.zero_add] at *
    have hkr : k < r.length := by
      have := (List.getElem?_eq_some_iff.mp hk).1
      simpa [upto] using this
    have hdk : dk = .int (k : Int) := by
      simp [upto, hkr] at hk
      exact hk.symm
    subst hdk
    obtain ⟨q, hq⟩ : ∃ q, r[k]? = some q := ⟨_, List.getElem?_eq_getElem hkr⟩
    have hlen := nexts_len p g here goal (r.take k)
    rw [List.length_take] at hlen
    rw [nexts_take hq]
    refine (roadN_ok hr hG hh hg hF hq (by omega)).mono fun fl G2 h2 => ?_
    cases fl with
    | nx ρ2 =>
      obtain ⟨rfl, x7, x8, x9, x10, x11, x12, rfl⟩ := h2
      exact ⟨rfl, _, _, _, _, _, _, _, rfl⟩
    | _ => exact h2.elim
  intro ρ1 G1 i1
  obtain ⟨rfl, x5, x7, x8, x9, x10, x11, x12, rfl⟩ := i1
  have hu : (upto 0 r.length).length = r.length := by simp [upto]
  rw [Nat.zero_add, hu, List.take_length]
  rw [nexts_g hr hs hD (fun a ha hF => (hG.lo ha hg hF).1) (fun a ha hn => by
    rcases hG.eq a ha goal hg with ⟨h, _⟩ | ⟨_, h⟩
    · exact (hn h).elim
    · exact h) hh hF]
  have hlen := nexts_len p T here goal r
  dsimp only
  unfold envR
  refine p_seq ?_
  array_get_dec
  refine sortset_ok (L := nexts p T here goal r) (by omega) rfl ?_
  refine .inl ⟨_, rfl, ?_⟩
  have hnx : sortS (nubS (nexts p T here goal r)) = nxt p r T goal here := rfl
  rw [hnx]
  have hxl := nxt_len (T := T) (goal := goal) hr hs here
  have hin : ∀ x ∈ nxt p r T goal here, x ∈ srt p ∧ T x goal < T here goal ∧ rank p T goal x ≤ d := fun x hx => by
    obtain ⟨h1, h2⟩ := nxt_in hr hs hx
    have h3 := rank_lt hr hs hx
    exact ⟨h1, h2, by omega⟩
  generalize hN : nxt p r T goal here = N at hxl hin ⊢
  refine p_forL (fun k ρ G2 => G2 = G1 ∧ ∃ x7, ρ = [some (.v (.tup [.dic (plD p), .lst (rdD r)])), some (.v (.dit kvs)), some (.v (.str here)), some (.v (.str goal)), some (.v (.lst ((nexts p T here goal r).map D.str))), x5, some (.v (.lst (((N.take k).flatMap fun x => (rows p r T goal d x).map (here :: ·)).map rowD))), x7, x8, x9, x10, x11, x12, none]) (n := 0) ⟨rfl, _, rfl⟩ ?_ ?_
  · intro k dk ρ2 G2 hk i2
    obtain ⟨rfl, x7, rfl⟩ := i2
    rw [Nat.zero_add] at *
    rw [List.getElem?_map] at hk
    obtain ⟨x, hx, rfl⟩ := Option.map_eq_some_iff.mp hk
    have hxm := List.mem_of_getElem? hx
    obtain ⟨h1, h2, h3⟩ := hin x hxm
    have hkl : k < N.length := (List.getElem?_eq_some_iff.mp hx).1
    have hcall := hm x h1 (by omega) h3 G2
    rw [hw] at hcall
    have hRl := rows_len (T := T) (goal := goal) hr hs d x h3
    have hFl : ((N.take k).flatMap fun x => (rows p r T goal d x).map (here :: ·)).length ≤ k * fac d := by
      refine Nat.le_trans (flat_len (B := fac d) _ fun y hy => ?_) (Nat.mul_le_mul_right _ (by rw [List.length_take]; omega))
      rw [List.length_map]
      exact rows_len hr hs d y (hin y (List.mem_of_mem_take hy)).2.2
    have hkd : k * fac d ≤ (d + 1) * fac d := Nat.mul_le_mul_right _ (by omega)
    have hsum : k * fac d + fac d ≤ (d + 1) * fac d := by rw [← Nat.succ_mul]; exact Nat.mul_le_mul_right _ (by omega)
    have hf1 : fac d ≤ (d + 1) * fac d := Nat.le_mul_of_pos_left _ (Nat.succ_pos d)
    have hsz := rows_size (p := p) (r := r) (T := T) (goal := goal) d x
    rw [List.take_add_one, hx, Option.toList_some, List.flatMap_append]
    generalize (N.take k).flatMap (fun x => (rows p r T goal d x).map (here :: ·)) = F at hFl ⊢
    generalize hR : rows p r T goal d x = R at hcall hRl hsz ⊢
    show Post (sAsg _ _ _ _) _
    bv_omega
    refine Post.of_eq hcall ?_
    refine .inl ⟨_, rfl, lim90000 (by rw [List.length_map]; omega), ?_⟩
    refine p_compL (F := fun d => match d with | .lst zs => .lst (.str here :: zs) | d => d) (fun d' hd' => post_ok ?_) ?_
    · obtain ⟨z, hz, rfl⟩ := List.mem_map.mp hd'
      have := hsz z hz
      unfold rowD
      bv_omega
      refine addX_ok (by rw [List.length_map]; simp; omega) ?_
      exact ⟨rfl, rfl⟩
    have em : (R.map rowD).map (fun d => match d with | .lst zs => D.lst (.str here :: zs) | d => d) = (R.map (here :: ·)).map rowD := by
      rw [List.map_map, List.map_map]
      rfl
    rw [em]
    refine frzL_ok ?_
    refine addX_ok (by rw [List.length_map, List.length_map, List.length_map]; omega) ?_
    rw [← List.map_append]
    have e2 : [x].flatMap (fun x => (rows p r T goal d x).map (here :: ·)) = R.map (here :: ·) := by rw [List.flatMap_singleton, hR]
    rw [e2]
    exact ⟨rfl, _, rfl⟩
  · intro ρ2 G2 i2
    obtain ⟨rfl, x7, rfl⟩ := i2
    rw [Nat.zero_add, List.length_map, List.take_length]
    dsimp only
    bv_omega
    exact ⟨rfl, rfl⟩
theorem rows8 (hG : GT p kvs T g) : RowsV p r kvs T goal m__law_rows_8 8 := by
  have h0 := rows0 (kvs := kvs) hr hs hD hg
  have h1 : RowsV p r kvs T goal m__law_rows_1 1 := lrowS hr hs hD hg hG (by decide) (by decide) h0
  have h2 : RowsV p r kvs T goal m__law_rows_2 2 := lrowS hr hs hD hg hG (by decide) (by decide) h1
  have h3 : RowsV p r kvs T goal m__law_rows_3 3 := lrowS hr hs hD hg hG (by decide) (by decide) h2
  have h4 : RowsV p r kvs T goal m__law_rows_4 4 := lrowS hr hs hD hg hG (by decide) (by decide) h3
  have h5 : RowsV p r kvs T goal m__law_rows_5 5 := lrowS hr hs hD hg hG (by decide) (by decide) h4
  have h6 : RowsV p r kvs T goal m__law_rows_6 6 := lrowS hr hs hD hg hG (by decide) (by decide) h5
  have h7 : RowsV p r kvs T goal m__law_rows_7 7 := lrowS hr hs hD hg hG (by decide) (by decide) h6
  exact lrowS hr hs hD hg hG (by decide) (by decide) h7
end
end K10

set_option Elab.async false
set_option linter.all false
set_option maxRecDepth 100000
set_option maxHeartbeats 1000000
/-! The plain law of k10: the way that the program tells is the least of all rows. -/
namespace K10
open PySem Gh
theorem fac_mono : ∀ {a b : Nat}, a ≤ b → fac a ≤ fac b
  | a, 0, h => by rw [Nat.le_zero.mp h]; exact Nat.le_refl _
  | a, b + 1, h => by
    by_cases e : a = b + 1
    · rw [e]; exact Nat.le_refl _
    · exact Nat.le_trans (fac_mono (show a ≤ b by omega)) (Nat.le_mul_of_pos_left _ (Nat.succ_pos b))
theorem minLM_ok {rows : List (List Str)} (h : rows ≠ []) {G : GH} {P : D → GH → Prop} (q : ∀ x ∈ rows, (∀ z ∈ rows, Or.LL z x = false) → P (rowD x) G) : Post (oMinLL (.lst (rows.map rowD)) G) P := by
  show Post (match strsLL (rows.map rowD) with | some (x :: r) => _ | _ => _) P
  rw [strsLL_map]
  cases rows with
  | nil => exact (h rfl).elim
  | cons z zs => exact q _ (minOf_mem zs z) (Or.min_le zs z)
section
variable {p : Pls} {r : Rds} {kvs : List (List L2.Key × D)} {T g : Str → Str → Int} {goal : Str}
theorem rank_le7 (h8 : (srt p).length ≤ 8) {here : Str} (hh : here ∈ srt p) : rank p T goal here ≤ 7 := by
  have h : rank p T goal here < (srt p).countP fun _ => true := by
    refine Sp.countP_lt (c := here) _ (fun _ _ _ => rfl) hh rfl ?_
    exact decide_eq_false (by omega)
  rw [List.countP_true] at h
  omega
theorem rows_lenR (hr : RdsOk p r) (hs : ∀ q ∈ r, rfar p q < 99) : ∀ (d : Nat) (here : Str), (rows p r T goal d here).length ≤ fac (rank p T goal here)
  | 0, here => by
    unfold rows
    split
    · exact fac_pos _
    · exact Nat.zero_le _
  | d + 1, here => by
    unfold rows
    split
    · exact fac_pos _
    · have hl := nxt_len (T := T) (goal := goal) hr hs here
      cases hk : rank p T goal here with
      | zero =>
        rw [hk] at hl
        have : nxt p r T goal here = [] := List.length_eq_zero_iff.mp (by omega)
        rw [this]
        simp
      | succ k =>
        rw [hk] at hl
        refine Nat.le_trans (flat_len (B := fac k) _ fun x hx => ?_) (Nat.mul_le_mul_right _ hl)
        rw [List.length_map]
        have := rank_lt hr hs hx
        exact Nat.le_trans (rows_lenR hr hs d x) (fac_mono (by omega))
theorem gr_goal (d : Nat) : gr p r T goal d goal = [goal] := by
  cases d with
  | zero => rfl
  | succ d => unfold gr; rw [if_pos rfl]
theorem gr_step {d : Nat} {a c : Str} {cs : List Str} (h : a ≠ goal) (hc : nxt p r T goal a = c :: cs) : gr p r T goal (d + 1) a = a :: gr p r T goal d c := by
  show (if a = goal then [a] else match nxt p r T goal a with | [] => [a] | c :: _ => a :: gr p r T goal d c) = _
  rw [if_neg h, hc]
variable (hr : RdsOk p r) (hs : ∀ q ∈ r, rfar p q < 99) (hD : Sp.Dist (dirs p r) (srt p) T) (h8 : (srt p).length ≤ 8)
include hr hs hD h8
theorem between_gr (hT : Tab (srt p) kvs T) {here : Str} (hh : here ∈ srt p) (hg : goal ∈ srt p) (hF : T here goal < Sp.FAR) (G : GH) :
    m_places_between [wD p r, .dit kvs, .str here, .str goal] G = .ok (rowD (gr p r T goal 8 here)) G := by
  refine post_ok ?_
  unfold m_places_between b_places_between
  refine p_def rfl ?_
  refine p_seq (p_own ?_)
  bv_omega
  refine ⟨by show 4 < 5; decide, ?_⟩
  dsimp only
  refine p_seq ?_
  refine p_whileL (fun m ρ G1 => G1 = G ∧ ∃ ys a, ρ = [some (.v (wD p r)), some (.v (.dit kvs)), some (.v (.str here)), some (.v (.str goal)), some (.own (.lst ((ys ++ [a]).map D.str)))] ∧ a ∈ srt p ∧ T a goal < Sp.FAR ∧ rank p T goal a ≤ m ∧ gr p r T goal 8 here = ys ++ gr p r T goal m a ∧ ys.length + m ≤ 8) ?_ _ 8 _ _ ⟨rfl, [], here, rfl, hh, hF, Nat.le_trans (rank_le7 h8 hh) (by decide), rfl, by decide⟩ (by show 8 < 1000000000; decide)
  intro m ρ G1 i1
  obtain ⟨rfl, ys, a, rfl, ha, haF, hk, hgr, hlen⟩ := i1
  have hla : L2.atI ((ys ++ [a]).map D.str) (-1) = some (.str a) := by rw [List.map_append]; exact at_last
  bv_omega
  refine neS_ok (srt_ok hr.pl ha) (srt_ok hr.pl hg) ?_
  bv_omega
  refine ite_same (fun e => ?_) fun e => ?_
  · have e : a ≠ goal := by simpa using e
    obtain ⟨c, cs, hc⟩ := nxt_ne hr hs hD hg ha e haF
    have hcm : c ∈ nxt p r T goal a := by rw [hc]; exact List.mem_cons_self
    obtain ⟨h1, h2⟩ := nxt_in hr hs hcm
    have h3 := rank_lt hr hs hcm
    have hst := steps_val hr hT ha hg G1
    rw [show sortS (nubS (nexts p T a goal r)) = c :: cs from hc] at hst
    have hat0 : L2.atI ((c :: cs).map D.str) 0 = some (.str c) := by
      rw [atI_in _ _ (by omega) (by simp)]
      simp
    obtain ⟨d, rfl⟩ : ∃ d, m = d + 1 := ⟨m - 1, by omega⟩
    refine p_appO rfl ?_
    bv_omega
    refine Post.of_eq hst ?_
    bv_omega
    refine ⟨lim3000 (by rw [List.length_map, List.length_append]; simp; omega), ?_⟩
    refine ⟨d, by omega, rfl, ys ++ [a], c, ?_, h1, by omega, by omega, ?_, by rw [List.length_append, List.length_singleton]; omega⟩
    · rw [List.map_append (l₁ := ys ++ [a])]
      rfl
    · rw [hgr, gr_step e hc]
      simp
  · have e : a = goal := by simpa using e
    subst e
    dsimp only
    refine p_frz rfl ?_
    refine frzL_ok ?_
    bv_omega
    rw [hgr, gr_goal]
    exact ⟨rfl, rfl⟩
omit hD h8 hr hs in
/-- the least of all rows -/
def IsMin (p : Pls) (r : Rds) (T : Str → Str → Int) (la lc : List (Str × Int)) (L : Int) (xs : List Str) : Prop :=
  (∃ x ∈ la, ∃ y ∈ lc, x.2 + T x.1 y.1 + y.2 = L ∧ xs ∈ rows p r T y.1 8 x.1) ∧ ∀ x ∈ la, ∀ y ∈ lc, x.2 + T x.1 y.1 + y.2 = L → ∀ z ∈ rows p r T y.1 8 x.1, Or.LL z xs = false
omit hD h8 hr hs in
theorem min_uniq {la lc : List (Str × Int)} {L : Int} {xs ys : List Str} (h1 : IsMin p r T la lc L xs) (h2 : IsMin p r T la lc L ys) : xs = ys := by
  obtain ⟨⟨x, hx, y, hy, e1, m1⟩, l1⟩ := h1
  obtain ⟨⟨x', hx', y', hy', e2, m2⟩, l2⟩ := h2
  exact Or.LL_total (l2 x hx y hy e1 xs m1) (l1 x' hx' y' hy' e2 ys m2)
omit hD h8 hr hs in
def WayM (p : Pls) (r : Rds) (T : Str → Str → Int) (q o : Str × Str × Bool) (s t : Spot) (xs : List Str) : Prop :=
  (xs = [] ∧ Sp.strt (rdR p q) s t = lb p r T s t) ∨ (Sp.strt (rdR p q) s t ≠ lb p r T s t ∧ IsMin p r T (Sp.lv (rdR p q) s.2) (Sp.cm (rdR p o) t.2) (lb p r T s t) xs)
omit hD h8 hr hs in
theorem way_uniq {q o : Str × Str × Bool} {s t : Spot} {xs ys : List Str} (h1 : WayM p r T q o s t xs) (h2 : WayM p r T q o s t ys) : xs = ys := by
  rcases h1 with ⟨e1, s1⟩ | ⟨n1, m1⟩ <;> rcases h2 with ⟨e2, s2⟩ | ⟨n2, m2⟩
  · rw [e1, e2]
  · exact (n2 s1).elim
  · exact (n1 s2).elim
  · exact min_uniq m1 m2
theorem wayby_min (hT : Tab (srt p) kvs T) {s t : Spot} {q o : Str × Str × Bool} (ha : On p r s q) (hb : On p r t o) (hF : lb p r T s t < Sp.FAR) (G : GH) :
    Post (m_way_by [wD p r, .dit kvs, spD s, spD t] G) fun d G1 => G1 = G ∧ ∃ xs, d = rowD xs ∧ WayM p r T q o s t xs := by
  have hL := lengthby_val hr hT ⟨q, ha⟩ ⟨o, hb⟩ G
  have h0 := straight_val (b := t) ha G
  have h1 := leaving_val hr ha G
  have h3 := coming_val hr hb G
  have h2 := lv_srt hr (List.mem_of_getElem? ha.1) (f := s.2)
  have h4 := cm_srt hr (List.mem_of_getElem? hb.1) (f := t.2)
  have h5 : ∀ x ∈ Sp.lv (rdR p q) s.2, 0 ≤ x.2 := fun x hx => (Sp.lv_nn (on_sp ha) hx).1
  have h6 : ∀ y ∈ Sp.cm (rdR p o) t.2, 0 ≤ y.2 := fun y hy => (Sp.cm_nn (on_sp hb) hy).1
  have h7 : (Sp.lv (rdR p q) s.2).length ≤ 2 := by unfold Sp.lv; split <;> simp
  have h8' : (Sp.cm (rdR p o) t.2).length ≤ 2 := by unfold Sp.cm; split <;> simp
  have hor := Sp.LB_or (T := T) (rdR p q) (rdR p o) s t
  rw [← lb_eq ha hb] at hor
  unfold WayM
  generalize lb p r T s t = L at hL hor hF ⊢
  generalize Sp.strt (rdR p q) s t = L0 at h0 hor ⊢
  generalize Sp.lv (rdR p q) s.2 = la at h1 h2 h5 h7 hor ⊢
  generalize Sp.cm (rdR p o) t.2 = lc at h3 h4 h6 h8' hor ⊢
  unfold m_way_by b_way_by
  refine p_def rfl ?_
  bv_omega
  refine Post.of_eq hL ?_
  bv_omega
  refine Post.of_eq h0 ?_
  bv_omega
  refine ite_same (fun e => ?_) fun e => ?_
  · bv_omega
    exact ⟨rfl, [], rfl, .inl ⟨rfl, of_decide_eq_true e⟩⟩
  have e : ¬ L0 = L := of_decide_eq_false e
  refine p_next ?_
  dsimp only
  refine p_seq (p_own ?_)
  bv_omega
  refine ⟨by show 5 < 10; decide, ?_⟩
  dsimp only
  bv_omega
  refine Post.of_eq h1 ?_
  refine .inl ⟨_, rfl, ?_⟩
  refine p_forL (fun k ρ G1 => G1 = G ∧ ∃ (rws : List (List Str)) (x6 x7 x8 x9 : Option SV), ρ = envB p r kvs s t L rws x6 x7 x8 x9 ∧ (∀ z ∈ rws, ∃ x ∈ la, ∃ y ∈ lc, x.2 + T x.1 y.1 + y.2 = L ∧ z = gr p r T y.1 8 x.1) ∧ (∀ x ∈ la.take k, ∀ y ∈ lc, x.2 + T x.1 y.1 + y.2 = L → gr p r T y.1 8 x.1 ∈ rws) ∧ rws.length ≤ 10 * k) (n := 0) ⟨rfl, [], _, _, _, _, rfl, by simp, by simp, by simp⟩ ?_ ?_
  · intro k d ρ1 G1 hk i1
    obtain ⟨rfl, rws, x6, x7, x8, x9, rfl, r1, r2, r3⟩ := i1
    rw [Nat.zero_add] at *
    rw [List.getElem?_map] at hk
    obtain ⟨x, hx, rfl⟩ := Option.map_eq_some_iff.mp hk
    have hkl : k < la.length := (List.getElem?_eq_some_iff.mp hx).1
    have hxm := List.mem_of_getElem? hx
    have hxn := h2 x hxm
    unfold endD envB
    show Post (sFor _ _ _ _ _) _
    bv_omega
    refine Post.of_eq h3 ?_
    refine .inl ⟨_, rfl, ?_⟩
    refine p_forL (fun j ρ G2 => G2 = G1 ∧ ∃ (rws : List (List Str)) (x8 x9 : Option SV), ρ = envB p r kvs s t L rws (some (.v (.str x.1))) (some (.v (.int x.2))) x8 x9 ∧ (∀ z ∈ rws, ∃ x ∈ la, ∃ y ∈ lc, x.2 + T x.1 y.1 + y.2 = L ∧ z = gr p r T y.1 8 x.1) ∧ (∀ x ∈ la.take k, ∀ y ∈ lc, x.2 + T x.1 y.1 + y.2 = L → gr p r T y.1 8 x.1 ∈ rws) ∧ (∀ y ∈ lc.take j, x.2 + T x.1 y.1 + y.2 = L → gr p r T y.1 8 x.1 ∈ rws) ∧ rws.length ≤ 10 * k + j) (n := 0) ⟨rfl, rws, _, _, rfl, r1, r2, by simp, by omega⟩ ?_ ?_
    · intro j d ρ2 G2 hk i2
      obtain ⟨rfl, rws, x8, x9, rfl, r1, r2, r3, r4⟩ := i2
      rw [Nat.zero_add] at *
      rw [List.getElem?_map] at hk
      obtain ⟨y, hy, rfl⟩ := Option.map_eq_some_iff.mp hk
      have hym := List.mem_of_getElem? hy
      have hyn := h4 y hym
      have hjl : j < lc.length := (List.getElem?_eq_some_iff.mp hy).1
      unfold envB endD
      show Post (sIf _ _ _ _ _) _
      bv_omega
      refine ixT_ok (hT.val _ hxn _ hyn) ?_
      bv_omega
      refine ite_same (fun e2 => ?_) fun e2 => ?_
      · have e2 : x.2 + T x.1 y.1 + y.2 = L := of_decide_eq_true e2
        have hx0 := h5 x hxm
        have hy0 := h6 y hym
        refine p_appO rfl ?_
        bv_omega
        refine Post.of_eq (between_gr hr hs hD h8 hT hxn hyn (by omega) G2) ?_
        refine ⟨lim3000 (by rw [List.length_map]; omega), rfl, rws ++ [gr p r T y.1 8 x.1], some (.v (.str y.1)), some (.v (.int y.2)), ?_, ?_, ?_, ?_, by rw [List.length_append, List.length_singleton]; omega⟩
        · rw [List.map_append]
          rfl
        · intro z hz
          rcases List.mem_append.mp hz with h | h
          · exact r1 z h
          · rw [List.mem_singleton.mp h]
            exact ⟨x, hxm, y, hym, e2, rfl⟩
        · exact fun x' hx' y' hy' h' => List.mem_append.mpr (.inl (r2 x' hx' y' hy' h'))
        · intro y' hy' h'
          rw [List.take_add_one, hy] at hy'
          rcases List.mem_append.mp hy' with h | h
          · exact List.mem_append.mpr (.inl (r3 y' h h'))
          · simp at h
            rw [h]
            simp
      · have e2 : ¬ x.2 + T x.1 y.1 + y.2 = L := of_decide_eq_false e2
        refine p_next ?_
        refine ⟨rfl, rws, _, _, rfl, r1, r2, ?_, by omega⟩
        intro y' hy' h'
        rw [List.take_add_one, hy] at hy'
        rcases List.mem_append.mp hy' with h | h
        · exact r3 y' h h'
        · simp at h
          rw [h] at h'
          exact (e2 h').elim
    · intro ρ2 G2 i2
      obtain ⟨rfl, rws, x8, x9, rfl, r1, r2, r3, r4⟩ := i2
      rw [Nat.zero_add, List.length_map] at *
      rw [List.take_length] at r3
      refine ⟨rfl, rws, _, _, _, _, rfl, r1, ?_, by omega⟩
      intro x' hx' y' hy' h'
      rw [List.take_add_one, hx] at hx'
      rcases List.mem_append.mp hx' with h | h
      · exact r2 x' h y' hy' h'
      · simp at h
        rw [h] at h' ⊢
        exact r3 y' hy' h'
  · intro ρ1 G1 i1
    obtain ⟨rfl, rws, x6, x7, x8, x9, rfl, r1, r2, r3⟩ := i1
    rw [Nat.zero_add, List.length_map, List.take_length] at *
    have hne : rws ≠ [] := by
      rcases hor with h | ⟨x, hx, y, hy, h⟩
      · exact (e h.symm).elim
      · intro z
        have := r2 x hx y hy h.symm
        rw [z] at this
        cases this
    have hfirst : ∀ x ∈ la, ∀ y ∈ lc, x.2 + T x.1 y.1 + y.2 = L → gr p r T y.1 8 x.1 ∈ rows p r T y.1 8 x.1 ∧ ∀ z ∈ rows p r T y.1 8 x.1, Or.LL z (gr p r T y.1 8 x.1) = false := fun x hx y hy h => by
      have hx0 := h5 x hx
      have hy0 := h6 y hy
      exact rows_first hr hs hD (h4 y hy) 8 x.1 (h2 x hx) (by omega) (Nat.le_trans (rank_le7 h8 (h2 x hx)) (by decide))
    dsimp only
    unfold envB
    refine p_frz rfl ?_
    refine frzL_ok ?_
    bv_omega
    refine minLM_ok hne fun xs hxs hle => ?_
    refine ⟨rfl, xs, rfl, .inr ⟨e, ?_, ?_⟩⟩
    · obtain ⟨x, hx, y, hy, h, rfl⟩ := r1 xs hxs
      exact ⟨x, hx, y, hy, h, (hfirst x hx y hy h).1⟩
    · intro x hx y hy h z hz
      exact Or.LL_neg ((hfirst x hx y hy h).2 z hz) (hle _ (r2 x hx y hy h))
end
end K10

set_option Elab.async false
set_option linter.all false
set_option maxRecDepth 100000
set_option maxHeartbeats 1000000
/-! The plain law of k10: what is told. -/
namespace K10
open PySem Gh
theorem p_index {ρ : En} {G : GH} {P : D → GH → Prop} {f g : EF} {xs : List D} {y : D} {j : Nat} (hf : f ρ G = .ok (.lst xs) G) (hg : g ρ G = .ok y G) (hp : (pn 60 y && pnL 59 xs) = true) (hj : findD y xs = some j) (q : P (.int j) G) : Post (mIndex f g ρ G) P := by
  unfold mIndex
  rw [hf]
  show Post (if isL (.lst xs) = true then (g ρ G).bind (fun y G2 => oIndex (.lst xs) y G2) else .stuck) P
  rw [if_pos (show isL (.lst xs) = true from rfl), hg]
  show Post (oIndex (.lst xs) y G) P
  unfold oIndex
  simp only [view, hp, if_true, hj]
  exact q
theorem refusal_ok (G : GH) : m__law_refusal [.exc "NoWay"] G = .ok (.tup [.str "refused", .str "way"]) G := by
  refine post_ok ?_
  unfold m__law_refusal b__law_refusal
  refine p_def rfl ?_
  bv_omega
  refine addL_ok (by show 6 ≤ 1000; decide) ?_
  bv_omega
  refine addL_ok (by show 8 ≤ 1000; decide) ?_
  bv_omega
  refine p_count rfl rfl rfl ?_
  bv_omega
  refine p_index rfl rfl (by simp [pn, pnL]) (by simp [findD, eqB]; rfl) ?_
  refine p_ixL rfl ⟨_, rfl, ?_⟩
  bv_omega
  exact ⟨rfl, rfl⟩
theorem told_ex {a b c : D} {G : GH} (h : m_way [a, b, c] G = .ex "NoWay" G) : m__law_told [a, b, c] G = .ok (.tup [.str "refused", .str "way"]) G := by
  refine post_ok ?_
  unfold m__law_told b__law_told
  refine p_def rfl ?_
  bv_omega
  refine p_try ?_
  refine e_asg (e_call ?_)
  bv_omega
  refine PostE.ex h ?_
  refine ⟨by simp, by show 5 < 6; decide, ?_⟩
  dsimp only
  bv_omega
  refine Post.of_eq (refusal_ok G) ?_
  exact ⟨rfl, rfl⟩
theorem told_ok {a b c : D} {d : D} {G : GH} (h : m_way [a, b, c] G = .ok d G) : m__law_told [a, b, c] G = .ok (.tup [.str "found", d]) G := by
  refine post_ok ?_
  unfold m__law_told b__law_told
  refine p_def rfl ?_
  bv_omega
  refine p_try ?_
  refine e_asg (e_call ?_)
  bv_omega
  refine PostE.ok h ?_
  dsimp only
  bv_omega
  exact ⟨rfl, rfl⟩
section
variable {p : Pls} {r : Rds} {T : Str → Str → Int}
theorem way_min (h : Web p r) (hs : ∀ q ∈ r, rfar p q < 99) (h8 : (srt p).length ≤ 8) {s t : Spot} {q o : Str × Str × Bool} (ha : On p r s q) (hb : On p r t o) (hF : ∀ T, Sp.Dist (dirs p r) (srt p) T → lb p r T s t < Sp.FAR) (G : GH) :
    Post (m_way [wD p r, spD s, spD t] G) fun d G1 => G1 = G ∧ ∃ T xs, Sp.Dist (dirs p r) (srt p) T ∧ d = rowD xs ∧ WayM p r T q o s t xs := by
  have hr := web_rds h
  unfold m_way b_way
  refine p_def rfl ?_
  bv_omega
  refine Post.of_eq (lookboth_ok h ⟨q, ha⟩ ⟨o, hb⟩ G) ?_
  bv_omega
  refine (lengths_ok hr G).mono fun d G1 hd => ?_
  obtain ⟨rfl, kvs, T, rfl, hT, hD⟩ := hd
  have hf := hF T hD
  have hFF : Sp.FAR = 1000000000 := rfl
  bv_omega
  refine Post.of_eq (lengthby_val hr hT ⟨q, ha⟩ ⟨o, hb⟩ G1) ?_
  bv_omega
  rw [decide_eq_false (show ¬ (1000000000 : Int) ≤ lb p r T s t by omega)]
  bv_omega
  refine (wayby_min hr hs hD h8 hT ha hb hf G1).mono fun d2 G2 h2 => ?_
  obtain ⟨rfl, xs, rfl, hw⟩ := h2
  exact ⟨rfl, T, xs, hD, rfl, hw⟩
theorem way_no (h : Web p r) {s t : Spot} (ha : SpOk p r s) (hb : SpOk p r t) (hF : ∀ T, Sp.Dist (dirs p r) (srt p) T → ¬ lb p r T s t < Sp.FAR) (G : GH) : m_way [wD p r, spD s, spD t] G = .ex "NoWay" G := by
  have hr := web_rds h
  have hFF : Sp.FAR = 1000000000 := rfl
  refine ex_of ?_
  unfold m_way b_way
  refine e_def rfl ?_
  bv_omega
  refine Post.of_eq (lookboth_ok h ha hb G) ?_
  bv_omega
  refine (lengths_ok hr G).mono fun d G1 hd => ?_
  obtain ⟨rfl, kvs, T, rfl, hT, hD⟩ := hd
  have hf := hF T hD
  bv_omega
  refine Post.of_eq (lengthby_val hr hT ha hb G1) ?_
  bv_omega
  rw [decide_eq_true (show (1000000000 : Int) ≤ lb p r T s t by omega)]
  bv_omega
  exact ⟨rfl, rfl⟩
/-! ### the law's own ends -/
def cmR (q : Sp.Rd Str) (f : Int) : List (Str × Int) := (if q.ow = false ∨ f = q.lg then [(q.b, q.lg - f)] else []) ++ [(q.a, f)]
theorem mem_cmR {q : Sp.Rd Str} {f : Int} {x : Str × Int} : x ∈ cmR q f ↔ x ∈ Sp.cm q f := by
  unfold cmR Sp.cm
  split <;> simp [or_comm]
theorem ends_lv (hr : RdsOk p r) {a : Spot} {q : Str × Str × Bool} (ha : On p r a q) (G : GH) : m__law_ends [wD p r, spD a, .bl true] G = .ok (.lst ((Sp.lv (rdR p q) a.2).map endD)) G := by
  have hat := rd_at ha.1
  refine post_ok ?_
  unfold m__law_ends b__law_ends wD spD
  refine p_def rfl ?_
  refine p_seq (p_asgT ?_)
  bv_omega
  refine ⟨rfl, ?_⟩
  bv_omega
  refine Post.of_eq (lawlong_val hr ha.1 G) ?_
  bv_omega
  refine p_own ?_
  bv_omega
  refine ⟨by show 4 < 8; decide, ?_⟩
  bv_omega
  refine p_appO rfl ?_
  bv_omega
  refine ⟨by show 0 < 100000; decide, ?_⟩
  dsimp only
  refine p_seq (p_if ?_)
  refine Post.mono (P := fun k G1 => G1 = G ∧ k = decide (q.2.2 = false ∨ a.2 = 0)) ?_ fun k G1 ⟨e, e2⟩ => ?_
  · bv_omega
    refine ite_same (fun e => ⟨rfl, ?_⟩) fun e => ?_
    · have : q.2.2 = false := by simpa using e
      simp [this]
    · bv_omega
      refine ⟨rfl, ?_⟩
      have : q.2.2 = true := by simpa using e
      simp [this]
  subst e
  refine ite_same (fun e => ?_) fun e => ?_
  · rw [e2] at e
    have e' : q.2.2 = false ∨ a.2 = 0 := by simpa using e
    refine p_appO rfl ?_
    bv_omega
    refine ⟨by show 1 < 100000; decide, ?_⟩
    dsimp only
    refine p_frz rfl ?_
    bv_omega
    refine ⟨?_, rfl⟩
    unfold Sp.lv
    rw [if_pos (show (rdR p q).ow = false ∨ a.2 = 0 from e')]
    rfl
  · rw [e2] at e
    have e' : ¬ (q.2.2 = false ∨ a.2 = 0) := by simpa using e
    refine p_next ?_
    dsimp only
    refine p_frz rfl ?_
    bv_omega
    refine ⟨?_, rfl⟩
    unfold Sp.lv
    rw [if_neg (show ¬ ((rdR p q).ow = false ∨ a.2 = 0) from e')]
    rfl
theorem ends_cm (hr : RdsOk p r) {a : Spot} {q : Str × Str × Bool} (ha : On p r a q) (G : GH) : m__law_ends [wD p r, spD a, .bl false] G = .ok (.lst ((cmR (rdR p q) a.2).map endD)) G := by
  have hat := rd_at ha.1
  refine post_ok ?_
  unfold m__law_ends b__law_ends wD spD
  refine p_def rfl ?_
  refine p_seq (p_asgT ?_)
  bv_omega
  refine ⟨rfl, ?_⟩
  bv_omega
  refine Post.of_eq (lawlong_val hr ha.1 G) ?_
  bv_omega
  refine p_own ?_
  array_mem_dec
  refine ⟨by show 4 < 8; decide, ?_⟩
  dsimp only
  refine p_seq (p_if ?_)
  refine Post.mono (P := fun k G1 => G1 = G ∧ k = decide (q.2.2 = false ∨ a.2 = rfar p q)) ?_ fun k G1 ⟨e, e2⟩ => ?_
  · bv_omega
    refine ite_same (fun e => ⟨rfl, ?_⟩) fun e => ?_
    · have : q.2.2 = false := by simpa using e
      simp [this]
    · bv_omega
      refine ⟨rfl, ?_⟩
      have : q.2.2 = true := by simpa using e
      simp [this]
  subst e
  refine ite_same (fun e => ?_) fun e => ?_
  · rw [e2] at e
    have e' : q.2.2 = false ∨ a.2 = rfar p q := by simpa using e
    refine p_appO rfl ?_
    bv_omega
    refine ⟨by show 0 < 100000; decide, ?_⟩
    dsimp only
    bv_omega
    refine p_appO rfl ?_
    bv_omega
    refine ⟨by show 1 < 100000; decide, ?_⟩
    dsimp only
    refine p_frz rfl ?_
    bv_omega
    refine ⟨?_, rfl⟩
    unfold cmR
    rw [if_pos (show (rdR p q).ow = false ∨ a.2 = (rdR p q).lg from e')]
    rfl
  · rw [e2] at e
    have e' : ¬ (q.2.2 = false ∨ a.2 = rfar p q) := by simpa using e
    refine p_next ?_
    dsimp only
    bv_omega
    refine p_appO rfl ?_
    bv_omega
    refine ⟨by show 0 < 100000; decide, ?_⟩
    dsimp only
    refine p_frz rfl ?_
    bv_omega
    refine ⟨?_, rfl⟩
    unfold cmR
    rw [if_neg (show ¬ ((rdR p q).ow = false ∨ a.2 = (rdR p q).lg) from e')]
    rfl
end
end K10

set_option Elab.async false
set_option linter.all false
set_option maxRecDepth 100000
set_option maxHeartbeats 1000000
/-! The plain law of k10: the law's own way. -/
namespace K10
open PySem Gh
section
variable {p : Pls} {r : Rds} {T : Str → Str → Int}
theorem gt_of (hr : RdsOk p r) (hs : ∀ q ∈ r, rfar p q < 99) (hD : Sp.Dist (dirs p r) (srt p) T) {kvs : List (List L2.Key × D)} {g : Str → Str → Int} (hL : Tb.Least p r kvs g) : GT p kvs T g :=
  ⟨hL.bt.val, hL.bi.gm, fun a ha b hb => Sp.fix_eq hD (dirs_in hr hs) (srt_len hr.pl) hL.bi.g0 (fun x y w he c hc => hL.fx _ he c hc) hL.bi.gs hL.bi.gm ha hb⟩
def envY (p : Pls) (r : Rds) (s t : Spot) (L : Int) (F : List (List Str)) (kvs : List (List L2.Key × D)) (x6 x7 x8 x9 : Option SV) : En := [some (.v (.tup [.dic (plD p), .lst (rdD r)])), some (.v (spD s)), some (.v (spD t)), some (.v (.int L)), some (.v (.lst (F.map rowD))), some (.v (.dit kvs)), x6, x7, x8, x9]
theorem lawway_min (hr : RdsOk p r) (hs : ∀ q ∈ r, rfar p q < 99) (hD : Sp.Dist (dirs p r) (srt p) T) (h8 : (srt p).length ≤ 8) {s t : Spot} {q o : Str × Str × Bool} (ha : On p r s q) (hb : On p r t o) (hF : lb p r T s t < Sp.FAR) (G : GH) :
    Post (m__law_way [wD p r, spD s, spD t, .int (lb p r T s t)] G) fun d G1 => G1 = G ∧ ∃ xs, d = rowD xs ∧ WayM p r T q o s t xs := by
  have hat := rd_at ha.1
  have hw : wD p r = .tup [.dic (plD p), .lst (rdD r)] := rfl
  have hsm := Sp.LB_small (web_sp hr hs hD) (on_sp ha) (on_sp hb) (by rw [← lb_eq ha hb]; exact hF)
  rw [← lb_eq ha hb] at hsm
  have h1 := ends_lv hr ha G
  have h3 := ends_cm hr hb G
  rw [hw] at h1 h3
  have h2 := lv_srt hr (List.mem_of_getElem? ha.1) (f := s.2)
  have h4 := cm_srt hr (List.mem_of_getElem? hb.1) (f := t.2)
  have h5 : ∀ x ∈ Sp.lv (rdR p q) s.2, 0 ≤ x.2 := fun x hx => (Sp.lv_nn (on_sp ha) hx).1
  have h6 : ∀ y ∈ Sp.cm (rdR p o) t.2, 0 ≤ y.2 := fun y hy => (Sp.cm_nn (on_sp hb) hy).1
  have h7 : (Sp.lv (rdR p q) s.2).length ≤ 2 := by unfold Sp.lv; split <;> simp
  have h8' : (cmR (rdR p o) t.2).length ≤ 2 := by unfold cmR; split <;> simp
  have hor := Sp.LB_or (T := T) (rdR p q) (rdR p o) s t
  rw [← lb_eq ha hb] at hor
  have hst : Sp.strt (rdR p q) s t = if s.1 ≠ t.1 ∨ (t.2 < s.2 ∧ q.2.2 = true) then Sp.FAR else Sp.absI (t.2 - s.2) := rfl
  have hmc : ∀ y, y ∈ cmR (rdR p o) t.2 ↔ y ∈ Sp.cm (rdR p o) t.2 := fun y => mem_cmR
  unfold WayM
  generalize lb p r T s t = L at hor hF hsm ⊢
  generalize Sp.strt (rdR p q) s t = L0 at hst hor ⊢
  generalize Sp.lv (rdR p q) s.2 = la at h1 h2 h5 h7 hor ⊢
  generalize Sp.cm (rdR p o) t.2 = lc at hmc h4 h6 hor ⊢
  generalize cmR (rdR p o) t.2 = lr at h3 hmc h8'
  have hFF : Sp.FAR = 1000000000 := rfl
  unfold m__law_way b__law_way
  rw [hw]
  refine p_def rfl ?_
  refine p_seq (p_if ?_)
  refine Post.mono (P := fun c G1 => G1 = G ∧ c = decide (L0 = L)) ?_ fun c G1 ⟨e, e2⟩ => ?_
  · unfold spD
    bv_omega
    refine ite_same (fun e => ?_) fun e => ?_
    · have e : s.1 = t.1 := by have : (s.1 : Int) = (t.1 : Int) := of_decide_eq_true e; omega
      refine p_And (p_Or ?_)
      bv_omega
      refine ite_same (fun e2 => ?_) fun e2 => ?_
      · have e2 : s.2 ≤ t.2 := of_decide_eq_true e2
        refine p_ifT rfl ?_
        bv_omega
        refine ⟨rfl, ?_⟩
        rw [hst, if_neg (show ¬ (s.1 ≠ t.1 ∨ (t.2 < s.2 ∧ q.2.2 = true)) from fun z => z.elim (fun k => k e) fun k => by omega)]
        unfold Sp.absI
        congr 1
        apply propext
        constructor <;> intro z <;> split at z <;> split <;> omega
      · have e2 : ¬ s.2 ≤ t.2 := of_decide_eq_false e2
        bv_omega
        unfold rdD1
        bv_omega
        cases hb : q.2.2 with
        | true =>
          bv_omega
          refine ⟨rfl, ?_⟩
          rw [hst, if_pos (.inr ⟨by omega, hb⟩)]
          exact (decide_eq_false (by omega)).symm
        | false =>
          bv_omega
          refine ⟨rfl, ?_⟩
          rw [hst, if_neg (show ¬ (s.1 ≠ t.1 ∨ (t.2 < s.2 ∧ q.2.2 = true)) from fun z => z.elim (fun k => k e) fun k => by rw [hb] at k; cases k.2)]
          unfold Sp.absI
          congr 1
          apply propext
          constructor <;> intro z <;> split at z <;> split <;> omega
    · have e : ¬ s.1 = t.1 := fun z => of_decide_eq_false e (by rw [z])
      refine ⟨rfl, ?_⟩
      rw [hst, if_pos (.inl e)]
      exact (decide_eq_false (by omega)).symm
  subst e
  refine ite_same (fun e => ?_) fun e => ?_
  · rw [e2] at e
    bv_omega
    exact ⟨rfl, [], rfl, .inl ⟨rfl, of_decide_eq_true e⟩⟩
  rw [e2] at e
  have e : ¬ L0 = L := of_decide_eq_false e
  refine p_next ?_
  dsimp only
  bv_omega
  refine (Tb.table_ok hr G1).mono fun d G2 hd => ?_
  obtain ⟨rfl, kvs, g, rfl, hLe⟩ := hd
  have hG := gt_of hr hs hD hLe
  bv_omega
  refine Post.of_eq h1 ?_
  refine .inl ⟨_, rfl, ?_⟩
  refine p_forL (fun k ρ G3 => G3 = G2 ∧ ∃ (F : List (List Str)) (x6 x7 x8 x9 : Option SV), ρ = envY p r s t L F kvs x6 x7 x8 x9 ∧ (∀ z ∈ F, ∃ x ∈ la, ∃ y ∈ lc, x.2 + T x.1 y.1 + y.2 = L ∧ z ∈ rows p r T y.1 8 x.1) ∧ (∀ x ∈ la.take k, ∀ y ∈ lc, x.2 + T x.1 y.1 + y.2 = L → ∀ z ∈ rows p r T y.1 8 x.1, z ∈ F) ∧ F.length ≤ 10080 * k) (n := 0) ⟨rfl, [], _, _, _, _, rfl, by simp, by simp, by simp⟩ ?_ ?_
  · intro k d ρ1 G3 hk i1
    obtain ⟨rfl, F, x6, x7, x8, x9, rfl, r1, r2, r3⟩ := i1
    rw [Nat.zero_add] at *
    rw [List.getElem?_map] at hk
    obtain ⟨x, hx, rfl⟩ := Option.map_eq_some_iff.mp hk
    have hkl : k < la.length := (List.getElem?_eq_some_iff.mp hx).1
    have hxm := List.mem_of_getElem? hx
    have hxn := h2 x hxm
    unfold endD envY
    show Post (sFor _ _ _ _ _) _
    bv_omega
    refine Post.of_eq h3 ?_
    refine .inl ⟨_, rfl, ?_⟩
    refine p_forL (fun j ρ G4 => G4 = G3 ∧ ∃ (F : List (List Str)) (x8 x9 : Option SV), ρ = envY p r s t L F kvs (some (.v (.str x.1))) (some (.v (.int x.2))) x8 x9 ∧ (∀ z ∈ F, ∃ x ∈ la, ∃ y ∈ lc, x.2 + T x.1 y.1 + y.2 = L ∧ z ∈ rows p r T y.1 8 x.1) ∧ (∀ x ∈ la.take k, ∀ y ∈ lc, x.2 + T x.1 y.1 + y.2 = L → ∀ z ∈ rows p r T y.1 8 x.1, z ∈ F) ∧ (∀ y ∈ lr.take j, x.2 + T x.1 y.1 + y.2 = L → ∀ z ∈ rows p r T y.1 8 x.1, z ∈ F) ∧ F.length ≤ 10080 * k + 5040 * j) (n := 0) ⟨rfl, F, _, _, rfl, r1, r2, by simp, by omega⟩ ?_ ?_
    · intro j d ρ2 G4 hk i2
      obtain ⟨rfl, F, x8, x9, rfl, r1, r2, r3, r4⟩ := i2
      rw [Nat.zero_add] at *
      rw [List.getElem?_map] at hk
      obtain ⟨y, hy, rfl⟩ := Option.map_eq_some_iff.mp hk
      have hym := (hmc y).mp (List.mem_of_getElem? hy)
      have hyn := h4 y hym
      have hjl : j < lr.length := (List.getElem?_eq_some_iff.mp hy).1
      have hx0 := h5 x hxm
      have hy0 := h6 y hym
      have hiff : (x.2 + g x.1 y.1 + y.2 = L) ↔ (x.2 + T x.1 y.1 + y.2 = L) := by
        rcases hG.eq x.1 hxn y.1 hyn with ⟨_, h, _⟩ | ⟨h, h'⟩
        · rw [h]
        · rw [h']
          constructor <;> intro z <;> omega
      unfold envY endD
      show Post (sIf _ _ _ _ _) _
      bv_omega
      refine p_get (a := x.1) (b := y.1) (kvs := kvs) (z := .int 1000000) ⟨rfl, rfl⟩ ?_ ?_ ?_
      · bv_omega
        exact ⟨rfl, rfl⟩
      · bv_omega
        refine pow_ok ⟨by decide, by decide, by decide⟩ ?_
        exact ⟨rfl, rfl⟩
      rw [hG.get]
      bv_omega
      refine ite_same (fun e2 => ?_) fun e2 => ?_
      · have e2 : x.2 + T x.1 y.1 + y.2 = L := hiff.mp (of_decide_eq_true e2)
        have hRl := Nat.le_trans (rows_lenR (T := T) (goal := y.1) hr hs 8 x.1) (fac_mono (rank_le7 (T := T) (goal := y.1) h8 hxn))
        rw [show fac 7 = 5040 from rfl] at hRl
        bv_omega
        refine Post.of_eq (rows8 hr hs hD hyn hG x.1 hxn (by omega) (Nat.le_trans (rank_le7 h8 hxn) (by decide)) G4) ?_
        refine addX_ok (by rw [List.length_map, List.length_map]; omega) ?_
        rw [← List.map_append]
        refine ⟨rfl, F ++ rows p r T y.1 8 x.1, some (.v (.str y.1)), some (.v (.int y.2)), rfl, ?_, ?_, ?_, by rw [List.length_append]; omega⟩
        · intro z hz
          rcases List.mem_append.mp hz with h | h
          · exact r1 z h
          · exact ⟨x, hxm, y, hym, e2, h⟩
        · exact fun x' hx' y' hy' h' z hz => List.mem_append.mpr (.inl (r2 x' hx' y' hy' h' z hz))
        · intro y' hy' h' z hz
          rw [List.take_add_one, hy] at hy'
          rcases List.mem_append.mp hy' with h | h
          · exact List.mem_append.mpr (.inl (r3 y' h h' z hz))
          · simp at h
            rw [h] at hz
            exact List.mem_append.mpr (.inr hz)
      · have e2 : ¬ x.2 + T x.1 y.1 + y.2 = L := fun z => of_decide_eq_false e2 (hiff.mpr z)
        refine p_next ?_
        refine ⟨rfl, F, _, _, rfl, r1, r2, ?_, by omega⟩
        intro y' hy' h'
        rw [List.take_add_one, hy] at hy'
        rcases List.mem_append.mp hy' with h | h
        · exact r3 y' h h'
        · simp at h
          rw [h] at h'
          exact (e2 h').elim
    · intro ρ2 G4 i2
      obtain ⟨rfl, F, x8, x9, rfl, r1, r2, r3, r4⟩ := i2
      rw [Nat.zero_add, List.length_map] at *
      rw [List.take_length] at r3
      refine ⟨rfl, F, _, _, _, _, rfl, r1, ?_, by omega⟩
      intro x' hx' y' hy' h' z hz
      rw [List.take_add_one, hx] at hx'
      rcases List.mem_append.mp hx' with h | h
      · exact r2 x' h y' hy' h' z hz
      · simp at h
        rw [h] at h' hz
        exact r3 y' ((hmc y').mpr hy') h' z hz
  · intro ρ1 G3 i1
    obtain ⟨rfl, F, x6, x7, x8, x9, rfl, r1, r2, r3⟩ := i1
    rw [Nat.zero_add, List.length_map, List.take_length] at *
    have hne : F ≠ [] := by
      rcases hor with h | ⟨x, hx, y, hy, h⟩
      · exact (e h.symm).elim
      · intro z
        have hx0 := h5 x hx
        have hy0 := h6 y hy
        have := r2 x hx y hy h.symm _ (rows_first hr hs hD (h4 y hy) 8 x.1 (h2 x hx) (by omega) (Nat.le_trans (rank_le7 h8 (h2 x hx)) (by decide))).1
        rw [z] at this
        cases this
    dsimp only
    unfold envY
    bv_omega
    refine minLM_ok hne fun xs hxs hle => ?_
    exact ⟨rfl, xs, rfl, .inr ⟨e, r1 xs hxs, fun x hx y hy h z hz => hle z (r2 x hx y hy h z hz)⟩⟩
end
end K10

set_option Elab.async false
set_option linter.all false
set_option maxRecDepth 100000
set_option maxHeartbeats 2000000
/-! The plain law of k10: the law. -/
namespace K10
open PySem Gh
theorem lenD_i {x : Int} (h : x < Sp.FAR) : lenD x = .int x := by unfold lenD; rw [if_pos h]
theorem lenD_n {x : Int} (h : ¬ x < Sp.FAR) : lenD x = .non := by unfold lenD; rw [if_neg h]
theorem pn_len (x : Int) : pn 60 (lenD x) = true := by
  unfold lenD
  split <;> simp [pn]
theorem pn_row {p : Pls} (hp : PlOk p) {xs : List Str} (h : ∀ x ∈ xs, x ∈ srt p) (n : Nat) : pn (n + 1) (rowD xs) = true := by
  show pnL n (xs.map D.str) = true
  refine pnL_map xs fun x hx => ?_
  have := srt_ok hp (h x hx)
  cases n <;> simpa [pn] using this
section
variable {p : Pls} {r : Rds} {T : Str → Str → Int} {goal : Str}
theorem rows_srt (hr : RdsOk p r) (hs : ∀ q ∈ r, rfar p q < 99) : ∀ (d : Nat) (here : Str), here ∈ srt p → ∀ z ∈ rows p r T goal d here, ∀ x ∈ z, x ∈ srt p
  | 0, here, hh, z, hz, x, hx => by
    unfold rows at hz
    split at hz
    · rw [List.mem_singleton.mp hz] at hx
      rw [List.mem_singleton.mp hx]
      exact hh
    · cases hz
  | d + 1, here, hh, z, hz, x, hx => by
    unfold rows at hz
    split at hz
    · rw [List.mem_singleton.mp hz] at hx
      rw [List.mem_singleton.mp hx]
      exact hh
    · obtain ⟨y, hy, hz⟩ := List.mem_flatMap.mp hz
      obtain ⟨z', hz', rfl⟩ := List.mem_map.mp hz
      rcases List.mem_cons.mp hx with e | e
      · rw [e]; exact hh
      · exact rows_srt hr hs d y (nxt_in hr hs hy).1 z' hz' x e
theorem wayM_srt (hr : RdsOk p r) (hs : ∀ q ∈ r, rfar p q < 99) {q o : Str × Str × Bool} {s t : Spot} (ha : On p r s q) {xs : List Str} (h : WayM p r T q o s t xs) : ∀ x ∈ xs, x ∈ srt p := by
  rcases h with ⟨rfl, _⟩ | ⟨_, ⟨x, hx, y, hy, _, hm⟩, _⟩
  · intro x hx; cases hx
  · exact rows_srt hr hs 8 x.1 (lv_srt hr (List.mem_of_getElem? ha.1) x hx) xs hm
theorem mulN_ok {xs : List D} {G : GH} {P : D → GH → Prop} (h : xs.length ≤ 2000) (q : P (.lst (xs ++ xs)) G) : Post (oMul (.lst xs) (.int 2) G) P := by
  unfold oMul
  simp only [view]
  have h2 : xs.length * (2 : Int).toNat ≤ LIM := Nat.le_trans (show xs.length * 2 ≤ 4000 by omega) (by decide)
  rw [if_pos ⟨inRg_iff.mpr (by decide), h2⟩]
  have e : (List.replicate (2 : Int).toNat xs).flatten = xs ++ xs := by
    show xs ++ (xs ++ []) = xs ++ xs
    rw [List.append_nil]
  rw [e]
  exact q
theorem steps_set {kvs : List (List L2.Key × D)} {G : GH} {x : Cell} (h : StepsAt p r kvs G) : StepsAt p r kvs (G.set 0 x) := by
  refine ⟨fun u hu => ?_⟩
  obtain ⟨d, es, h1, h2, h3⟩ := h.at' u hu
  refine ⟨d, es, h1, ?_, h3⟩
  rcases h2 with e | ⟨k, k0, e, hk⟩
  · exact .inl e
  · exact .inr ⟨k, k0, e, by rw [List.getElem?_set_ne (fun z => k0 z.symm)]; exact hk⟩
noncomputable def bodyL : SF := (sSeq (sAsg (mCall m__law_pick (mCons (mVar 0) (mCons (mVar 1) (mCons (mVar 3) mNil)))) (gN 6))
  (sSeq (sAsg (mCall m__law_pick (mCons (mVar 0) (mCons (mVar 1) (mCons (mOp oAdd (mVarO 3) (mOp oMul (mFz (fComp (mComp (mIter (mVar 3)) (gN 10) (mB (mOp oEq (mOp oIx (mVarO 10) (mC (.int 0))) (mOp oIx (mVarO 6) (mC (.int 0))))) (mTup (mCons (mOp oIx (mVarO 10) (mC (.int 0))) (mCons (mOp oIx (mVarO 10) (mC (.int 1))) mNil))) [10]))) (mC (.int 2)))) mNil)))) (gN 7))
  (sSeq (sAsg (mGet (mCall m__law_far (mCons (mVar 4) (mCons (mVar 6) mNil))) (mVar 7) (mC .non)) (gN 8))
  (sSeq (sIf (mB (mOp oNe (mCall m_length (mCons (mVar 2) (mCons (mVar 6) (mCons (mVar 7) mNil)))) (mVarO 8)))
  (sRet (mC (.bl false)))
  sNext)
  (sSeq (sAsg (mCall m__law_told (mCons (mVar 2) (mCons (mVar 6) (mCons (mVar 7) mNil)))) (gN 9))
  (sIf (mB (mOp oIs (mVarO 8) (mC .non)))
  (sIf (mB (mOp oNe (mVarO 9) (mTup (mCons (mC (.str "refused")) (mCons (mC (.str "way")) mNil)))))
  (sRet (mC (.bl false)))
  sNext)
  (sIf (mB (mOp oNe (mVarO 9) (mTup (mCons (mC (.str "found")) (mCons (mCall m__law_way (mCons (mVar 2) (mCons (mVar 6) (mCons (mVar 7) (mCons (mVar 8) mNil))))) mNil)))))
  (sRet (mC (.bl false)))
  sNext)))))))
def envL (ns : List Int) (p : Pls) (r : Rds) (stp : List (List L2.Key × D)) (x5 x6 x7 x8 x9 : Option SV) : En := [some (.v (.scr ns)), some (.v (.cel 0)), some (.v (wD p r)), some (.v (.lst ((every p r).map spD))), some (.v (.dit stp)), x5, x6, x7, x8, x9, none]
theorem bodyL_ok {ns : List Int} (h : Web p r) (hs : ∀ q ∈ r, rfar p q < 99) (hE : (every p r).length ≤ 200) (h8 : (srt p).length ≤ 8) {stp : List (List L2.Key × D)} {G : GH} {n : Nat} (hT : Tw G n) (hn : n ≤ 1000) (hst : StepsAt p r stp G) {x5 x6 x7 x8 x9 : Option SV} :
    Post (bodyL (envL ns p r stp x5 x6 x7 x8 x9) G) fun fl G1 => match fl with
      | .nx ρ1 => Tw G1 (n + 2) ∧ StepsAt p r stp G1 ∧ ∃ x6 x7 x8 x9, ρ1 = envL ns p r stp x5 x6 x7 x8 x9
      | _ => False := by
  have hr := web_rds h
  have hne : every p r ≠ [] := every_ne h.lo
  have hml : ((every p r).map spD).length = (every p r).length := by simp
  have hFF : Sp.FAR = 1000000000 := rfl
  unfold bodyL envL
  bv_omega
  refine (pick_ok ns G n _ hT (by omega) (by simpa using hne)).mono fun d1 G1 ⟨⟨y1, e1⟩, t1, m1⟩ => ?_
  obtain ⟨s, hs1, rfl⟩ := List.mem_map.mp m1
  have hsp := mem_every.mp hs1
  subst e1
  have hst1 := steps_set (x := y1) hst
  generalize G.set 0 y1 = G1 at t1 hst1 ⊢
  bv_omega
  refine .inl ⟨_, rfl, lim3000 (by omega), ?_⟩
  refine p_compF (T := fun d => decide ((spOf d).1 = s.1)) (F := id) (fun d hd => post_ok ?_) (fun d hd _ => post_ok ?_) ?_
  · obtain ⟨u, hu, rfl⟩ := List.mem_map.mp hd
    rw [spOf_spD]
    unfold spD
    bv_omega
    refine ⟨?_, rfl⟩
    congr 1
    apply propext
    constructor <;> intro z <;> omega
  · obtain ⟨u, hu, rfl⟩ := List.mem_map.mp hd
    unfold spD
    bv_omega
    exact ⟨rfl, rfl⟩
  rw [List.map_id]
  refine frzL_ok ?_
  have hfl : (((every p r).map spD).filter fun d => decide ((spOf d).1 = s.1)).length ≤ 200 := Nat.le_trans (List.length_filter_le _ _) (by omega)
  have hfm : ∀ d ∈ ((every p r).map spD).filter fun d => decide ((spOf d).1 = s.1), d ∈ (every p r).map spD := fun d hd => (List.mem_filter.mp hd).1
  generalize ((every p r).map spD).filter (fun d => decide ((spOf d).1 = s.1)) = F at hfl hfm ⊢
  bv_omega
  refine mulN_ok (by omega) ?_
  refine addL_ok (by rw [List.length_append]; omega) ?_
  bv_omega
  refine (pick_ok ns G1 (n + 1) _ t1 (by omega) (by simp [hne])).mono fun d2 G2 ⟨⟨y2, e2⟩, t2, m2⟩ => ?_
  obtain ⟨t, ht, rfl⟩ : ∃ t, t ∈ every p r ∧ spD t = d2 := by
    rcases List.mem_append.mp m2 with m | m
    · exact List.mem_map.mp m
    · rcases List.mem_append.mp m with m | m <;> exact List.mem_map.mp (hfm _ m)
  have htp := mem_every.mp ht
  subst e2
  have hst2 := steps_set (x := y2) hst1
  generalize G1.set 0 y2 = G2 at t2 hst2 ⊢
  obtain ⟨d5, G5, _, _, kvs0, T0, _, _, hD0⟩ := (lengths_ok hr G2).eq
  obtain ⟨d3, G3, e3, g3, kvs, v3, hfar⟩ := (far_ok hr hs hE hsp hst2).eq
  subst g3; subst v3
  have hv : (valD kvs (kS t.1 t.2)).getD .non = lenD (lb p r T0 s t) := by
    have := hfar T0 hD0 t htp
    rw [show valD kvs (kS t.1 t.2) = _ from this]
    unfold lenD
    by_cases e : lb p r T0 s t < Sp.FAR
    · rw [if_pos e, if_pos e]; rfl
    · rw [if_neg e, if_neg e]; rfl
  obtain ⟨d4, G4, e4, g4, T4, hD4, v4⟩ := (length_val h hsp htp G3).eq
  subst g4; subst v4
  rw [lb_uniq hr hs hD4 hD0 hsp htp] at e4
  bv_omega
  refine p_getS (a := t.1) (b := t.2) (kvs := kvs) (z := .non) ?_ ⟨rfl, rfl⟩ ⟨rfl, rfl⟩ ?_
  · bv_omega
    exact Post.of_eq e3 ⟨rfl, rfl⟩
  rw [hv]
  bv_omega
  refine Post.of_eq e4 ?_
  bv_omega
  refine neP_ok (pn_len _) ?_
  bv_omega
  by_cases hF : lb p r T0 s t < Sp.FAR
  · obtain ⟨q, ha⟩ := hsp
    obtain ⟨o, hb⟩ := htp
    obtain ⟨d6, G6, e6, g6, T6, xs, hD6, v6, hw⟩ := (way_min h hs h8 ha hb (fun T hD => by rw [lb_uniq hr hs hD hD0 ⟨q, ha⟩ ⟨o, hb⟩]; exact hF) G4).eq
    subst g6; subst v6
    have hu := lb_uniq hr hs hD6 hD0 ⟨q, ha⟩ ⟨o, hb⟩
    have hll := lawway_min hr hs hD6 h8 ha hb (by rw [hu]; exact hF) G6
    rw [hu] at hll
    obtain ⟨d7, G7, e7, g7, ys, v7, hw'⟩ := hll.eq
    subst g7; subst v7
    rw [← way_uniq hw hw'] at e7
    have hpn : pn 60 (.tup [.str "found", rowD xs]) = true := by
      show pnL 59 [.str "found", rowD xs] = true
      simp only [pnL, Bool.and_eq_true]
      exact ⟨by decide +kernel, pn_row hr.pl (wayM_srt hr hs ha hw) 58, trivial⟩
    rw [lenD_i hF]
    refine Post.of_eq (told_ok e6) ?_
    bv_omega
    refine Post.of_eq e7 ?_
    bv_omega
    refine neP_ok hpn ?_
    bv_omega
    exact ⟨t2, hst2, _, _, _, _, rfl⟩
  · rw [lenD_n hF]
    refine Post.of_eq (told_ex (way_no h hsp htp (fun T hD => by rw [lb_uniq hr hs hD hD0 hsp htp]; exact hF) G4)) ?_
    bv_omega
    refine neP_ok (d := .tup [.str "refused", .str "way"]) (by decide +kernel) ?_
    bv_omega
    exact ⟨t2, hst2, _, _, _, _, rfl⟩
end
theorem spots_len6 {p : Pls} {r : Rds} (hs : ∀ q ∈ r, rfar p q ≤ 6) : ∀ n, (spots p r n).length ≤ 7 * n
  | 0 => by simp [spots]
  | n + 1 => by
    rw [spots_succ, List.length_append]
    have := spots_len6 hs n
    have : (rowsS p r n).length ≤ 7 := by
      unfold rowsS
      cases hq : r[n]? with
      | none => simp
      | some q =>
        have := hs q (List.mem_of_getElem? hq)
        simp [rowS]
        omega
    omega
theorem law_post (ns : List Int) : Post (m_law [.scr ns] []) fun d _ => d = .bl true := by
  unfold m_law b_law
  refine p_def rfl ?_
  bv_omega
  refine p_cel ?_
  bv_omega
  refine (pick1 ns [.lst []] 0 _ ⟨rfl, [], rfl, rfl⟩ (by decide) (by simp)).mono fun d0 G0 ⟨t0, m0⟩ => ?_
  obtain ⟨fa, e0, hfa⟩ : ∃ fa : Int, d0 = .int fa ∧ 1 ≤ fa ∧ fa ≤ 6 := by
    simp only [List.mem_cons, List.not_mem_nil, or_false] at m0
    rcases m0 with e | e <;> exact ⟨_, e, by decide, by decide⟩
  subst e0
  bv_omega
  refine (web_ok ns (by decide) hfa G0 1 (by decide) t0).mono fun d1 G1 ⟨p, r, n, e1, hw, hnd, hp0, ht, hn, hfar⟩ => ?_
  subst e1
  rw [show webD p r = wD p r from rfl]
  have hs : ∀ q ∈ r, rfar p q < 99 := fun q hq => by have := hfar q hq; omega
  have hr := web_rds hw
  have hE : (every p r).length ≤ 200 := by
    have h1 : (every p r).length ≤ 7 * r.length := spots_len6 hfar r.length
    have := hr.len
    omega
  have h8 : (srt p).length ≤ 8 := by
    have h1 : (p.map (·.1)).length ≤ NAMES.length := List.Nodup.length_le_of_subset hnd fun x hx => by
      obtain ⟨q, hq, rfl⟩ := List.mem_map.mp hx
      exact hr.pl.nm q hq
    have h2 : (srt p).length = (p.map (·.1)).length := (sortS_perm _).length_eq
    have h3 : NAMES.length = 8 := rfl
    omega
  bv_omega
  refine Post.of_eq (lawspots_val hr hs G1) ?_
  bv_omega
  refine (next_ok hr hs (G := G1) (by rw [ht.1]; exact Nat.le_refl _)).mono fun d2 G2 ⟨hpre, hgl, stp, e2, hst⟩ => ?_
  subst e2
  have hT2 : Tw G2 n := by
    obtain ⟨ys, h1, h2⟩ := ht.2
    exact ⟨ys, by rw [hpre 0 (by rw [ht.1]; decide)]; exact h1, h2⟩
  bv_omega
  refine p_rng1 ?_
  bv_omega
  refine ⟨by decide, by decide, ?_⟩
  refine p_forL (fun k ρ G3 => Tw G3 (n + 2 * k) ∧ StepsAt p r stp G3 ∧ ∃ (x5 x6 x7 x8 x9 : Option SV), ρ = envL ns p r stp x5 x6 x7 x8 x9) (n := 0) ⟨hT2, hst, _, _, _, _, _, rfl⟩ ?_ ?_
  · intro k d ρ1 G3 hk i1
    rw [Nat.zero_add] at *
    obtain ⟨hT3, hst3, x5, x6, x7, x8, x9, rfl⟩ := i1
    have hk4 : k < 4 := by
      have := (List.getElem?_eq_some_iff.mp hk).1
      simpa [upto] using this
    refine (bodyL_ok (ns := ns) (x5 := some (.v d)) (x6 := x6) (x7 := x7) (x8 := x8) (x9 := x9) hw hs hE h8 hT3 (by omega) hst3).mono fun fl G4 h4 => ?_
    cases fl with
    | nx ρ4 =>
      obtain ⟨a1, a2, a3⟩ := h4
      obtain ⟨y6, y7, y8, y9, rfl⟩ := a3
      exact ⟨by rw [show n + 2 * (k + 1) = n + 2 * k + 2 by omega]; exact a1, a2, _, _, _, _, _, rfl⟩
    | _ => exact h4.elim
  · intro ρ1 G3 i1
    obtain ⟨hT3, hst3, x5, x6, x7, x8, x9, rfl⟩ := i1
    dsimp only
    bv_omega
    exact rfl
theorem law_true (ns : List Int) (h : ns.length ≤ 63) : ∃ G, m_law [.scr ns] [] = .ok (.bl true) G := by
  obtain ⟨a, G, e, h1⟩ := (law_post ns).eq
  exact ⟨G, by rw [e, h1]⟩
end K10

set_option Elab.async false
set_option linter.all false
set_option maxRecDepth 100000
set_option maxHeartbeats 4000000
namespace K10
open PySem L2 Gh
def spLaw (K : PySem.W.Frag) : Sp := fun vs H Q _ => ∃ (a : Addr) (ns : List Int), vs = [.ref a] ∧ SqL K H a (ns.map V.int) ∧ ns.length ≤ 63 ∧ ∀ H', Q (.bl true) H'
theorem to_law {K : PySem.W.Frag} {cl : Str → Addr} (vs : List V) (H : Hp) (Q : VK) (E : XK) (h : spLaw K vs H Q E) : spO ⟨K, cl⟩ m_law vs H Q E := by
  obtain ⟨a, ns, rfl, hs, hl, q⟩ := h
  obtain ⟨G, hG⟩ := law_true ns hl
  exact sp_script hs hG q
theorem all_mk {l : PySem.W.OpenLaw} {w : World} {K : PySem.W.Frag} {h : Heap} {mg : Str → Option Value} {fa f0 f1 f2 f3 f4 f5 f6 f7 f8 f9 f10 f11 f12 f13 f14 f15 f16 f17 f18 f19 f20 f21 f22 f23 f24 f25 f26 f27 f28 f29 f30 f31 f32 f33 f34 f35 X_BadLead X_BadNumber X_BadRules X_BadSpot X_BadText X_BadTrack X_BadWeb X_NoWay X_TrackError : Addr} (X : K.In h) (G : h.Ns mainGlobals mg) (hfa : mg "law" = some (.ref fa))
    {od0 an0 : Option Addr} {sl0 : Array (Option Value)} {oc0 kV0 dc0 pm0 cd0 ct0 : Value} {od1 an1 : Option Addr} {sl1 : Array (Option Value)} {oc1 kV1 dc1 pm1 cd1 ct1 : Value} {od2 an2 : Option Addr} {sl2 : Array (Option Value)} {oc2 kV2 dc2 pm2 cd2 ct2 : Value} {od3 an3 : Option Addr} {sl3 : Array (Option Value)} {oc3 kV3 dc3 pm3 cd3 ct3 : Value} {od4 an4 : Option Addr} {sl4 : Array (Option Value)} {oc4 kV4 dc4 pm4 cd4 ct4 : Value} {od5 an5 : Option Addr} {sl5 : Array (Option Value)} {oc5 kV5 dc5 pm5 cd5 ct5 : Value} {od6 an6 : Option Addr} {sl6 : Array (Option Value)} {oc6 kV6 dc6 pm6 cd6 ct6 : Value} {od7 an7 : Option Addr} {sl7 : Array (Option Value)} {oc7 kV7 dc7 pm7 cd7 ct7 : Value} {od8 an8 : Option Addr} {sl8 : Array (Option Value)} {oc8 kV8 dc8 pm8 cd8 ct8 : Value} {od9 an9 : Option Addr} {sl9 : Array (Option Value)} {oc9 kV9 dc9 pm9 cd9 ct9 : Value} {od10 an10 : Option Addr} {sl10 : Array (Option Value)} {oc10 kV10 dc10 pm10 cd10 ct10 : Value} {od11 an11 : Option Addr} {sl11 : Array (Option Value)} {oc11 kV11 dc11 pm11 cd11 ct11 : Value} {od12 an12 : Option Addr} {sl12 : Array (Option Value)} {oc12 kV12 dc12 pm12 cd12 ct12 : Value} {od13 an13 : Option Addr} {sl13 : Array (Option Value)} {oc13 kV13 dc13 pm13 cd13 ct13 : Value} {od14 an14 : Option Addr} {sl14 : Array (Option Value)} {oc14 kV14 dc14 pm14 cd14 ct14 : Value} {od15 an15 : Option Addr} {sl15 : Array (Option Value)} {oc15 kV15 dc15 pm15 cd15 ct15 : Value} {od16 an16 : Option Addr} {sl16 : Array (Option Value)} {oc16 kV16 dc16 pm16 cd16 ct16 : Value} {od17 an17 : Option Addr} {sl17 : Array (Option Value)} {oc17 kV17 dc17 pm17 cd17 ct17 : Value} {od18 an18 : Option Addr} {sl18 : Array (Option Value)} {oc18 kV18 dc18 pm18 cd18 ct18 : Value} {od19 an19 : Option Addr} {sl19 : Array (Option Value)} {oc19 kV19 dc19 pm19 cd19 ct19 : Value} {od20 an20 : Option Addr} {sl20 : Array (Option Value)} {oc20 kV20 dc20 pm20 cd20 ct20 : Value} {od21 an21 : Option Addr} {sl21 : Array (Option Value)} {oc21 kV21 dc21 pm21 cd21 ct21 : Value} {od22 an22 : Option Addr} {sl22 : Array (Option Value)} {oc22 kV22 dc22 pm22 cd22 ct22 : Value} {od23 an23 : Option Addr} {sl23 : Array (Option Value)} {oc23 kV23 dc23 pm23 cd23 ct23 : Value} {od24 an24 : Option Addr} {sl24 : Array (Option Value)} {oc24 kV24 dc24 pm24 cd24 ct24 : Value} {od25 an25 : Option Addr} {sl25 : Array (Option Value)} {oc25 kV25 dc25 pm25 cd25 ct25 : Value} {od26 an26 : Option Addr} {sl26 : Array (Option Value)} {oc26 kV26 dc26 pm26 cd26 ct26 : Value} {od27 an27 : Option Addr} {sl27 : Array (Option Value)} {oc27 kV27 dc27 pm27 cd27 ct27 : Value} {od28 an28 : Option Addr} {sl28 : Array (Option Value)} {oc28 kV28 dc28 pm28 cd28 ct28 : Value} {od29 an29 : Option Addr} {sl29 : Array (Option Value)} {oc29 kV29 dc29 pm29 cd29 ct29 : Value} {od30 an30 : Option Addr} {sl30 : Array (Option Value)} {oc30 kV30 dc30 pm30 cd30 ct30 : Value} {od31 an31 : Option Addr} {sl31 : Array (Option Value)} {oc31 kV31 dc31 pm31 cd31 ct31 : Value} {od32 an32 : Option Addr} {sl32 : Array (Option Value)} {oc32 kV32 dc32 pm32 cd32 ct32 : Value} {od33 an33 : Option Addr} {sl33 : Array (Option Value)} {oc33 kV33 dc33 pm33 cd33 ct33 : Value} {od34 an34 : Option Addr} {sl34 : Array (Option Value)} {oc34 kV34 dc34 pm34 cd34 ct34 : Value} {od35 an35 : Option Addr} {sl35 : Array (Option Value)} {oc35 kV35 dc35 pm35 cd35 ct35 : Value} {t_FAR : Tok} {t_MOST_AT : Tok} {t_MOST_LONG : Tok} {t_MOST_NAME : Tok} {t_MOST_PLACES : Tok} {t_MOST_ROADS : Tok} {t_SMALL : Tok}
    (a0 : PySem.W.nsIn K mainGlobals "_law_far" = some (some (.ref f0)))
    (l0 : K.lookup f0 = some ⟨oc0, od0, .func (PySem.W.fnOf "_law_far" "_law_far" (defArgs s__law_far) (defBody s__law_far) (defScope s__law_far) .none kV0 dc0 pm0 an0 cd0 ct0), sl0⟩)
    (c0 : PySem.W.codeIn K cd0 "_law_far" = true)
    (k0 : PySem.W.keepIn K (.ref f0) = true)
    (a1 : PySem.W.nsIn K mainGlobals "_law_long" = some (some (.ref f1)))
    (l1 : K.lookup f1 = some ⟨oc1, od1, .func (PySem.W.fnOf "_law_long" "_law_long" (defArgs s__law_long) (defBody s__law_long) (defScope s__law_long) .none kV1 dc1 pm1 an1 cd1 ct1), sl1⟩)
    (c1 : PySem.W.codeIn K cd1 "_law_long" = true)
    (k1 : PySem.W.keepIn K (.ref f1) = true)
    (a2 : PySem.W.nsIn K mainGlobals "_law_spots" = some (some (.ref f2)))
    (l2 : K.lookup f2 = some ⟨oc2, od2, .func (PySem.W.fnOf "_law_spots" "_law_spots" (defArgs s__law_spots) (defBody s__law_spots) (defScope s__law_spots) .none kV2 dc2 pm2 an2 cd2 ct2), sl2⟩)
    (c2 : PySem.W.codeIn K cd2 "_law_spots" = true)
    (k2 : PySem.W.keepIn K (.ref f2) = true)
    (a3 : PySem.W.nsIn K mainGlobals "_law_next" = some (some (.ref f3)))
    (l3 : K.lookup f3 = some ⟨oc3, od3, .func (PySem.W.fnOf "_law_next" "_law_next" (defArgs s__law_next) (defBody s__law_next) (defScope s__law_next) .none kV3 dc3 pm3 an3 cd3 ct3), sl3⟩)
    (c3 : PySem.W.codeIn K cd3 "_law_next" = true)
    (k3 : PySem.W.keepIn K (.ref f3) = true)
    (a4 : PySem.W.nsIn K mainGlobals "_law_cell" = some (some (.ref f4)))
    (l4 : K.lookup f4 = some ⟨oc4, od4, .func (PySem.W.fnOf "_law_cell" "_law_cell" (defArgs s__law_cell) (defBody s__law_cell) (defScope s__law_cell) .none kV4 dc4 pm4 an4 cd4 ct4), sl4⟩)
    (c4 : PySem.W.codeIn K cd4 "_law_cell" = true)
    (k4 : PySem.W.keepIn K (.ref f4) = true)
    (a5 : PySem.W.nsIn K mainGlobals "_law_mix" = some (some (.ref f5)))
    (l5 : K.lookup f5 = some ⟨oc5, od5, .func (PySem.W.fnOf "_law_mix" "_law_mix" (defArgs s__law_mix) (defBody s__law_mix) (defScope s__law_mix) .none kV5 dc5 pm5 an5 cd5 ct5), sl5⟩)
    (c5 : PySem.W.codeIn K cd5 "_law_mix" = true)
    (k5 : PySem.W.keepIn K (.ref f5) = true)
    (a6 : PySem.W.nsIn K mainGlobals "_law_draw" = some (some (.ref f6)))
    (l6 : K.lookup f6 = some ⟨oc6, od6, .func (PySem.W.fnOf "_law_draw" "_law_draw" (defArgs s__law_draw) (defBody s__law_draw) (defScope s__law_draw) .none kV6 dc6 pm6 an6 cd6 ct6), sl6⟩)
    (c6 : PySem.W.codeIn K cd6 "_law_draw" = true)
    (k6 : PySem.W.keepIn K (.ref f6) = true)
    (a7 : PySem.W.nsIn K mainGlobals "_law_pick" = some (some (.ref f7)))
    (l7 : K.lookup f7 = some ⟨oc7, od7, .func (PySem.W.fnOf "_law_pick" "_law_pick" (defArgs s__law_pick) (defBody s__law_pick) (defScope s__law_pick) .none kV7 dc7 pm7 an7 cd7 ct7), sl7⟩)
    (c7 : PySem.W.codeIn K cd7 "_law_pick" = true)
    (k7 : PySem.W.keepIn K (.ref f7) = true)
    (a8 : PySem.W.nsIn K mainGlobals "_law_refusal" = some (some (.ref f8)))
    (l8 : K.lookup f8 = some ⟨oc8, od8, .func (PySem.W.fnOf "_law_refusal" "_law_refusal" (defArgs s__law_refusal) (defBody s__law_refusal) (defScope s__law_refusal) .none kV8 dc8 pm8 an8 cd8 ct8), sl8⟩)
    (c8 : PySem.W.codeIn K cd8 "_law_refusal" = true)
    (k8 : PySem.W.keepIn K (.ref f8) = true)
    (a9 : PySem.W.nsIn K mainGlobals "long_of" = some (some (.ref f9)))
    (l9 : K.lookup f9 = some ⟨oc9, od9, .func (PySem.W.fnOf "long_of" "long_of" (defArgs s_long_of) (defBody s_long_of) (defScope s_long_of) .none kV9 dc9 pm9 an9 cd9 ct9), sl9⟩)
    (c9 : PySem.W.codeIn K cd9 "long_of" = true)
    (k9 : PySem.W.keepIn K (.ref f9) = true)
    (a10 : PySem.W.nsIn K mainGlobals "coming" = some (some (.ref f10)))
    (l10 : K.lookup f10 = some ⟨oc10, od10, .func (PySem.W.fnOf "coming" "coming" (defArgs s_coming) (defBody s_coming) (defScope s_coming) .none kV10 dc10 pm10 an10 cd10 ct10), sl10⟩)
    (c10 : PySem.W.codeIn K cd10 "coming" = true)
    (k10 : PySem.W.keepIn K (.ref f10) = true)
    (a11 : PySem.W.nsIn K mainGlobals "leaving" = some (some (.ref f11)))
    (l11 : K.lookup f11 = some ⟨oc11, od11, .func (PySem.W.fnOf "leaving" "leaving" (defArgs s_leaving) (defBody s_leaving) (defScope s_leaving) .none kV11 dc11 pm11 an11 cd11 ct11), sl11⟩)
    (c11 : PySem.W.codeIn K cd11 "leaving" = true)
    (k11 : PySem.W.keepIn K (.ref f11) = true)
    (a12 : PySem.W.nsIn K mainGlobals "straight" = some (some (.ref f12)))
    (l12 : K.lookup f12 = some ⟨oc12, od12, .func (PySem.W.fnOf "straight" "straight" (defArgs s_straight) (defBody s_straight) (defScope s_straight) .none kV12 dc12 pm12 an12 cd12 ct12), sl12⟩)
    (c12 : PySem.W.codeIn K cd12 "straight" = true)
    (k12 : PySem.W.keepIn K (.ref f12) = true)
    (a13 : PySem.W.nsIn K mainGlobals "length_by" = some (some (.ref f13)))
    (l13 : K.lookup f13 = some ⟨oc13, od13, .func (PySem.W.fnOf "length_by" "length_by" (defArgs s_length_by) (defBody s_length_by) (defScope s_length_by) .none kV13 dc13 pm13 an13 cd13 ct13), sl13⟩)
    (c13 : PySem.W.codeIn K cd13 "length_by" = true)
    (k13 : PySem.W.keepIn K (.ref f13) = true)
    (a14 : PySem.W.nsIn K mainGlobals "lengths" = some (some (.ref f14)))
    (l14 : K.lookup f14 = some ⟨oc14, od14, .func (PySem.W.fnOf "lengths" "lengths" (defArgs s_lengths) (defBody s_lengths) (defScope s_lengths) .none kV14 dc14 pm14 an14 cd14 ct14), sl14⟩)
    (c14 : PySem.W.codeIn K cd14 "lengths" = true)
    (k14 : PySem.W.keepIn K (.ref f14) = true)
    (a15 : PySem.W.nsIn K mainGlobals "is_whole" = some (some (.ref f15)))
    (l15 : K.lookup f15 = some ⟨oc15, od15, .func (PySem.W.fnOf "is_whole" "is_whole" (defArgs s_is_whole) (defBody s_is_whole) (defScope s_is_whole) .none kV15 dc15 pm15 an15 cd15 ct15), sl15⟩)
    (c15 : PySem.W.codeIn K cd15 "is_whole" = true)
    (k15 : PySem.W.keepIn K (.ref f15) = true)
    (a16 : PySem.W.nsIn K mainGlobals "is_spot" = some (some (.ref f16)))
    (l16 : K.lookup f16 = some ⟨oc16, od16, .func (PySem.W.fnOf "is_spot" "is_spot" (defArgs s_is_spot) (defBody s_is_spot) (defScope s_is_spot) .none kV16 dc16 pm16 an16 cd16 ct16), sl16⟩)
    (c16 : PySem.W.codeIn K cd16 "is_spot" = true)
    (k16 : PySem.W.keepIn K (.ref f16) = true)
    (a17 : PySem.W.nsIn K mainGlobals "look_spot" = some (some (.ref f17)))
    (l17 : K.lookup f17 = some ⟨oc17, od17, .func (PySem.W.fnOf "look_spot" "look_spot" (defArgs s_look_spot) (defBody s_look_spot) (defScope s_look_spot) .none kV17 dc17 pm17 an17 cd17 ct17), sl17⟩)
    (c17 : PySem.W.codeIn K cd17 "look_spot" = true)
    (k17 : PySem.W.keepIn K (.ref f17) = true)
    (a18 : PySem.W.nsIn K mainGlobals "is_name" = some (some (.ref f18)))
    (l18 : K.lookup f18 = some ⟨oc18, od18, .func (PySem.W.fnOf "is_name" "is_name" (defArgs s_is_name) (defBody s_is_name) (defScope s_is_name) .none kV18 dc18 pm18 an18 cd18 ct18), sl18⟩)
    (c18 : PySem.W.codeIn K cd18 "is_name" = true)
    (k18 : PySem.W.keepIn K (.ref f18) = true)
    (a19 : PySem.W.nsIn K mainGlobals "is_point" = some (some (.ref f19)))
    (l19 : K.lookup f19 = some ⟨oc19, od19, .func (PySem.W.fnOf "is_point" "is_point" (defArgs s_is_point) (defBody s_is_point) (defScope s_is_point) .none kV19 dc19 pm19 an19 cd19 ct19), sl19⟩)
    (c19 : PySem.W.codeIn K cd19 "is_point" = true)
    (k19 : PySem.W.keepIn K (.ref f19) = true)
    (a20 : PySem.W.nsIn K mainGlobals "are_places" = some (some (.ref f20)))
    (l20 : K.lookup f20 = some ⟨oc20, od20, .func (PySem.W.fnOf "are_places" "are_places" (defArgs s_are_places) (defBody s_are_places) (defScope s_are_places) .none kV20 dc20 pm20 an20 cd20 ct20), sl20⟩)
    (c20 : PySem.W.codeIn K cd20 "are_places" = true)
    (k20 : PySem.W.keepIn K (.ref f20) = true)
    (a21 : PySem.W.nsIn K mainGlobals "is_road" = some (some (.ref f21)))
    (l21 : K.lookup f21 = some ⟨oc21, od21, .func (PySem.W.fnOf "is_road" "is_road" (defArgs s_is_road) (defBody s_is_road) (defScope s_is_road) .none kV21 dc21 pm21 an21 cd21 ct21), sl21⟩)
    (c21 : PySem.W.codeIn K cd21 "is_road" = true)
    (k21 : PySem.W.keepIn K (.ref f21) = true)
    (a22 : PySem.W.nsIn K mainGlobals "look_web" = some (some (.ref f22)))
    (l22 : K.lookup f22 = some ⟨oc22, od22, .func (PySem.W.fnOf "look_web" "look_web" (defArgs s_look_web) (defBody s_look_web) (defScope s_look_web) .none kV22 dc22 pm22 an22 cd22 ct22), sl22⟩)
    (c22 : PySem.W.codeIn K cd22 "look_web" = true)
    (k22 : PySem.W.keepIn K (.ref f22) = true)
    (a23 : PySem.W.nsIn K mainGlobals "look_both" = some (some (.ref f23)))
    (l23 : K.lookup f23 = some ⟨oc23, od23, .func (PySem.W.fnOf "look_both" "look_both" (defArgs s_look_both) (defBody s_look_both) (defScope s_look_both) .none kV23 dc23 pm23 an23 cd23 ct23), sl23⟩)
    (c23 : PySem.W.codeIn K cd23 "look_both" = true)
    (k23 : PySem.W.keepIn K (.ref f23) = true)
    (a24 : PySem.W.nsIn K mainGlobals "steps_from" = some (some (.ref f24)))
    (l24 : K.lookup f24 = some ⟨oc24, od24, .func (PySem.W.fnOf "steps_from" "steps_from" (defArgs s_steps_from) (defBody s_steps_from) (defScope s_steps_from) .none kV24 dc24 pm24 an24 cd24 ct24), sl24⟩)
    (c24 : PySem.W.codeIn K cd24 "steps_from" = true)
    (k24 : PySem.W.keepIn K (.ref f24) = true)
    (a25 : PySem.W.nsIn K mainGlobals "places_between" = some (some (.ref f25)))
    (l25 : K.lookup f25 = some ⟨oc25, od25, .func (PySem.W.fnOf "places_between" "places_between" (defArgs s_places_between) (defBody s_places_between) (defScope s_places_between) .none kV25 dc25 pm25 an25 cd25 ct25), sl25⟩)
    (c25 : PySem.W.codeIn K cd25 "places_between" = true)
    (k25 : PySem.W.keepIn K (.ref f25) = true)
    (a26 : PySem.W.nsIn K mainGlobals "way_by" = some (some (.ref f26)))
    (l26 : K.lookup f26 = some ⟨oc26, od26, .func (PySem.W.fnOf "way_by" "way_by" (defArgs s_way_by) (defBody s_way_by) (defScope s_way_by) .none kV26 dc26 pm26 an26 cd26 ct26), sl26⟩)
    (c26 : PySem.W.codeIn K cd26 "way_by" = true)
    (k26 : PySem.W.keepIn K (.ref f26) = true)
    (a27 : PySem.W.nsIn K mainGlobals "way" = some (some (.ref f27)))
    (l27 : K.lookup f27 = some ⟨oc27, od27, .func (PySem.W.fnOf "way" "way" (defArgs s_way) (defBody s_way) (defScope s_way) .none kV27 dc27 pm27 an27 cd27 ct27), sl27⟩)
    (c27 : PySem.W.codeIn K cd27 "way" = true)
    (k27 : PySem.W.keepIn K (.ref f27) = true)
    (a28 : PySem.W.nsIn K mainGlobals "_law_told" = some (some (.ref f28)))
    (l28 : K.lookup f28 = some ⟨oc28, od28, .func (PySem.W.fnOf "_law_told" "_law_told" (defArgs s__law_told) (defBody s__law_told) (defScope s__law_told) .none kV28 dc28 pm28 an28 cd28 ct28), sl28⟩)
    (c28 : PySem.W.codeIn K cd28 "_law_told" = true)
    (k28 : PySem.W.keepIn K (.ref f28) = true)
    (a29 : PySem.W.nsIn K mainGlobals "_law_rows" = some (some (.ref f29)))
    (l29 : K.lookup f29 = some ⟨oc29, od29, .func (PySem.W.fnOf "_law_rows" "_law_rows" (defArgs s__law_rows) (defBody s__law_rows) (defScope s__law_rows) .none kV29 dc29 pm29 an29 cd29 ct29), sl29⟩)
    (c29 : PySem.W.codeIn K cd29 "_law_rows" = true)
    (k29 : PySem.W.keepIn K (.ref f29) = true)
    (a30 : PySem.W.nsIn K mainGlobals "_law_ends" = some (some (.ref f30)))
    (l30 : K.lookup f30 = some ⟨oc30, od30, .func (PySem.W.fnOf "_law_ends" "_law_ends" (defArgs s__law_ends) (defBody s__law_ends) (defScope s__law_ends) .none kV30 dc30 pm30 an30 cd30 ct30), sl30⟩)
    (c30 : PySem.W.codeIn K cd30 "_law_ends" = true)
    (k30 : PySem.W.keepIn K (.ref f30) = true)
    (a31 : PySem.W.nsIn K mainGlobals "_law_table" = some (some (.ref f31)))
    (l31 : K.lookup f31 = some ⟨oc31, od31, .func (PySem.W.fnOf "_law_table" "_law_table" (defArgs s__law_table) (defBody s__law_table) (defScope s__law_table) .none kV31 dc31 pm31 an31 cd31 ct31), sl31⟩)
    (c31 : PySem.W.codeIn K cd31 "_law_table" = true)
    (k31 : PySem.W.keepIn K (.ref f31) = true)
    (a32 : PySem.W.nsIn K mainGlobals "_law_way" = some (some (.ref f32)))
    (l32 : K.lookup f32 = some ⟨oc32, od32, .func (PySem.W.fnOf "_law_way" "_law_way" (defArgs s__law_way) (defBody s__law_way) (defScope s__law_way) .none kV32 dc32 pm32 an32 cd32 ct32), sl32⟩)
    (c32 : PySem.W.codeIn K cd32 "_law_way" = true)
    (k32 : PySem.W.keepIn K (.ref f32) = true)
    (a33 : PySem.W.nsIn K mainGlobals "_law_web" = some (some (.ref f33)))
    (l33 : K.lookup f33 = some ⟨oc33, od33, .func (PySem.W.fnOf "_law_web" "_law_web" (defArgs s__law_web) (defBody s__law_web) (defScope s__law_web) .none kV33 dc33 pm33 an33 cd33 ct33), sl33⟩)
    (c33 : PySem.W.codeIn K cd33 "_law_web" = true)
    (k33 : PySem.W.keepIn K (.ref f33) = true)
    (a34 : PySem.W.nsIn K mainGlobals "length" = some (some (.ref f34)))
    (l34 : K.lookup f34 = some ⟨oc34, od34, .func (PySem.W.fnOf "length" "length" (defArgs s_length) (defBody s_length) (defScope s_length) .none kV34 dc34 pm34 an34 cd34 ct34), sl34⟩)
    (c34 : PySem.W.codeIn K cd34 "length" = true)
    (k34 : PySem.W.keepIn K (.ref f34) = true)
    (a35 : PySem.W.nsIn K mainGlobals "law" = some (some (.ref f35)))
    (l35 : K.lookup f35 = some ⟨oc35, od35, .func (PySem.W.fnOf "law" "law" (defArgs s_law) (defBody s_law) (defScope s_law) .none kV35 dc35 pm35 an35 cd35 ct35), sl35⟩)
    (c35 : PySem.W.codeIn K cd35 "law" = true)
    (k35 : PySem.W.keepIn K (.ref f35) = true)
    (z_ValueError : PySem.W.nsIn K mainGlobals "ValueError" = some none)
    (z_abs : PySem.W.nsIn K mainGlobals "abs" = some none)
    (z_all : PySem.W.nsIn K mainGlobals "all" = some none)
    (z_bool : PySem.W.nsIn K mainGlobals "bool" = some none)
    (z_dict : PySem.W.nsIn K mainGlobals "dict" = some none)
    (z_int : PySem.W.nsIn K mainGlobals "int" = some none)
    (z_isinstance : PySem.W.nsIn K mainGlobals "isinstance" = some none)
    (z_len : PySem.W.nsIn K mainGlobals "len" = some none)
    (z_list : PySem.W.nsIn K mainGlobals "list" = some none)
    (z_max : PySem.W.nsIn K mainGlobals "max" = some none)
    (z_min : PySem.W.nsIn K mainGlobals "min" = some none)
    (z_range : PySem.W.nsIn K mainGlobals "range" = some none)
    (z_set : PySem.W.nsIn K mainGlobals "set" = some none)
    (z_sorted : PySem.W.nsIn K mainGlobals "sorted" = some none)
    (z_str : PySem.W.nsIn K mainGlobals "str" = some none)
    (z_sum : PySem.W.nsIn K mainGlobals "sum" = some none)
    (z_tuple : PySem.W.nsIn K mainGlobals "tuple" = some none)
    (xa_BadLead : PySem.W.nsIn K mainGlobals "BadLead" = some (some (.ref X_BadLead)))
    (xa_BadNumber : PySem.W.nsIn K mainGlobals "BadNumber" = some (some (.ref X_BadNumber)))
    (xa_BadRules : PySem.W.nsIn K mainGlobals "BadRules" = some (some (.ref X_BadRules)))
    (xa_BadSpot : PySem.W.nsIn K mainGlobals "BadSpot" = some (some (.ref X_BadSpot)))
    (xa_BadText : PySem.W.nsIn K mainGlobals "BadText" = some (some (.ref X_BadText)))
    (xa_BadTrack : PySem.W.nsIn K mainGlobals "BadTrack" = some (some (.ref X_BadTrack)))
    (xa_BadWeb : PySem.W.nsIn K mainGlobals "BadWeb" = some (some (.ref X_BadWeb)))
    (xa_NoWay : PySem.W.nsIn K mainGlobals "NoWay" = some (some (.ref X_NoWay)))
    (xa_TrackError : PySem.W.nsIn K mainGlobals "TrackError" = some (some (.ref X_TrackError)))
    (xq_NoWay : PySem.W.excIn K X_NoWay [.type "ValueError", .type "Exception", .type "BaseException", .type "object"] "ValueError.__new__" = true)
    (xk_NoWay : PySem.W.keepIn K (.ref X_NoWay) = true)
    (xb_NoWay : PySem.W.subIn K (.ref X_NoWay) (.type "BaseException") = some true)
    (xt_NoWay : PySem.W.typeIn K (.ref X_NoWay) = some (.type "type"))
    (xm_NoWay_TrackError : PySem.W.subIn K (.ref X_NoWay) (.ref X_TrackError) = some true)
    (xg_NoWay : PySem.W.findIn K (.ref X_NoWay) "__getattribute__" = some (some (.builtin "BaseException.__getattribute__")))
    (xh_NoWay : PySem.W.findIn K (.ref X_NoWay) "__getattr__" = some none)
    (xd_NoWay : PySem.W.hasDictIn K X_NoWay = true)
    (xc_NoWay : PySem.W.findIn K (.ref X_NoWay) "__class__" = some (some (.builtin "object.__class__")))
    (xo_NoWay : PySem.W.mroIn K X_NoWay (.type "object") = some true)
    (xi_NoWay_BadLead : PySem.W.kitOne K (.ref X_NoWay) (.ref X_BadLead) = some false)
    (xi_NoWay_BadNumber : PySem.W.kitOne K (.ref X_NoWay) (.ref X_BadNumber) = some false)
    (xi_NoWay_BadRules : PySem.W.kitOne K (.ref X_NoWay) (.ref X_BadRules) = some false)
    (xi_NoWay_BadSpot : PySem.W.kitOne K (.ref X_NoWay) (.ref X_BadSpot) = some false)
    (xi_NoWay_BadText : PySem.W.kitOne K (.ref X_NoWay) (.ref X_BadText) = some false)
    (xi_NoWay_BadTrack : PySem.W.kitOne K (.ref X_NoWay) (.ref X_BadTrack) = some false)
    (xi_NoWay_BadWeb : PySem.W.kitOne K (.ref X_NoWay) (.ref X_BadWeb) = some false)
    (xi_NoWay_NoWay : PySem.W.kitOne K (.ref X_NoWay) (.ref X_NoWay) = some true)
    (xi_NoWay_ValueError : PySem.W.kitOne K (.ref X_NoWay) (.type "ValueError") = some true)
    (yb_TrackError : PySem.W.subIn K (.ref X_TrackError) (.type "BaseException") = some true)
    (yd_TrackError : PySem.W.hasDictIn K X_TrackError = true)
    (yt_TrackError : PySem.W.typeIn K (.ref X_TrackError) = some (.type "type"))
    (xsn : PySem.W.specialIn K (.builtin "object.__class__") "__get__" = some (some (.builtin "getset_descriptor.__get__")))
    (xst : PySem.W.takesIn K (.builtin "object.__class__") = some true)
    (g_FAR : PySem.W.nsIn K mainGlobals "FAR" = some (some (.int 1000000000 t_FAR)))
    (g_MOST_AT : PySem.W.nsIn K mainGlobals "MOST_AT" = some (some (.int 60 t_MOST_AT)))
    (g_MOST_LONG : PySem.W.nsIn K mainGlobals "MOST_LONG" = some (some (.int 100 t_MOST_LONG)))
    (g_MOST_NAME : PySem.W.nsIn K mainGlobals "MOST_NAME" = some (some (.int 8 t_MOST_NAME)))
    (g_MOST_PLACES : PySem.W.nsIn K mainGlobals "MOST_PLACES" = some (some (.int 16 t_MOST_PLACES)))
    (g_MOST_ROADS : PySem.W.nsIn K mainGlobals "MOST_ROADS" = some (some (.int 20 t_MOST_ROADS)))
    (g_SMALL : PySem.W.nsIn K mainGlobals "SMALL" = some (some (.str "abcdefghijklmnopqrstuvwxyz" t_SMALL))) :
    ∃ fd : FuncData, (∀ (s : Shared) (v : Value), BindsTo s fd ⟨[v], []⟩ [("script", v)]) ∧ ∀ base : Heap, K.In base → base.Ns mainGlobals mg → FnOk l.prog w K mg base (L2.CX l.prog w) 12 fa fd ["script"] (spLaw K) := by
  have e : fa = f35 := by
    have z := hfa.symm.trans (PySem.W.mg_of X G a35)
    injection z with z
    injection z
  rw [e]
  have F0 := fun_mk (st := s__law_far) l0 c0 k0
  have b0 := F0.binds (ps := ["steps", "start"]) fun _ _ _ _ _ _ us hl => match us, hl with | [_, _], _ => rfl
  have F1 := fun_mk (st := s__law_long) l1 c1 k1
  have b1 := F1.binds (ps := ["web", "road"]) fun _ _ _ _ _ _ us hl => match us, hl with | [_, _], _ => rfl
  have F2 := fun_mk (st := s__law_spots) l2 c2 k2
  have b2 := F2.binds (ps := ["web"]) fun _ _ _ _ _ _ us hl => match us, hl with | [_], _ => rfl
  have F3 := fun_mk (st := s__law_next) l3 c3 k3
  have b3 := F3.binds (ps := ["web"]) fun _ _ _ _ _ _ us hl => match us, hl with | [_], _ => rfl
  have F4 := fun_mk (st := s__law_cell) l4 c4 k4
  have b4 := F4.binds (ps := ["script", "k"]) fun _ _ _ _ _ _ us hl => match us, hl with | [_, _], _ => rfl
  have F5 := fun_mk (st := s__law_mix) l5 c5 k5
  have b5 := F5.binds (ps := ["script", "k"]) fun _ _ _ _ _ _ us hl => match us, hl with | [_, _], _ => rfl
  have F6 := fun_mk (st := s__law_draw) l6 c6 k6
  have b6 := F6.binds (ps := ["script", "town", "many"]) fun _ _ _ _ _ _ us hl => match us, hl with | [_, _, _], _ => rfl
  have F7 := fun_mk (st := s__law_pick) l7 c7 k7
  have b7 := F7.binds (ps := ["script", "town", "some"]) fun _ _ _ _ _ _ us hl => match us, hl with | [_, _, _], _ => rfl
  have F8 := fun_mk (st := s__law_refusal) l8 c8 k8
  have b8 := F8.binds (ps := ["caught"]) fun _ _ _ _ _ _ us hl => match us, hl with | [_], _ => rfl
  have F9 := fun_mk (st := s_long_of) l9 c9 k9
  have b9 := F9.binds (ps := ["web", "road"]) fun _ _ _ _ _ _ us hl => match us, hl with | [_, _], _ => rfl
  have F10 := fun_mk (st := s_coming) l10 c10 k10
  have b10 := F10.binds (ps := ["web", "spot"]) fun _ _ _ _ _ _ us hl => match us, hl with | [_, _], _ => rfl
  have F11 := fun_mk (st := s_leaving) l11 c11 k11
  have b11 := F11.binds (ps := ["web", "spot"]) fun _ _ _ _ _ _ us hl => match us, hl with | [_, _], _ => rfl
  have F12 := fun_mk (st := s_straight) l12 c12 k12
  have b12 := F12.binds (ps := ["web", "one", "other"]) fun _ _ _ _ _ _ us hl => match us, hl with | [_, _, _], _ => rfl
  have F13 := fun_mk (st := s_length_by) l13 c13 k13
  have b13 := F13.binds (ps := ["web", "table", "one", "other"]) fun _ _ _ _ _ _ us hl => match us, hl with | [_, _, _, _], _ => rfl
  have F14 := fun_mk (st := s_lengths) l14 c14 k14
  have b14 := F14.binds (ps := ["web"]) fun _ _ _ _ _ _ us hl => match us, hl with | [_], _ => rfl
  have F15 := fun_mk (st := s_is_whole) l15 c15 k15
  have b15 := F15.binds (ps := ["thing", "low", "most"]) fun _ _ _ _ _ _ us hl => match us, hl with | [_, _, _], _ => rfl
  have F16 := fun_mk (st := s_is_spot) l16 c16 k16
  have b16 := F16.binds (ps := ["web", "thing"]) fun _ _ _ _ _ _ us hl => match us, hl with | [_, _], _ => rfl
  have F17 := fun_mk (st := s_look_spot) l17 c17 k17
  have b17 := F17.binds (ps := ["web", "spot"]) fun _ _ _ _ _ _ us hl => match us, hl with | [_, _], _ => rfl
  have F18 := fun_mk (st := s_is_name) l18 c18 k18
  have b18 := F18.binds (ps := ["thing"]) fun _ _ _ _ _ _ us hl => match us, hl with | [_], _ => rfl
  have F19 := fun_mk (st := s_is_point) l19 c19 k19
  have b19 := F19.binds (ps := ["thing"]) fun _ _ _ _ _ _ us hl => match us, hl with | [_], _ => rfl
  have F20 := fun_mk (st := s_are_places) l20 c20 k20
  have b20 := F20.binds (ps := ["thing"]) fun _ _ _ _ _ _ us hl => match us, hl with | [_], _ => rfl
  have F21 := fun_mk (st := s_is_road) l21 c21 k21
  have b21 := F21.binds (ps := ["places", "thing"]) fun _ _ _ _ _ _ us hl => match us, hl with | [_, _], _ => rfl
  have F22 := fun_mk (st := s_look_web) l22 c22 k22
  have b22 := F22.binds (ps := ["web"]) fun _ _ _ _ _ _ us hl => match us, hl with | [_], _ => rfl
  have F23 := fun_mk (st := s_look_both) l23 c23 k23
  have b23 := F23.binds (ps := ["web", "one", "other"]) fun _ _ _ _ _ _ us hl => match us, hl with | [_, _, _], _ => rfl
  have F24 := fun_mk (st := s_steps_from) l24 c24 k24
  have b24 := F24.binds (ps := ["web", "table", "here", "goal"]) fun _ _ _ _ _ _ us hl => match us, hl with | [_, _, _, _], _ => rfl
  have F25 := fun_mk (st := s_places_between) l25 c25 k25
  have b25 := F25.binds (ps := ["web", "table", "here", "goal"]) fun _ _ _ _ _ _ us hl => match us, hl with | [_, _, _, _], _ => rfl
  have F26 := fun_mk (st := s_way_by) l26 c26 k26
  have b26 := F26.binds (ps := ["web", "table", "one", "other"]) fun _ _ _ _ _ _ us hl => match us, hl with | [_, _, _, _], _ => rfl
  have F27 := fun_mk (st := s_way) l27 c27 k27
  have b27 := F27.binds (ps := ["web", "one", "other"]) fun _ _ _ _ _ _ us hl => match us, hl with | [_, _, _], _ => rfl
  have F28 := fun_mk (st := s__law_told) l28 c28 k28
  have b28 := F28.binds (ps := ["web", "one", "other"]) fun _ _ _ _ _ _ us hl => match us, hl with | [_, _, _], _ => rfl
  have F29 := fun_mk (st := s__law_rows) l29 c29 k29
  have b29 := F29.binds (ps := ["web", "table", "here", "goal"]) fun _ _ _ _ _ _ us hl => match us, hl with | [_, _, _, _], _ => rfl
  have F30 := fun_mk (st := s__law_ends) l30 c30 k30
  have b30 := F30.binds (ps := ["web", "spot", "is_leaving"]) fun _ _ _ _ _ _ us hl => match us, hl with | [_, _, _], _ => rfl
  have F31 := fun_mk (st := s__law_table) l31 c31 k31
  have b31 := F31.binds (ps := ["web"]) fun _ _ _ _ _ _ us hl => match us, hl with | [_], _ => rfl
  have F32 := fun_mk (st := s__law_way) l32 c32 k32
  have b32 := F32.binds (ps := ["web", "one", "other", "least_now"]) fun _ _ _ _ _ _ us hl => match us, hl with | [_, _, _, _], _ => rfl
  have F33 := fun_mk (st := s__law_web) l33 c33 k33
  have b33 := F33.binds (ps := ["script", "town", "most", "far"]) fun _ _ _ _ _ _ us hl => match us, hl with | [_, _, _, _], _ => rfl
  have F34 := fun_mk (st := s_length) l34 c34 k34
  have b34 := F34.binds (ps := ["web", "one", "other"]) fun _ _ _ _ _ _ us hl => match us, hl with | [_, _, _], _ => rfl
  have F35 := fun_mk (st := s_law) l35 c35 k35
  have b35 := F35.binds (ps := ["script"]) fun _ _ _ _ _ _ us hl => match us, hl with | [_], _ => rfl
  let fN : Nat → Addr := fun n => match n with | 0 => f0 | 1 => f1 | 2 => f2 | 3 => f3 | 4 => f4 | 5 => f5 | 6 => f6 | 7 => f7 | 8 => f8 | 9 => f9 | 10 => f10 | 11 => f11 | 12 => f12 | 13 => f13 | 14 => f14 | 15 => f15 | 16 => f16 | 17 => f17 | 18 => f18 | 19 => f19 | 20 => f20 | 21 => f21 | 22 => f22 | 23 => f23 | 24 => f24 | 25 => f25 | 26 => f26 | 27 => f27 | 28 => f28 | 29 => f29 | 30 => f30 | 31 => f31 | 32 => f32 | 33 => f33 | 34 => f34 | 35 => f35 | _ => f35
  let dN : Nat → FuncData := fun n => match n with | 0 => PySem.W.fnOf "_law_far" "_law_far" (defArgs s__law_far) (defBody s__law_far) (defScope s__law_far) .none kV0 dc0 pm0 an0 cd0 ct0 | 1 => PySem.W.fnOf "_law_long" "_law_long" (defArgs s__law_long) (defBody s__law_long) (defScope s__law_long) .none kV1 dc1 pm1 an1 cd1 ct1 | 2 => PySem.W.fnOf "_law_spots" "_law_spots" (defArgs s__law_spots) (defBody s__law_spots) (defScope s__law_spots) .none kV2 dc2 pm2 an2 cd2 ct2 | 3 => PySem.W.fnOf "_law_next" "_law_next" (defArgs s__law_next) (defBody s__law_next) (defScope s__law_next) .none kV3 dc3 pm3 an3 cd3 ct3 | 4 => PySem.W.fnOf "_law_cell" "_law_cell" (defArgs s__law_cell) (defBody s__law_cell) (defScope s__law_cell) .none kV4 dc4 pm4 an4 cd4 ct4 | 5 => PySem.W.fnOf "_law_mix" "_law_mix" (defArgs s__law_mix) (defBody s__law_mix) (defScope s__law_mix) .none kV5 dc5 pm5 an5 cd5 ct5 | 6 => PySem.W.fnOf "_law_draw" "_law_draw" (defArgs s__law_draw) (defBody s__law_draw) (defScope s__law_draw) .none kV6 dc6 pm6 an6 cd6 ct6 | 7 => PySem.W.fnOf "_law_pick" "_law_pick" (defArgs s__law_pick) (defBody s__law_pick) (defScope s__law_pick) .none kV7 dc7 pm7 an7 cd7 ct7 | 8 => PySem.W.fnOf "_law_refusal" "_law_refusal" (defArgs s__law_refusal) (defBody s__law_refusal) (defScope s__law_refusal) .none kV8 dc8 pm8 an8 cd8 ct8 | 9 => PySem.W.fnOf "long_of" "long_of" (defArgs s_long_of) (defBody s_long_of) (defScope s_long_of) .none kV9 dc9 pm9 an9 cd9 ct9 | 10 => PySem.W.fnOf "coming" "coming" (defArgs s_coming) (defBody s_coming) (defScope s_coming) .none kV10 dc10 pm10 an10 cd10 ct10 | 11 => PySem.W.fnOf "leaving" "leaving" (defArgs s_leaving) (defBody s_leaving) (defScope s_leaving) .none kV11 dc11 pm11 an11 cd11 ct11 | 12 => PySem.W.fnOf "straight" "straight" (defArgs s_straight) (defBody s_straight) (defScope s_straight) .none kV12 dc12 pm12 an12 cd12 ct12 | 13 => PySem.W.fnOf "length_by" "length_by" (defArgs s_length_by) (defBody s_length_by) (defScope s_length_by) .none kV13 dc13 pm13 an13 cd13 ct13 | 14 => PySem.W.fnOf "lengths" "lengths" (defArgs s_lengths) (defBody s_lengths) (defScope s_lengths) .none kV14 dc14 pm14 an14 cd14 ct14 | 15 => PySem.W.fnOf "is_whole" "is_whole" (defArgs s_is_whole) (defBody s_is_whole) (defScope s_is_whole) .none kV15 dc15 pm15 an15 cd15 ct15 | 16 => PySem.W.fnOf "is_spot" "is_spot" (defArgs s_is_spot) (defBody s_is_spot) (defScope s_is_spot) .none kV16 dc16 pm16 an16 cd16 ct16 | 17 => PySem.W.fnOf "look_spot" "look_spot" (defArgs s_look_spot) (defBody s_look_spot) (defScope s_look_spot) .none kV17 dc17 pm17 an17 cd17 ct17 | 18 => PySem.W.fnOf "is_name" "is_name" (defArgs s_is_name) (defBody s_is_name) (defScope s_is_name) .none kV18 dc18 pm18 an18 cd18 ct18 | 19 => PySem.W.fnOf "is_point" "is_point" (defArgs s_is_point) (defBody s_is_point) (defScope s_is_point) .none kV19 dc19 pm19 an19 cd19 ct19 | 20 => PySem.W.fnOf "are_places" "are_places" (defArgs s_are_places) (defBody s_are_places) (defScope s_are_places) .none kV20 dc20 pm20 an20 cd20 ct20 | 21 => PySem.W.fnOf "is_road" "is_road" (defArgs s_is_road) (defBody s_is_road) (defScope s_is_road) .none kV21 dc21 pm21 an21 cd21 ct21 | 22 => PySem.W.fnOf "look_web" "look_web" (defArgs s_look_web) (defBody s_look_web) (defScope s_look_web) .none kV22 dc22 pm22 an22 cd22 ct22 | 23 => PySem.W.fnOf "look_both" "look_both" (defArgs s_look_both) (defBody s_look_both) (defScope s_look_both) .none kV23 dc23 pm23 an23 cd23 ct23 | 24 => PySem.W.fnOf "steps_from" "steps_from" (defArgs s_steps_from) (defBody s_steps_from) (defScope s_steps_from) .none kV24 dc24 pm24 an24 cd24 ct24 | 25 => PySem.W.fnOf "places_between" "places_between" (defArgs s_places_between) (defBody s_places_between) (defScope s_places_between) .none kV25 dc25 pm25 an25 cd25 ct25 | 26 => PySem.W.fnOf "way_by" "way_by" (defArgs s_way_by) (defBody s_way_by) (defScope s_way_by) .none kV26 dc26 pm26 an26 cd26 ct26 | 27 => PySem.W.fnOf "way" "way" (defArgs s_way) (defBody s_way) (defScope s_way) .none kV27 dc27 pm27 an27 cd27 ct27 | 28 => PySem.W.fnOf "_law_told" "_law_told" (defArgs s__law_told) (defBody s__law_told) (defScope s__law_told) .none kV28 dc28 pm28 an28 cd28 ct28 | 29 => PySem.W.fnOf "_law_rows" "_law_rows" (defArgs s__law_rows) (defBody s__law_rows) (defScope s__law_rows) .none kV29 dc29 pm29 an29 cd29 ct29 | 30 => PySem.W.fnOf "_law_ends" "_law_ends" (defArgs s__law_ends) (defBody s__law_ends) (defScope s__law_ends) .none kV30 dc30 pm30 an30 cd30 ct30 | 31 => PySem.W.fnOf "_law_table" "_law_table" (defArgs s__law_table) (defBody s__law_table) (defScope s__law_table) .none kV31 dc31 pm31 an31 cd31 ct31 | 32 => PySem.W.fnOf "_law_way" "_law_way" (defArgs s__law_way) (defBody s__law_way) (defScope s__law_way) .none kV32 dc32 pm32 an32 cd32 ct32 | 33 => PySem.W.fnOf "_law_web" "_law_web" (defArgs s__law_web) (defBody s__law_web) (defScope s__law_web) .none kV33 dc33 pm33 an33 cd33 ct33 | 34 => PySem.W.fnOf "length" "length" (defArgs s_length) (defBody s_length) (defScope s_length) .none kV34 dc34 pm34 an34 cd34 ct34 | 35 => PySem.W.fnOf "law" "law" (defArgs s_law) (defBody s_law) (defScope s_law) .none kV35 dc35 pm35 an35 cd35 ct35 | _ => PySem.W.fnOf "law" "law" (defArgs s_law) (defBody s_law) (defScope s_law) .none kV35 dc35 pm35 an35 cd35 ct35
  let cN : Str → Addr := fun n => if n = "BadLead" then X_BadLead else if n = "BadNumber" then X_BadNumber else if n = "BadRules" then X_BadRules else if n = "BadSpot" then X_BadSpot else if n = "BadText" then X_BadText else if n = "BadTrack" then X_BadTrack else if n = "BadWeb" then X_BadWeb else if n = "NoWay" then X_NoWay else if n = "TrackError" then X_TrackError else 0
  have T : Txt K mg cN fN dN := by
    exact { b_ValueError := PySem.W.mg_none_of X G z_ValueError, b_abs := PySem.W.mg_none_of X G z_abs, b_all := PySem.W.mg_none_of X G z_all, b_bool := PySem.W.mg_none_of X G z_bool, b_dict := PySem.W.mg_none_of X G z_dict, b_int := PySem.W.mg_none_of X G z_int, b_isinstance := PySem.W.mg_none_of X G z_isinstance, b_len := PySem.W.mg_none_of X G z_len, b_list := PySem.W.mg_none_of X G z_list, b_max := PySem.W.mg_none_of X G z_max, b_min := PySem.W.mg_none_of X G z_min, b_range := PySem.W.mg_none_of X G z_range, b_set := PySem.W.mg_none_of X G z_set, b_sorted := PySem.W.mg_none_of X G z_sorted, b_str := PySem.W.mg_none_of X G z_str, b_sum := PySem.W.mg_none_of X G z_sum, b_tuple := PySem.W.mg_none_of X G z_tuple, g_FAR := ⟨t_FAR, PySem.W.mg_of X G g_FAR⟩, g_MOST_AT := ⟨t_MOST_AT, PySem.W.mg_of X G g_MOST_AT⟩, g_MOST_LONG := ⟨t_MOST_LONG, PySem.W.mg_of X G g_MOST_LONG⟩, g_MOST_NAME := ⟨t_MOST_NAME, PySem.W.mg_of X G g_MOST_NAME⟩, g_MOST_PLACES := ⟨t_MOST_PLACES, PySem.W.mg_of X G g_MOST_PLACES⟩, g_MOST_ROADS := ⟨t_MOST_ROADS, PySem.W.mg_of X G g_MOST_ROADS⟩, g_SMALL := ⟨t_SMALL, PySem.W.mg_of X G g_SMALL⟩, f__law_far := F0, i__law_far := b0, m__law_far := PySem.W.mg_of X G a0, k__law_far := k0, f__law_long := F1, i__law_long := b1, m__law_long := PySem.W.mg_of X G a1, k__law_long := k1, f__law_spots := F2, i__law_spots := b2, m__law_spots := PySem.W.mg_of X G a2, k__law_spots := k2, f__law_next := F3, i__law_next := b3, m__law_next := PySem.W.mg_of X G a3, k__law_next := k3, f__law_cell := F4, i__law_cell := b4, m__law_cell := PySem.W.mg_of X G a4, k__law_cell := k4, f__law_mix := F5, i__law_mix := b5, m__law_mix := PySem.W.mg_of X G a5, k__law_mix := k5, f__law_draw := F6, i__law_draw := b6, m__law_draw := PySem.W.mg_of X G a6, k__law_draw := k6, f__law_pick := F7, i__law_pick := b7, m__law_pick := PySem.W.mg_of X G a7, k__law_pick := k7, f__law_refusal := F8, i__law_refusal := b8, m__law_refusal := PySem.W.mg_of X G a8, k__law_refusal := k8, f_long_of := F9, i_long_of := b9, m_long_of := PySem.W.mg_of X G a9, k_long_of := k9, f_coming := F10, i_coming := b10, m_coming := PySem.W.mg_of X G a10, k_coming := k10, f_leaving := F11, i_leaving := b11, m_leaving := PySem.W.mg_of X G a11, k_leaving := k11, f_straight := F12, i_straight := b12, m_straight := PySem.W.mg_of X G a12, k_straight := k12, f_length_by := F13, i_length_by := b13, m_length_by := PySem.W.mg_of X G a13, k_length_by := k13, f_lengths := F14, i_lengths := b14, m_lengths := PySem.W.mg_of X G a14, k_lengths := k14, f_is_whole := F15, i_is_whole := b15, m_is_whole := PySem.W.mg_of X G a15, k_is_whole := k15, f_is_spot := F16, i_is_spot := b16, m_is_spot := PySem.W.mg_of X G a16, k_is_spot := k16, f_look_spot := F17, i_look_spot := b17, m_look_spot := PySem.W.mg_of X G a17, k_look_spot := k17, f_is_name := F18, i_is_name := b18, m_is_name := PySem.W.mg_of X G a18, k_is_name := k18, f_is_point := F19, i_is_point := b19, m_is_point := PySem.W.mg_of X G a19, k_is_point := k19, f_are_places := F20, i_are_places := b20, m_are_places := PySem.W.mg_of X G a20, k_are_places := k20, f_is_road := F21, i_is_road := b21, m_is_road := PySem.W.mg_of X G a21, k_is_road := k21, f_look_web := F22, i_look_web := b22, m_look_web := PySem.W.mg_of X G a22, k_look_web := k22, f_look_both := F23, i_look_both := b23, m_look_both := PySem.W.mg_of X G a23, k_look_both := k23, f_steps_from := F24, i_steps_from := b24, m_steps_from := PySem.W.mg_of X G a24, k_steps_from := k24, f_places_between := F25, i_places_between := b25, m_places_between := PySem.W.mg_of X G a25, k_places_between := k25, f_way_by := F26, i_way_by := b26, m_way_by := PySem.W.mg_of X G a26, k_way_by := k26, f_way := F27, i_way := b27, m_way := PySem.W.mg_of X G a27, k_way := k27, f__law_told := F28, i__law_told := b28, m__law_told := PySem.W.mg_of X G a28, k__law_told := k28, f__law_rows := F29, i__law_rows := b29, m__law_rows := PySem.W.mg_of X G a29, k__law_rows := k29, f__law_ends := F30, i__law_ends := b30, m__law_ends := PySem.W.mg_of X G a30, k__law_ends := k30, f__law_table := F31, i__law_table := b31, m__law_table := PySem.W.mg_of X G a31, k__law_table := k31, f__law_way := F32, i__law_way := b32, m__law_way := PySem.W.mg_of X G a32, k__law_way := k32, f__law_web := F33, i__law_web := b33, m__law_web := PySem.W.mg_of X G a33, k__law_web := k33, f_length := F34, i_length := b34, m_length := PySem.W.mg_of X G a34, k_length := k34, f_law := F35, i_law := b35, m_law := PySem.W.mg_of X G a35, k_law := k35, x_NoWay := ⟨PySem.W.mg_of X G xa_NoWay, xq_NoWay, xk_NoWay, xb_NoWay, xt_NoWay⟩, c_BadLead := PySem.W.mg_of X G xa_BadLead, c_BadNumber := PySem.W.mg_of X G xa_BadNumber, c_BadRules := PySem.W.mg_of X G xa_BadRules, c_BadSpot := PySem.W.mg_of X G xa_BadSpot, c_BadText := PySem.W.mg_of X G xa_BadText, c_BadTrack := PySem.W.mg_of X G xa_BadTrack, c_BadWeb := PySem.W.mg_of X G xa_BadWeb, c_NoWay := PySem.W.mg_of X G xa_NoWay, c_TrackError := PySem.W.mg_of X G xa_TrackError, t_TrackError := mem_c (PySem.W.exm_ref yb_TrackError yd_TrackError yt_TrackError xm_NoWay_TrackError) (mem_n), e_BadLead := lk_c ⟨⟨xg_NoWay, xh_NoWay, xb_NoWay, xd_NoWay, xc_NoWay, xsn, xst, xo_NoWay⟩, xi_NoWay_BadLead⟩ (lk_n), e_BadNumber := lk_c ⟨⟨xg_NoWay, xh_NoWay, xb_NoWay, xd_NoWay, xc_NoWay, xsn, xst, xo_NoWay⟩, xi_NoWay_BadNumber⟩ (lk_n), e_BadRules := lk_c ⟨⟨xg_NoWay, xh_NoWay, xb_NoWay, xd_NoWay, xc_NoWay, xsn, xst, xo_NoWay⟩, xi_NoWay_BadRules⟩ (lk_n), e_BadSpot := lk_c ⟨⟨xg_NoWay, xh_NoWay, xb_NoWay, xd_NoWay, xc_NoWay, xsn, xst, xo_NoWay⟩, xi_NoWay_BadSpot⟩ (lk_n), e_BadText := lk_c ⟨⟨xg_NoWay, xh_NoWay, xb_NoWay, xd_NoWay, xc_NoWay, xsn, xst, xo_NoWay⟩, xi_NoWay_BadText⟩ (lk_n), e_BadTrack := lk_c ⟨⟨xg_NoWay, xh_NoWay, xb_NoWay, xd_NoWay, xc_NoWay, xsn, xst, xo_NoWay⟩, xi_NoWay_BadTrack⟩ (lk_n), e_BadWeb := lk_c ⟨⟨xg_NoWay, xh_NoWay, xb_NoWay, xd_NoWay, xc_NoWay, xsn, xst, xo_NoWay⟩, xi_NoWay_BadWeb⟩ (lk_n), e_NoWay := lk_c ⟨⟨xg_NoWay, xh_NoWay, xb_NoWay, xd_NoWay, xc_NoWay, xsn, xst, xo_NoWay⟩, xi_NoWay_NoWay⟩ (lk_n), e_ValueError := lk_c ⟨⟨xg_NoWay, xh_NoWay, xb_NoWay, xd_NoWay, xc_NoWay, xsn, xst, xo_NoWay⟩, xi_NoWay_ValueError⟩ (lk_n) }
  exact ⟨PySem.W.fnOf "law" "law" (defArgs s_law) (defBody s_law) (defScope s_law) .none kV35 dc35 pm35 an35 cd35 ct35, fun s v => .of_eq rfl, fun base _ _ => FnOk.imp (ok_law (base := base) (P := l.prog) (w := w) T) to_law⟩
theorem walk {l : PySem.W.OpenLaw} {q : Program} {loose : List Str} {XP : (Str → Option Value) → Heap → Prop} {YP : World → Heap → Prop} {d : DefRec} {K : Params → PySem.W.Frag} (hn : l.most = some 63) (hdf : d.params.defaults = [])
    (hY : ∀ (w : World) (h : Heap), YP w h → (K w.params).In h)
    (F : ∀ (w : World) (mg : Str → Option Value) (fa : Addr) (h : Heap), (K w.params).In h → h.Ns mainGlobals mg → mg d.name = some (.ref fa) →
      ∃ fd : FuncData, (∀ (s : Shared) (u : Value), BindsTo s fd ⟨[u], []⟩ [("script", u)]) ∧ ∀ base : Heap, (K w.params).In base → base.Ns mainGlobals mg → FnOk l.prog w (K w.params) mg base (L2.CX l.prog w) 12 fa fd ["script"] (spLaw (K w.params))) :
    PySem.W.WalkO q loose XP YP l.row.toRowW d [] (fun f vs => PySem.call f vs) :=
  L2.walk_of (n := 63) (k := 12) (x := "script") (CX := fun w => L2.CX l.prog w) (sp := fun w => spLaw (K w.params)) hn (by decide) hdf ⟨rfl, by decide, by decide⟩ hY F (fun _ _ a ns hl _ hS => ⟨a, ns, rfl, hS, hl, fun _ => rfl⟩) fun _ _ _ _ _ z => Gh.cx_no z
end K10
open PySem PySem.W PyProof.Rows
set_option maxRecDepth 100000 in
set_option maxHeartbeats 0 in
theorem PySem.Challenge.cw_roadtracks_k10_whole_ways_holds : PySem.Challenge.rw_roadtracks_k10_whole_ways.Holds := by
  w_on; o_law; k_head; (case hw => w_witness2)
  k_fill
  refine K10.walk (l := PySem.Challenge.rw_roadtracks_k10_whole_ways) rfl rfl (fun w h Y => PySem.W.kIn_of Y) ?F
  case F =>
    intro w mg fa h KX G hmg
    refine' K10.all_mk KX G hmg ?a0 ?l0 ?c0 ?k0 ?a1 ?l1 ?c1 ?k1 ?a2 ?l2 ?c2 ?k2 ?a3 ?l3 ?c3 ?k3 ?a4 ?l4 ?c4 ?k4 ?a5 ?l5 ?c5 ?k5 ?a6 ?l6 ?c6 ?k6 ?a7 ?l7 ?c7 ?k7 ?a8 ?l8 ?c8 ?k8 ?a9 ?l9 ?c9 ?k9 ?a10 ?l10 ?c10 ?k10 ?a11 ?l11 ?c11 ?k11 ?a12 ?l12 ?c12 ?k12 ?a13 ?l13 ?c13 ?k13 ?a14 ?l14 ?c14 ?k14 ?a15 ?l15 ?c15 ?k15 ?a16 ?l16 ?c16 ?k16 ?a17 ?l17 ?c17 ?k17 ?a18 ?l18 ?c18 ?k18 ?a19 ?l19 ?c19 ?k19 ?a20 ?l20 ?c20 ?k20 ?a21 ?l21 ?c21 ?k21 ?a22 ?l22 ?c22 ?k22 ?a23 ?l23 ?c23 ?k23 ?a24 ?l24 ?c24 ?k24 ?a25 ?l25 ?c25 ?k25 ?a26 ?l26 ?c26 ?k26 ?a27 ?l27 ?c27 ?k27 ?a28 ?l28 ?c28 ?k28 ?a29 ?l29 ?c29 ?k29 ?a30 ?l30 ?c30 ?k30 ?a31 ?l31 ?c31 ?k31 ?a32 ?l32 ?c32 ?k32 ?a33 ?l33 ?c33 ?k33 ?a34 ?l34 ?c34 ?k34 ?a35 ?l35 ?c35 ?k35 ?z_ValueError ?z_abs ?z_all ?z_bool ?z_dict ?z_int ?z_isinstance ?z_len ?z_list ?z_max ?z_min ?z_range ?z_set ?z_sorted ?z_str ?z_sum ?z_tuple ?xa_BadLead ?xa_BadNumber ?xa_BadRules ?xa_BadSpot ?xa_BadText ?xa_BadTrack ?xa_BadWeb ?xa_NoWay ?xa_TrackError ?xq_NoWay ?xk_NoWay ?xb_NoWay ?xt_NoWay ?xm_NoWay_TrackError ?xg_NoWay ?xh_NoWay ?xd_NoWay ?xc_NoWay ?xo_NoWay ?xi_NoWay_BadLead ?xi_NoWay_BadNumber ?xi_NoWay_BadRules ?xi_NoWay_BadSpot ?xi_NoWay_BadText ?xi_NoWay_BadTrack ?xi_NoWay_BadWeb ?xi_NoWay_NoWay ?xi_NoWay_ValueError ?yb_TrackError ?yd_TrackError ?yt_TrackError ?xsn ?xst ?g_FAR ?g_MOST_AT ?g_MOST_LONG ?g_MOST_NAME ?g_MOST_PLACES ?g_MOST_ROADS ?g_SMALL
    (case a0 => k_is)
    (case l0 => k_is)
    (case c0 => k_is)
    (case k0 => k_is)
    (case a1 => k_is)
    (case l1 => k_is)
    (case c1 => k_is)
    (case k1 => k_is)
    (case a2 => k_is)
    (case l2 => k_is)
    (case c2 => k_is)
    (case k2 => k_is)
    (case a3 => k_is)
    (case l3 => k_is)
    (case c3 => k_is)
    (case k3 => k_is)
    (case a4 => k_is)
    (case l4 => k_is)
    (case c4 => k_is)
    (case k4 => k_is)
    (case a5 => k_is)
    (case l5 => k_is)
    (case c5 => k_is)
    (case k5 => k_is)
    (case a6 => k_is)
    (case l6 => k_is)
    (case c6 => k_is)
    (case k6 => k_is)
    (case a7 => k_is)
    (case l7 => k_is)
    (case c7 => k_is)
    (case k7 => k_is)
    (case a8 => k_is)
    (case l8 => k_is)
    (case c8 => k_is)
    (case k8 => k_is)
    (case a9 => k_is)
    (case l9 => k_is)
    (case c9 => k_is)
    (case k9 => k_is)
    (case a10 => k_is)
    (case l10 => k_is)
    (case c10 => k_is)
    (case k10 => k_is)
    (case a11 => k_is)
    (case l11 => k_is)
    (case c11 => k_is)
    (case k11 => k_is)
    (case a12 => k_is)
    (case l12 => k_is)
    (case c12 => k_is)
    (case k12 => k_is)
    (case a13 => k_is)
    (case l13 => k_is)
    (case c13 => k_is)
    (case k13 => k_is)
    (case a14 => k_is)
    (case l14 => k_is)
    (case c14 => k_is)
    (case k14 => k_is)
    (case a15 => k_is)
    (case l15 => k_is)
    (case c15 => k_is)
    (case k15 => k_is)
    (case a16 => k_is)
    (case l16 => k_is)
    (case c16 => k_is)
    (case k16 => k_is)
    (case a17 => k_is)
    (case l17 => k_is)
    (case c17 => k_is)
    (case k17 => k_is)
    (case a18 => k_is)
    (case l18 => k_is)
    (case c18 => k_is)
    (case k18 => k_is)
    (case a19 => k_is)
    (case l19 => k_is)
    (case c19 => k_is)
    (case k19 => k_is)
    (case a20 => k_is)
    (case l20 => k_is)
    (case c20 => k_is)
    (case k20 => k_is)
    (case a21 => k_is)
    (case l21 => k_is)
    (case c21 => k_is)
    (case k21 => k_is)
    (case a22 => k_is)
    (case l22 => k_is)
    (case c22 => k_is)
    (case k22 => k_is)
    (case a23 => k_is)
    (case l23 => k_is)
    (case c23 => k_is)
    (case k23 => k_is)
    (case a24 => k_is)
    (case l24 => k_is)
    (case c24 => k_is)
    (case k24 => k_is)
    (case a25 => k_is)
    (case l25 => k_is)
    (case c25 => k_is)
    (case k25 => k_is)
    (case a26 => k_is)
    (case l26 => k_is)
    (case c26 => k_is)
    (case k26 => k_is)
    (case a27 => k_is)
    (case l27 => k_is)
    (case c27 => k_is)
    (case k27 => k_is)
    (case a28 => k_is)
    (case l28 => k_is)
    (case c28 => k_is)
    (case k28 => k_is)
    (case a29 => k_is)
    (case l29 => k_is)
    (case c29 => k_is)
    (case k29 => k_is)
    (case a30 => k_is)
    (case l30 => k_is)
    (case c30 => k_is)
    (case k30 => k_is)
    (case a31 => k_is)
    (case l31 => k_is)
    (case c31 => k_is)
    (case k31 => k_is)
    (case a32 => k_is)
    (case l32 => k_is)
    (case c32 => k_is)
    (case k32 => k_is)
    (case a33 => k_is)
    (case l33 => k_is)
    (case c33 => k_is)
    (case k33 => k_is)
    (case a34 => k_is)
    (case l34 => k_is)
    (case c34 => k_is)
    (case k34 => k_is)
    (case a35 => k_is)
    (case l35 => k_is)
    (case c35 => k_is)
    (case k35 => k_is)
    (case z_ValueError => k_is)
    (case z_abs => k_is)
    (case z_all => k_is)
    (case z_bool => k_is)
    (case z_dict => k_is)
    (case z_int => k_is)
    (case z_isinstance => k_is)
    (case z_len => k_is)
    (case z_list => k_is)
    (case z_max => k_is)
    (case z_min => k_is)
    (case z_range => k_is)
    (case z_set => k_is)
    (case z_sorted => k_is)
    (case z_str => k_is)
    (case z_sum => k_is)
    (case z_tuple => k_is)
    (case xa_BadLead => k_is)
    (case xa_BadNumber => k_is)
    (case xa_BadRules => k_is)
    (case xa_BadSpot => k_is)
    (case xa_BadText => k_is)
    (case xa_BadTrack => k_is)
    (case xa_BadWeb => k_is)
    (case xa_NoWay => k_is)
    (case xa_TrackError => k_is)
    (case xq_NoWay => k_exc)
    (case xk_NoWay => k_is)
    (case xb_NoWay => k_is)
    (case xt_NoWay => k_is)
    (case xm_NoWay_TrackError => k_is)
    (case xg_NoWay => k_is)
    (case xh_NoWay => k_is)
    (case xd_NoWay => k_is)
    (case xc_NoWay => k_is)
    (case xo_NoWay => k_is)
    (case xi_NoWay_BadLead => kit_is)
    (case xi_NoWay_BadNumber => kit_is)
    (case xi_NoWay_BadRules => kit_is)
    (case xi_NoWay_BadSpot => kit_is)
    (case xi_NoWay_BadText => kit_is)
    (case xi_NoWay_BadTrack => kit_is)
    (case xi_NoWay_BadWeb => kit_is)
    (case xi_NoWay_NoWay => kit_is)
    (case xi_NoWay_ValueError => kit_is)
    (case yb_TrackError => k_is)
    (case yd_TrackError => k_is)
    (case yt_TrackError => k_is)
    (case xsn => k_is)
    (case xst => k_is)
    (case g_FAR => k_is)
    (case g_MOST_AT => k_is)
    (case g_MOST_LONG => k_is)
    (case g_MOST_NAME => k_is)
    (case g_MOST_PLACES => k_is)
    (case g_MOST_ROADS => k_is)
    (case g_SMALL => k_is)
