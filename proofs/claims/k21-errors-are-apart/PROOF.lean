import PyProof.Rows.All
import Wide.All
import OpenK.AllK
import Wide.FinOn
import PyProof.EqAt
import PyProof.EqKinds
import PyProof.TupleCall
import HandS.ForMost
import HandS.Walk
import HandS.ForExc
import HandS.IsInst
import HandS.TupAny
import HandS.TryOnly
import HandS.ExcInit
import HandS.ExcField
import HandS.TryMany
import KE.GoesEnum
import HandS.Zip
import HandS.Property
import HandS.TupMul
import HandS.CallLocal
import HandS.StrMore
import HandS.Deep
import HandS.Strs
import HandS.Codes
import HandS.ReplaceLit
import HandS.ReplaceDef
import HandS.ReplaceList
import HandS.Wide
import HandS.Style
import OpenK.KOps
import PySem.Challenge.RW_readersapart_k21_errors_are_apart
set_option Elab.async false
set_option linter.all false
set_option maxRecDepth 100000
set_option maxHeartbeats 4000000
/-! RL1: plain data, slots, the relation between slots, heap and plain data -/
namespace RL
open PySem L2

/-- plain data -/
inductive D where
  | non | bl (b : Bool) | int (i : Int) | str (s : Str)
  | tup (xs : List D) | lst (xs : List D) | sc (xs : List Int) | dct0
  | obj (c : Str) (xs : List D) | gl (x : Str)

/-- the fields of the classes whose instances never change behind their making -/
def flds (c : Str) : Option (List Str) :=
  if c = "Reader" then some ["dot", "mark", "size", "strict", "minus", "naughts", "spaces", "power"] else none

mutual
/-- v stands for d, by the part F of the heap that never changes -/
inductive Rep (K : PySem.W.Frag) (mg : Str → Option Value) (F : Hp) : V → D → Prop
  | non : Rep K mg F .non .non
  | bl {b : Bool} : Rep K mg F (.bl b) (.bl b)
  | int {i : Int} : Rep K mg F (.int i) (.int i)
  | str {s : Str} : Rep K mg F (.str s) (.str s)
  | tup {a : Addr} {vs : List V} {ds : List D} : SqT K F a vs → Reps K mg F vs ds → Rep K mg F (.ref a) (.tup ds)
  | lst {a : Addr} {vs : List V} {ds : List D} : F a = some (.lst vs) → Reps K mg F vs ds → Rep K mg F (.ref a) (.lst ds)
  | sc {a : Addr} {ns : List Int} : SqL K F a (ns.map V.int) → Rep K mg F (.ref a) (.sc ns)
  | dct0 {a : Addr} : F a = some (.dK []) → Rep K mg F (.ref a) .dct0
  | obj {a C dx : Addr} {c : Str} {ns : List Str} {vs : List V} {ds : List D} : F a = some (.ins C dx (ns.zip vs)) → mg c = some (.ref C) → flds c = some ns → ns.length = vs.length →
      Reps K mg F vs ds → Rep K mg F (.ref a) (.obj c ds)
  | gl {a : Addr} {x : Str} : mg x = some (.ref a) → Rep K mg F (.ref a) (.gl x)
inductive Reps (K : PySem.W.Frag) (mg : Str → Option Value) (F : Hp) : List V → List D → Prop
  | nil : Reps K mg F [] []
  | cons {v : V} {d : D} {vs : List V} {ds : List D} : Rep K mg F v d → Reps K mg F vs ds → Reps K mg F (v :: vs) (d :: ds)
end

section
variable {K : PySem.W.Frag} {mg : Str → Option Value} {F F' : Hp}
theorem rd_mono {a : Addr} {u : HO} (m : ∀ a o, F a = some o → F' a = some o) (h : Rd F a u) : Rd F' a u := by
  rcases h with h | ⟨o, h⟩
  · exact .inl (m _ _ h)
  · exact .inr ⟨o, m _ _ h⟩
theorem sqT_mono {a : Addr} {vs : List V} (m : ∀ a o, F a = some o → F' a = some o) (h : SqT K F a vs) : SqT K F' a vs := by
  rcases h with h | h
  · exact .inl (rd_mono m h)
  · exact .inr h
theorem sqL_mono {a : Addr} {vs : List V} (m : ∀ a o, F a = some o → F' a = some o) (h : SqL K F a vs) : SqL K F' a vs := by
  rcases h with h | h
  · exact .inl (rd_mono m h)
  · exact .inr h
mutual
theorem Rep.mono (m : ∀ a o, F a = some o → F' a = some o) : ∀ {v : V} {d : D}, Rep K mg F v d → Rep K mg F' v d
  | _, _, .non => .non
  | _, _, .bl => .bl
  | _, _, .int => .int
  | _, _, .str => .str
  | _, _, .tup h r => .tup (sqT_mono m h) (Reps.mono m r)
  | _, _, .lst h r => .lst (m _ _ h) (Reps.mono m r)
  | _, _, .sc h => .sc (sqL_mono m h)
  | _, _, .dct0 h => .dct0 (m _ _ h)
  | _, _, .obj h a b c r => .obj (m _ _ h) a b c (Reps.mono m r)
  | _, _, .gl h => .gl h
theorem Reps.mono (m : ∀ a o, F a = some o → F' a = some o) : ∀ {vs : List V} {ds : List D}, Reps K mg F vs ds → Reps K mg F' vs ds
  | _, _, .nil => .nil
  | _, _, .cons h r => .cons (Rep.mono m h) (Reps.mono m r)
end
theorem Reps.length : ∀ {vs : List V} {ds : List D}, Reps K mg F vs ds → vs.length = ds.length
  | _, _, .nil => rfl
  | _, _, .cons _ r => by simp [Reps.length r]
theorem Reps.get : ∀ {vs : List V} {ds : List D} {i : Nat} {d : D}, Reps K mg F vs ds → ds[i]? = some d → ∃ v, vs[i]? = some v ∧ Rep K mg F v d
  | _, _, _, _, .nil, e => by simp at e
  | _, _, 0, _, .cons r _, e => by simp at e; subst e; exact ⟨_, rfl, r⟩
  | _, _, i + 1, d, .cons _ t, e => by
    obtain ⟨v, h1, h2⟩ := Reps.get (i := i) (d := d) t (by simpa using e)
    exact ⟨v, by simpa using h1, h2⟩
theorem Reps.getV : ∀ {vs : List V} {ds : List D} {i : Nat} {v : V}, Reps K mg F vs ds → vs[i]? = some v → ∃ d, ds[i]? = some d ∧ Rep K mg F v d
  | _, _, _, _, .nil, e => by simp at e
  | _, _, 0, _, .cons r _, e => by simp at e; subst e; exact ⟨_, rfl, r⟩
  | _, _, i + 1, d, .cons _ t, e => by
    obtain ⟨v, h1, h2⟩ := Reps.getV (i := i) (v := d) t (by simpa using e)
    exact ⟨v, by simpa using h1, h2⟩
theorem Reps.append : ∀ {vs ws : List V} {ds es : List D}, Reps K mg F vs ds → Reps K mg F ws es → Reps K mg F (vs ++ ws) (ds ++ es)
  | _, _, _, _, .nil, s => s
  | _, _, _, _, .cons r t, s => .cons r (Reps.append t s)
theorem Reps.take : ∀ {vs : List V} {ds : List D} (n : Nat), Reps K mg F vs ds → Reps K mg F (vs.take n) (ds.take n)
  | _, _, 0, _ => .nil
  | _, _, _ + 1, .nil => .nil
  | _, _, n + 1, .cons r t => .cons r (Reps.take n t)
theorem Reps.drop : ∀ {vs : List V} {ds : List D} (n : Nat), Reps K mg F vs ds → Reps K mg F (vs.drop n) (ds.drop n)
  | _, _, 0, r => r
  | _, _, _ + 1, .nil => .nil
  | _, _, n + 1, .cons _ t => Reps.drop n t
theorem Reps.set {v : V} {d : D} (r : Rep K mg F v d) : ∀ {vs : List V} {ds : List D} (i : Nat), Reps K mg F vs ds → Reps K mg F (vs.set i v) (ds.set i d)
  | _, _, _, .nil => .nil
  | _, _, 0, .cons _ t => .cons r t
  | _, _, i + 1, .cons q t => .cons q (Reps.set r i t)
end

/-- fields -/
def RepF (K : PySem.W.Frag) (mg : Str → Option Value) (F : Hp) : List (Str × V) → List (Str × D) → Prop
  | [], [] => True
  | (x, v) :: r, (y, d) :: q => x = y ∧ Rep K mg F v d ∧ RepF K mg F r q
  | _, _ => False
section
variable {K : PySem.W.Frag} {mg : Str → Option Value} {F F' : Hp}
theorem RepF.mono (m : ∀ a o, F a = some o → F' a = some o) : ∀ {vs : List (Str × V)} {ds : List (Str × D)}, RepF K mg F vs ds → RepF K mg F' vs ds
  | [], [], _ => trivial
  | (x, v) :: r, (y, d) :: q, h => ⟨h.1, h.2.1.mono m, RepF.mono m h.2.2⟩
  | [], _ :: _, h => h.elim
  | _ :: _, [], h => h.elim
theorem RepF.split : ∀ {vs : List (Str × V)} {ds : List (Str × D)}, RepF K mg F vs ds → vs = (ds.map (·.1)).zip (vs.map (·.2)) ∧ (ds.map (·.1)).length = (vs.map (·.2)).length ∧ Reps K mg F (vs.map (·.2)) (ds.map (·.2))
  | [], [], _ => ⟨rfl, rfl, .nil⟩
  | (x, v) :: r, (y, d) :: q, h => by
    obtain ⟨h1, h2, h3⟩ := RepF.split h.2.2
    refine ⟨?_, by simpa using h2, .cons h.2.1 h3⟩
    rw [List.map_cons, List.map_cons, List.zip_cons_cons, ← h1, h.1]
  | [], _ :: _, h => h.elim
  | _ :: _, [], h => h.elim
theorem RepF.lookup {f : Str} : ∀ {vs : List (Str × V)} {ds : List (Str × D)} {d : D}, RepF K mg F vs ds → ds.lookup f = some d → ∃ v, vs.lookup f = some v ∧ Rep K mg F v d
  | [], [], _, _, e => by simp at e
  | (x, v) :: r, (y, z) :: q, d, h, e => by
    obtain ⟨h1, h2, h3⟩ := h
    subst h1
    simp only [List.lookup_cons] at e ⊢
    cases hx : f == x with
    | true => rw [hx] at e; simp only [Option.some.injEq] at e; subst e; exact ⟨v, rfl, h2⟩
    | false => rw [hx] at e; exact RepF.lookup h3 e
  | [], _ :: _, _, h, _ => h.elim
  | _ :: _, [], _, h, _ => h.elim
theorem RepF.lookupN {f : Str} : ∀ {vs : List (Str × V)} {ds : List (Str × D)}, RepF K mg F vs ds → ds.lookup f = none → vs.lookup f = none
  | [], [], _, _ => rfl
  | (x, v) :: r, (y, z) :: q, h, e => by
    obtain ⟨h1, h2, h3⟩ := h
    subst h1
    simp only [List.lookup_cons] at e ⊢
    cases hx : f == x with
    | true => rw [hx] at e; cases e
    | false => rw [hx] at e; exact RepF.lookupN h3 e
  | [], _ :: _, h, _ => h.elim
  | _ :: _, [], h, _ => h.elim
theorem RepF.length : ∀ {vs : List (Str × V)} {ds : List (Str × D)}, RepF K mg F vs ds → vs.length = ds.length
  | [], [], _ => rfl
  | (x, v) :: r, (y, z) :: q, h => by simp [RepF.length h.2.2]
  | [], _ :: _, h => h.elim
  | _ :: _, [], h => h.elim
def dput (f : Str) (v : D) : List (Str × D) → List (Str × D)
  | [] => [(f, v)]
  | (g, x) :: r => if g = f then (g, v) :: r else (g, x) :: dput f v r
theorem RepF.put {f : Str} {v : V} {d : D} (r : Rep K mg F v d) : ∀ {vs : List (Str × V)} {ds : List (Str × D)}, RepF K mg F vs ds → RepF K mg F (putF f v vs) (dput f d ds)
  | [], [], _ => ⟨rfl, r, trivial⟩
  | (x, w) :: q, (y, z) :: s, h => by
    obtain ⟨h1, h2, h3⟩ := h
    subst h1
    unfold putF dput
    by_cases e : x = f
    · simp only [if_pos e]
      exact ⟨rfl, r, h3⟩
    · simp only [if_neg e]
      exact ⟨rfl, h2, RepF.put r h3⟩
  | [], _ :: _, h => h.elim
  | _ :: _, [], h => h.elim
end
/-- what changes: a list; an instance -/
inductive MO where
  | lst (xs : List D)
  | ins (c : Str) (fs : List (Str × D))
/-- a slot: unknown; data; a changing thing that this slot alone holds (io: an in and out parameter) -/
inductive Sl where
  | un | d (x : D) | own (io : Bool) (m : MO)
abbrev SEnv := List Sl
/-- an exception: its class, its fields -/
structure Xn where
  c : Str
  fs : List (Str × D)
inductive Out (α : Type) where
  | stuck | ok (a : α) (e : SEnv) | exc (x : Xn) (e : SEnv)
def Out.bind {α β : Type} : Out α → (α → SEnv → Out β) → Out β
  | .stuck, _ => .stuck
  | .ok a e, k => k a e
  | .exc x e, _ => .exc x e
inductive SOut where
  | stuck | next (e : SEnv) | ret (d : D) (e : SEnv) | brk (e : SEnv) | cont (e : SEnv) | exc (x : Xn) (e : SEnv)

section
variable (K : PySem.W.Frag) (mg : Str → Option Value)
def OwnAt (F H : Hp) (a : Addr) : MO → Prop
  | .lst ds => ∃ vs, H a = some (.lst vs) ∧ Reps K mg F vs ds
  | .ins c fs => ∃ C dx vs, mg c = some (.ref C) ∧ H a = some (.ins C dx vs) ∧ RepF K mg F vs fs
def Own (σ : L2.St) (env : SEnv) (a : Addr) : Prop := ∃ (i : Nat) (io : Bool) (m : MO), env[i]? = some (Sl.own io m) ∧ σ[i]? = some (some (V.ref a))
structure Rel (F : Hp) (σ : L2.St) (H : Hp) (env : SEnv) : Prop where
  len : σ.length = env.length
  sub : ∀ a o, F a = some o → H a = some o
  val : ∀ (i : Nat) (d : D), env[i]? = some (Sl.d d) → ∃ v, σ[i]? = some (some v) ∧ Rep K mg F v d
  own : ∀ (i : Nat) (io : Bool) (m : MO), env[i]? = some (Sl.own io m) → ∃ a, σ[i]? = some (some (V.ref a)) ∧ F a = none ∧ OwnAt K mg F H a m
  sep : ∀ (i j : Nat) (io jo : Bool) (m n : MO) (a : Addr), i ≠ j → env[i]? = some (Sl.own io m) → env[j]? = some (Sl.own jo n) → σ[i]? = some (some (V.ref a)) → σ[j]? = some (some (V.ref a)) → False
end
structure Ext (σ : L2.St) (env : SEnv) (F H : Hp) (σ' : L2.St) (env' : SEnv) (F' H' : Hp) : Prop where
  mono : ∀ a o, F a = some o → F' a = some o
  new : ∀ a o, F' a = some o → F a = some o ∨ H a = none ∨ Own σ env a
  keep : ∀ a o, H a = some o → ¬ Own σ env a → H' a = some o
  own : ∀ a, Own σ' env' a → Own σ env a ∨ H a = none
  io : ∀ (i : Nat) (m : MO), env'[i]? = some (Sl.own true m) → (∃ m0, env[i]? = some (Sl.own true m0)) ∧ σ'[i]? = σ[i]?
  io' : ∀ (i : Nat) (m : MO), env[i]? = some (Sl.own true m) → ∃ m0, env'[i]? = some (Sl.own true m0)
  slen : σ'.length = σ.length
  there : ∀ a, H' a = none → H a = none

section
variable {K : PySem.W.Frag} {mg : Str → Option Value} {σ σ1 σ2 : L2.St} {env env1 env2 : SEnv} {F F1 F2 H H1 H2 : Hp}
theorem Ext.refl : Ext σ env F H σ env F H :=
  ⟨fun _ _ h => h, fun _ _ h => .inl h, fun _ _ h _ => h, fun _ h => .inl h, fun _ m h => ⟨⟨m, h⟩, rfl⟩, fun _ m h => ⟨m, h⟩, rfl, fun _ h => h⟩
theorem Ext.gone (x : Ext σ env F H σ1 env1 F1 H1) {a : Addr} (h : H1 a = none) : Own σ env a ∨ H a = none := by
  by_cases o : Own σ env a
  · exact .inl o
  · right
    cases e : H a with
    | none => rfl
    | some u => rw [x.keep a u e o] at h; cases h
theorem Ext.trans (x : Ext σ env F H σ1 env1 F1 H1) (y : Ext σ1 env1 F1 H1 σ2 env2 F2 H2) : Ext σ env F H σ2 env2 F2 H2 := by
  refine ⟨fun a o h => y.mono a o (x.mono a o h), fun a o h => ?_, fun a o h n => ?_, fun a h => ?_, fun i m h => ?_, fun i m h => ?_, y.slen.trans x.slen, fun a h => x.there a (y.there a h)⟩
  · rcases y.new a o h with h | h | h
    · exact x.new a o h
    · rcases x.gone h with h | h
      · exact .inr (.inr h)
      · exact .inr (.inl h)
    · rcases x.own a h with h | h
      · exact .inr (.inr h)
      · exact .inr (.inl h)
  · refine y.keep a o (x.keep a o h n) fun q => ?_
    rcases x.own a q with q | q
    · exact n q
    · rw [q] at h; cases h
  · rcases y.own a h with h | h
    · exact x.own a h
    · exact x.gone h
  · obtain ⟨⟨m1, h1⟩, e1⟩ := y.io i m h
    obtain ⟨⟨m0, h0⟩, e0⟩ := x.io i m1 h1
    exact ⟨⟨m0, h0⟩, e1.trans e0⟩
  · obtain ⟨m1, h1⟩ := x.io' i m h
    exact y.io' i m1 h1
/-- new objects alone -/
structure Grow (F H F' H' : Hp) : Prop where
  mono : ∀ a o, F a = some o → F' a = some o
  new : ∀ a o, F' a = some o → F a = some o ∨ H a = none
  keep : ∀ a o, H a = some o → H' a = some o
  sub : ∀ a o, F' a = some o → H' a = some o
theorem Grow.refl (s : ∀ a o, F a = some o → H a = some o) : Grow F H F H := ⟨fun _ _ h => h, fun _ _ h => .inl h, fun _ _ h => h, s⟩
theorem Grow.trans (x : Grow F H F1 H1) (y : Grow F1 H1 F2 H2) : Grow F H F2 H2 := by
  refine ⟨fun a o h => y.mono a o (x.mono a o h), fun a o h => ?_, fun a o h => y.keep a o (x.keep a o h), y.sub⟩
  rcases y.new a o h with h | h
  · exact x.new a o h
  · right
    cases e : H a with
    | none => rfl
    | some u => rw [x.keep a u e] at h; cases h
/-- a new frozen object -/
theorem Grow.lay {a : Addr} {o : HO} (s : ∀ a o, F a = some o → H a = some o) (h : H a = none) : Grow F H (upd F a o) (upd H a o) := by
  refine ⟨fun b u e => ?_, fun b u e => ?_, fun b u e => ?_, fun b u e => ?_⟩
  · rw [upd_ne (ne_of_none (s _ _ e) h)]; exact e
  · by_cases q : b = a
    · subst q; exact .inr h
    · rw [upd_ne q] at e; exact .inl e
  · rw [upd_ne (ne_of_none e h)]; exact e
  · by_cases q : b = a
    · subst q; rw [upd_same] at e ⊢; exact e
    · rw [upd_ne q] at e ⊢; exact s _ _ e
/-- a new object that nobody keeps -/
theorem Grow.skip {a : Addr} {o : HO} (s : ∀ a o, F a = some o → H a = some o) (h : H a = none) : Grow F H F (upd H a o) := by
  refine ⟨fun b u e => e, fun b u e => .inl e, fun b u e => ?_, fun b u e => ?_⟩
  · rw [upd_ne (ne_of_none e h)]; exact e
  · rw [upd_ne (ne_of_none (s _ _ e) h)]; exact s _ _ e
theorem OwnAt.grow {a : Addr} {m : MO} (g : Grow F H F1 H1) (h : OwnAt K mg F H a m) : OwnAt K mg F1 H1 a m := by
  cases m with
  | lst ds => obtain ⟨vs, e, r⟩ := h; exact ⟨vs, g.keep _ _ e, r.mono g.mono⟩
  | ins c fs => obtain ⟨C, dx, vs, e, e1, r⟩ := h; exact ⟨C, dx, vs, e, g.keep _ _ e1, r.mono g.mono⟩
theorem OwnAt.there {a : Addr} {m : MO} (h : OwnAt K mg F H a m) : ∃ o, H a = some o := by
  cases m with
  | lst ds => obtain ⟨vs, e, r⟩ := h; exact ⟨_, e⟩
  | ins c fs => obtain ⟨C, dx, vs, e, e1, r⟩ := h; exact ⟨_, e1⟩
theorem Rel.grow (r : Rel K mg F σ H env) (g : Grow F H F1 H1) : Rel K mg F1 σ H1 env := by
  refine ⟨r.len, g.sub, fun i d e => ?_, fun i io m e => ?_, r.sep⟩
  · obtain ⟨v, e1, q⟩ := r.val i d e
    exact ⟨v, e1, q.mono g.mono⟩
  · obtain ⟨a, e1, n, o⟩ := r.own i io m e
    refine ⟨a, e1, ?_, o.grow g⟩
    cases q : F1 a with
    | none => rfl
    | some u =>
      rcases g.new a u q with z | z
      · rw [n] at z; cases z
      · obtain ⟨u', h⟩ := o.there
        rw [h] at z; cases z
theorem Grow.ext (r : Rel K mg F σ H env) (g : Grow F H F1 H1) : Ext σ env F H σ env F1 H1 :=
  ⟨g.mono, fun a o h => (g.new a o h).elim .inl fun z => .inr (.inl z), fun a o h _ => g.keep a o h, fun _ h => .inl h, fun _ m h => ⟨⟨m, h⟩, rfl⟩, fun _ m h => ⟨m, h⟩, rfl, fun a h => by
    cases q : H a with
    | none => rfl
    | some o => rw [g.keep a o q] at h; cases h⟩

/-- an exception's class and fields -/
def XRep (K : PySem.W.Frag) (mg : Str → Option Value) (F H H0 : Hp) (x : Xn) (cls : Value) (da : Option Addr) : Prop :=
  (∀ d, da = some d → H0 d = none) ∧ ∃ C, mg x.c = some (.ref C) ∧ cls = .ref C ∧ (x.fs = [] ∨ ∃ d vs, da = some d ∧ H d = some (.xd vs) ∧ RepF K mg F vs x.fs)

/-! ### what is wanted of an expression's end -/
section
variable {α β γ δ : Type}
def RES (K : PySem.W.Frag) (mg : Str → Option Value) (W : WX) (R : L2.St → SEnv → Hp → β → α → Prop) (σ : L2.St) (env : SEnv) (F H : Hp) (o : Out α) (Q : β → Hp → Prop) : Prop :=
  match o with
  | .stuck => False
  | .ok a env' => ∀ b H' F', Ext σ env F H σ env' F' H' → Rel K mg F' σ H' env' → R σ env' F' b a → Q b H'
  | .exc x env' => ∀ cls da H' F', Ext σ env F H σ env' F' H' → Rel K mg F' σ H' env' → XRep K mg F' H' H x cls da → W cls da σ H'
variable {W : WX} {R : L2.St → SEnv → Hp → β → α → Prop} {R' : L2.St → SEnv → Hp → δ → γ → Prop}
theorem RES.ext {o : Out α} {Q : β → Hp → Prop} (x : Ext σ env F H σ env1 F1 H1) (h : RES K mg W R σ env F H o Q) : RES K mg W R σ env1 F1 H1 o Q := by
  cases o with
  | stuck => exact h
  | ok a e => exact fun b H' F' y r q => h b H' F' (x.trans y) r q
  | exc a e => exact fun b c H' F' y r q => h b c H' F' (x.trans y) r ⟨fun d z => x.there d (q.1 d z), q.2⟩
theorem RES.mono {o : Out α} {Q Q' : β → Hp → Prop} (h : RES K mg W R σ env F H o Q) (q : ∀ b H, Q b H → Q' b H) : RES K mg W R σ env F H o Q' := by
  cases o with
  | stuck => exact h
  | ok a e => exact fun b H' F' y r z => q _ _ (h b H' F' y r z)
  | exc a e => exact h
theorem RES.bind {o : Out α} {k : α → SEnv → Out γ} {Q : δ → Hp → Prop} (h : RES K mg W R' σ env F H (o.bind k) Q) :
    RES K mg W R σ env F H o fun b H1 => ∃ env1 F1 a, Ext σ env F H σ env1 F1 H1 ∧ Rel K mg F1 σ H1 env1 ∧ R σ env1 F1 b a ∧ RES K mg W R' σ env1 F1 H1 (k a env1) Q := by
  cases o with
  | stuck => exact h
  | ok a e => exact fun b H' F' y r z => ⟨e, F', a, y, r, z, RES.ext y h⟩
  | exc a e => exact h
end
/-- v stands for d -/
def RD (K : PySem.W.Frag) (mg : Str → Option Value) : L2.St → SEnv → Hp → V → D → Prop := fun _ _ F v d => Rep K mg F v d
def RB : L2.St → SEnv → Hp → Bool → Bool → Prop := fun _ _ _ b c => b = c
end

/-- the reading of an expression by its semantics -/
def tE (K : PySem.W.Frag) (mg : Str → Option Value) (W : WX) (g : SEnv → Out D) : TE := fun σ H Q => ∃ F env, Rel K mg F σ H env ∧ RES K mg W (RD K mg) σ env F H (g env) Q
def tT (K : PySem.W.Frag) (mg : Str → Option Value) (W : WX) (g : SEnv → Out Bool) : TT := fun σ H Q => ∃ F env, Rel K mg F σ H env ∧ RES K mg W RB σ env F H (g env) Q
def SE (X : Cx) (W : WX) (e : Expr) (g : SEnv → Out D) : Prop := PE X e (tE X.K X.mg W g)
def ST (X : Cx) (W : WX) (e : Expr) (g : SEnv → Out Bool) : Prop := PT X e (tT X.K X.mg W g)
theorem PE.imp {X : Cx} {e : Expr} {t u : TE} (h : PE X e t) (i : ∀ σ H Q, u σ H Q → t σ H Q) : PE X e u := ⟨fun pins s σ H Q I q => h.run pins s σ H Q I (i σ H Q q)⟩
theorem PT.imp {X : Cx} {e : Expr} {t u : TT} (h : PT X e t) (i : ∀ σ H Q, u σ H Q → t σ H Q) : PT X e u := ⟨fun pins s σ H Q I q => h.run pins s σ H Q I (i σ H Q q)⟩
theorem PW.imp {X : Cx} {e : Expr} {t u : TT} (h : PW X e t) (i : ∀ σ H Q, u σ H Q → t σ H Q) : PW X e u := ⟨fun wh pins s σ H Q I q => h.run wh pins s σ H Q I (i σ H Q q)⟩
theorem PS.imp {X : Cx} {e : Stmt} {t u : TS} (h : PS X e t) (i : ∀ D σ H, u D σ H → t D σ H) : PS X e u := ⟨fun pins s σ H D I q => h.run pins s σ H D I (i D σ H q)⟩
theorem PSs.imp {X : Cx} {e : List Stmt} {t u : TS} (h : PSs X e t) (i : ∀ D σ H, u D σ H → t D σ H) : PSs X e u := ⟨fun pins s σ H D I q => h.run pins s σ H D I (i D σ H q)⟩
theorem PA.imp {X : Cx} {e : List Expr} {t u : TA} (h : PA X e t) (i : ∀ σ H Q, u σ H Q → t σ H Q) : PA X e u := ⟨fun pos pins s σ H Q I q => h.run pos pins s σ H Q I (i σ H Q q)⟩

end RL

/-! RL2: expressions -/
namespace RL
open PySem L2

/-! ### operations on data -/
section
variable {X : Cx} {W : WX}
def OpS (X : Cx) (f : Value → Value → Sem Value) (h : D → D → Option D) : Prop :=
  ∃ r, OpR X f r ∧ ∀ (F H : Hp) (x y : V) (d e z : D) (Q : VK), (∀ a o, F a = some o → H a = some o) → Rep X.K X.mg F x d → Rep X.K X.mg F y e → h d e = some z →
    (∀ v H' F', Grow F H F' H' → Rep X.K X.mg F' v z → Q v H') → r x y H Q
def UnS (X : Cx) (f : Value → Sem Value) (h : D → Option D) : Prop :=
  ∃ r, UnR X f r ∧ ∀ (F H : Hp) (x : V) (d z : D) (Q : VK), (∀ a o, F a = some o → H a = some o) → Rep X.K X.mg F x d → h d = some z →
    (∀ v H' F', Grow F H F' H' → Rep X.K X.mg F' v z → Q v H') → r x H Q
def CallS (X : Cx) (f : Value) (h : List D → Option D) : Prop :=
  ∃ r, CallR X f r ∧ ∀ (F H : Hp) (xs : List V) (ds : List D) (z : D) (Q : VK), (∀ a o, F a = some o → H a = some o) → Reps X.K X.mg F xs ds → h ds = some z →
    (∀ v H' F', Grow F H F' H' → Rep X.K X.mg F' v z → Q v H') → r xs H Q
theorem OpR.or' {f : Value → Value → Sem Value} {r1 r2 : R2} (a : OpR X f r1) (b : OpR X f r2) : OpR X f (fun x y H Q => r1 x y H Q ∨ r2 x y H Q) :=
  fun pins s σ H x y v u Q I rx ry h => h.elim (a pins s σ H x y v u Q I rx ry) (b pins s σ H x y v u Q I rx ry)
theorem CallR.or' {f : Value} {r1 r2 : List V → Hp → VK → Prop} (a : CallR X f r1) (b : CallR X f r2) : CallR X f (fun x H Q => r1 x H Q ∨ r2 x H Q) :=
  fun pins s σ H x v Q I rx h => h.elim (a pins s σ H x v Q I rx) (b pins s σ H x v Q I rx)
/-- the first that answers -/
theorem OpS.or {f : Value → Value → Sem Value} {h1 h2 : D → D → Option D} (a : OpS X f h1) (b : OpS X f h2) : OpS X f (fun d e => (h1 d e).or (h2 d e)) := by
  obtain ⟨r1, p1, q1⟩ := a
  obtain ⟨r2, p2, q2⟩ := b
  refine ⟨_, OpR.or' p1 p2, fun F H x y d e z Q s rx ry hh hq => ?_⟩
  cases h : h1 d e with
  | some w => simp only [h, Option.some_or, Option.some.injEq] at hh; subst hh; exact .inl (q1 F H x y d e w Q s rx ry h hq)
  | none => simp only [h, Option.none_or] at hh; exact .inr (q2 F H x y d e z Q s rx ry hh hq)
theorem CallS.or {f : Value} {h1 h2 : List D → Option D} (a : CallS X f h1) (b : CallS X f h2) : CallS X f (fun d => (h1 d).or (h2 d)) := by
  obtain ⟨r1, p1, q1⟩ := a
  obtain ⟨r2, p2, q2⟩ := b
  refine ⟨_, CallR.or' p1 p2, fun F H x d z Q s rx hh hq => ?_⟩
  cases h : h1 d with
  | some w => simp only [h, Option.some_or, Option.some.injEq] at hh; subst hh; exact .inl (q1 F H x d w Q s rx h hq)
  | none => simp only [h, Option.none_or] at hh; exact .inr (q2 F H x d z Q s rx hh hq)
theorem OpS.sub {f : Value → Value → Sem Value} {h1 h2 : D → D → Option D} (a : OpS X f h1) (h : ∀ d e z, h2 d e = some z → h1 d e = some z) : OpS X f h2 := by
  obtain ⟨r1, p1, q1⟩ := a
  exact ⟨r1, p1, fun F H x y d e z Q s rx ry hh hq => q1 F H x y d e z Q s rx ry (h _ _ _ hh) hq⟩

/-- a size that fits -/
def fits (n : Nat) : Bool := decide (n ≤ 1000000)
theorem fits_line {n : Nat} (h : fits n = true) : n ≤ sizeLine := Nat.le_trans (of_decide_eq_true h) (by rw [sizeLine_eq]; decide)
theorem fits_lt {n : Nat} (h : fits n = true) : n < sizeLine := Nat.lt_of_le_of_lt (of_decide_eq_true h) (by rw [sizeLine_eq]; decide)

def hInt (g : Int → Int → D) : D → D → Option D
  | .int i, .int j => some (g i j)
  | _, _ => none
def hIntC (C : Int → Int → Bool) (g : Int → Int → D) : D → D → Option D
  | .int i, .int j => if C i j then some (g i j) else none
  | _, _ => none
theorem os_int {f : Value → Value → Sem Value} {g : Int → Int → V} {g' : Int → Int → D} (h : OpR X f (rI0 g)) (hg : ∀ F i j, Rep X.K X.mg F (g i j) (g' i j)) : OpS X f (hInt g') := by
  refine ⟨_, h, fun F H x y d e z Q s rx ry hh hq => ?_⟩
  cases d <;> try (simp [hInt] at hh; done)
  cases e <;> try (simp [hInt] at hh; done)
  cases rx; cases ry
  simp only [hInt, Option.some.injEq] at hh
  subst hh
  exact ⟨_, _, rfl, rfl, hq _ H F (Grow.refl s) (hg F _ _)⟩
theorem os_intC {f : Value → Value → Sem Value} {C : Int → Int → Prop} {C' : Int → Int → Bool} {g : Int → Int → V} {g' : Int → Int → D} (h : OpR X f (rI C g)) (hc : ∀ i j, C' i j = true → C i j) (hg : ∀ F i j, Rep X.K X.mg F (g i j) (g' i j)) : OpS X f (hIntC C' g') := by
  refine ⟨_, h, fun F H x y d e z Q s rx ry hh hq => ?_⟩
  cases d <;> try (simp [hIntC] at hh; done)
  cases e <;> try (simp [hIntC] at hh; done)
  cases rx; cases ry
  simp only [hIntC] at hh
  split at hh
  · rename_i hC
    simp only [Option.some.injEq] at hh
    subst hh
    exact ⟨_, _, rfl, rfl, hc _ _ hC, hq _ H F (Grow.refl s) (hg F _ _)⟩
  · cases hh
/-! + -/
def hAddS : D → D → Option D
  | .str i, .str j => if fits (i.length + j.length) then some (.str (i ++ j)) else none
  | .tup xs, .tup ys => if fits (xs.length + ys.length) then some (.tup (xs ++ ys)) else none
  | .lst xs, .lst ys => if fits (xs.length + ys.length) then some (.lst (xs ++ ys)) else none
  | _, _ => none
def hAdd : D → D → Option D := fun d e => (hInt (fun i j => .int (i + j)) d e).or (hAddS d e)
theorem os_addS : OpS X (binaryOp .Add) hAddS := by
  refine ⟨_, OpR.or' op_add_str (OpR.or' op_catA op_cat), fun F H x y d e z Q s rx ry hh hq => ?_⟩
  cases d <;> try (simp [hAddS] at hh; done)
  · cases e <;> try (simp [hAddS] at hh; done)
    cases rx; cases ry
    simp only [hAddS] at hh
    split at hh
    · rename_i hC
      simp only [Option.some.injEq] at hh
      subst hh
      exact .inl ⟨_, _, rfl, rfl, fits_line hC, hq _ H F (Grow.refl s) .str⟩
    · cases hh
  · cases e <;> try (simp [hAddS] at hh; done)
    cases rx with
    | tup h1 r1 =>
    cases ry with
    | tup h2 r2 =>
    simp only [hAddS] at hh
    split at hh
    · rename_i hC
      simp only [Option.some.injEq] at hh
      subst hh
      refine .inr (.inl ⟨_, _, _, _, rfl, rfl, sqT_mono s h1, sqT_mono s h2, ?_, ?_, ?_, ?_⟩)
      · rw [r1.length, r2.length]; exact fits_line hC
      · intro q; subst q; cases r1
        exact hq _ H F (Grow.refl s) (.tup h2 r2)
      · intro _ q; subst q; cases r2
        refine hq _ H F (Grow.refl s) ?_
        rw [List.append_nil]
        exact .tup h1 r1
      · intro _ _ p hp
        refine hq _ _ _ (Grow.lay (o := .tup _) s hp) ?_
        exact .tup (SqT.of upd_same) ((r1.append r2).mono (Grow.lay s hp).mono)
    · cases hh
  · cases e <;> try (simp [hAddS] at hh; done)
    cases rx with
    | lst h1 r1 =>
    cases ry with
    | lst h2 r2 =>
    simp only [hAddS] at hh
    split at hh
    · rename_i hC
      simp only [Option.some.injEq] at hh
      subst hh
      refine .inr (.inr ⟨_, _, _, _, rfl, rfl, s _ _ h1, s _ _ h2, ?_, ?_⟩)
      · rw [r1.length, r2.length]; exact fits_line hC
      · intro p hp
        refine hq _ _ _ (Grow.lay (o := .lst _) s hp) ?_
        exact .lst upd_same ((r1.append r2).mono (Grow.lay s hp).mono)
    · cases hh
theorem os_add : OpS X (binaryOp .Add) hAdd := OpS.or (os_int op_add fun _ _ _ => .int) os_addS
def hSub : D → D → Option D := hInt fun i j => .int (i - j)
theorem os_sub : OpS X (binaryOp .Sub) hSub := os_int op_sub fun _ _ _ => .int
/-! * -/
def small64 (i : Int) : Bool := decide (-(2 ^ 64) < i) && decide (i < 2 ^ 64)
def hMulI : D → D → Option D := hIntC (fun i j => small64 i || small64 j) fun i j => .int (i * j)
theorem os_mulI : OpS X (binaryOp .Mult) hMulI := os_intC op_mul (fun i j h => by
  rcases (Bool.or_eq_true _ _).mp h with h | h
  · have := (Bool.and_eq_true _ _).mp h
    exact .inl ⟨of_decide_eq_true this.1, of_decide_eq_true this.2⟩
  · have := (Bool.and_eq_true _ _).mp h
    exact .inr ⟨of_decide_eq_true this.1, of_decide_eq_true this.2⟩) fun _ _ _ => .int
def hMod : D → D → Option D := hIntC (fun _ j => decide (0 < j)) fun i j => .int (i % j)
theorem os_mod : OpS X (binaryOp .Mod) hMod := os_intC op_mod (fun i j h => of_decide_eq_true h) fun _ _ _ => .int
def hFdiv : D → D → Option D := hIntC (fun _ j => decide (0 < j) && decide (j < 1073741824)) fun i j => .int (i / j)
theorem os_fdiv : OpS X (binaryOp .FloorDiv) hFdiv := os_intC op_fdiv (fun i j h => by
    have := (Bool.and_eq_true _ _).mp h
    exact ⟨of_decide_eq_true this.1, of_decide_eq_true this.2⟩) fun _ _ _ => .int
def hPow : D → D → Option D := hIntC (fun i j => decide (0 ≤ j) && decide (j ≤ 1000) && decide (i.natAbs ≤ 10)) fun i j => .int (i ^ j.toNat)
theorem os_pow : OpS X (binaryOp .Pow) hPow := os_intC op_pow (fun i j h => by
    have h2 := (Bool.and_eq_true _ _).mp h
    have h1 := (Bool.and_eq_true _ _).mp h2.1
    have a := of_decide_eq_true h1.1
    have b := of_decide_eq_true h1.2
    have c := of_decide_eq_true h2.2
    exact ⟨a, by omega, by omega⟩) fun _ _ _ => .int
/-! comparisons -/
def hLt : D → D → Option D := hInt fun i j => .bl (decide (i < j))
def hLe : D → D → Option D := hInt fun i j => .bl (decide (i ≤ j))
def hGt : D → D → Option D := hInt fun i j => .bl (decide (j < i))
def hGe : D → D → Option D := hInt fun i j => .bl (decide (j ≤ i))
theorem os_lt : OpS X (compareOp .Lt) hLt := os_int op_lt fun _ _ _ => .bl
theorem os_le : OpS X (compareOp .LtE) hLe := os_int op_le fun _ _ _ => .bl
theorem os_gt : OpS X (compareOp .Gt) hGt := os_int op_gt fun _ _ _ => .bl
theorem os_ge : OpS X (compareOp .GtE) hGe := os_int op_ge fun _ _ _ => .bl
def hIsN : D → D → Option D
  | d, .non => some (.bl (match d with | .non => true | _ => false))
  | _, _ => none
def hNotN : D → D → Option D
  | d, .non => some (.bl (match d with | .non => false | _ => true))
  | _, _ => none
theorem os_isN : OpS X (compareOp .Is) hIsN := by
  refine ⟨_, op_isN, fun F H x y d e z Q s rx ry hh hq => ?_⟩
  cases e <;> try (cases d <;> simp [hIsN] at hh; done)
  cases ry
  refine ⟨rfl, hq _ H F (Grow.refl s) ?_⟩
  cases rx <;> (simp only [hIsN, Option.some.injEq] at hh; subst hh; exact .bl)
theorem os_notN : OpS X (compareOp .IsNot) hNotN := by
  refine ⟨_, op_notN, fun F H x y d e z Q s rx ry hh hq => ?_⟩
  cases e <;> try (cases d <;> simp [hNotN] at hh; done)
  cases ry
  refine ⟨rfl, hq _ H F (Grow.refl s) ?_⟩
  cases rx <;> (simp only [hNotN, Option.some.injEq] at hh; subst hh; exact .bl)
/-! == of flat things, of data -/
def flatD : D → Bool
  | .non => true | .bl _ => true | .int _ => true | .str _ => true | _ => false
def flatEq : D → D → Bool
  | .non, .non => true
  | .bl a, .bl b => a == b
  | .bl a, .int b => (if a then 1 else 0) == b
  | .int a, .bl b => a == (if b then 1 else 0)
  | .int a, .int b => a == b
  | .str a, .str b => a == b
  | _, _ => false
mutual
def D.py : D → PyData
  | .non => .none | .bl b => .bool b | .int i => .int i | .str s => .str s
  | .tup xs => .tuple (D.pys xs) | .lst xs => .list (D.pys xs) | .sc ns => .list (ns.map .int)
  | _ => .none
def D.pys : List D → List PyData
  | [] => []
  | x :: xs => D.py x :: D.pys xs
end
mutual
def D.isData : D → Bool
  | .non => true | .bl _ => true | .int _ => true | .str _ => true
  | .tup xs => D.areData xs | .lst xs => D.areData xs
  | _ => false
def D.areData : List D → Bool
  | [] => true
  | x :: xs => D.isData x && D.areData xs
end
/-- == of two things: .. -/
def D.deq (d e : D) : Bool := PyData.eqv d.py e.py
def D.okEq (d : D) : Bool := d.isData && SeqAt.shaped d.py
def scalD : D → D → Bool
  | .non, .non => true | .non, .int _ => true | .int _, .non => true | .non, .bl _ => true | .bl _, .non => true | .non, .str _ => true | .str _, .non => true
  | .int _, .int _ => true | .bl _, .bl _ => true | .str _, .str _ => true
  | .int _, .str _ => true | .str _, .int _ => true | .bl _, .str _ => true | .str _, .bl _ => true
  | _, _ => false
def hEq : D → D → Option D := fun d e => if scalD d e then some (.bl (flatEq d e)) else if d.okEq && e.okEq then some (.bl (d.deq e)) else none
def hNe : D → D → Option D := fun d e => if scalD d e then some (.bl (!flatEq d e)) else if d.okEq && e.okEq then some (.bl (!d.deq e)) else none
mutual
theorem dp_of {K : PySem.W.Frag} {mg : Str → Option Value} {F H : Hp} (s : ∀ a o, F a = some o → H a = some o) : ∀ {v : V} {d : D}, Rep K mg F v d → d.isData = true → Dp K H v d.py
  | _, _, .non, _ => .non
  | _, _, .bl, _ => .bl _
  | _, _, .int, _ => .int _
  | _, _, .str, _ => .str _
  | _, _, .tup h r, e => .tup (sqT_mono s h) (dps_of s r (by simpa [D.isData] using e))
  | _, _, .lst h r, e => .lst (.inl (.inl (s _ _ h))) (dps_of s r (by simpa [D.isData] using e))
  | _, _, .sc _, e => by simp [D.isData] at e
  | _, _, .dct0 _, e => by simp [D.isData] at e
  | _, _, .obj _ _ _ _ _, e => by simp [D.isData] at e
  | _, _, .gl _, e => by simp [D.isData] at e
theorem dps_of {K : PySem.W.Frag} {mg : Str → Option Value} {F H : Hp} (s : ∀ a o, F a = some o → H a = some o) : ∀ {vs : List V} {ds : List D}, Reps K mg F vs ds → D.areData ds = true → DpAll K H vs (D.pys ds)
  | _, _, .nil, _ => .nil
  | _, _, .cons h r, e => by
    simp only [D.areData, Bool.and_eq_true] at e
    exact .cons (dp_of s h e.1) (dps_of s r e.2)
end
theorem scal_eq {K : PySem.W.Frag} {mg : Str → Option Value} {F : Hp} {x y : V} {d e : D} (rx : Rep K mg F x d) (ry : Rep K mg F y e) (h : scalD d e = true) : scal x y = true ∧ decide (x = y) = flatEq d e := by
  cases rx <;> cases ry <;> first
    | (simp [scalD] at h; done)
    | (refine ⟨rfl, ?_⟩; simp [flatEq]; done)
    | (refine ⟨rfl, ?_⟩; rw [Bool.eq_iff_iff]; simp [flatEq]; done)
theorem os_eq (hu : X.A.units + 64 < cLine) : OpS X (compareOp .Eq) hEq := by
  refine ⟨_, OpR.or' op_eq (op_eqD hu), fun F H x y d e z Q s rx ry hh hq => ?_⟩
  unfold hEq at hh
  split at hh
  · rename_i hs
    obtain ⟨h1, h2⟩ := scal_eq rx ry hs
    simp only [Option.some.injEq] at hh
    subst hh
    exact .inl ⟨h1, by rw [h2]; exact hq _ H F (Grow.refl s) .bl⟩
  · split at hh
    · rename_i ho
      simp only [D.okEq, Bool.and_eq_true] at ho
      simp only [Option.some.injEq] at hh
      subst hh
      exact .inr ⟨_, _, dp_of s rx ho.1.1, dp_of s ry ho.2.1, ho.1.2, ho.2.2, hq _ H F (Grow.refl s) .bl⟩
    · cases hh
theorem os_ne (hu : X.A.units + 64 < cLine) : OpS X (compareOp .NotEq) hNe := by
  refine ⟨_, OpR.or' op_ne (op_neD hu), fun F H x y d e z Q s rx ry hh hq => ?_⟩
  unfold hNe at hh
  split at hh
  · rename_i hs
    obtain ⟨h1, h2⟩ := scal_eq rx ry hs
    simp only [Option.some.injEq] at hh
    subst hh
    exact .inl ⟨h1, by rw [h2]; exact hq _ H F (Grow.refl s) .bl⟩
  · split at hh
    · rename_i ho
      simp only [D.okEq, Bool.and_eq_true] at ho
      simp only [Option.some.injEq] at hh
      subst hh
      exact .inr ⟨_, _, dp_of s rx ho.1.1, dp_of s ry ho.2.1, ho.1.2, ho.2.2, hq _ H F (Grow.refl s) .bl⟩
    · cases hh
end
end RL

/-! RL3: expressions' rules -/
namespace RL
open PySem L2

section
variable {X : Cx} {W : WX} {a b c : Expr} {ga gb gc : SEnv → Out D} {ta tb tc : SEnv → Out Bool} {pos : Pos}

/-! ### constants, names -/
def gC (d : D) : SEnv → Out D := fun env => .ok d env
theorem se_c {d : D} {v : V} (h : PE X a (tC v)) (r : ∀ F, Rep X.K X.mg F v d) : SE X W a (gC d) := by
  refine PE.imp h fun σ H Q ⟨F, env, rel, res⟩ => ?_
  exact res v H F Ext.refl rel (r F)
theorem se_int {i : Int} {j : Nat} : SE X W (.Constant (.int i) j pos) (gC (.int i)) := se_c pe_int fun _ => .int
theorem se_str {z : Str} {j : Nat} : SE X W (.Constant (.str z) j pos) (gC (.str z)) := se_c pe_str fun _ => .str
theorem se_non {j : Nat} : SE X W (.Constant .none j pos) (gC .non) := se_c pe_non fun _ => .non
theorem se_bl {k : Bool} {j : Nat} : SE X W (.Constant (.bool k) j pos) (gC (.bl k)) := se_c pe_bl fun _ => .bl
/-- a def or a class of the module as a value -/
theorem se_gl {x : Str} {u : Addr} (hm : X.mg x = some (.ref u)) (hg : Gl X x := by rfl) (hd : (x == ("__debug__" : Str)) = false := by decide) : SE X W (.Name x pos) (gC (.gl x)) :=
  se_c (pe_glob (v := .ref u) hg hm rfl hd) fun _ => .gl hm
/-- a constant of the module -/
theorem se_mc {x : Str} {v : V} {u : Value} {d : D} (hm : X.mg x = some u) (hr : RelV v u) (h : ∀ F, Rep X.K X.mg F v d) (hg : Gl X x := by rfl) (hd : (x == ("__debug__" : Str)) = false := by decide) : SE X W (.Name x pos) (gC d) :=
  se_c (pe_glob (v := v) hg hm hr hd) h

/-- a changing thing that is told to others never changes again -/
def MO.frz : MO → Option D
  | .lst xs => some (.lst xs)
  | .ins _ _ => none
def gVar (i : Nat) : SEnv → Out D := fun env => match env[i]? with
  | some (.d d) => .ok d env
  | some (.own false m) => match m.frz with
    | some d => .ok d (env.set i (.d d))
    | none => .stuck
  | _ => .stuck
theorem Own.set_d {σ : L2.St} {env : SEnv} {i : Nat} {d : D} {a : Addr} (h : Own σ (env.set i (.d d)) a) : Own σ env a := by
  obtain ⟨j, io, m, e, s⟩ := h
  refine ⟨j, io, m, ?_, s⟩
  by_cases q : i = j
  · subst q
    rw [List.getElem?_set_self'] at e
    cases z : env[i]? with
    | none => rw [z] at e; cases e
    | some y => rw [z] at e; cases e
  · rwa [List.getElem?_set_ne q] at e
/-- the slot i freezes -/
theorem Rel.freeze {K : PySem.W.Frag} {mg : Str → Option Value} {F H : Hp} {σ : L2.St} {env : SEnv} {i : Nat} {a : Addr} {xs : List D} {vs : List V} (r : Rel K mg F σ H env) (e : env[i]? = some (.own false (.lst xs)))
    (es : σ[i]? = some (some (V.ref a))) (n : F a = none) (h : H a = some (.lst vs)) (rs : Reps K mg F vs xs) :
    Ext σ env F H σ (env.set i (.d (.lst xs))) (upd F a (.lst vs)) H ∧ Rel K mg (upd F a (.lst vs)) σ H (env.set i (.d (.lst xs))) ∧ Rep K mg (upd F a (.lst vs)) (.ref a) (.lst xs) := by
  have hi : i < env.length := (List.getElem?_eq_some_iff.mp e).1
  have m : ∀ b o, F b = some o → upd F a (.lst vs) b = some o := fun b o q => by
    rw [upd_ne (ne_of_none q n)]; exact q
  have sb : ∀ b o, upd F a (.lst vs) b = some o → H b = some o := fun b o q => by
    by_cases z : b = a
    · subst z; rw [upd_same] at q; rw [h]; exact q
    · rw [upd_ne z] at q; exact r.sub b o q
  have rp : Rep K mg (upd F a (.lst vs)) (.ref a) (.lst xs) := .lst upd_same (rs.mono m)
  refine ⟨⟨m, fun b o q => ?_, fun b o q _ => q, fun b q => .inl q.set_d, fun j m0 q => ?_, fun j m0 q => ?_, rfl, fun _ h => h⟩, ⟨by rw [List.length_set]; exact r.len, sb, fun j d q => ?_, fun j io m0 q => ?_, fun j k io jo m0 n0 b ne q1 q2 s1 s2 => ?_⟩, rp⟩
  · by_cases z : b = a
    · subst z; exact .inr (.inr ⟨i, _, _, e, es⟩)
    · rw [upd_ne z] at q; exact .inl q
  · by_cases z : i = j
    · subst z; rw [List.getElem?_set_self hi] at q; cases q
    · rw [List.getElem?_set_ne z] at q; exact ⟨⟨m0, q⟩, rfl⟩
  · by_cases z : i = j
    · subst z; rw [e] at q; cases q
    · exact ⟨m0, by rw [List.getElem?_set_ne z]; exact q⟩
  · by_cases z : i = j
    · subst z
      rw [List.getElem?_set_self hi] at q
      cases q
      exact ⟨_, es, rp⟩
    · rw [List.getElem?_set_ne z] at q
      obtain ⟨v, e1, q1⟩ := r.val j d q
      exact ⟨v, e1, q1.mono m⟩
  · by_cases z : i = j
    · subst z; rw [List.getElem?_set_self hi] at q; cases q
    · rw [List.getElem?_set_ne z] at q
      obtain ⟨b, e1, n1, o1⟩ := r.own j io m0 q
      refine ⟨b, e1, ?_, ?_⟩
      · rw [upd_ne fun z' => ?_]
        · exact n1
        · subst z'; exact r.sep i j _ _ _ _ _ z e q es e1
      · cases m0 with
        | lst ds => obtain ⟨ws, h1, h2⟩ := o1; exact ⟨ws, h1, h2.mono m⟩
        | ins c fs => obtain ⟨C, dx, ws, h1, h2, h4⟩ := o1; exact ⟨C, dx, ws, h1, h2, h4.mono m⟩
  · have a1 : env[j]? = some (Sl.own io m0) := by
      by_cases z : i = j
      · subst z; rw [List.getElem?_set_self hi] at q1; cases q1
      · rwa [List.getElem?_set_ne z] at q1
    have a2 : env[k]? = some (Sl.own jo n0) := by
      by_cases z : i = k
      · subst z; rw [List.getElem?_set_self hi] at q2; cases q2
      · rwa [List.getElem?_set_ne z] at q2
    exact r.sep j k _ _ _ _ b ne a1 a2 s1 s2
theorem se_v {i : Nat} (h : PE X a (tVar i)) : SE X W a (gVar i) := by
  refine PE.imp h fun σ H Q ⟨F, env, rel, res⟩ => ?_
  unfold gVar at res
  cases e : env[i]? with
  | none => rw [e] at res; exact res.elim
  | some y =>
    rw [e] at res
    cases y with
    | un => exact res.elim
    | d d =>
      obtain ⟨v, e1, r⟩ := rel.val i d e
      exact ⟨v, e1, res v H F Ext.refl rel r⟩
    | own io m =>
      cases io with
      | true => exact res.elim
      | false =>
        cases m with
        | ins c fs => exact res.elim
        | lst xs =>
          obtain ⟨p, e1, n, vs, h1, rs⟩ := rel.own i false _ e
          obtain ⟨x1, x2, x3⟩ := rel.freeze e e1 n h1 rs
          exact ⟨_, e1, res _ H _ x1 x2 x3⟩
theorem se_var (i : Nat) {x : Str} (hN : X.N[i]? = some x := by rfl) (hv : Vis X.env.scope x := by first | exact Or.inl rfl | exact Or.inr (Or.inl rfl) | exact Or.inr (Or.inr rfl)) (hd : (x == ("__debug__" : Str)) = false := by decide)
    (hcd : (x == ("__classdict__" : Str)) = false := by decide) : SE X W (.Name x pos) (gVar i) := se_v (pe_var hN hv hd hcd)

/-! ### operators -/
def ofO (o : Option D) (e : SEnv) : Out D := match o with
  | some z => .ok z e
  | none => .stuck
def gBin (h : D → D → Option D) (ga gb : SEnv → Out D) : SEnv → Out D := fun env => (ga env).bind fun d e1 => (gb e1).bind fun d2 e2 => ofO (h d d2) e2
theorem bin_imp {r : R2} {h : D → D → Option D} {ga gb : SEnv → Out D}
    (hr : ∀ (F H : Hp) (x y : V) (d e z : D) (Q : VK), (∀ a o, F a = some o → H a = some o) → Rep X.K X.mg F x d → Rep X.K X.mg F y e → h d e = some z → (∀ v H' F', Grow F H F' H' → Rep X.K X.mg F' v z → Q v H') → r x y H Q) (σ : L2.St) (H : Hp) (Q : VK)
    (q : tE X.K X.mg W (gBin h ga gb) σ H Q) : tOp r (tE X.K X.mg W ga) (tE X.K X.mg W gb) σ H Q := by
  obtain ⟨F, env, rel, res⟩ := q
  refine ⟨F, env, rel, (RES.bind (k := fun d e1 => (gb e1).bind fun d2 e2 => ofO (h d d2) e2) res).mono ?_⟩
  rintro x H1 ⟨env1, F1, d, x1, rel1, rx, res1⟩
  refine ⟨F1, env1, rel1, (RES.bind (k := fun d2 e2 => ofO (h d d2) e2) res1).mono ?_⟩
  rintro y H2 ⟨env2, F2, d2, x2, rel2, ry, res2⟩
  cases e : h d d2 with
  | none => rw [e] at res2; exact res2.elim
  | some z =>
    rw [e] at res2
    exact hr F2 H2 x y d d2 z Q rel2.sub (rx.mono x2.mono) ry e fun v H' F' g rv => res2 v H' F' (g.ext rel2) (rel2.grow g) rv
theorem se_bin {op : Operator} {h : D → D → Option D} (ho : OpS X (binaryOp op) h) (ha : SE X W a ga) (hb : SE X W b gb) : SE X W (.BinOp a op b pos) (gBin h ga gb) := by
  obtain ⟨r, hr, hs⟩ := ho
  exact PE.imp (pe_op hr ha hb) (bin_imp hs)
theorem se_cmp {op : CmpOp} {h : D → D → Option D} (ho : OpS X (compareOp op) h) (ha : SE X W a ga) (hb : SE X W b gb) (hm : behindInMarks op b = false) : SE X W (.Compare a [op] [b] pos) (gBin h ga gb) := by
  obtain ⟨r, hr, hs⟩ := ho
  exact PE.imp (pe_cmpR hr ha hb hm) (bin_imp hs)
/-! ### truth -/
def truD : D → Option Bool
  | .non => some false
  | .bl k => some k
  | .int i => some (i != 0)
  | .str z => if fits z.length then some (z.length != 0) else none
  | .tup xs => some (!xs.isEmpty)
  | .lst xs => some (!xs.isEmpty)
  | .dct0 => some false
  | _ => none
def ofB (o : Option Bool) (e : SEnv) : Out Bool := match o with
  | some z => .ok z e
  | none => .stuck
def gTru (ga : SEnv → Out D) : SEnv → Out Bool := fun env => (ga env).bind fun d e => ofB (truD d) e
theorem Reps.isEmpty {K : PySem.W.Frag} {mg : Str → Option Value} {F : Hp} {vs : List V} {ds : List D} (r : Reps K mg F vs ds) : vs.isEmpty = ds.isEmpty := by
  cases r <;> rfl
theorem tru_of {K : PySem.W.Frag} {mg : Str → Option Value} {F H : Hp} {x : V} {d : D} {k : Bool} (s : ∀ a o, F a = some o → H a = some o) (r : Rep K mg F x d) (e : truD d = some k) : TruV K x H k := by
  cases r with
  | non => simpa [truD, TruV, eq_comm] using e
  | bl => simpa [truD, TruV, eq_comm] using e
  | int => simpa [truD, TruV, eq_comm] using e
  | str =>
    simp only [truD] at e
    split at e
    · rename_i hf
      refine ⟨fits_line hf, ?_⟩
      rename_i z
      simp only [Option.some.injEq] at e
      rw [← e]
      cases h : z.length <;> simp <;> omega
    · cases e
  | tup h r =>
    simp only [truD, Option.some.injEq] at e
    exact .inr (.inl ⟨_, sqT_mono s h, by rw [← e, r.isEmpty]⟩)
  | lst h r =>
    simp only [truD, Option.some.injEq] at e
    exact .inl ⟨_, .inl (.inl (s _ _ h)), by rw [← e, r.isEmpty]⟩
  | sc h => simp [truD] at e
  | dct0 h =>
    simp only [truD, Option.some.injEq] at e
    exact .inr (.inr ⟨_, s _ _ h, by rw [← e]; rfl⟩)
  | obj _ _ _ _ _ => simp [truD] at e
  | gl _ => simp [truD] at e
theorem tru_imp {ga : SEnv → Out D} (σ : L2.St) (H : Hp) (Q : Bool → Hp → Prop) (q : tT X.K X.mg W (gTru ga) σ H Q) : tE X.K X.mg W ga σ H fun x H1 => ∃ k, TruV X.K x H1 k ∧ Q k H1 := by
  obtain ⟨F, env, rel, res⟩ := q
  refine ⟨F, env, rel, (RES.bind (k := fun d e => ofB (truD d) e) res).mono ?_⟩
  rintro x H1 ⟨env1, F1, d, x1, rel1, rx, res1⟩
  cases e : truD d with
  | none => rw [e] at res1; exact res1.elim
  | some k =>
    rw [e] at res1
    exact ⟨k, tru_of rel1.sub rx e, res1 k H1 F1 Ext.refl rel1 rfl⟩
/-- a test of any kind but a comparison, and, or, not -/
theorem st_val (ha : SE X W a ga) (he : ∀ whole, isTrue a X.env whole = (do let v ← whole; standAt a.pos; holding [v] (truthy v)) := by intro _; rfl) : ST X W a (gTru ga) :=
  PT.imp (pt_truth ha he) tru_imp
theorem st_cmp {op : CmpOp} {h : D → D → Option D} (ho : OpS X (compareOp op) h) (ha : SE X W a ga) (hb : SE X W b gb) (hm : behindInMarks op b = false)
    (hbl : ∀ d e z, h d e = some z → ∃ k, z = .bl k) : ST X W (.Compare a [op] [b] pos) (gTru (gBin h ga gb)) := by
  obtain ⟨r, hr, hs⟩ := ho
  refine PT.imp (pt_cmpR hr ha hb hm) fun σ H Q q => ?_
  show tOp r (tE X.K X.mg W ga) (tE X.K X.mg W gb) σ H fun x H' => ∃ k, x = .bl k ∧ Q k H'
  refine bin_imp hs σ H _ ?_
  obtain ⟨F, env, rel, res⟩ := q
  refine ⟨F, env, rel, ?_⟩
  have hk : ∀ d e, gBin h ga gb env = .ok d e → ∃ k, d = .bl k := by
    intro d e q
    unfold gBin at q
    cases h1 : ga env with
    | stuck => rw [h1] at q; cases q
    | exc x e => rw [h1] at q; cases q
    | ok d1 e1 =>
      rw [h1] at q
      simp only [Out.bind] at q
      cases h2 : gb e1 with
      | stuck => rw [h2] at q; cases q
      | exc x e => rw [h2] at q; cases q
      | ok d2 e2 =>
        rw [h2] at q
        simp only [Out.bind] at q
        cases h3 : h d1 d2 with
        | none => rw [h3] at q; cases q
        | some z => rw [h3] at q; simp only [ofO, Out.ok.injEq] at q; obtain ⟨q, _⟩ := q; subst q; exact hbl _ _ _ h3
  unfold gTru at res
  cases o : gBin h ga gb env with
  | stuck => rw [o] at res; exact res
  | exc x e => rw [o] at res; exact res
  | ok d e =>
    rw [o] at res
    obtain ⟨k, rfl⟩ := hk d e o
    intro x H' F' y r z
    cases z
    exact ⟨k, rfl, res k H' F' y r rfl⟩
def gNotT (ga : SEnv → Out Bool) : SEnv → Out Bool := fun env => (ga env).bind fun k e => .ok (!k) e
theorem st_not (ha : ST X W a ta) : ST X W (.UnaryOp .Not a pos) (gNotT ta) := by
  refine PT.imp (pt_not ha) fun σ H Q ⟨F, env, rel, res⟩ => ?_
  refine ⟨F, env, rel, (RES.bind (k := fun k e => .ok (!k) e) res).mono ?_⟩
  rintro x H1 ⟨env1, F1, d, x1, rel1, rx, res1⟩
  have rx' : x = d := rx
  subst rx'
  exact res1 _ H1 F1 Ext.refl rel1 rfl
def gAndT (ga gb : SEnv → Out Bool) : SEnv → Out Bool := fun env => (ga env).bind fun k e => match k with | true => gb e | false => .ok false e
def gOrT (ga gb : SEnv → Out Bool) : SEnv → Out Bool := fun env => (ga env).bind fun k e => match k with | true => .ok true e | false => gb e
def SW (X : Cx) (W : WX) (e : Expr) (g : SEnv → Out Bool) : Prop := PW X e (tT X.K X.mg W g)
theorem SW.st (h : SW X W a ta) : ST X W a ta := PW.pt h
theorem sw_and1 (ha : ST X W a ta) : SW X W (.BoolOp .And [a] pos) ta := pw_and1 ha
theorem sw_or1 (ha : ST X W a ta) : SW X W (.BoolOp .Or [a] pos) ta := pw_or1 ha
theorem sw_and {rest : List Expr} (ha : ST X W a ta) (hb : SW X W (.BoolOp .And (b :: rest) pos) tb) : SW X W (.BoolOp .And (a :: b :: rest) pos) (gAndT ta tb) := by
  refine PW.imp (pw_and ha hb) fun σ H Q ⟨F, env, rel, res⟩ => ?_
  refine ⟨F, env, rel, (RES.bind (k := fun k e => match k with | true => tb e | false => .ok false e) res).mono ?_⟩
  rintro x H1 ⟨env1, F1, d, x1, rel1, rx, res1⟩
  have rx' : x = d := rx
  subst rx'
  cases x with
  | true => exact iteT ⟨F1, env1, rel1, res1⟩
  | false => exact iteF (res1 _ H1 F1 Ext.refl rel1 rfl)
theorem sw_or {rest : List Expr} (ha : ST X W a ta) (hb : SW X W (.BoolOp .Or (b :: rest) pos) tb) : SW X W (.BoolOp .Or (a :: b :: rest) pos) (gOrT ta tb) := by
  refine PW.imp (pw_or ha hb) fun σ H Q ⟨F, env, rel, res⟩ => ?_
  refine ⟨F, env, rel, (RES.bind (k := fun k e => match k with | true => .ok true e | false => tb e) res).mono ?_⟩
  rintro x H1 ⟨env1, F1, d, x1, rel1, rx, res1⟩
  have rx' : x = d := rx
  subst rx'
  cases x with
  | true => exact iteT (res1 _ H1 F1 Ext.refl rel1 rfl)
  | false => exact iteF ⟨F1, env1, rel1, res1⟩
/-! and, or, not as values (bools) -/
def gAndV (ga gb : SEnv → Out D) : SEnv → Out D := fun env => (ga env).bind fun k e => match k with | .bl true => gb e | .bl false => .ok (.bl false) e | _ => .stuck
def gOrV (ga gb : SEnv → Out D) : SEnv → Out D := fun env => (ga env).bind fun k e => match k with | .bl true => .ok (.bl true) e | .bl false => gb e | _ => .stuck
def gNotV (ga : SEnv → Out D) : SEnv → Out D := fun env => (ga env).bind fun k e => match k with | .bl k => .ok (.bl (!k)) e | _ => .stuck
theorem se_one {op : BoolOp} (ha : SE X W a ga) : SE X W (.BoolOp op [a] pos) ga := pe_one ha
theorem se_and {rest : List Expr} (ha : SE X W a ga) (hb : SE X W (.BoolOp .And (b :: rest) pos) gb) : SE X W (.BoolOp .And (a :: b :: rest) pos) (gAndV ga gb) := by
  refine PE.imp (pe_and ha hb) fun σ H Q ⟨F, env, rel, res⟩ => ?_
  refine ⟨F, env, rel, (RES.bind (k := fun k e => match k with | .bl true => gb e | .bl false => .ok (.bl false) e | _ => .stuck) res).mono ?_⟩
  rintro x H1 ⟨env1, F1, d, x1, rel1, rx, res1⟩
  cases d <;> try exact res1.elim
  rename_i k
  cases rx
  refine ⟨k, rfl, ?_⟩
  cases k with
  | true => exact iteT ⟨F1, env1, rel1, res1⟩
  | false => exact iteF (res1 _ H1 F1 Ext.refl rel1 .bl)
theorem se_or {rest : List Expr} (ha : SE X W a ga) (hb : SE X W (.BoolOp .Or (b :: rest) pos) gb) : SE X W (.BoolOp .Or (a :: b :: rest) pos) (gOrV ga gb) := by
  refine PE.imp (pe_or ha hb) fun σ H Q ⟨F, env, rel, res⟩ => ?_
  refine ⟨F, env, rel, (RES.bind (k := fun k e => match k with | .bl true => .ok (.bl true) e | .bl false => gb e | _ => .stuck) res).mono ?_⟩
  rintro x H1 ⟨env1, F1, d, x1, rel1, rx, res1⟩
  cases d <;> try exact res1.elim
  rename_i k
  cases rx
  refine ⟨k, rfl, ?_⟩
  cases k with
  | true => exact iteT (res1 _ H1 F1 Ext.refl rel1 .bl)
  | false => exact iteF ⟨F1, env1, rel1, res1⟩
theorem se_not (ha : SE X W a ga) : SE X W (.UnaryOp .Not a pos) (gNotV ga) := by
  refine PE.imp (pe_not ha) fun σ H Q ⟨F, env, rel, res⟩ => ?_
  refine ⟨F, env, rel, (RES.bind (k := fun k e => match k with | .bl k => .ok (D.bl (!k)) e | _ => .stuck) res).mono ?_⟩
  rintro x H1 ⟨env1, F1, d, x1, rel1, rx, res1⟩
  cases d <;> try exact res1.elim
  rename_i k
  cases rx
  exact ⟨k, rfl, res1 _ H1 F1 Ext.refl rel1 .bl⟩
def gIfE (tc : SEnv → Out Bool) (ga gb : SEnv → Out D) : SEnv → Out D := fun env => (tc env).bind fun k e => match k with | true => ga e | false => gb e
theorem se_if (hc : ST X W c tc) (ha : SE X W a ga) (hb : SE X W b gb) : SE X W (.IfExp c a b pos) (gIfE tc ga gb) := by
  refine PE.imp (pe_ifExp hc ha hb) fun σ H Q ⟨F, env, rel, res⟩ => ?_
  refine ⟨F, env, rel, (RES.bind (k := fun k e => match k with | true => ga e | false => gb e) res).mono ?_⟩
  rintro x H1 ⟨env1, F1, d, x1, rel1, rx, res1⟩
  have rx' : x = d := rx
  subst rx'
  cases x with
  | true => exact iteT ⟨F1, env1, rel1, res1⟩
  | false => exact iteF ⟨F1, env1, rel1, res1⟩

/-! ### rows of arguments -/
def RDs (K : PySem.W.Frag) (mg : Str → Option Value) : L2.St → SEnv → Hp → List V → List D → Prop := fun _ _ F v d => Reps K mg F v d
def tA (K : PySem.W.Frag) (mg : Str → Option Value) (W : WX) (g : SEnv → Out (List D)) : TA := fun σ H Q => ∃ F env, Rel K mg F σ H env ∧ RES K mg W (RDs K mg) σ env F H (g env) Q
structure SA (X : Cx) (W : WX) (es : List Expr) (g : SEnv → Out (List D)) : Prop where
  pa : PA X es (tA X.K X.mg W g)
  len : ∀ env ds e, g env = .ok ds e → ds.length = es.length
def gNil : SEnv → Out (List D) := fun env => .ok [] env
def gCons (ga : SEnv → Out D) (gr : SEnv → Out (List D)) : SEnv → Out (List D) := fun env => (ga env).bind fun d e => (gr e).bind fun ds e2 => .ok (d :: ds) e2
theorem sa_nil : SA X W [] gNil := ⟨PA.imp pa_nil fun σ H Q ⟨F, env, rel, res⟩ => res [] H F Ext.refl rel .nil, fun env ds e h => by cases h; rfl⟩
theorem sa_cons {es : List Expr} {gr : SEnv → Out (List D)} (ha : SE X W a ga) (hr : SA X W es gr) (hs : starEach (a :: es) X.env = (false, eval a X.env) :: starEach es X.env := by rfl) : SA X W (a :: es) (gCons ga gr) := by
  refine ⟨PA.imp (pa_cons ha hr.pa hs) fun σ H Q ⟨F, env, rel, res⟩ => ?_, fun env ds e h => ?_⟩
  · refine ⟨F, env, rel, (RES.bind (k := fun d e => (gr e).bind fun ds e2 => .ok (d :: ds) e2) res).mono ?_⟩
    rintro x H1 ⟨env1, F1, d, x1, rel1, rx, res1⟩
    refine ⟨F1, env1, rel1, (RES.bind (k := fun ds e2 => .ok (d :: ds) e2) res1).mono ?_⟩
    rintro xs H2 ⟨env2, F2, ds, x2, rel2, rxs, res2⟩
    exact res2 _ H2 F2 Ext.refl rel2 (.cons (rx.mono x2.mono) rxs)
  · unfold gCons at h
    cases h1 : ga env with
    | stuck => rw [h1] at h; cases h
    | exc x e => rw [h1] at h; cases h
    | ok d e1 =>
      rw [h1] at h
      simp only [Out.bind] at h
      cases h2 : gr e1 with
      | stuck => rw [h2] at h; cases h
      | exc x e => rw [h2] at h; cases h
      | ok ds2 e2 =>
        rw [h2] at h
        simp only [Out.ok.injEq] at h
        rw [← h.1, List.length_cons, List.length_cons, hr.len _ _ _ h2]
def gTup (ga : SEnv → Out (List D)) : SEnv → Out D := fun env => (ga env).bind fun ds e => .ok (.tup ds) e
def gLst (ga : SEnv → Out (List D)) : SEnv → Out D := fun env => (ga env).bind fun ds e => .ok (.lst ds) e
theorem RES.len {gs : SEnv → Out (List D)} {σ : L2.St} {env : SEnv} {F H : Hp} {n : Nat} {Q : List V → Hp → Prop} (hl : ∀ env ds e, gs env = .ok ds e → ds.length = n)
    (h : RES X.K X.mg W (RDs X.K X.mg) σ env F H (gs env) fun vs H1 => vs.length = n → Q vs H1) : RES X.K X.mg W (RDs X.K X.mg) σ env F H (gs env) Q := by
  cases o : gs env with
  | stuck => rw [o] at h; exact h
  | exc x e => rw [o] at h; exact h
  | ok ds e =>
    rw [o] at h
    exact fun vs H' F' y r z => h vs H' F' y r z (by rw [Reps.length z, hl _ _ _ o])
theorem se_tup {es : List Expr} {gs : SEnv → Out (List D)} {x1} (h : SA X W es gs) (hl : fits es.length = true := by rfl) : SE X W (.Tuple es x1 pos) (gTup gs) := by
  refine PE.imp (pe_tup h.pa) fun σ H Q ⟨F, env, rel, res⟩ => ?_
  refine ⟨F, env, rel, RES.len h.len ((RES.bind (k := fun ds e => .ok (D.tup ds) e) res).mono ?_)⟩
  rintro vs H1 ⟨env1, F1, ds, x1, rel1, rs, res1⟩ hn
  refine ⟨by rw [hn]; exact fits_line hl, fun p hp => ?_⟩
  have g := Grow.lay (o := .tup vs) rel1.sub hp
  exact res1 _ _ _ (g.ext rel1) (rel1.grow g) (.tup (SqT.of upd_same) (Reps.mono g.mono rs))
theorem se_lst {es : List Expr} {gs : SEnv → Out (List D)} (h : SA X W es gs) (hl : fits es.length = true := by rfl) : SE X W (.List es pos) (gLst gs) := by
  refine PE.imp (pe_lst h.pa) fun σ H Q ⟨F, env, rel, res⟩ => ?_
  refine ⟨F, env, rel, RES.len h.len ((RES.bind (k := fun ds e => .ok (D.lst ds) e) res).mono ?_)⟩
  rintro vs H1 ⟨env1, F1, ds, x1, rel1, rs, res1⟩ hn
  refine ⟨by rw [hn]; exact fits_line hl, fun p hp => ?_⟩
  have g := Grow.lay (o := .lst vs) rel1.sub hp
  exact res1 _ _ _ (g.ext rel1) (rel1.grow g) (.lst upd_same (Reps.mono g.mono rs))
/-! ### calls of built-ins -/
def gCall (h : List D → Option D) (gs : SEnv → Out (List D)) : SEnv → Out D := fun env => (gs env).bind fun ds e => ofO (h ds) e
theorem callS_imp {r : List V → Hp → VK → Prop} {h : List D → Option D} {gs : SEnv → Out (List D)}
    (hr : ∀ (F H : Hp) (xs : List V) (ds : List D) (z : D) (Q : VK), (∀ a o, F a = some o → H a = some o) → Reps X.K X.mg F xs ds → h ds = some z → (∀ v H' F', Grow F H F' H' → Rep X.K X.mg F' v z → Q v H') → r xs H Q) (σ : L2.St) (H : Hp) (Q : VK)
    (q : tE X.K X.mg W (gCall h gs) σ H Q) : tCB r (tA X.K X.mg W gs) σ H Q := by
  obtain ⟨F, env, rel, res⟩ := q
  refine ⟨F, env, rel, (RES.bind (k := fun ds e => ofO (h ds) e) res).mono ?_⟩
  rintro vs H1 ⟨env1, F1, ds, x1, rel1, rs, res1⟩
  cases e : h ds with
  | none => rw [e] at res1; exact res1.elim
  | some z =>
    rw [e] at res1
    exact hr F1 H1 vs ds z Q rel1.sub rs e fun v H' F' g rv => res1 v H' F' (g.ext rel1) (rel1.grow g) rv
theorem se_callB {id : String} {x : Str} {e : Expr} {es : List Expr} {p : Pos} {h : List D → Option D} {gs : SEnv → Out (List D)} (hc : CallS X (.builtin id) h) (hm : X.mg x = none) (hv : bootBuiltins x = some (.builtin id)) (ha : SA X W (e :: es) gs)
    (hg : Gl X x := by rfl) (hn : x ≠ "__name__" := by decide) (hdb : (x == ("__debug__" : Str)) = false := by decide)
    (he : starEach (e :: es) X.env = (false, eval e X.env) :: starEach es X.env := by rfl) (hpl : (backTo pos (starEach es X.env)).any (·.1) = false := by rfl) : SE X W (.Call (.Name x p) (e :: es) [] pos) (gCall h gs) := by
  obtain ⟨r, hr, hs⟩ := hc
  exact PE.imp (pe_callB hr hg hm hv ha.pa hn hdb he hpl) (callS_imp hs)
theorem se_callTy {T : String} {x : Str} {e : Expr} {es : List Expr} {p : Pos} {h : List D → Option D} {gs : SEnv → Out (List D)} (hc : CallS X (.type T) h) (hm : X.mg x = none) (hv : bootBuiltins x = some (.type T)) (ha : SA X W (e :: es) gs)
    (hg : Gl X x := by rfl) (hn : x ≠ "__name__" := by decide) (hdb : (x == ("__debug__" : Str)) = false := by decide)
    (he : starEach (e :: es) X.env = (false, eval e X.env) :: starEach es X.env := by rfl) (hpl : (backTo pos (starEach es X.env)).any (·.1) = false := by rfl) : SE X W (.Call (.Name x p) (e :: es) [] pos) (gCall h gs) := by
  obtain ⟨r, hr, hs⟩ := hc
  exact PE.imp (pe_callTy hr hg hm hv ha.pa hn hdb he hpl) (callS_imp hs)
end
end RL

/-! RL4: statements -/
namespace RL
open PySem L2

section
variable {K : PySem.W.Frag} {mg : Str → Option Value} {σ σ1 σ2 : L2.St} {env env1 env2 : SEnv} {F F1 F2 H H1 H2 : Hp} {W : WX}
def RS (K : PySem.W.Frag) (mg : Str → Option Value) (W : WX) (σ : L2.St) (env : SEnv) (F H : Hp) (o : SOut) (D : Ends) : Prop :=
  match o with
  | .stuck => False
  | .next env' => ∀ σ' H' F', Ext σ env F H σ' env' F' H' → Rel K mg F' σ' H' env' → D.nx σ' H'
  | .brk env' => ∀ σ' H' F', Ext σ env F H σ' env' F' H' → Rel K mg F' σ' H' env' → D.bk σ' H'
  | .cont env' => ∀ σ' H' F', Ext σ env F H σ' env' F' H' → Rel K mg F' σ' H' env' → D.ct σ' H'
  | .ret d env' => ∀ v σ' H' F', Ext σ env F H σ' env' F' H' → Rel K mg F' σ' H' env' → Rep K mg F' v d → D.rt v H'
  | .exc x env' => ∀ cls da σ' H' F', Ext σ env F H σ' env' F' H' → Rel K mg F' σ' H' env' → XRep K mg F' H' H x cls da → W cls da σ' H'
theorem RS.ext {o : SOut} {D : Ends} (x : Ext σ env F H σ1 env1 F1 H1) (h : RS K mg W σ env F H o D) : RS K mg W σ1 env1 F1 H1 o D := by
  cases o with
  | stuck => exact h
  | next e => exact fun σ' H' F' y r => h σ' H' F' (x.trans y) r
  | brk e => exact fun σ' H' F' y r => h σ' H' F' (x.trans y) r
  | cont e => exact fun σ' H' F' y r => h σ' H' F' (x.trans y) r
  | ret d e => exact fun v σ' H' F' y r q => h v σ' H' F' (x.trans y) r q
  | exc d e => exact fun c da σ' H' F' y r q => h c da σ' H' F' (x.trans y) r ⟨fun d z => x.there d (q.1 d z), q.2⟩
def tS (K : PySem.W.Frag) (mg : Str → Option Value) (W : WX) (g : SEnv → SOut) : TS := fun D σ H => ∃ F env, Rel K mg F σ H env ∧ RS K mg W σ env F H (g env) D
def Out.toS {α : Type} : Out α → (α → SEnv → SOut) → SOut
  | .stuck, _ => .stuck
  | .ok a e, k => k a e
  | .exc x e, _ => .exc x e
theorem RS.ofE {α β : Type} {R : L2.St → SEnv → Hp → β → α → Prop} {o : Out α} {k : α → SEnv → SOut} {D : Ends} (h : RS K mg W σ env F H (o.toS k) D) :
    RES K mg W R σ env F H o fun b H1 => ∃ env1 F1 a, Ext σ env F H σ env1 F1 H1 ∧ Rel K mg F1 σ H1 env1 ∧ R σ env1 F1 b a ∧ RS K mg W σ env1 F1 H1 (k a env1) D := by
  cases o with
  | stuck => exact h
  | ok a e => exact fun b H' F' y r z => ⟨e, F', a, y, r, z, RS.ext y h⟩
  | exc a e => exact fun cls da H' F' y r z => h cls da σ H' F' y r z
end
def SS (X : Cx) (W : WX) (st : Stmt) (g : SEnv → SOut) : Prop := PS X st (tS X.K X.mg W g)
def SB (X : Cx) (W : WX) (sts : List Stmt) (g : SEnv → SOut) : Prop := PSs X sts (tS X.K X.mg W g)

section
variable {X : Cx} {W : WX} {a b c e : Expr} {ga gb gc ge : SEnv → Out D} {tc : SEnv → Out Bool} {pos : Pos} {st : Stmt} {sts : List Stmt} {g1 g2 : SEnv → SOut}
def gNext : SEnv → SOut := fun env => .next env
def gSeq (g1 g2 : SEnv → SOut) : SEnv → SOut := fun env => match g1 env with
  | .next e => g2 e
  | o => o
theorem sb_nil : SB X W [] gNext := PSs.imp pss_nil fun D σ H ⟨F, env, rel, res⟩ => res σ H F Ext.refl rel
theorem seq_imp (D : Ends) (σ : L2.St) (H : Hp) (q : tS X.K X.mg W (gSeq g1 g2) D σ H) : tSeq (tS X.K X.mg W g1) (tS X.K X.mg W g2) D σ H := by
  obtain ⟨F, env, rel, res⟩ := q
  refine ⟨F, env, rel, ?_⟩
  unfold gSeq at res
  cases o : g1 env with
  | stuck => rw [o] at res; exact res
  | next e =>
    rw [o] at res
    exact fun σ' H' F' y r => ⟨F', e, r, RS.ext y res⟩
  | brk e => rw [o] at res; exact res
  | cont e => rw [o] at res; exact res
  | ret d e => rw [o] at res; exact res
  | exc d e => rw [o] at res; exact res
theorem sb_cons (h1 : SS X W st g1) (h2 : SB X W sts g2) : SB X W (st :: sts) (gSeq g1 g2) := PSs.imp (pss_cons h1 h2) seq_imp
theorem sb_one (h1 : SS X W st g1) : SB X W [st] g1 := pss_one h1
def gBrk : SEnv → SOut := fun env => .brk env
def gCnt : SEnv → SOut := fun env => .cont env
theorem ss_pass : SS X W (.Pass pos) gNext := PS.imp ps_pass fun D σ H ⟨F, env, rel, res⟩ => res σ H F Ext.refl rel
theorem ss_break : SS X W (.Break pos) gBrk := PS.imp ps_break fun D σ H ⟨F, env, rel, res⟩ => res σ H F Ext.refl rel
theorem ss_continue : SS X W (.Continue pos) gCnt := PS.imp ps_continue fun D σ H ⟨F, env, rel, res⟩ => res σ H F Ext.refl rel
def gExpr (ge : SEnv → Out D) : SEnv → SOut := fun env => (ge env).toS fun _ e => .next e
theorem ss_expr (he : SE X W e ge) (hs : swapsWith e none pos.line X.env = pure false := by rfl) : SS X W (.Expr e pos) (gExpr ge) := by
  refine PS.imp (ps_expr he hs) fun D σ H ⟨F, env, rel, res⟩ => ?_
  refine ⟨F, env, rel, (RS.ofE res).mono ?_⟩
  rintro v H1 ⟨env1, F1, d, x1, rel1, rv, res1⟩
  exact res1 σ H1 F1 Ext.refl rel1
def gRet (ge : SEnv → Out D) : SEnv → SOut := fun env => (ge env).toS fun d e => .ret d e
theorem ss_ret (he : SE X W e ge) : SS X W (.Return (some e) pos) (gRet ge) := by
  refine PS.imp (ps_ret he) fun D σ H ⟨F, env, rel, res⟩ => ?_
  refine ⟨F, env, rel, (RS.ofE res).mono ?_⟩
  rintro v H1 ⟨env1, F1, d, x1, rel1, rv, res1⟩
  exact res1 v σ H1 F1 Ext.refl rel1 rv
def gRetN : SEnv → SOut := fun env => .ret .non env
theorem ss_retN : SS X W (.Return none pos) gRetN := PS.imp ps_retN fun D σ H ⟨F, env, rel, res⟩ => res _ σ H F Ext.refl rel .non
def gIfS (tc : SEnv → Out Bool) (g1 g2 : SEnv → SOut) : SEnv → SOut := fun env => (tc env).toS fun k e => match k with | true => g1 e | false => g2 e
theorem ss_if {as bs : List Stmt} (hc : ST X W c tc) (ha : SB X W as g1) (hb : SB X W bs g2) : SS X W (.If c as bs pos) (gIfS tc g1 g2) := by
  refine PS.imp (ps_if hc ha hb) fun D σ H ⟨F, env, rel, res⟩ => ?_
  refine ⟨F, env, rel, (RS.ofE (k := fun k e => match k with | true => g1 e | false => g2 e) res).mono ?_⟩
  rintro v H1 ⟨env1, F1, d, x1, rel1, rv, res1⟩
  have rv' : v = d := rv
  subst rv'
  cases v with
  | true => exact iteT ⟨F1, env1, rel1, res1⟩
  | false => exact iteF ⟨F1, env1, rel1, res1⟩
/-- a way that is never gone -/
def gStuck : SEnv → SOut := fun _ => .stuck
theorem ss_never : SS X W st gStuck := PS.imp ps_never fun D σ H ⟨F, env, rel, res⟩ => res
theorem sb_never : SB X W sts gStuck := PSs.imp pss_never fun D σ H ⟨F, env, rel, res⟩ => res

/-! ### targets -/
def tG (K : PySem.W.Frag) (mg : Str → Option Value) (h : D → SEnv → Option SEnv) (vs : List Nat) : TG := fun v σ H Q => ∃ F env d, Rel K mg F σ H env ∧ Rep K mg F v d ∧ ∃ env', h d env = some env' ∧
  ∀ σ' H' F', Ext σ env F H σ' env' F' H' → Rel K mg F' σ' H' env' → (∀ i, i ∉ vs → σ'[i]? = σ[i]?) → Q σ' H'
def tGs (K : PySem.W.Frag) (mg : Str → Option Value) (h : List D → SEnv → Option SEnv) (is : List Nat) : TGs := fun vs σ H Q => ∃ F env ds, Rel K mg F σ H env ∧ Reps K mg F vs ds ∧ ∃ env', h ds env = some env' ∧
  ∀ σ' H' F', Ext σ env F H σ' env' F' H' → Rel K mg F' σ' H' env' → (∀ i, i ∉ is → σ'[i]? = σ[i]?) → Q σ' H'
def SG (X : Cx) (t : Expr) (h : D → SEnv → Option SEnv) (vs : List Nat) : Prop := PG X t (tG X.K X.mg h vs)
structure SGs (X : Cx) (ts : List Expr) (h : List D → SEnv → Option SEnv) (vs : List Nat) : Prop where
  pg : PGs X ts (tGs X.K X.mg h vs)
  len : ∀ ds e e', h ds e = some e' → ds.length = ts.length
theorem PG.imp {t : Expr} {g1 g2 : TG} (h : PG X t g1) (i : ∀ v σ H Q, g2 v σ H Q → g1 v σ H Q) : PG X t g2 := ⟨fun pins s σ H v u Q I r q => h.run pins s σ H v u Q I r (i v σ H Q q)⟩
theorem PGs.imp {t : List Expr} {g1 g2 : TGs} (h : PGs X t g1) (i : ∀ v σ H Q, g2 v σ H Q → g1 v σ H Q) : PGs X t g2 := ⟨fun pins s σ H v u Q I r q => h.run pins s σ H v u Q I r (i v σ H Q q)⟩
/-- slot i gets a datum -/
def setD (i : Nat) (d : D) (e : SEnv) : Option SEnv := match e[i]? with
  | some (.own true _) => none
  | _ => some (e.set i (.d d))
theorem Rel.setD {K : PySem.W.Frag} {mg : Str → Option Value} {F H : Hp} {σ : L2.St} {env env' : SEnv} {i : Nat} {v : V} {d : D} (r : Rel K mg F σ H env) (rv : Rep K mg F v d) (h : setD i d env = some env') :
    Ext σ env F H (σ.set i (some v)) env' F H ∧ Rel K mg F (σ.set i (some v)) H env' := by
  have hn : (∀ m, env[i]? ≠ some (.own true m)) ∧ env' = env.set i (.d d) := by
    unfold RL.setD at h
    split at h
    · cases h
    · rename_i hh
      exact ⟨fun m e => hh m e, (Option.some.inj h).symm⟩
  obtain ⟨hn, rfl⟩ := hn
  have key : ∀ j io m, (env.set i (Sl.d d))[j]? = some (Sl.own io m) → i ≠ j ∧ env[j]? = some (Sl.own io m) := fun j io m q => by
    by_cases z : i = j
    · subst z
      rw [List.getElem?_set_self'] at q
      cases w : env[i]? with
      | none => rw [w] at q; cases q
      | some y => rw [w] at q; cases q
    · rw [List.getElem?_set_ne z] at q; exact ⟨z, q⟩
  have ks : ∀ j, i ≠ j → (σ.set i (some v))[j]? = σ[j]? := fun j z => List.getElem?_set_ne z
  refine ⟨⟨fun _ _ h => h, fun _ _ h => .inl h, fun _ _ h _ => h, fun a q => ?_, fun j m q => ?_, fun j m q => ?_, by simp, fun _ h => h⟩, ⟨by simp [r.len], r.sub, fun j x q => ?_, fun j io m q => ?_, fun j k io jo m n a ne q1 q2 s1 s2 => ?_⟩⟩
  · obtain ⟨j, io, m, q, s⟩ := q
    obtain ⟨z, q⟩ := key j io m q
    exact .inl ⟨j, io, m, q, by rw [← ks j z]; exact s⟩
  · obtain ⟨z, q⟩ := key j _ m q
    exact ⟨⟨m, q⟩, ks j z⟩
  · have z : i ≠ j := fun z => by subst z; exact hn m q
    exact ⟨m, by rw [List.getElem?_set_ne z]; exact q⟩
  · by_cases z : i = j
    · subst z
      have hi : i < env.length := by
        rw [List.getElem?_set_self'] at q
        cases w : env[i]? with
        | none => rw [w] at q; cases q
        | some y => exact (List.getElem?_eq_some_iff.mp w).1
      rw [List.getElem?_set_self hi] at q
      cases q
      exact ⟨v, by rw [List.getElem?_set_self (by rw [r.len]; exact hi)], rv⟩
    · rw [List.getElem?_set_ne z] at q
      rw [ks j z]
      exact r.val j x q
  · obtain ⟨z, q⟩ := key j io m q
    rw [ks j z]
    exact r.own j io m q
  · obtain ⟨z1, q1⟩ := key j io m q1
    obtain ⟨z2, q2⟩ := key k jo n q2
    rw [ks j z1] at s1
    rw [ks k z2] at s2
    exact r.sep j k io jo m n a ne q1 q2 s1 s2
theorem sg_name (i : Nat) {x : Str} (hN : X.N.Nodup) (hi : X.N[i]? = some x := by rfl) (hx : Loc X.env.scope x := by first | exact Or.inl rfl | exact Or.inr rfl) (hf : X.fn x = true ∨ X.env.scope.names.lookup x = some .local := by first | exact .inl rfl | exact .inr rfl | assumption) : SG X (.Name x pos) (setD i) [i] := by
  refine PG.imp (pg_name hN hi hx hf) fun v σ H Q ⟨F, env, d, rel, rv, env', h, q⟩ => ?_
  obtain ⟨x1, r1⟩ := rel.setD rv h
  exact q _ _ _ x1 r1 fun j hj => List.getElem?_set_ne fun z => hj (by simp [z])
def hNil : List D → SEnv → Option SEnv := fun ds e => match ds with | [] => some e | _ => none
def hCons (h : D → SEnv → Option SEnv) (k : List D → SEnv → Option SEnv) : List D → SEnv → Option SEnv := fun ds e => match ds with
  | [] => none
  | d :: r => match h d e with
    | none => none
    | some e1 => k r e1
theorem sgs_nil : SGs X [] hNil [] := by
  refine ⟨PGs.imp pgs_nil fun v σ H Q ⟨F, env, ds, rel, rv, env', h, q⟩ => ?_, fun ds e e' h => ?_⟩
  · cases rv with
    | nil => cases h; exact ⟨rfl, q _ _ _ Ext.refl rel fun _ _ => rfl⟩
    | cons _ _ => cases h
  · cases ds with
    | nil => rfl
    | cons _ _ => cases h
theorem sgs_cons {t : Expr} {ts : List Expr} {h : D → SEnv → Option SEnv} {k : List D → SEnv → Option SEnv} {vs ws : List Nat} (h1 : SG X t h vs) (h2 : SGs X ts k ws)
    (hs : (assignEach (t :: ts) X.env).map (·.2) = assign t X.env :: (assignEach ts X.env).map (·.2) := by rfl) : SGs X (t :: ts) (hCons h k) (vs ++ ws) := by
  refine ⟨PGs.imp (pgs_cons h1 h2.pg hs) fun v σ H Q ⟨F, env, ds, rel, rv, env', hh, q⟩ => ?_, fun ds e e' hh => ?_⟩
  · cases rv with
    | nil => cases hh
    | @cons v d us ds rd rs =>
      unfold hCons at hh
      cases o : h d env with
      | none => simp [o] at hh
      | some e1 =>
        simp only [o] at hh
        refine ⟨v, us, rfl, F, env, d, rel, rd, e1, o, fun σ1 H1 F1 x1 r1 k1 => ?_⟩
        exact ⟨F1, e1, ds, r1, rs.mono x1.mono, env', hh, fun σ2 H2 F2 x2 r2 k2 => q _ _ _ (x1.trans x2) r2 fun i hi => by
          rw [List.mem_append, not_or] at hi
          rw [k2 i hi.2, k1 i hi.1]⟩
  · cases ds with
    | nil => cases hh
    | cons d ds =>
      unfold hCons at hh
      cases o : h d e with
      | none => simp [o] at hh
      | some e1 =>
        simp only [o] at hh
        simp [h2.len _ _ _ hh]
def hTup (k : List D → SEnv → Option SEnv) : D → SEnv → Option SEnv := fun d e => match d with
  | .tup ds => k ds e
  | .lst ds => k ds e
  | _ => none
theorem PG.either {t : Expr} {g g' : TG} (h : PG X t g) (h' : PG X t g') : PG X t fun v σ H Q => g v σ H Q ∨ g' v σ H Q :=
  ⟨fun pins s σ H v u Q I r q => q.elim (h.run pins s σ H v u Q I r) (h'.run pins s σ H v u Q I r)⟩
theorem sg_tup {ts : List Expr} {kk : Nat} {k : List D → SEnv → Option SEnv} {vs : List Nat} (hc : X.calm = true) (h : SGs X ts k vs) (hn : (assignEach ts X.env).length = ts.length := by rfl) (hst : (assignEach ts X.env).findIdx? (·.1) = none := by rfl) :
    SG X (.Tuple ts kk pos) (hTup k) vs := by
  refine PG.imp (PG.either (pg_tup hc h.pg hn hst) (pg_lst hc h.pg hn hst)) fun v σ H Q ⟨F, env, d, rel, rv, env', hh, q⟩ => ?_
  cases d <;> try (simp [hTup] at hh; done)
  · cases rv with
    | tup h1 rs => exact .inl ⟨_, _, rfl, sqT_mono rel.sub h1, by rw [rs.length]; exact h.len _ _ _ hh, F, env, _, rel, rs, env', hh, q⟩
  · cases rv with
    | lst h1 rs => exact .inr ⟨_, _, rfl, .inl (.inl (rel.sub _ _ h1)), by rw [rs.length]; exact h.len _ _ _ hh, F, env, _, rel, rs, env', hh, q⟩
def gAsg (ge : SEnv → Out D) (h : D → SEnv → Option SEnv) : SEnv → SOut := fun env => (ge env).toS fun d e => match h d e with
  | none => .stuck
  | some e' => .next e'
theorem ss_asg {tg : Expr} {h : D → SEnv → Option SEnv} {vs : List Nat} (he : SE X W e ge) (hg : SG X tg h vs) (hs : swapsWithSole [tg] e pos.line X.env = pure false := by rfl) (hw : swappedStores [tg] e X.env = pure none := by rfl)
    (h1 : (assignEach [tg] X.env).map (·.2) = [assign tg X.env] := by rfl) : SS X W (.Assign [tg] e pos) (gAsg ge h) := by
  refine PS.imp (ps_asg he hg hs hw h1) fun D σ H ⟨F, env, rel, res⟩ => ?_
  refine ⟨F, env, rel, (RS.ofE (k := fun d e => match h d e with | none => .stuck | some e' => .next e') res).mono ?_⟩
  rintro v H1 ⟨env1, F1, d, x1, rel1, rv, res1⟩
  cases o : h d env1 with
  | none => simp only [o] at res1; exact res1.elim
  | some e' =>
    simp only [o] at res1
    exact ⟨F1, env1, d, rel1, rv, e', o, fun σ' H' F' y r _ => res1 σ' H' F' y r⟩
/-- x = e -/
theorem ss_set (i : Nat) {x : Str} {pos' : Pos} (hN : X.N.Nodup) (he : SE X W e ge) (hi : X.N[i]? = some x := by rfl) (hx : Loc X.env.scope x := by first | exact Or.inl rfl | exact Or.inr rfl) (hs : swapsWith e (some (.Name x pos')) pos.line X.env = pure false := by rfl)
    (hf : X.fn x = true ∨ X.env.scope.names.lookup x = some .local := by first | exact .inl rfl | exact .inr rfl | assumption) : SS X W (.Assign [.Name x pos'] e pos) (gAsg ge (setD i)) := by
  refine PS.imp (ps_set hN hi hx he hs hf) fun D σ H ⟨F, env, rel, res⟩ => ?_
  refine ⟨F, env, rel, (RS.ofE (k := fun d e => match setD i d e with | none => .stuck | some e' => .next e') res).mono ?_⟩
  rintro v H1 ⟨env1, F1, d, x1, rel1, rv, res1⟩
  cases o : setD i d env1 with
  | none => simp only [o] at res1; exact res1.elim
  | some e' =>
    simp only [o] at res1
    obtain ⟨y, r⟩ := rel1.setD rv o
    exact res1 _ _ _ y r
/-- x, y = a, b: two names -/
def gPar (i j : Nat) (gs : SEnv → Out (List D)) : SEnv → SOut := fun env => (gs env).toS fun ds e => match ds with
  | [d1, d2] => match setD i d1 e with
    | none => .stuck
    | some e1 => match setD j d2 e1 with
      | none => .stuck
      | some e2 => .next e2
  | _ => .stuck
theorem ss_par (i j : Nat) {x y : Str} {px py pt : Pos} {kt k2 pt2} {gs : SEnv → Out (List D)} (hc : X.calm = true) (hN : X.N.Nodup) (ha : SA X W [a, b] gs) (h : PS X (.Assign [.Tuple [.Name x px, .Name y py] kt pt] (.Tuple [a, b] k2 pt2) pos) (tPar i j (tA X.K X.mg W gs))) :
    SS X W (.Assign [.Tuple [.Name x px, .Name y py] kt pt] (.Tuple [a, b] k2 pt2) pos) (gPar i j gs) := by
  refine PS.imp h fun D σ H ⟨F, env, rel, res⟩ => ?_
  refine ⟨F, env, rel, (RS.ofE (k := fun ds e => match ds with | [d1, d2] => (match setD i d1 e with | none => .stuck | some e1 => match setD j d2 e1 with | none => .stuck | some e2 => .next e2) | _ => .stuck) res).mono ?_⟩
  rintro vs H1 ⟨env1, F1, ds, x1, rel1, rv, res1⟩
  cases rv with
  | nil => exact res1.elim
  | @cons v d vs ds rd rs =>
  cases rs with
  | nil => exact res1.elim
  | @cons v2 d2 vs ds rd2 rs =>
  cases rs with
  | cons _ _ => exact res1.elim
  | nil =>
    cases o : setD i d env1 with
    | none => simp only [o] at res1; exact res1.elim
    | some e1 =>
      simp only [o] at res1
      cases o2 : setD j d2 e1 with
      | none => simp only [o2] at res1; exact res1.elim
      | some e2 =>
        simp only [o2] at res1
        obtain ⟨y1, r1⟩ := rel1.setD rd o
        obtain ⟨y2, r2⟩ := r1.setD rd2 o2
        exact ⟨v, v2, rfl, res1 _ _ _ (y1.trans y2) r2⟩
/-! ### for -/
structure ItOk (K : PySem.W.Frag) (mg : Str → Option Value) (F : Hp) (J : It) (items : List D) : Prop where
  ex : ∃ (G : Hp → Prop) (Y : Nat → Hp → V → Hp → Prop), Walk J items.length G Y ∧ (∀ H1, (∀ a o, F a = some o → H1 a = some o) → G H1) ∧
    ∀ i F1 H1 x H2, i < items.length → (∀ a o, F a = some o → F1 a = some o) → (∀ a o, F1 a = some o → H1 a = some o) → Y i H1 x H2 → ∃ F2 d, items[i]? = some d ∧ Grow F1 H1 F2 H2 ∧ Rep K mg F2 x d
def RI (K : PySem.W.Frag) (mg : Str → Option Value) : L2.St → SEnv → Hp → It → List D → Prop := fun _ _ F J ds => ItOk K mg F J ds
def tI (K : PySem.W.Frag) (mg : Str → Option Value) (W : WX) (g : SEnv → Out (List D)) : TI := fun σ H R => ∃ F env, Rel K mg F σ H env ∧ RES K mg W (RI K mg) σ env F H (g env) R
def SI (X : Cx) (W : WX) (tg it : Expr) (g : SEnv → Out (List D)) : Prop := PI X tg it (tI X.K X.mg W g)
theorem PI.imp {tg it : Expr} {t u : TI} (h : PI X tg it t) (i : ∀ σ H R, u σ H R → t σ H R) : PI X tg it u := ⟨fun pins s σ H R I q => h.run pins s σ H R I (i σ H R q)⟩
def loopF (h : D → SEnv → Option SEnv) (gb : SEnv → SOut) : List D → SEnv → SOut
  | [], e => .next e
  | d :: ds, e => match h d e with
    | none => .stuck
    | some e1 => match gb e1 with
      | .next e2 => loopF h gb ds e2
      | .cont e2 => loopF h gb ds e2
      | .brk e2 => .next e2
      | o => o
def gFor (gi : SEnv → Out (List D)) (h : D → SEnv → Option SEnv) (gb : SEnv → SOut) : SEnv → SOut := fun env => (gi env).toS fun ds e => loopF h gb ds e
theorem ss_for {tg it : Expr} {gi : SEnv → Out (List D)} {h : D → SEnv → Option SEnv} {gb : SEnv → SOut} {vs : List Nat} (hp : PassesOwn (model X.prog X.w) X.A X.env X.xe) (hc : X.calm = true) (hi : SI X W tg it gi) (hg : SG X tg h vs) (hb : SB X W sts gb)
    (hs : ∀ x, foldedSetIterable it X.env x = pure x := by intro _; rfl) : SS X W (.For tg it sts [] pos) (gFor gi h gb) := by
  refine PS.imp (ps_for hp hc hi hg hb hs) fun D σ H ⟨F, env, rel, res⟩ => ?_
  refine ⟨F, env, rel, (RS.ofE (k := fun ds e => loopF h gb ds e) res).mono ?_⟩
  rintro J H1 ⟨env1, F1, items, x1, rel1, ⟨G, Y, wk, hG, hY⟩, res1⟩
  refine for_it wk (fun i σ H => ∃ F env, Rel X.K X.mg F σ H env ∧ (∀ a o, F1 a = some o → F a = some o) ∧ RS X.K X.mg W σ env F H (loopF h gb (items.drop i) env) D) ⟨F1, env1, rel1, fun _ _ q => q, res1⟩ ?_ ?_ ?_
  · rintro i σ H _ ⟨F2, env2, rel2, m2, _⟩
    exact hG H fun a o q => rel2.sub a o (m2 a o q)
  · rintro i x σ H H' hi ⟨F2, env2, rel2, m2, res2⟩ y
    obtain ⟨F3, d, hd, gr, rx⟩ := hY i F2 H x H' hi m2 rel2.sub y
    have rel3 := rel2.grow gr
    have x3 := gr.ext rel2
    rw [List.drop_eq_getElem?_toList_append, hd] at res2
    simp only [Option.toList_some, List.singleton_append, loopF] at res2
    cases o : h d env2 with
    | none => simp only [o] at res2; exact res2.elim
    | some e1 =>
      simp only [o] at res2
      refine ⟨F3, env2, d, rel3, rx, e1, o, fun σ4 H4 F4 x4 rel4 _ => ⟨F4, e1, rel4, ?_⟩⟩
      have m4 : ∀ a o, F1 a = some o → F4 a = some o := fun a o q => x4.mono a o (gr.mono a o (m2 a o q))
      cases ob : gb e1 with
      | stuck => simp only [ob] at res2; exact res2
      | next e2 => simp only [ob] at res2; exact fun σ5 H5 F5 x5 rel5 => ⟨F5, e2, rel5, fun a o q => x5.mono a o (m4 a o q), RS.ext ((x3.trans x4).trans x5) res2⟩
      | cont e2 => simp only [ob] at res2; exact fun σ5 H5 F5 x5 rel5 => ⟨F5, e2, rel5, fun a o q => x5.mono a o (m4 a o q), RS.ext ((x3.trans x4).trans x5) res2⟩
      | brk e2 => simp only [ob] at res2; exact fun σ5 H5 F5 x5 rel5 => res2 σ5 H5 F5 ((x3.trans x4).trans x5) rel5
      | ret d e2 => simp only [ob] at res2; exact fun v σ5 H5 F5 x5 rel5 q => res2 v σ5 H5 F5 ((x3.trans x4).trans x5) rel5 q
      | exc d e2 => simp only [ob] at res2; exact fun c da σ5 H5 F5 x5 rel5 q => res2 c da σ5 H5 F5 ((x3.trans x4).trans x5) rel5 ⟨fun d z => (x3.trans x4).there d (q.1 d z), q.2⟩
  · rintro σ H ⟨F2, env2, rel2, m2, res2⟩
    rw [List.drop_length] at res2
    exact res2 σ H F2 Ext.refl rel2
/-! ### while -/
def loopW (tc : SEnv → Out Bool) (gb : SEnv → SOut) : Nat → SEnv → SOut
  | 0, _ => .stuck
  | n + 1, e => (tc e).toS fun k e1 => match k with
    | false => .next e1
    | true => match gb e1 with
      | .next e2 => loopW tc gb n e2
      | .cont e2 => loopW tc gb n e2
      | .brk e2 => .next e2
      | o => o
theorem ss_while {gb : SEnv → SOut} (n : Nat) (hp : PassesOwn (model X.prog X.w) X.A X.env X.xe) (hc : ST X W c tc) (hb : SB X W sts gb) : SS X W (.While c sts [] pos) (loopW tc gb n) := by
  refine PS.imp (ps_while hp hc hb) fun D σ H ⟨F, env, rel, res⟩ => ?_
  refine ⟨fun m σ H => ∃ F env, Rel X.K X.mg F σ H env ∧ RS X.K X.mg W σ env F H (loopW tc gb m env) D, ⟨n, F, env, rel, res⟩, ?_⟩
  rintro m σ H ⟨F1, env1, rel1, res1⟩
  cases m with
  | zero => exact res1.elim
  | succ m =>
    refine ⟨F1, env1, rel1, (RS.ofE (k := fun k e1 => match k with | false => .next e1 | true => match gb e1 with | .next e2 => loopW tc gb m e2 | .cont e2 => loopW tc gb m e2 | .brk e2 => .next e2 | o => o) res1).mono ?_⟩
    rintro k H2 ⟨env2, F2, k', x2, rel2, rk, res2⟩
    have rk' : k = k' := rk
    subst rk'
    cases k with
    | false => exact iteF (res2 _ _ _ Ext.refl rel2)
    | true =>
      refine iteT ⟨fun σ' H' => ∃ F env, Rel X.K X.mg F σ' H' env ∧ RS X.K X.mg W σ' env F H' (loopW tc gb m env) D, fun σ' H' q => ⟨m, Nat.lt_succ_self m, q⟩, F2, env2, rel2, ?_⟩
      cases ob : gb env2 with
      | stuck => simp only [ob] at res2; exact res2
      | next e2 => simp only [ob] at res2; exact fun σ5 H5 F5 x5 rel5 => ⟨F5, e2, rel5, RS.ext x5 res2⟩
      | cont e2 => simp only [ob] at res2; exact fun σ5 H5 F5 x5 rel5 => ⟨F5, e2, rel5, RS.ext x5 res2⟩
      | brk e2 => simp only [ob] at res2; exact fun σ5 H5 F5 x5 rel5 => res2 σ5 H5 F5 x5 rel5
      | ret d e2 => simp only [ob] at res2; exact fun v σ5 H5 F5 x5 rel5 q => res2 v σ5 H5 F5 x5 rel5 q
      | exc d e2 => simp only [ob] at res2; exact fun c da σ5 H5 F5 x5 rel5 q => res2 c da σ5 H5 F5 x5 rel5 q
end
end RL

/-! RL5: defs and their calls -/
namespace RL
open PySem L2 PyProof.Rows PySem.Spec

inductive FOut where
  | stuck | ok (d : D) (ps : List Sl) | exc (x : Xn) (ps : List Sl)
def keepIo : Sl → Sl
  | .own true m => .own true m
  | _ => .un
def clean (n : Nat) (e : SEnv) : List Sl := (e.take n).map keepIo
/-- a def: n parameters, k further names, its body -/
def runF (n k : Nat) (gb : SEnv → SOut) (ps : List Sl) : FOut := match gb (ps ++ List.replicate k .un) with
  | .next e => .ok .non (clean n e)
  | .ret d e => .ok d (clean n e)
  | .exc x e => .exc x (clean n e)
  | _ => .stuck
/-- a parameter's slot at the entry -/
def parOk : Sl → Bool
  | .d _ => true
  | .own true _ => true
  | _ => false
/-- the promise of a def by its semantics -/
def spF (K : PySem.W.Frag) (mg : Str → Option Value) (n : Nat) (Fn : List Sl → FOut) : Sp := fun vs H Q E => vs.length = n ∧ ∃ F ps, Rel K mg F (vs.map some) H ps ∧ ps.all parOk = true ∧
  match Fn ps with
  | .stuck => False
  | .ok d ps' => ∀ v H' F', Ext (vs.map some) ps F H (vs.map some) ps' F' H' → Rel K mg F' (vs.map some) H' ps' → Rep K mg F' v d → Q v H'
  | .exc x ps' => ∀ cls da H' F', Ext (vs.map some) ps F H (vs.map some) ps' F' H' → Rel K mg F' (vs.map some) H' ps' → XRep K mg F' H' H x cls da → E cls da H'

section
variable {K : PySem.W.Frag} {mg : Str → Option Value} {F F' H H' : Hp} {vs : List V} {ps : List Sl} {k n : Nat}
theorem app_un {ps : List Sl} {k i : Nat} {s : Sl} (h : (ps ++ List.replicate k Sl.un)[i]? = some s) (hs : s ≠ .un) : ps[i]? = some s := by
  by_cases q : i < ps.length
  · rwa [List.getElem?_append_left q] at h
  · rw [List.getElem?_append_right (by omega), List.getElem?_replicate] at h
    split at h
    · simp only [Option.some.injEq] at h; exact absurd h.symm hs
    · cases h
theorem start_get {N : List Str} {vs : List V} {i : Nat} (h : i < vs.length) : (L2.start N vs)[i]? = (vs.map some)[i]? := by
  unfold L2.start
  rw [List.getElem?_append_left (by simpa using h)]
theorem entry_rel {N : List Str} (r : Rel K mg F (vs.map some) H ps) (hN : vs.length + k = N.length) : Rel K mg F (L2.start N vs) H (ps ++ List.replicate k .un) := by
  have hl : vs.length = ps.length := by simpa using r.len
  have lt : ∀ {i : Nat} {s : Sl}, ps[i]? = some s → i < vs.length := fun q => by rw [hl]; exact (List.getElem?_eq_some_iff.mp q).1
  refine ⟨?_, r.sub, fun i d e => ?_, fun i io m e => ?_, fun i j io jo m m' a ne e1 e2 s1 s2 => ?_⟩
  · unfold L2.start
    simp only [List.length_append, List.length_map, List.length_replicate]
    omega
  · have e := app_un e (by simp)
    rw [start_get (lt e)]
    exact r.val i d e
  · have e := app_un e (by simp)
    rw [start_get (lt e)]
    exact r.own i io m e
  · have e1 := app_un e1 (by simp)
    have e2 := app_un e2 (by simp)
    rw [start_get (lt e1)] at s1
    rw [start_get (lt e2)] at s2
    exact r.sep i j io jo m m' a ne e1 e2 s1 s2
theorem clean_get {n : Nat} {e : SEnv} {i : Nat} {s : Sl} (h : (clean n e)[i]? = some s) (hs : s ≠ .un) : ∃ m, s = .own true m ∧ i < n ∧ e[i]? = some (.own true m) := by
  unfold clean at h
  rw [List.getElem?_map, List.getElem?_take] at h
  split at h
  · rename_i hi
    cases q : e[i]? with
    | none => rw [q] at h; cases h
    | some y =>
      rw [q] at h
      simp only [Option.map_some, Option.some.injEq] at h
      cases y with
      | un => exact absurd h.symm hs
      | d x => exact absurd h.symm hs
      | own io m =>
        cases io with
        | false => exact absurd h.symm hs
        | true => exact ⟨m, h.symm, hi, rfl⟩
  · cases h
theorem clean_of {n : Nat} {e : SEnv} {i : Nat} {m : MO} (h : e[i]? = some (.own true m)) (hi : i < n) : (clean n e)[i]? = some (.own true m) := by
  unfold clean
  rw [List.getElem?_map, List.getElem?_take, if_pos hi, h]
  rfl
theorem exit_ok {N : List Str} {σ' : L2.St} {e : SEnv} (hN : vs.length + k = N.length) (r : Rel K mg F (vs.map some) H ps) (x : Ext (L2.start N vs) (ps ++ List.replicate k .un) F H σ' e F' H') (r' : Rel K mg F' σ' H' e) :
    Ext (vs.map some) ps F H (vs.map some) (clean vs.length e) F' H' ∧ Rel K mg F' (vs.map some) H' (clean vs.length e) := by
  have hl : vs.length = ps.length := by simpa using r.len
  have lt : ∀ {i : Nat} {s : Sl}, ps[i]? = some s → i < vs.length := fun q => by rw [hl]; exact (List.getElem?_eq_some_iff.mp q).1
  have own0 : ∀ a, Own (L2.start N vs) (ps ++ List.replicate k .un) a ↔ Own (vs.map some) ps a := fun a => by
    constructor
    · rintro ⟨i, io, m, e, s⟩
      have e := app_un e (by simp)
      rw [start_get (lt e)] at s
      exact ⟨i, io, m, e, s⟩
    · rintro ⟨i, io, m, e, s⟩
      refine ⟨i, io, m, ?_, by rw [start_get (lt e)]; exact s⟩
      rw [List.getElem?_append_left (by rw [← hl]; exact lt e)]
      exact e
  have elen : vs.length ≤ e.length := by
    have h1 := r'.len
    have h2 := x.slen
    unfold L2.start at h2
    simp only [List.length_append, List.length_map, List.length_replicate] at h2
    omega
  have st : ∀ {i : Nat} {m : MO}, e[i]? = some (.own true m) → (∃ m0, ps[i]? = some (.own true m0)) ∧ σ'[i]? = (vs.map some)[i]? := fun {i m} q => by
    obtain ⟨⟨m0, q0⟩, q1⟩ := x.io i m q
    have q0 := app_un q0 (by simp)
    exact ⟨⟨m0, q0⟩, by rw [q1, start_get (lt q0)]⟩
  refine ⟨⟨x.mono, fun a o q => ?_, fun a o q nq => x.keep a o q fun z => nq ((own0 a).mp z), fun a q => ?_, fun i m q => ?_, fun i m q => ?_, rfl, x.there⟩, ⟨?_, r'.sub, fun i d q => ?_, fun i io m q => ?_, fun i j io jo m m' a ne q1 q2 s1 s2 => ?_⟩⟩
  · rcases x.new a o q with z | z | z
    · exact .inl z
    · exact .inr (.inl z)
    · exact .inr (.inr ((own0 a).mp z))
  · obtain ⟨i, io, m, q, s⟩ := q
    obtain ⟨m1, e1, hi, q⟩ := clean_get q (by simp)
    obtain ⟨⟨m0, q0⟩, q1⟩ := st q
    exact .inl ⟨i, _, m0, q0, s⟩
  · obtain ⟨m1, e1, hi, q⟩ := clean_get q (by simp)
    exact ⟨(st q).1, rfl⟩
  · obtain ⟨m0, q0⟩ := x.io' i m (by rw [List.getElem?_append_left (by rw [← hl]; exact lt q)]; exact q)
    exact ⟨m0, clean_of q0 (lt q)⟩
  · unfold clean
    rw [List.length_map, List.length_map, List.length_take]
    omega
  · obtain ⟨m1, e1, _⟩ := clean_get q (by simp)
    cases e1
  · obtain ⟨m1, e1, hi, q⟩ := clean_get q (by simp)
    cases e1
    obtain ⟨a, q1, q2, q3⟩ := r'.own i _ _ q
    rw [(st q).2] at q1
    exact ⟨a, q1, q2, q3⟩
  · obtain ⟨m1, e1, hi, q1⟩ := clean_get q1 (by simp)
    obtain ⟨m2, e2, hj, q2⟩ := clean_get q2 (by simp)
    cases e1
    cases e2
    rw [← (st q1).2] at s1
    rw [← (st q2).2] at s2
    exact r'.sep i j _ _ _ _ a ne q1 q2 s1 s2
end

section
variable {P : Program} {w : World} {K : PySem.W.Frag} {mg : Str → Option Value} {base : Heap}
/-- the wish of a def's body -/
abbrev wOf (E : XK) : WX := fun cls d _ H => E cls d H
/-- THE RULE for a def -/
theorem fn_ok {x qual : Str} {st : Stmt} {f : Addr} {fd : FuncData} {N ps : List Str} {k lv n : Nat} {gb : SEnv → SOut} (F : Fun K x qual st f fd) (S : FnScope N ps (defScope st)) (hn : ps.length = n) (hk : n + k = N.length)
    (hbody : ∀ (cdv : Value) (A : Around) (outer : List Env) (s : Shared) (H : Hp) (E : XK), Room lv (A.deeper (envOfC qual (defScope st) s.heap.objs.size f cdv)) →
      Takes (cxOf (L2.CX P w) P w K mg base N qual (defScope st) f cdv A outer s H E) (wOf E) →
      PassesOwn (model P w) (A.deeper (envOfC qual (defScope st) s.heap.objs.size f cdv)) (envOfC qual (defScope st) s.heap.objs.size f cdv) (cxOf (L2.CX P w) P w K mg base N qual (defScope st) f cdv A outer s H E).xe →
      SB (cxOf (L2.CX P w) P w K mg base N qual (defScope st) f cdv A outer s H E) (wOf E) (defBody st) gb) : FnOk P w K mg base (L2.CX P w) (lv + 1) f fd ps (spF K mg n (runF n k gb)) := by
  refine F.okX S (fun vs H Q E h => h.1.trans hn.symm) fun cdv A outer s H vs Q E hr h => ?_
  obtain ⟨hl, F0, sl, rel, ok, res⟩ := h
  refine ⟨_, hbody cdv A outer s H E hr (takes_of rfl rfl rfl rfl) (passes_of (X := cxOf (L2.CX P w) P w K mg base N qual (defScope st) f cdv A outer s H E) rfl), F0, sl ++ List.replicate k Sl.un, entry_rel (k := k) (N := N) rel (by rw [hl]; exact hk), ?_⟩
  subst hl
  unfold runF at res
  cases o : gb (sl ++ List.replicate k Sl.un) with
  | stuck => simp only [o] at res
  | brk e => simp only [o] at res
  | cont e => simp only [o] at res
  | next e =>
    simp only [o] at res
    intro σ' H' F' x r
    obtain ⟨x', r'⟩ := exit_ok hk rel x r
    exact res .non H' F' x' r' .non
  | ret d e =>
    simp only [o] at res
    intro v σ' H' F' x r q
    obtain ⟨x', r'⟩ := exit_ok hk rel x r
    exact res v H' F' x' r' q
  | exc d e =>
    simp only [o] at res
    intro cls da σ' H' F' x r q
    obtain ⟨x', r'⟩ := exit_ok hk rel x r
    exact res cls da H' F' x' r' q
end

/-! ### the call -/
inductive AE where
  | v (d : D) | io (i : Nat)
def RAE (K : PySem.W.Frag) (mg : Str → Option Value) (σ : L2.St) (F : Hp) (v : V) : AE → Prop
  | .v d => Rep K mg F v d
  | .io i => σ[i]? = some (some v)
def RAEs (K : PySem.W.Frag) (mg : Str → Option Value) : L2.St → SEnv → Hp → List V → List AE → Prop := fun σ _ F vs as => Paired (RAE K mg σ F) vs as
def tAE (K : PySem.W.Frag) (mg : Str → Option Value) (W : WX) (g : SEnv → Out (List AE)) : TA := fun σ H Q => ∃ F env, Rel K mg F σ H env ∧ RES K mg W (RAEs K mg) σ env F H (g env) Q
/-- the slots of the callee's parameters -/
def argSl (env : SEnv) : List AE → Option (List Sl)
  | [] => some []
  | .v d :: r => match argSl env r with
    | some q => some (.d d :: q)
    | none => none
  | .io i :: r => match env[i]? with
    | some (.own _ m) => match argSl env r with
      | some q => some (.own true m :: q)
      | none => none
    | _ => none
def ios : List AE → List Nat
  | [] => []
  | .v _ :: r => ios r
  | .io i :: r => i :: ios r
/-- what the callee left in the slot i -/
def backIo : List AE → List Sl → Nat → Option MO
  | .io k :: as, .own _ m :: ps, i => if k = i then some m else backIo as ps i
  | _ :: as, _ :: ps, i => backIo as ps i
  | _, _, _ => none
def putBack (env : SEnv) (as : List AE) (ps : List Sl) : SEnv := env.mapIdx fun i s => match s with
  | .own b m => match backIo as ps i with
    | some m' => .own b m'
    | none => .own b m
  | s => s
def gFn (Fn : List Sl → FOut) (gs : SEnv → Out (List AE)) : SEnv → Out D := fun env => (gs env).bind fun as e => match argSl e as with
  | none => .stuck
  | some ps => if (ios as).Nodup then (match Fn ps with
    | .stuck => .stuck
    | .ok d ps' => .ok d (putBack e as ps')
    | .exc x ps' => .exc x (putBack e as ps')) else .stuck

section
variable {K : PySem.W.Frag} {mg : Str → Option Value} {F F' H H' : Hp} {σ : L2.St} {env : SEnv}
theorem argSl_all : ∀ {as : List AE} {ps : List Sl}, argSl env as = some ps → ps.all parOk = true
  | [], _, h => by cases h; rfl
  | .v d :: r, ps, h => by
    simp only [argSl] at h
    cases q : argSl env r with
    | none => rw [q] at h; cases h
    | some z => rw [q] at h; cases h; simp [parOk, argSl_all q]
  | .io i :: r, ps, h => by
    simp only [argSl] at h
    cases e : env[i]? with
    | none => rw [e] at h; cases h
    | some y =>
      rw [e] at h
      cases y with
      | un => cases h
      | d _ => cases h
      | own b m =>
        simp only at h
        cases q : argSl env r with
        | none => rw [q] at h; cases h
        | some z => rw [q] at h; cases h; simp [parOk, argSl_all q]
/-- places of the arguments and their slots -/
theorem argSl_get : ∀ {as : List AE} {vs : List V} {ps : List Sl}, argSl env as = some ps → Paired (RAE K mg σ F) vs as →
    vs.length = ps.length ∧ (∀ (j : Nat) d, ps[j]? = some (Sl.d d) → ∃ v, vs[j]? = some v ∧ Rep K mg F v d) ∧
    (∀ (j : Nat) io m, ps[j]? = some (Sl.own io m) → io = true ∧ ∃ (i : Nat) (b : Bool) (v : V), as[j]? = some (AE.io i) ∧ i ∈ ios as ∧ env[i]? = some (Sl.own b m) ∧ vs[j]? = some v ∧ σ[i]? = some (some v))
  | [], _, _, h, .nil => by
    cases h
    exact ⟨rfl, fun j d q => by simp at q, fun j io m q => by simp at q⟩
  | .v d0 :: r, _, ps, h, .cons (a := v0) hv hr => by
    simp only [argSl] at h
    cases q : argSl env r with
    | none => rw [q] at h; cases h
    | some z =>
      rw [q] at h; cases h
      obtain ⟨h1, h2, h3⟩ := argSl_get q hr
      refine ⟨by simp [h1], fun j d q => ?_, fun j io m q => ?_⟩
      · cases j with
        | zero => simp only [List.getElem?_cons_zero, Option.some.injEq, Sl.d.injEq] at q; subst q; exact ⟨v0, rfl, hv⟩
        | succ j => simpa using h2 j d (by simpa using q)
      · cases j with
        | zero => simp at q
        | succ j =>
          obtain ⟨e1, i, b, v, e2, e3, e4⟩ := h3 j io m (by simpa using q)
          exact ⟨e1, i, b, v, by simpa using e2, by simpa [ios] using e3, by simpa using e4⟩
  | .io i0 :: r, _, ps, h, .cons (a := v0) hv hr => by
    simp only [argSl] at h
    cases e : env[i0]? with
    | none => rw [e] at h; cases h
    | some y =>
      rw [e] at h
      cases y with
      | un => cases h
      | d _ => cases h
      | own b0 m0 =>
        simp only at h
        cases q : argSl env r with
        | none => rw [q] at h; cases h
        | some z =>
          rw [q] at h; cases h
          obtain ⟨h1, h2, h3⟩ := argSl_get q hr
          refine ⟨by simp [h1], fun j d q => ?_, fun j io m q => ?_⟩
          · cases j with
            | zero => simp at q
            | succ j => simpa using h2 j d (by simpa using q)
          · cases j with
            | zero =>
              simp only [List.getElem?_cons_zero, Option.some.injEq, Sl.own.injEq] at q
              obtain ⟨q1, q2⟩ := q
              subst q2
              exact ⟨q1.symm, i0, b0, v0, rfl, by simp [ios], e, rfl, hv⟩
            | succ j =>
              obtain ⟨e1, i, b, v, e2, e3, e4⟩ := h3 j io m (by simpa using q)
              exact ⟨e1, i, b, v, by simpa using e2, by simp [ios, e3], by simpa using e4⟩
theorem ios_inj : ∀ {as : List AE} {j k i : Nat}, (ios as).Nodup → as[j]? = some (AE.io i) → as[k]? = some (AE.io i) → j = k
  | [], _, _, _, _, h, _ => by simp at h
  | .v d :: r, j, k, i, n, h1, h2 => by
    cases j with
    | zero => simp at h1
    | succ j =>
      cases k with
      | zero => simp at h2
      | succ k => exact congrArg (· + 1) (ios_inj (as := r) (j := j) (k := k) (i := i) (by simpa [ios] using n) (by simpa using h1) (by simpa using h2))
  | .io i0 :: r, j, k, i, n, h1, h2 => by
    simp only [ios, List.nodup_cons] at n
    have mem : ∀ {l : List AE} {j : Nat}, l[j]? = some (AE.io i) → i ∈ ios l := by
      intro l
      induction l with
      | nil => intro j h; simp at h
      | cons a l ih =>
        intro j h
        cases a with
        | v d =>
          cases j with
          | zero => simp at h
          | succ j => simpa [ios] using ih (j := j) (by simpa using h)
        | io q =>
          cases j with
          | zero => simp only [List.getElem?_cons_zero, Option.some.injEq, AE.io.injEq] at h; subst h; simp [ios]
          | succ j => simp [ios, ih (j := j) (by simpa using h)]
    cases j with
    | zero =>
      simp only [List.getElem?_cons_zero, Option.some.injEq, AE.io.injEq] at h1
      subst h1
      cases k with
      | zero => rfl
      | succ k => exact absurd (mem (by simpa using h2)) n.1
    | succ j =>
      cases k with
      | zero =>
        simp only [List.getElem?_cons_zero, Option.some.injEq, AE.io.injEq] at h2
        subst h2
        exact absurd (mem (by simpa using h1)) n.1
      | succ k => exact congrArg (· + 1) (ios_inj (as := r) (j := j) (k := k) (i := i) n.2 (by simpa using h1) (by simpa using h2))
theorem call_rel {as : List AE} {vs : List V} {ps : List Sl} (r : Rel K mg F σ H env) (h : argSl env as = some ps) (p : Paired (RAE K mg σ F) vs as) (nd : (ios as).Nodup) : Rel K mg F (vs.map some) H ps := by
  obtain ⟨h1, h2, h3⟩ := argSl_get h p
  refine ⟨by simpa using h1, r.sub, fun j d q => ?_, fun j io m q => ?_, fun j k io jo m n a ne q1 q2 s1 s2 => ?_⟩
  · obtain ⟨v, e1, e2⟩ := h2 j d q
    exact ⟨v, by simp [e1], e2⟩
  · obtain ⟨e1, i, b, v, e2, e3, e4, e5, e6⟩ := h3 j io m q
    obtain ⟨a, s1, s2, s3⟩ := r.own i b m e4
    rw [e6] at s1
    simp only [Option.some.injEq] at s1
    subst s1
    exact ⟨a, by simp [e5], s2, s3⟩
  · obtain ⟨_, i, b, v, e2, e3, e4, e5, e6⟩ := h3 j io m q1
    obtain ⟨_, i', b', v', e2', e3', e4', e5', e6'⟩ := h3 k jo n q2
    rw [List.getElem?_map, e5] at s1
    rw [List.getElem?_map, e5'] at s2
    simp only [Option.map_some, Option.some.injEq] at s1 s2
    subst s1
    subst s2
    by_cases z : i = i'
    · subst z; exact ne (ios_inj nd e2 e2')
    · exact r.sep i i' _ _ _ _ a z e4 e4' e6 e6'
/-- backIo finds what the callee left -/
theorem backIo_some : ∀ {as : List AE} {ps : List Sl} {i : Nat} {m : MO}, backIo as ps i = some m → ∃ (j : Nat) (b : Bool), as[j]? = some (AE.io i) ∧ ps[j]? = some (Sl.own b m)
  | [], _, _, _, h => by simp [backIo] at h
  | _ :: _, [], _, _, h => by simp [backIo] at h
  | .v d :: as, s :: ps, i, m, h => by
    simp only [backIo] at h
    obtain ⟨j, b, e1, e2⟩ := backIo_some h
    exact ⟨j + 1, b, by simpa using e1, by simpa using e2⟩
  | .io k :: as, .own b0 m0 :: ps, i, m, h => by
    simp only [backIo] at h
    split at h
    · rename_i z
      subst z
      cases h
      exact ⟨0, b0, rfl, rfl⟩
    · obtain ⟨j, b, e1, e2⟩ := backIo_some h
      exact ⟨j + 1, b, by simpa using e1, by simpa using e2⟩
  | .io k :: as, .un :: ps, i, m, h => by
    simp only [backIo] at h
    obtain ⟨j, b, e1, e2⟩ := backIo_some h
    exact ⟨j + 1, b, by simpa using e1, by simpa using e2⟩
  | .io k :: as, .d x :: ps, i, m, h => by
    simp only [backIo] at h
    obtain ⟨j, b, e1, e2⟩ := backIo_some h
    exact ⟨j + 1, b, by simpa using e1, by simpa using e2⟩
theorem backIo_none : ∀ {as : List AE} {ps : List Sl} {i j : Nat} {b : Bool} {m : MO}, backIo as ps i = none → as[j]? = some (AE.io i) → ps[j]? = some (Sl.own b m) → False
  | [], _, _, _, _, _, _, h, _ => by simp at h
  | _ :: _, [], _, _, _, _, _, _, h => by simp at h
  | .v d :: as, s :: ps, i, j, b, m, h, e1, e2 => by
    simp only [backIo] at h
    cases j with
    | zero => simp at e1
    | succ j => exact backIo_none h (by simpa using e1) (by simpa using e2)
  | .io k :: as, .own b0 m0 :: ps, i, j, b, m, h, e1, e2 => by
    simp only [backIo] at h
    split at h
    · cases h
    · rename_i z
      cases j with
      | zero => simp only [List.getElem?_cons_zero, Option.some.injEq, AE.io.injEq] at e1; exact z e1
      | succ j => exact backIo_none h (by simpa using e1) (by simpa using e2)
  | .io k :: as, .un :: ps, i, j, b, m, h, e1, e2 => by
    simp only [backIo] at h
    cases j with
    | zero => simp at e2
    | succ j => exact backIo_none h (by simpa using e1) (by simpa using e2)
  | .io k :: as, .d x :: ps, i, j, b, m, h, e1, e2 => by
    simp only [backIo] at h
    cases j with
    | zero => simp at e2
    | succ j => exact backIo_none h (by simpa using e1) (by simpa using e2)
theorem putBack_own {as : List AE} {ps : List Sl} {i : Nat} {b : Bool} {m : MO} (h : (putBack env as ps)[i]? = some (.own b m)) :
    ∃ m0, env[i]? = some (.own b m0) ∧ (backIo as ps i = some m ∨ (backIo as ps i = none ∧ m = m0)) := by
  unfold putBack at h
  rw [List.getElem?_mapIdx] at h
  cases e : env[i]? with
  | none => rw [e] at h; cases h
  | some y =>
    rw [e] at h
    cases y with
    | un => simp at h
    | d x => simp at h
    | own b0 m0 =>
      simp only [Option.map_some, Option.some.injEq] at h
      cases q : backIo as ps i with
      | none => simp only [q, Sl.own.injEq] at h; obtain ⟨h1, h2⟩ := h; subst h1; exact ⟨m0, rfl, .inr ⟨rfl, h2.symm⟩⟩
      | some z => simp only [q, Sl.own.injEq] at h; obtain ⟨h1, h2⟩ := h; subst h1; subst h2; exact ⟨m0, rfl, .inl rfl⟩
theorem putBack_d {as : List AE} {ps : List Sl} {i : Nat} {d : D} (h : (putBack env as ps)[i]? = some (.d d)) : env[i]? = some (.d d) := by
  unfold putBack at h
  rw [List.getElem?_mapIdx] at h
  cases e : env[i]? with
  | none => rw [e] at h; cases h
  | some y =>
    rw [e] at h
    cases y with
    | un => simp at h
    | d x => simpa using h
    | own b0 m0 =>
      simp only [Option.map_some, Option.some.injEq] at h
      cases q : backIo as ps i <;> simp [q] at h
theorem putBack_of {as : List AE} {ps : List Sl} {i : Nat} {b : Bool} {m : MO} (h : env[i]? = some (.own b m)) : ∃ m0, (putBack env as ps)[i]? = some (.own b m0) := by
  unfold putBack
  rw [List.getElem?_mapIdx, h]
  cases q : backIo as ps i with
  | none => exact ⟨m, by simp [q]⟩
  | some z => exact ⟨z, by simp [q]⟩
theorem call_back {as : List AE} {vs : List V} {ps ps' : List Sl} (r : Rel K mg F σ H env) (h : argSl env as = some ps) (p : Paired (RAE K mg σ F) vs as) (nd : (ios as).Nodup)
    (x : Ext (vs.map some) ps F H (vs.map some) ps' F' H') (r' : Rel K mg F' (vs.map some) H' ps') : Ext σ env F H σ (putBack env as ps') F' H' ∧ Rel K mg F' σ H' (putBack env as ps') := by
  obtain ⟨h1, h2, h3⟩ := argSl_get h p
  -- what the callee owns, the caller owns
  have sub : ∀ a, Own (vs.map some) ps a → Own σ env a := by
    rintro a ⟨j, io, m, e, s⟩
    obtain ⟨_, i, b, v, e2, e3, e4, e5, e6⟩ := h3 j io m e
    rw [List.getElem?_map, e5] at s
    simp only [Option.map_some, Option.some.injEq] at s
    subst s
    exact ⟨i, b, m, e4, e6⟩
  have part : ∀ {i : Nat} {b : Bool} {m : MO} {a : Addr}, backIo as ps' i = none → env[i]? = some (.own b m) → σ[i]? = some (some (V.ref a)) → ¬ Own (vs.map some) ps a := by
    rintro i b m a q e s ⟨j, io, m', e', s'⟩
    obtain ⟨hio, i', b', v, e2, e3, e4, e5, e6⟩ := h3 j io m' e'
    rw [List.getElem?_map, e5] at s'
    simp only [Option.map_some, Option.some.injEq] at s'
    subst s'
    have z : i' = i := by
      by_cases z : i' = i
      · exact z
      · exact (r.sep i' i _ _ _ _ a z e4 e e6 s).elim
    subst z
    subst hio
    obtain ⟨m0, q0⟩ := x.io' j m' e'
    exact backIo_none q e2 q0
  refine ⟨⟨x.mono, fun a o q => ?_, fun a o q nq => x.keep a o q fun z => nq (sub a z), fun a q => ?_, fun i m q => ?_, fun i m q => putBack_of q, rfl, x.there⟩, ⟨?_, r'.sub, fun i d q => ?_, fun i io m q => ?_, fun i j io jo m n a ne q1 q2 s1 s2 => ?_⟩⟩
  · rcases x.new a o q with z | z | z
    · exact .inl z
    · exact .inr (.inl z)
    · exact .inr (.inr (sub a z))
  · obtain ⟨i, io, m, q, s⟩ := q
    obtain ⟨m0, q, _⟩ := putBack_own q
    exact .inl ⟨i, io, m0, q, s⟩
  · obtain ⟨m0, q, _⟩ := putBack_own q
    exact ⟨⟨m0, q⟩, rfl⟩
  · unfold putBack
    rw [List.length_mapIdx]
    exact r.len
  · obtain ⟨v, e1, e2⟩ := r.val i d (putBack_d q)
    exact ⟨v, e1, e2.mono x.mono⟩
  · obtain ⟨m0, q0, q1⟩ := putBack_own q
    obtain ⟨a, e1, e2, e3⟩ := r.own i io m0 q0
    rcases q1 with q1 | ⟨q1, rfl⟩
    · obtain ⟨j, b, e4, e5⟩ := backIo_some q1
      obtain ⟨a', e6, e7, e8⟩ := r'.own j b m e5
      have pj : ∃ mj, ps[j]? = some (Sl.own true mj) := by
        have hb : b = true := by
          cases b with
          | true => rfl
          | false =>
            -- the callee's slot was in and out
            have hj : j < ps.length := by
              rw [← h1]
              have := (List.getElem?_eq_some_iff.mp e6).1
              simpa using this
            cases y : ps[j]? with
            | none => rw [List.getElem?_eq_none_iff] at y; omega
            | some s =>
              cases s with
              | un => exact absurd (argSl_all h) (by
                  intro z
                  have := (List.all_eq_true.mp z) _ (List.mem_of_getElem? y)
                  simp [parOk] at this)
              | d dd =>
                -- as[j] is io, so ps[j] is own
                exfalso
                clear e7 e8
                have : ∀ {as : List AE} {ps : List Sl} {j : Nat} {dd : D}, argSl env as = some ps → as[j]? = some (AE.io i) → ps[j]? = some (Sl.d dd) → False := by
                  intro as
                  induction as with
                  | nil => intro ps j dd _ h _; simp at h
                  | cons A as ih =>
                    intro ps j dd h e1 e2
                    cases A with
                    | v d0 =>
                      simp only [argSl] at h
                      cases q : argSl env as with
                      | none => rw [q] at h; cases h
                      | some z =>
                        rw [q] at h; cases h
                        cases j with
                        | zero => simp at e1
                        | succ j => exact ih q (by simpa using e1) (by simpa using e2)
                    | io i0 =>
                      simp only [argSl] at h
                      cases e : env[i0]? with
                      | none => rw [e] at h; cases h
                      | some y =>
                        rw [e] at h
                        cases y with
                        | un => cases h
                        | d _ => cases h
                        | own b0 m0 =>
                          simp only at h
                          cases q : argSl env as with
                          | none => rw [q] at h; cases h
                          | some z =>
                            rw [q] at h; cases h
                            cases j with
                            | zero => simp at e2
                            | succ j => exact ih q (by simpa using e1) (by simpa using e2)
                exact this h e4 y
              | own bb mm =>
                obtain ⟨hb, _⟩ := h3 j bb mm y
                subst hb
                obtain ⟨mz, hz⟩ := x.io' j mm y
                rw [e5] at hz
                cases hz
        subst hb
        exact (x.io j m e5).1
      obtain ⟨mj, pj⟩ := pj
      obtain ⟨_, i', b', v, e9, e10, e11, e12, e13⟩ := h3 j true mj pj
      rw [e4] at e9
      simp only [Option.some.injEq, AE.io.injEq] at e9
      subst e9
      rw [List.getElem?_map, e12] at e6
      simp only [Option.map_some, Option.some.injEq] at e6
      subst e6
      exact ⟨a', e13, e7, e8⟩
    · have no := part q1 q0 e1
      obtain ⟨o, ho⟩ := e3.there
      have hk := x.keep a o ho no
      refine ⟨a, e1, ?_, ?_⟩
      · cases z : F' a with
        | none => rfl
        | some u =>
          rcases x.new a u z with w | w | w
          · rw [e2] at w; cases w
          · rw [ho] at w; cases w
          · exact (no w).elim
      · cases m with
        | lst ds => obtain ⟨ws, h5, h6⟩ := e3; exact ⟨ws, x.keep a _ h5 no, h6.mono x.mono⟩
        | ins c fs => obtain ⟨C, dx, ws, h5, h6, h7⟩ := e3; exact ⟨C, dx, ws, h5, x.keep a _ h6 no, h7.mono x.mono⟩
  · obtain ⟨m0, q1, _⟩ := putBack_own q1
    obtain ⟨n0, q2, _⟩ := putBack_own q2
    exact r.sep i j _ _ _ _ a ne q1 q2 s1 s2
end

section
variable {X : Cx} {W : WX} {a e : Expr} {es : List Expr} {ga : SEnv → Out D} {gs : SEnv → Out (List AE)} {pos p : Pos}
structure SAE (X : Cx) (W : WX) (es : List Expr) (g : SEnv → Out (List AE)) : Prop where
  pa : PA X es (tAE X.K X.mg W g)
def aNil : SEnv → Out (List AE) := fun env => .ok [] env
def aV (ga : SEnv → Out D) (gr : SEnv → Out (List AE)) : SEnv → Out (List AE) := fun env => (ga env).bind fun d e => (gr e).bind fun ds e2 => .ok (.v d :: ds) e2
def aIo (i : Nat) (gr : SEnv → Out (List AE)) : SEnv → Out (List AE) := fun env => (gr env).bind fun ds e2 => .ok (.io i :: ds) e2
theorem RAE.mono {K : PySem.W.Frag} {mg : Str → Option Value} {σ : L2.St} {F F' : Hp} {v : V} {x : AE} (m : ∀ a o, F a = some o → F' a = some o) (h : RAE K mg σ F v x) : RAE K mg σ F' v x := by
  cases x with
  | v d => exact Rep.mono m h
  | io i => exact h
theorem ae_nil : SAE X W [] aNil := ⟨PA.imp pa_nil fun σ H Q ⟨F, env, rel, res⟩ => res [] H F Ext.refl rel .nil⟩
theorem ae_v {gr : SEnv → Out (List AE)} (ha : SE X W a ga) (hr : SAE X W es gr) (hs : starEach (a :: es) X.env = (false, eval a X.env) :: starEach es X.env := by rfl) : SAE X W (a :: es) (aV ga gr) := by
  refine ⟨PA.imp (pa_cons ha hr.pa hs) fun σ H Q ⟨F, env, rel, res⟩ => ?_⟩
  refine ⟨F, env, rel, (RES.bind (k := fun d e => (gr e).bind fun ds e2 => .ok (.v d :: ds) e2) res).mono ?_⟩
  rintro x H1 ⟨env1, F1, d, x1, rel1, rx, res1⟩
  refine ⟨F1, env1, rel1, (RES.bind (k := fun ds e2 => .ok (.v d :: ds) e2) res1).mono ?_⟩
  rintro xs H2 ⟨env2, F2, ds, x2, rel2, rxs, res2⟩
  exact res2 _ H2 F2 Ext.refl rel2 (.cons (Rep.mono x2.mono rx) rxs)
theorem ae_io' {i : Nat} {gr : SEnv → Out (List AE)} (h : PE X a (tVar i)) (hr : SAE X W es gr) (hs : starEach (a :: es) X.env = (false, eval a X.env) :: starEach es X.env) : SAE X W (a :: es) (fun env => match env[i]? with | some (.own _ _) => aIo i gr env | _ => .stuck) := by
  refine ⟨PA.imp (pa_cons h hr.pa hs) fun σ H Q ⟨F, env, rel, res⟩ => ?_⟩
  cases e : env[i]? with
  | none => simp only [e] at res; exact res.elim
  | some y =>
    cases y with
    | un => simp only [e] at res; exact res.elim
    | d _ => simp only [e] at res; exact res.elim
    | own b m =>
      simp only [e] at res
      obtain ⟨p, e1, n, _⟩ := rel.own i b m e
      refine ⟨_, e1, F, env, rel, (RES.bind (k := fun ds e2 => .ok (.io i :: ds) e2) res).mono ?_⟩
      rintro xs H2 ⟨env2, F2, ds, x2, rel2, rxs, res2⟩
      exact res2 _ H2 F2 Ext.refl rel2 (.cons e1 rxs)
def aOwn (i : Nat) (gr : SEnv → Out (List AE)) : SEnv → Out (List AE) := fun env => match env[i]? with | some (.own _ _) => aIo i gr env | _ => .stuck
theorem ae_io (i : Nat) {x : Str} {gr : SEnv → Out (List AE)} (hr : SAE X W es gr) (hN : X.N[i]? = some x := by rfl) (hv : Vis X.env.scope x := by first | exact Or.inl rfl | exact Or.inr (Or.inl rfl) | exact Or.inr (Or.inr rfl)) (hd : (x == ("__debug__" : Str)) = false := by decide)
    (hcd : (x == ("__classdict__" : Str)) = false := by decide) (hs : starEach (.Name x pos :: es) X.env = (false, eval (.Name x pos) X.env) :: starEach es X.env := by rfl) : SAE X W (.Name x pos :: es) (aOwn i gr) := ae_io' (pe_var hN hv hd hcd) hr hs
/-- what the promise asks at a call -/
theorem fn_imp {n : Nat} {Fn : List Sl → FOut} {σ : L2.St} {env : SEnv} {F H : Hp} {vs : List V} {as : List AE} {Q : VK} (rel : Rel X.K X.mg F σ H env) (rv : Paired (RAE X.K X.mg σ F) vs as) (hl : vs.length = n)
    (res : RES X.K X.mg W (RD X.K X.mg) σ env F H (match argSl env as with
      | none => .stuck
      | some ps => if (ios as).Nodup then (match Fn ps with
        | .stuck => .stuck
        | .ok d ps' => .ok d (putBack env as ps')
        | .exc x ps' => .exc x (putBack env as ps')) else .stuck) Q) : spF X.K X.mg n Fn vs H Q (WE W σ) := by
  cases o : argSl env as with
  | none => simp only [o] at res; exact res.elim
  | some ps =>
    simp only [o] at res
    split at res
    · rename_i nd
      refine ⟨hl, F, ps, call_rel rel o rv nd, argSl_all o, ?_⟩
      cases q : Fn ps with
      | stuck => simp only [q] at res; exact res
      | ok d ps' =>
        simp only [q] at res
        intro v H' F' x r' z
        obtain ⟨x', r''⟩ := call_back rel o rv nd x r'
        exact res v H' F' x' r'' z
      | exc d ps' =>
        simp only [q] at res
        intro c da H' F' x r' z
        obtain ⟨x', r''⟩ := call_back rel o rv nd x r'
        exact res c da H' F' x' r'' z
    · exact res.elim
theorem RES.lenA {n : Nat} {σ : L2.St} {env : SEnv} {F H : Hp} {Q : List V → Hp → Prop} (hl : ∀ env as e, gs env = .ok as e → as.length = n)
    (h : RES X.K X.mg W (RAEs X.K X.mg) σ env F H (gs env) fun vs H1 => vs.length = n → Q vs H1) : RES X.K X.mg W (RAEs X.K X.mg) σ env F H (gs env) Q := by
  cases o : gs env with
  | stuck => rw [o] at h; exact h
  | exc x e => rw [o] at h; exact h
  | ok ds e =>
    rw [o] at h
    exact fun vs H' F' y r z => h vs H' F' y r z (by rw [Paired.length z, hl _ _ _ o])
theorem len_nil : ∀ env as e, aNil env = .ok as e → as.length = 0 := fun env as e h => by cases h; rfl
theorem len_v {gr : SEnv → Out (List AE)} {n : Nat} (h : ∀ env as e, gr env = .ok as e → as.length = n) : ∀ env as e, aV ga gr env = .ok as e → as.length = n + 1 := fun env as e q => by
  unfold aV at q
  cases h1 : ga env with
  | stuck => rw [h1] at q; cases q
  | exc x e => rw [h1] at q; cases q
  | ok d e1 =>
    rw [h1] at q
    simp only [Out.bind] at q
    cases h2 : gr e1 with
    | stuck => rw [h2] at q; cases q
    | exc x e => rw [h2] at q; cases q
    | ok ds2 e2 => rw [h2] at q; cases q; simp [h _ _ _ h2]
theorem len_io {gr : SEnv → Out (List AE)} {n i : Nat} (h : ∀ env as e, gr env = .ok as e → as.length = n) : ∀ env as e, aOwn i gr env = .ok as e → as.length = n + 1 := fun env as e q => by
  unfold aOwn at q
  split at q
  · unfold aIo at q
    cases h2 : gr env with
    | stuck => rw [h2] at q; cases q
    | exc x e => rw [h2] at q; cases q
    | ok ds2 e2 => rw [h2] at q; cases q; simp [h _ _ _ h2]
  · cases q
/-- f(..) -/
theorem se_call {x : Str} {f : Addr} {fd : FuncData} {ps : List Str} {k n : Nat} {Fn : List Sl → FOut} (Fo : FnOk X.prog X.w X.K X.mg X.base (L2.CX X.prog X.w) k f fd ps (spF X.K X.mg n Fn)) (hr : Room k X.A) (hm : X.mg x = some (.ref f)) (hk : PySem.W.keepIn X.K (.ref f) = true) (hb : Binds X.K fd ps [])
    (tk : Takes X W) (ha : SAE X W (e :: es) gs) (hl : ∀ env as e, gs env = .ok as e → as.length = n) (hg : Gl X x := by rfl) (hdb : (x == ("__debug__" : Str)) = false := by decide)
    (he : starEach (e :: es) X.env = (false, eval e X.env) :: starEach es X.env := by rfl) (hpl : (backTo pos (starEach es X.env)).any (·.1) = false := by rfl) : SE X W (.Call (.Name x p) (e :: es) [] pos) (gFn Fn gs) := by
  refine PE.imp (pe_callS Fo hr hg hm hk hb (fun σ => passAt tk σ) ha.pa hdb he hpl) fun σ H Q ⟨F, env, rel, res⟩ => ?_
  refine ⟨F, env, rel, RES.lenA hl ((RES.bind (k := fun as e => match argSl e as with | none => .stuck | some ps => if (ios as).Nodup then (match Fn ps with | .stuck => .stuck | .ok d ps' => .ok d (putBack e as ps') | .exc x ps' => .exc x (putBack e as ps')) else .stuck) res).mono ?_)⟩
  rintro vs H1 ⟨env1, F1, as, x1, rel1, rv, res1⟩ hn
  exact fn_imp rel1 rv hn res1
end
end RL

/-! RL6: exceptions: their making, raise, try -/
namespace RL
open PySem L2 PyProof.Rows PySem.Spec

section
variable {X : Cx} {e : Expr} {es : List Expr} {ta : TA} {p p1 p2 pos pos2 : Pos}
/-- Base.__init__(self, ..), Base an own class over ValueError without an __init__ -/
theorem pe_baseinit {x : Str} {C0 : Addr} {pl : Sem Bool} (hm : X.mg x = some (.ref C0)) (hr : PySem.W.readsIn X.K C0 (.type "type") = true) (hs : PySem.W.specialIn X.K (.ref C0) "__getattribute__" = some (some (.builtin "type.__getattribute__")))
    (vV : PySem.W.findCls X.K (.ref C0) (.type "type") "__init__" = some (.val (.builtin "ValueError.__init__"))) (ha : PA X (e :: es) ta)
    (hc : eval (.Call (.Attribute (.Name x p1) "__init__" p2) (e :: es) [] pos) X.env = (do
      let base ← eval (.Name x p1) X.env
      standAt p2.atName
      let (fn, ahead) ← holding [base] (getMethod base "__init__" pl)
      callWith pos fn ahead (backTo pos (starEach (e :: es) X.env)) (backToKw pos (keywordEach [] X.env))) := by rfl)
    (hg : Gl X x := by rfl) (hdb : (x == ("__debug__" : Str)) = false := by decide)
    (he : starEach (e :: es) X.env = (false, eval e X.env) :: starEach es X.env := by rfl) (hpl : (backTo pos (starEach es X.env)).any (·.1) = false := by rfl) :
    PE X (.Call (.Attribute (.Name x p1) "__init__" p2) (e :: es) [] pos) (tVeI X.K ta) := by
  refine ⟨fun pins s σ H Q I hq => ?_⟩
  refine PySem.W.methodCall_KW (ld_glob I hg hm ?_ hdb) hc
  refine PySem.W.method_cls I.kIn hs (PySem.W.cls_value I.kIn hr vV (by decide +kernel) ?_)
  show wpAny _ _ (callWith pos (Value.builtin "ValueError.__init__") [] (backTo pos (starEach (e :: es) X.env)) []) _ _ _
  refine PyProof.Rows.callWith_method1 (thn (ha.run pos pins _ σ H _ (I.tok _) hq) fun us s1 hh => ?_) he hpl
  obtain ⟨vs, H1, I1, r1, a, C, ws, ev, hl, T, ea, q⟩ := hh
  subst ev
  cases r1 with
  | @cons _ u0 _ ur ra rr =>
    cases (show u0 = Value.ref a from ra)
    have small : ur.length ≤ sizeLine := by
      have z := Paired.length rr
      rw [sizeLine_eq]
      omega
    exact oinit_ok T I1 ea small fun s' J => ⟨.non, H1, J, rfl, q⟩

/-- the end of C(): the exception without a dict is let go -/
theorem mk_bare {pins : List (Addr × Obj)} {σ : L2.St} {H1 H2 : Hp} {Q : XK} {hp hp2 h2 : Heap} {g1 g2 : Array GenState} {d1 d2 : Drawn} {t1 t2 : Nat} {os1 os2 : OsState} {a C : Addr} (T : Raises X (.ref C)) (I1 : Inv X pins σ H1 ⟨hp, g1, d1, t1, os1⟩)
    (fresh : hp.objs.size ≤ a) (kp : ∀ b o, hp.get? b = some o → hp2.get? b = some o) (un : Un (frs X.stack) [] (upd H1 a (exo a C none)) H2 hp2 h2) (ok2 : HOk X.prog X.w H2 h2) (hos : os2 = os1) (bare : AllBare g2)
    (at2 : H2 a = some (exo a C none)) (q : Q (.ref C) none (del H2 a)) : MkP X pins σ Q (.ref a) ⟨h2, g2, d2, t2, os2⟩ := by
  obtain ⟨t0, obj⟩ := exo_at ok2 at2
  have n1 : H1 a = none := I1.hok.fresh fresh
  obtain ⟨R, same, gone⟩ := restrict h2 (fun b => decide (b ≠ a))
  have sm : ∀ {b : Addr}, b ≠ a → R.get? b = h2.get? b := fun {b} z => same b (by simpa using z)
  have gn : R.get? a = none := gone a (by simp)
  have off : ∀ {b : Addr} {o : Obj}, hp.get? b = some o → b ≠ a := fun {b o} z w => by
    have := Heap.lt_size z
    rw [w] at this
    exact absurd this (Nat.not_lt.mpr fresh)
  have lift : ∀ {b : Addr}, b ≠ a → H1 b = none → upd H1 a (exo a C none) b = none := fun {b} z n => (upd_ne z).trans n
  have U : Un (frs X.stack) [] H1 (del H2 a) hp R :=
    ⟨fun b o z n f x => (sm (off z)).trans (un.keep b o (kp b o z) (lift (off z) n) f x),
     fun b o z n f x => by
      obtain ⟨sl, w⟩ := un.slot b o (kp b o z) (lift (off z) n) f x
      exact ⟨sl, (sm (off z)).trans w⟩,
     fun b o z n x => (del_ne (off z)).trans (un.free b o (kp b o z) (lift (off z) n) x),
     fun b o z x => by
      obtain ⟨o', w⟩ := un.there b o (kp b o z) x
      exact ⟨o', (sm (off z)).trans w⟩,
     fun b xs z => (del_ne (ne_of_none z n1)).trans (un.tups b xs ((upd_ne (ne_of_none z n1)).trans z)),
     fun b o v z => (del_ne (ne_of_none z n1)).trans (un.frzs b o v ((upd_ne (ne_of_none z n1)).trans z)),
     fun b ps z => by
      obtain ⟨mo, w⟩ := un.tbls b ps ((upd_ne (ne_of_none z n1)).trans z)
      exact ⟨mo, (del_ne (ne_of_none z n1)).trans w⟩⟩
  have ok3 : HOk X.prog X.w (del H2 a) R := fun b o z => by
    have ba : b ≠ a := fun w => by
      rw [w, del_same] at z
      cases z
    rw [del_ne ba] at z
    have noa : ∀ {c : Addr}, H2 c = some (.own b) → c ≠ a := fun {c} hc => at_ne at2 hc exo_own
    refine (ok2 b o z).stay (fun c v hc y => ?_) (fun c hc => (del_ne (noa hc)).trans hc) (fun c xs hc => (del_ne (at_ne at2 hc exo_tup)).trans hc)
    have ca : c ≠ a := by
      rcases hc with hc | hc
      · rw [hc]; exact ba
      · exact noa hc
    exact (sm ca).trans y
  have J : Inv X pins σ (del H2 a) ⟨R, g2, d2, t2, os2⟩ := I1.call' (ch := []) hos U ok3 bare (fun b z => absurd z (by simp))
  refine ⟨a, _, _, ⟨R, g2, d2, t2, os2⟩, _, .ref C, none, rfl, J, fun b o z => ?_, gn, obj, ⟨rfl, rfl⟩, rfl, rfl, del_same, rfl, bare, T, q⟩
  by_cases w : b = a
  · rw [w] at z
    rw [show R.get? a = none from gn] at z
    cases z
  · exact (sm w).symm.trans z
/-- the promises of __init__: one field; none -/
def spX1 (C : Addr) (f : Str) : Sp := fun vs H Q _ => ∃ a v, vs = [.ref a, v] ∧ H a = some (exo a C none) ∧ ∀ dx, H dx = none → dx ≠ a → Q .non (upd (upd H dx (exd dx [(f, v)])) a (exo a C (some dx)))
def spX0 (C : Addr) : Sp := fun vs H Q _ => ∃ a, vs = [.ref a] ∧ H a = some (exo a C none) ∧ Q .non H
/-- C(): the exception -/
theorem pmk_x0 {x : Str} {C fI : Addr} {k : Nat} {fd : FuncData} {ps : List Str} (T : OexC X.K C) (iC : PySem.W.findIn X.K (.ref C) "__init__" = some (some (.ref fI))) (tI : PySem.W.typeIn X.K (.ref fI) = some (.type "function"))
    (F1 : FnOk X.prog X.w X.K X.mg X.base (L2.CX X.prog X.w) k fI fd ps (spX0 C)) (hr : Room (k + 1) X.A) (hb : Binds X.K fd ps []) (hm : X.mg x = some (.ref C)) (hg : Gl X x := by rfl) (hdb : (x == ("__debug__" : Str)) = false := by decide) :
    PMk X (.Call (.Name x p) [] [] pos) (fun _ H Q => Q (.ref C) none H) := by
  intro pins s σ H Q I hq
  obtain ⟨nm, q, N, bs, bm, sn, sub, ab, col, dd, k0, k1, k2, k3, k5, hC, hbm⟩ := T.cls
  refine wpAny_Call_Name_kw (ld_glob I hg hm ?_ hdb)
  refine PySem.W.callWith_K0 I.kIn T.kC ?_
  obtain ⟨hp, g, dr, tk, os⟩ := s
  have big : hp.objs.size ≤ hp.objs.size + 1 := Nat.le_succ _
  have n1 : H (hp.objs.size + 1) = none := I.hok.fresh big
  have kk : ∀ b o, hp.get? b = some o → ((hp.push (PySem.W.kdv_tup [])).push (PySem.HandSPX.excO C hp.objs.size)).get? b = some o := fun b o w => Heap.get?_push_of_some _ (Heap.get?_push_of_some _ w)
  have got : ((hp.push (PySem.W.kdv_tup [])).push (PySem.HandSPX.excO C hp.objs.size)).get? (hp.objs.size + 1) = some (PySem.HandSPX.excO C hp.objs.size) := by heap_get
  have I2 : Inv X pins σ (upd H (hp.objs.size + 1) (exo (hp.objs.size + 1) C none)) ⟨(hp.push (PySem.W.kdv_tup [])).push (PySem.HandSPX.excO C hp.objs.size), g, dr, tk, os⟩ := I.laid (t' := tk) kk big (exo_ok got)
  have dl : del (upd H (hp.objs.size + 1) (exo (hp.objs.size + 1) C none)) (hp.objs.size + 1) = H := by
    funext b
    by_cases w : b = hp.objs.size + 1
    · rw [w, del_same, n1]
    · rw [del_ne w, upd_ne w]
  have want : spX0 C [.ref (hp.objs.size + 1)] (upd H (hp.objs.size + 1) (exo (hp.objs.size + 1) C none)) (fun v H2 => v = .non ∧ H2 = upd H (hp.objs.size + 1) (exo (hp.objs.size + 1) C none)) (fun _ _ _ => False) := ⟨_, rfl, upd_same, rfl, rfl⟩
  have r2 : Vals [V.ref (hp.objs.size + 1)] [Value.ref (hp.objs.size + 1)] := .cons rfl .nil
  have hl : ([Value.ref (hp.objs.size + 1)] ++ []).length = ps.length := (F1.len _ _ _ _ want)
  refine wpAny_call (PySem.HandSPX.call_own F.excBase_ValueError (fun Y => PySem.HandSPX.refsVE_contains Y bm hbm) (I.kIn _ _ hC) (PySem.W.looks_findIn I.kIn iC) (fun self => PySem.W.bind_fn I.kIn self tI) (by rw [sizeLine_eq]; decide)
    (codeAny_mono (F1.run _ X.stack _ _ ⟨[Value.ref (hp.objs.size + 1)], []⟩ [Value.ref (hp.objs.size + 1)] _ _ (fun _ _ _ => False) (hr.make C [] []) (I2.env0.make C [] []) (hb _ [Value.ref (hp.objs.size + 1)] I2.kIn hl) r2 want) fun r s' got2 => ?_))
  cases r with
  | error er => exact (passL pins σ _ _ er s' I2 got2)
  | ok fl =>
    cases fl with
    | ret u =>
      obtain ⟨v, H2, os2, bare2, un2, ok2, rv, ev, eH⟩ := got2
      subst ev
      subst eH
      obtain ⟨h2, g2, d2, t2, os'⟩ := s'
      exact ⟨rv, mk_bare (raises_own T.exC T.tyC) I big kk un2 ok2 os2 bare2 upd_same (by rw [dl]; exact hq)⟩
    | next => exact got2.elim
    | brk => exact got2.elim
    | cont => exact got2.elim
end

section
variable {X : Cx} {W : WX} {a e : Expr} {ga : SEnv → Out D} {p pos pos2 : Pos}
/-- raise C() -/
def gRaise0 (c : Str) : SEnv → SOut := fun env => .exc ⟨c, []⟩ env
theorem ss_raise0 {x : Str} {C fI : Addr} {k : Nat} {fd : FuncData} {ps : List Str} (hc : X.calm = true) (tk : Takes X W) (T : OexC X.K C) (iC : PySem.W.findIn X.K (.ref C) "__init__" = some (some (.ref fI))) (tI : PySem.W.typeIn X.K (.ref fI) = some (.type "function"))
    (F1 : FnOk X.prog X.w X.K X.mg X.base (L2.CX X.prog X.w) k fI fd ps (spX0 C)) (hr : Room (k + 1) X.A) (hb : Binds X.K fd ps []) (hm : X.mg x = some (.ref C)) (hg : Gl X x := by rfl) (hdb : (x == ("__debug__" : Str)) = false := by decide) :
    SS X W (.Raise (some (.Call (.Name x p) [] [] pos)) none pos2) (gRaise0 x) := by
  refine PS.imp (ps_raise hc tk (pmk_x0 T iC tI F1 hr hb hm hg hdb)) fun D σ H ⟨F, env, rel, res⟩ => ?_
  exact res _ none σ H F Ext.refl rel ⟨fun d z => (nomatch z), C, hm, rfl, .inl rfl⟩
/-- raise C(e) -/
def gRaise1 (c f : Str) (ge : SEnv → Out D) : SEnv → SOut := fun env => (ge env).toS fun d e => .exc ⟨c, [(f, d)]⟩ e
theorem ss_raise1 {x f : Str} {C fI : Addr} {k : Nat} {fd : FuncData} {ps : List Str} (hc : X.calm = true) (tk : Takes X W) (T : OexC X.K C) (iC : PySem.W.findIn X.K (.ref C) "__init__" = some (some (.ref fI))) (tI : PySem.W.typeIn X.K (.ref fI) = some (.type "function"))
    (F1 : FnOk X.prog X.w X.K X.mg X.base (L2.CX X.prog X.w) k fI fd ps (spX1 C f)) (hr : Room (k + 1) X.A) (hb : Binds X.K fd ps []) (hm : X.mg x = some (.ref C)) (ha : SE X W a ga) (hg : Gl X x := by rfl) (hdb : (x == ("__debug__" : Str)) = false := by decide)
    (hs : starEach [a] X.env = (false, eval a X.env) :: starEach [] X.env := by rfl) : SS X W (.Raise (some (.Call (.Name x p) [a] [] pos)) none pos2) (gRaise1 x f ga) := by
  have hpl : (backTo pos (starEach [] X.env)).any (·.1) = false := rfl
  refine PS.imp (ps_raise hc tk (pmk_oex (ta := tCons (tE X.K X.mg W ga) tNil) T iC tI F1 hr hb .nil passL hg hm (pa_cons ha pa_nil hs) hdb hs hpl)) fun D σ H ⟨F, env, rel, res⟩ => ?_
  show tE X.K X.mg W ga σ H fun v H1 => _
  refine ⟨F, env, rel, (RS.ofE res).mono ?_⟩
  rintro v H1 ⟨env1, F1', d, x1, rel1, rv, res1⟩
  refine ⟨by simp, fun a na => ⟨a, v, rfl, upd_same, fun dx ndx nea => ⟨rfl, dx, [(f, v)], upd_same, ?_, ?_, ?_⟩⟩⟩
  · rw [upd_ne nea, upd_same]
  · rwa [upd_ne nea] at ndx
  · have ndx1 : H1 dx = none := by rwa [upd_ne nea] at ndx
    have eq : upd (del (upd (upd (upd H1 a (exo a C none)) dx (exd dx [(f, v)])) a (exo a C (some dx))) a) dx (.xd [(f, v)]) = upd H1 dx (.xd [(f, v)]) := by
      funext b
      by_cases hb : b = dx
      · subst hb; rw [upd_same, upd_same]
      · rw [upd_ne hb, upd_ne hb]
        by_cases hb2 : b = a
        · subst hb2; rw [del_same, na]
        · rw [del_ne hb2, upd_ne hb2, upd_ne hb, upd_ne hb2]
    rw [eq]
    have g := Grow.skip (o := .xd [(f, v)]) rel1.sub ndx1
    exact res1 _ (some dx) σ _ _ (g.ext rel1) (rel1.grow g) ⟨fun d z => (by cases z; exact ndx1), C, hm, rfl, .inr ⟨dx, [(f, v)], rfl, upd_same, rfl, rv, trivial⟩⟩
end

/-! ### try -/
/-- several clauses, with or without a name -/
inductive HdsB (X : Cx) : List ExceptHandler → List (Value × (Addr → Value → Option Addr → TS)) → Prop
  | nil : HdsB X [] []
  | plain {x : Str} {c : Value} {ts : Addr → Value → Option Addr → TS} {st : Stmt} {more : List Stmt} {np q : Pos} {rest : List ExceptHandler} {l : List (Value × (Addr → Value → Option Addr → TS))} (hc : Names X x c)
      (suite : ∀ (a : Addr) (oe : Obj) (cls : Value) (d : Option Addr) (pn : List (Addr × Obj)), Zc cls d oe → (∃ vs, oe.data = .fields vs) → PSs (X.suite a ((a, oe) :: pn)) (st :: more) (ts a cls d)) (r : HdsB X rest l) :
      HdsB X (.ExceptHandler (some (.Name x np)) none (st :: more) q :: rest) ((c, ts) :: l)
  | named {x n : Str} {i : Nat} {c : Value} {ts : Addr → Value → Option Addr → TS} {st : Stmt} {more : List Stmt} {np q : Pos} {rest : List ExceptHandler} {l : List (Value × (Addr → Value → Option Addr → TS))} (hN : X.N.Nodup) (hi : X.N[i]? = some n)
      (hln : X.env.kindOf n = some .local) (hc : Names X x c)
      (suite : ∀ (a : Addr) (oe : Obj) (cls : Value) (d : Option Addr) (pn : List (Addr × Obj)), Zc cls d oe → (∃ vs, oe.data = .fields vs) → PSs (X.suite a ((a, oe) :: pn)) (st :: more) (ts a cls d)) (r : HdsB X rest l) :
      HdsB X (.ExceptHandler (some (.Name x np)) (some n) (st :: more) q :: rest)
        ((c, fun a cls d D σ H => ts a cls d { nx := fun σ' H' => D.nx (σ'.set i none) H', rt := D.rt, bk := fun σ' H' => D.bk (σ'.set i none) H', ct := fun σ' H' => D.ct (σ'.set i none) H' } (σ.set i (some (.ref a))) H) :: l)
section
variable {X : Cx} {body : List Stmt} {h0 : ExceptHandler} {hds : List ExceptHandler} {l : List (Value × (Addr → Value → Option Addr → TS))} {pos : Pos} {tb : WX → TS} {Wout : WX}
theorem ps_tryB (hst : X.stack = X.env :: X.outer) (hfr : X.env.frame = some X.env.locals) (tk : Takes X Wout)
    (hbody : ∀ (W : WX) (pn : List (Addr × Obj)) (xe : Value → Shared → Prop), Takes (X.tr pn xe) W → PassesOwn (model X.prog X.w) X.A X.env xe → PSs (X.tr pn xe) body (tb W))
    (hh : HdsB X (h0 :: hds) l) : PS X (.Try body (h0 :: hds) [] [] pos) (fun D σ H => tb (wMany X.K Wout D l) D σ H) := by
  refine ⟨fun pins s σ H D I hq => ?_⟩
  have ok := I.ok
  have frm : X.A.frames = some (X.env :: X.outer) := ok.frames.trans (congrArg some hst)
  refine wpAny_Try_except (wpAny_mono ((hbody (wMany X.K Wout D l) (X.pn ++ pins) (fun ev z1 => wpAny (model X.prog X.w) X.A (noteFrame ev X.env) (fun _ z2 => wpAny (model X.prog X.w) X.A (setFlight ev none) (fun _ z3 =>
    wpAny (model X.prog X.w) X.A (handleBy ev X.env (h0 :: hds)) (SP X pins D) X.xe z3) X.xe z2) X.xe z1) (fun u s' air => ?_) PassesOwn.looking).run [] s σ H D (I.toTry _) hq) (fun fl s1 done => ?_) (fun _ _ z => z))
  · obtain ⟨a, B, sI, pins', σ', H', cls, d, rfl, J', nb, up, sky, na, os, ag, want⟩ := air
    have J : Inv X pins σ' H' sI := J'.ofTry ok
    have sky2 : Sky B (X.env :: X.outer) a (Zc cls d) X.env.locals s'.heap := hst ▸ sky
    show wpAny (model X.prog X.w) X.A (noteFrame (.ref a) X.env) _ _ _
    refine Sky.land Zc.steady frm hfr sky2 fun h3 fl3 up3 => ?_
    have J3 : Inv X pins σ' H' { s' with heap := h3 } := J.landed nb fl3.1 (up.trans up3) os ag
    obtain ⟨o3, v3, at3, z3, dt3⟩ := fl3.there
    have apart : a ∉ frs (X.env :: X.outer) := fun hm => by
      obtain ⟨_, o', e', hnf⟩ := fl3.2.2.1.mem hm
      rw [at3] at e'
      cases e'
      exact hnf _ dt3
    have nL : a ≠ X.env.locals := fun z => apart (List.mem_filterMap.mpr ⟨X.env, by simp, by rw [hfr, z]⟩)
    have nF : a ∉ X.fs := fun hm => by
      obtain ⟨ee, he, qq⟩ := List.mem_filterMap.mp hm
      exact apart (List.mem_filterMap.mpr ⟨ee, by simp [he], qq⟩)
    have S3 := J3.suite at3 dt3 na nL nF
    have LT : PySem.W.Looks (model X.prog X.w) h3 (typeOf (.ref a)) cls := fun A Q E s kk qq => wpAny_typeOf_ref (kk _ _ at3) (z3.1 ▸ qq)
    have test : ∀ {x : Str} {c : Value} {np : Pos} {Q : Value → Shared → Prop} {E : Value → Shared → Prop}, Names X x c → Q c { s' with heap := h3 } → wpAny (model X.prog X.w) (X.A.mark (some (.ref a))) (eval (.Name x np) X.env) Q E { s' with heap := h3 } := fun {x c np Q E} hc qq => by
      obtain ⟨hg, hdbg, hm | ⟨hm, hv, hnn⟩⟩ := hc
      · exact ld_glob (X := X.suite a ((a, o3) :: (X.pn ++ pins))) S3 hg hm qq hdbg
      · exact ld_blt (X := X.suite a ((a, o3) :: (X.pn ++ pins))) S3 hg hm hv qq hnn hdbg
    have go : ∀ {hs' : List ExceptHandler} {l' : List (Value × (Addr → Value → Option Addr → TS))}, HdsB X hs' l' → wMany X.K Wout D l' cls d σ' H' → wpAny (model X.prog X.w) X.A (handleBy (.ref a) X.env hs') (SP X pins D) X.xe { s' with heap := h3 } := by
      intro hs' l' hk
      induction hk with
      | nil =>
        intro wn
        refine wpAny_handleBy_nil ?_
        obtain ⟨_, _, _, oe, vs, T, oT, ts', he, hz, hd, h1, _⟩ := id fl3
        unfold PySem.passOn
        refine wpAny_bind (wpAny_field he hd h1 ?_)
        rw [if_neg (by simp : ¬ ((Value.ref T == Value.none) = true))]
        have onward : wpAny (model X.prog X.w) X.A (setFlight (.ref a) X.env.frame) (fun _ z4 => wpAny (model X.prog X.w) X.A (throw (.ref a) : Sem Flow) (SP X pins D) X.xe z4) X.xe { s' with heap := h3 } := by
          rw [hfr]
          exact HandSPX.setFlight_upZ fl3 fun h4 hh4 up4 => wpAny_throw (tk _ _ ⟨a, B, sI, pins, σ', H', cls, d, rfl, J, nb, (up.trans up3).trans up4, .inr (.inr (hst ▸ hh4)), na, os, ag, wn⟩)
        first
          | exact wpAny_bind (wpAny_pure (wpAny_bind onward))
          | exact wpAny_bind onward
      | @plain x c ts st more np q rest l2 hc suite r ih =>
        rintro ⟨b, hb1, hyes, hno⟩
        refine wpAny_handleBy_cons (codeAny_handlers_test ?_) (fun z => nomatch z)
        refine test hc ((PySem.W.exm_one (M := model X.prog X.w) J3.kIn LT hb1).here ?_)
        cases b with
        | false => exact ih (hno rfl)
        | true =>
          refine codeAny_handlers_suite (HandSPX.lands_againZ fl3 fun h4 fl4 up4 => ?_)
          have J4 : Inv X pins σ' H' { s' with heap := h4 } := J.landed nb fl4.1 ((up.trans up3).trans up4) os ag
          obtain ⟨o4, v4, at4, z4, dt4⟩ := fl4.there
          refine wpAny_mono ((suite a o4 cls d (X.pn ++ pins) z4 ⟨_, dt4⟩).run [] _ _ H' _ (J4.suite at4 dt4 na nL nF) (hyes rfl a na)) (fun f s6 done => ?_) (fun _ _ z => z.elim)
          cases f with
          | next => obtain ⟨σ6, H6, S6, q6⟩ := done; exact ⟨_, _, S6.unsuite ok, q6⟩
          | brk => obtain ⟨σ6, H6, S6, q6⟩ := done; exact ⟨_, _, S6.unsuite ok, q6⟩
          | cont => obtain ⟨σ6, H6, S6, q6⟩ := done; exact ⟨_, _, S6.unsuite ok, q6⟩
          | ret u => obtain ⟨v6, σ6, H6, S6, r6, q6⟩ := done; exact ⟨_, _, _, S6.unsuite ok, r6, q6⟩
      | @named x n i c ts st more np q rest l2 hN hi hln hc suite r ih =>
        rintro ⟨b, hb1, hyes, hno⟩
        refine wpAny_handleBy_cons (codeAny_handlers_test ?_) (fun z => nomatch z)
        refine test hc ((PySem.W.exm_one (M := model X.prog X.w) J3.kIn LT hb1).here ?_)
        cases b with
        | false => exact ih (hno rfl)
        | true =>
          refine codeAny_handlers_suite_as (HandSPX.lands_againZ fl3 fun h4 fl4 up4 => ?_)
          have J4 : Inv X pins σ' H' { s' with heap := h4 } := J.landed nb fl4.1 ((up.trans up3).trans up4) os ag
          obtain ⟨o4, v4, at4, z4, dt4⟩ := fl4.there
          refine store_ok (X := X.suite a ((a, o4) :: (X.pn ++ pins))) (v := .ref a) (J4.suite at4 dt4 na nL nF) hN hi (.inl hln) rfl (fun s5 S5 => ?_) (.inr hln)
          refine wpAny_mono ((suite a o4 cls d (X.pn ++ pins) z4 ⟨_, dt4⟩).run [] s5 _ H' _ S5 (hyes rfl a na)) (fun f s6 done => ?_) (fun _ _ z => z.elim)
          have fin : ∀ {σ6 : L2.St} {H6 : Hp} {Q : Shared → Prop}, Inv (X.suite a ((a, o4) :: (X.pn ++ pins))) [] σ6 H6 s6 → (∀ s7, Inv X pins (σ6.set i none) H6 s7 → Q s7) →
              wpAny (model X.prog X.w) X.A (do bindName X.env n .none; unbindBehindTheSuite X.env n q) (fun _ s7 => Q s7) X.xe s6 := fun {σ6 H6 Q} S6 hq => gone_ok (S6.unsuite ok) hN hi hln hq
          cases f with
          | next => obtain ⟨σ6, H6, S6, q6⟩ := done; exact fin S6 fun s7 J7 => ⟨_, _, J7, q6⟩
          | brk => obtain ⟨σ6, H6, S6, q6⟩ := done; exact fin S6 fun s7 J7 => ⟨_, _, J7, q6⟩
          | cont => obtain ⟨σ6, H6, S6, q6⟩ := done; exact fin S6 fun s7 J7 => ⟨_, _, J7, q6⟩
          | ret u => obtain ⟨v6, σ6, H6, S6, r6, q6⟩ := done; exact fin S6 fun s7 J7 => ⟨_, _, _, J7, r6, q6⟩
    exact go hh want
  · cases fl with
    | next => obtain ⟨σ', H', J', q⟩ := done; exact wpAny_execs_nil ⟨σ', H', J'.ofTry ok, q⟩
    | brk => obtain ⟨σ', H', J', q⟩ := done; exact ⟨σ', H', J'.ofTry ok, q⟩
    | cont => obtain ⟨σ', H', J', q⟩ := done; exact ⟨σ', H', J'.ofTry ok, q⟩
    | ret u => obtain ⟨v, σ', H', J', r, q⟩ := done; exact ⟨v, σ', H', J'.ofTry ok, r, q⟩
end
end RL

/-! RL7: try by its semantics -/
namespace RL
open PySem L2 PyProof.Rows PySem.Spec

def exns : List Str := ["ReaderError", "BadPart", "BadReader", "BadReaders", "BadText", "BadTexts", "NotTaken", "BadNumber", "BadNumbers", "BadLength", "BadIndex", "BadChain", "InvalidText"]
def isExc (p q : Str) : Bool := decide (p = q) || decide (q = "ReaderError")
/-- what the written part says of the exceptions' classes -/
def ExOk (K : PySem.W.Frag) (mg : Str → Option Value) : Prop := ∀ p q Cp Cq, p ∈ exns → q ∈ exns → mg p = some (.ref Cp) → mg q = some (.ref Cq) → PySem.W.exmOne K (.ref Cp) (.ref Cq) = some (isExc p q)
/-- a clause: its class, its name's slot, the slot that it sets, what to -/
structure Hd where
  c : Str
  i : Option Nat
  j : Nat
  v : Xn → Option D
def hset (i : Option Nat) (j : Nat) (z : D) (e : SEnv) : Option SEnv := match i with
  | none => setD j z e
  | some i => if i = j then none else match e[i]? with
    | none => none
    | some (.own _ _) => none
    | some _ => setD j z (e.set i .un)
def handle (x : Xn) : List Hd → SEnv → SOut
  | [], e => .exc x e
  | h :: r, e => if isExc x.c h.c then (match h.v x with
      | none => .stuck
      | some z => match hset h.i h.j z e with
        | none => .stuck
        | some e' => .next e') else handle x r e
def gTry (gb : SEnv → SOut) (hs : List Hd) : SEnv → SOut := fun env => match gb env with
  | .exc x e => if x.c ∈ exns then handle x hs e else .stuck
  | o => o

/-- the expression of a clause -/
def SXE (X : Cx) (E : Expr) (i : Option Nat) (v : Xn → Option D) : Prop :=
  ∃ te : Addr → Value → Option Addr → TE, (∀ a oe cls d pn, Zc cls d oe → (∃ vs, oe.data = .fields vs) → PE (X.suite a ((a, oe) :: pn)) E (te a cls d)) ∧
    ∀ (a : Addr) (cls : Value) (d : Option Addr) (σ : L2.St) (H F : Hp) (x : Xn) (z : D) (Q : VK), (∀ k, i = some k → σ[k]? = some (some (V.ref a))) → (∀ a o, F a = some o → H a = some o) →
      (∃ C, X.mg x.c = some (.ref C) ∧ cls = .ref C ∧ (x.fs = [] ∨ ∃ dd vs, d = some dd ∧ H dd = some (.xd vs) ∧ RepF X.K X.mg F vs x.fs)) → v x = some z →
      (∀ w H' F', Grow F H F' H' → Rep X.K X.mg F' w z → Q w H') → te a cls d σ H Q
section
variable {X : Cx} {W : WX} {E : Expr} {pos : Pos}
theorem sx_c {i : Option Nat} {d : D} {v : V} (h : ∀ Y : Cx, PE Y E (tC v)) (r : ∀ F, Rep X.K X.mg F v d) : SXE X E i (fun _ => some d) :=
  ⟨fun _ _ _ => tC v, fun _ _ _ _ _ _ _ => h _, fun a cls dd σ H F x z Q _ s _ hz hq => by cases hz; exact hq v H F (Grow.refl s) (r F)⟩
/-- e.f -/
def xField (c f : Str) : Xn → Option D := fun x => if x.c = c then x.fs.lookup f else none
theorem sx_f {i : Nat} {n c f : Str} {C : Addr} {p : Pos} (hm : X.mg c = some (.ref C)) (T : XfC X.K C) (hno : PySem.W.findIn X.K (.ref C) f = some none) (hN : X.N[i]? = some n := by rfl) (hv : Vis X.env.scope n := by first | exact Or.inl rfl | exact Or.inr (Or.inl rfl) | exact Or.inr (Or.inr rfl))
    (hd : (n == ("__debug__" : Str)) = false := by decide) (hcd : (n == ("__classdict__" : Str)) = false := by decide) (hb : attributeBase (.Name n p) f X.env (eval (.Name n p) X.env) = eval (.Name n p) X.env := by rfl) : SXE X (.Attribute (.Name n p) f pos) (some i) (xField c f) := by
  refine ⟨fun a cls d => tXf a cls d C f (tVar i), fun a oe cls d pn hz hf => pe_xf T hno hz hf (pe_var hN hv hd hcd) hb, fun a cls d σ H F x z Q hi s hx hz hq => ?_⟩
  obtain ⟨C', hC, rfl, hfs⟩ := hx
  unfold xField at hz
  split at hz
  · rename_i hc
    rw [hc, hm] at hC
    cases hC
    rcases hfs with hfs | ⟨dd, vs, hd, hH, rf⟩
    · rw [hfs] at hz; cases hz
    · obtain ⟨w, e1, e2⟩ := rf.lookup hz
      exact ⟨_, hi i rfl, rfl, rfl, dd, vs, w, hd, hH, e1, hq w H F (Grow.refl s) e2⟩
  · cases hz
/-- a list of one or two -/
theorem sx_l1 {i : Option Nat} {v : Xn → Option D} (h : SXE X E i v) (hs : ∀ Y : Cx, Y.env = X.env → starEach [E] Y.env = (false, eval E Y.env) :: starEach [] Y.env := by intro Y h; rfl) : SXE X (.List [E] pos) i (fun x => (v x).map fun d => .lst [d]) := by
  obtain ⟨te, h1, h2⟩ := h
  refine ⟨fun a cls d => tLst (tCons (te a cls d) tNil), fun a oe cls d pn hz hf => pe_lst (pa_cons (h1 a oe cls d pn hz hf) pa_nil (hs _ rfl)), fun a cls d σ H F x z Q hi s hx hz hq => ?_⟩
  cases hv : v x with
  | none => simp only [hv, Option.map_none] at hz; cases hz
  | some y =>
    simp only [hv, Option.map_some] at hz
    cases hz
    refine h2 a cls d σ H F x y _ hi s hx hv fun w H' F' g rw' => ⟨by rw [sizeLine_eq]; simp, fun p hp => ?_⟩
    have g2 := Grow.lay (o := .lst [w]) g.sub hp
    exact hq _ _ _ (g.trans g2) (.lst upd_same (.cons (rw'.mono g2.mono) .nil))
theorem sx_l2 {i : Option Nat} {v : Xn → Option D} {s : Str} {j : Nat} {ps : Pos} (h : SXE X E i v) (hs : ∀ Y : Cx, Y.env = X.env → starEach [E] Y.env = (false, eval E Y.env) :: starEach [] Y.env := by intro Y h; rfl) :
    SXE X (.List [.Constant (.str s) j ps, E] pos) i (fun x => (v x).map fun d => .lst [.str s, d]) := by
  obtain ⟨te, h1, h2⟩ := h
  refine ⟨fun a cls d => tLst (tCons (tC (.str s)) (tCons (te a cls d) tNil)), fun a oe cls d pn hz hf => pe_lst (pa_cons pe_str (pa_cons (h1 a oe cls d pn hz hf) pa_nil (hs _ rfl))), fun a cls d σ H F x z Q hi sb hx hz hq => ?_⟩
  cases hv : v x with
  | none => simp only [hv, Option.map_none] at hz; cases hz
  | some y =>
    simp only [hv, Option.map_some] at hz
    cases hz
    refine h2 a cls d σ H F x y _ hi sb hx hv fun w H' F' g rw' => ⟨by rw [sizeLine_eq]; simp, fun p hp => ?_⟩
    have g2 := Grow.lay (o := .lst [.str s, w]) g.sub hp
    exact hq _ _ _ (g.trans g2) (.lst upd_same (.cons .str (.cons (rw'.mono g2.mono) .nil)))
theorem Rel.setUn {K : PySem.W.Frag} {mg : Str → Option Value} {F H : Hp} {σ : L2.St} {env : SEnv} {i : Nat} {o : Option V} (r : Rel K mg F σ H env) (hn : ∀ io m, env[i]? ≠ some (.own io m)) :
    Ext σ env F H (σ.set i o) (env.set i .un) F H ∧ Rel K mg F (σ.set i o) H (env.set i .un) := by
  have key : ∀ (j : Nat) (s : Sl), s ≠ .un → (env.set i Sl.un)[j]? = some s → i ≠ j ∧ env[j]? = some s := fun j s hs q => by
    by_cases z : i = j
    · subst z
      rw [List.getElem?_set_self'] at q
      cases w : env[i]? with
      | none => rw [w] at q; cases q
      | some y => rw [w] at q; simp only [Option.map_eq_map, Option.map_some, Option.some.injEq] at q; exact absurd q.symm hs
    · rw [List.getElem?_set_ne z] at q; exact ⟨z, q⟩
  have ks : ∀ j, i ≠ j → (σ.set i o)[j]? = σ[j]? := fun j z => List.getElem?_set_ne z
  refine ⟨⟨fun _ _ h => h, fun _ _ h => .inl h, fun _ _ h _ => h, fun a q => ?_, fun j m q => ?_, fun j m q => ?_, by simp, fun _ h => h⟩, ⟨by simp [r.len], r.sub, fun j x q => ?_, fun j io m q => ?_, fun j k io jo m n a ne q1 q2 s1 s2 => ?_⟩⟩
  · obtain ⟨j, io, m, q, s⟩ := q
    obtain ⟨z, q⟩ := key j _ (by simp) q
    exact .inl ⟨j, io, m, q, by rw [← ks j z]; exact s⟩
  · obtain ⟨z, q⟩ := key j _ (by simp) q
    exact ⟨⟨m, q⟩, ks j z⟩
  · have z : i ≠ j := fun z => by subst z; exact hn _ m q
    exact ⟨m, by rw [List.getElem?_set_ne z]; exact q⟩
  · obtain ⟨z, q⟩ := key j _ (by simp) q
    rw [ks j z]
    exact r.val j x q
  · obtain ⟨z, q⟩ := key j _ (by simp) q
    rw [ks j z]
    exact r.own j io m q
  · obtain ⟨z1, q1⟩ := key j _ (by simp) q1
    obtain ⟨z2, q2⟩ := key k _ (by simp) q2
    rw [ks j z1] at s1
    rw [ks k z2] at s2
    exact r.sep j k io jo m n a ne q1 q2 s1 s2
end
/-- the clauses -/
inductive HdOk (X : Cx) : List ExceptHandler → List Hd → Prop
  | nil : HdOk X [] []
  | plain {E : Expr} {c y : Str} {C : Addr} {j : Nat} {v : Xn → Option D} {np py p q : Pos} {rest : List ExceptHandler} {l : List Hd} (hN : X.N.Nodup) (hc : c ∈ exns) (hg : Gl X c) (hd : (c == ("__debug__" : Str)) = false) (hm : X.mg c = some (.ref C)) (hj : X.N[j]? = some y) (hl : X.env.scope.names.lookup y = some .local)
      (sw : ∀ Y : Cx, Y.env = X.env → swapsWith E (some (.Name y py)) p.line Y.env = pure false) (hE : SXE X E none v) (r : HdOk X rest l) :
      HdOk X (.ExceptHandler (some (.Name c np)) none [.Assign [.Name y py] E p] q :: rest) (⟨c, none, j, v⟩ :: l)
  | named {E : Expr} {c n y : Str} {C : Addr} {i j : Nat} {v : Xn → Option D} {np py p q : Pos} {rest : List ExceptHandler} {l : List Hd} (hN : X.N.Nodup) (hc : c ∈ exns) (hg : Gl X c) (hd : (c == ("__debug__" : Str)) = false) (hm : X.mg c = some (.ref C)) (hi : X.N[i]? = some n) (hln : X.env.kindOf n = some .local) (hj : X.N[j]? = some y) (hl : X.env.scope.names.lookup y = some .local)
      (sw : ∀ Y : Cx, Y.env = X.env → swapsWith E (some (.Name y py)) p.line Y.env = pure false) (hE : SXE X E (some i) v) (r : HdOk X rest l) :
      HdOk X (.ExceptHandler (some (.Name c np)) (some n) [.Assign [.Name y py] E p] q :: rest) (⟨c, some i, j, v⟩ :: l)
section
variable {X : Cx} {W : WX} {pos : Pos}
theorem HdOk.go {hds : List ExceptHandler} {hs : List Hd} (ex : ExOk X.K X.mg) (h : HdOk X hds hs) : ∃ l, HdsB X hds l ∧ ∀ (D : Ends) (x : Xn) (cls : Value) (d : Option Addr) (σ : L2.St) (env : SEnv) (F H H0 : Hp), x.c ∈ exns → (∀ k, d = some k → H0 k = none) → (∀ a, H a = none → H0 a = none) →
    Rel X.K X.mg F σ H env → (∃ C, X.mg x.c = some (.ref C) ∧ cls = .ref C ∧ (x.fs = [] ∨ ∃ dd vs, d = some dd ∧ H dd = some (.xd vs) ∧ RepF X.K X.mg F vs x.fs)) →
    (∀ (σ' : L2.St) (env' : SEnv) (F' H' : Hp), handle x hs env = .next env' → Ext σ env F H σ' env' F' H' → Rel X.K X.mg F' σ' H' env' → D.nx σ' H') → (handle x hs env = .exc x env → W cls d σ H) → handle x hs env ≠ .stuck → wMany X.K W D l cls d σ H := by
  induction h with
  | nil => exact ⟨[], .nil, fun D x cls d σ env F H H0 _ _ _ _ _ _ h2 _ => h2 rfl⟩
  | @plain E c y C j v np py p q rest l hN hc hg hd hm hj hl sw hE r ih =>
    obtain ⟨l', hB, ih⟩ := ih
    obtain ⟨te, hte, hrd⟩ := hE
    refine ⟨_, .plain (c := .ref C) ⟨hg, hd, .inl hm⟩ (ts := fun a cls d => tAsg (te a cls d) (gName j)) (fun a oe cls d pn hz hf => pss_one (ps_set (X := X.suite a ((a, oe) :: pn)) hN hj (.inl hl) (hte a oe cls d pn hz hf) (sw _ rfl) (.inr hl))) hB, fun D x cls d σ env F H H0 hx hfr hth rel xr h1 h2 h3 => ?_⟩
    obtain ⟨C', hC', rfl, hfs⟩ := xr
    refine ⟨isExc x.c c, ex _ _ _ _ hx hc hC' hm, fun hb a na => ?_, fun hb => ?_⟩
    · simp only [handle, hb, if_true] at h1 h3
      cases hv : v x with
      | none => simp only [hv] at h3; exact absurd rfl h3
      | some z =>
        simp only [hv, hset] at h1 h3
        refine hrd a _ d σ H F x z _ (fun k hk => by cases hk) rel.sub ⟨C', hC', rfl, hfs⟩ hv fun w H' F' g rw' => ?_
        cases hs : setD j z env with
        | none => simp only [hs] at h3; exact absurd rfl h3
        | some e' =>
          simp only [hs] at h1
          have rel2 := rel.grow g
          obtain ⟨x2, r2⟩ := rel2.setD rw' hs
          exact h1 _ e' F' H' rfl ((g.ext rel).trans x2) r2
    · simp only [handle, hb, Bool.false_eq_true, if_false] at h1 h2 h3
      exact ih D x _ d σ env F H H0 hx hfr hth rel ⟨C', hC', rfl, hfs⟩ h1 h2 h3
  | @named E c n y C i j v np py p q rest l hN hc hg hd hm hi hln hj hl sw hE r ih =>
    obtain ⟨l', hB, ih⟩ := ih
    obtain ⟨te, hte, hrd⟩ := hE
    refine ⟨_, .named (c := .ref C) hN hi hln ⟨hg, hd, .inl hm⟩ (ts := fun a cls d => tAsg (te a cls d) (gName j)) (fun a oe cls d pn hz hf => pss_one (ps_set (X := X.suite a ((a, oe) :: pn)) hN hj (.inl hl) (hte a oe cls d pn hz hf) (sw _ rfl) (.inr hl))) hB, fun D x cls d σ env F H H0 hx hfr hth rel xr h1 h2 h3 => ?_⟩
    obtain ⟨C', hC', rfl, hfs⟩ := xr
    refine ⟨isExc x.c c, ex _ _ _ _ hx hc hC' hm, fun hb a na => ?_, fun hb => ?_⟩
    · simp only [handle, hb, if_true] at h1 h3
      cases hv : v x with
      | none => simp only [hv] at h3; exact absurd rfl h3
      | some z =>
        simp only [hv, hset] at h1 h3
        by_cases hij : i = j
        · simp only [hij, if_true] at h3; exact absurd rfl h3
        · simp only [if_neg hij] at h1 h3
          have no : ∀ io m, env[i]? ≠ some (.own io m) := fun io m q => by
            simp only [q] at h3
            exact absurd rfl h3
          have hlen : i < σ.length := by
            rw [rel.len]
            cases q : env[i]? with
            | none => simp only [q] at h3; exact absurd rfl h3
            | some s => exact (List.getElem?_eq_some_iff.mp q).1
          · refine hrd a _ d (σ.set i (some (.ref a))) H F x z _ (fun k hk => by cases hk; rw [List.getElem?_set_self hlen]) rel.sub ⟨C', hC', rfl, hfs⟩ hv fun w H' F' g rw' => ?_
            show D.nx ((((σ.set i (some (V.ref a))).set j (some w)).set i none)) H'
            have e1 : ((σ.set i (some (V.ref a))).set j (some w)).set i none = (σ.set i none).set j (some w) := by
              rw [List.set_comm _ _ (Ne.symm hij), List.set_set]
            rw [e1]
            have hm2 : (match env[i]? with | none => none | some (Sl.own io m) => none | some x => setD j z (env.set i Sl.un)) = setD j z (env.set i Sl.un) := by
              cases q : env[i]? with
              | none => rw [List.getElem?_eq_none_iff, ← rel.len] at q; omega
              | some s =>
                cases s with
                | un => rfl
                | d _ => rfl
                | own io m => exact absurd q (no io m)
            rw [hm2] at h1 h3
            cases hs : setD j z (env.set i .un) with
            | none => simp only [hs] at h3; exact absurd rfl h3
            | some e' =>
              simp only [hs] at h1
              have rel2 := rel.grow g
              obtain ⟨x3, r3⟩ := rel2.setUn (i := i) (o := none) no
              obtain ⟨x2, r2⟩ := r3.setD rw' hs
              exact h1 _ e' F' H' rfl (((g.ext rel).trans x3).trans x2) r2
    · simp only [handle, hb, Bool.false_eq_true, if_false] at h1 h2 h3
      exact ih D x _ d σ env F H H0 hx hfr hth rel ⟨C', hC', rfl, hfs⟩ h1 h2 h3
theorem handle_exc {x y : Xn} : ∀ {hs : List Hd} {e e' : SEnv}, handle x hs e = .exc y e' → y = x ∧ e' = e
  | [], e, e', h => by cases h; exact ⟨rfl, rfl⟩
  | h :: r, e, e', q => by
    unfold handle at q
    split at q
    · cases hv : h.v x with
      | none => simp only [hv] at q; cases q
      | some z =>
        simp only [hv] at q
        cases hs : hset h.i h.j z e with
        | none => simp only [hs] at q; cases q
        | some e' => simp only [hs] at q; cases q
    · exact handle_exc q
theorem handle_kinds {x : Xn} : ∀ {hs : List Hd} {e : SEnv}, handle x hs e = .stuck ∨ (∃ e', handle x hs e = .next e') ∨ handle x hs e = .exc x e
  | [], e => .inr (.inr rfl)
  | h :: r, e => by
    unfold handle
    split
    · cases hv : h.v x with
      | none => exact .inl rfl
      | some z =>
        cases hs : hset h.i h.j z e with
        | none => exact .inl (by simp only [hs])
        | some e' => exact .inr (.inl ⟨e', by simp only [hs]⟩)
    · exact handle_kinds
/-- try: .. except ..: .. -/
theorem ss_try {body : List Stmt} {h0 : ExceptHandler} {hds : List ExceptHandler} {hs : List Hd} {gb : SEnv → SOut} (hst : X.stack = X.env :: X.outer) (hfr : X.env.frame = some X.env.locals) (tk : Takes X W) (ex : ExOk X.K X.mg)
    (hbody : ∀ (W : WX) (pn : List (Addr × Obj)) (xe : Value → Shared → Prop), Takes (X.tr pn xe) W → PassesOwn (model X.prog X.w) X.A X.env xe → SB (X.tr pn xe) W body gb)
    (hh : HdOk X (h0 :: hds) hs) : SS X W (.Try body (h0 :: hds) [] [] pos) (gTry gb hs) := by
  obtain ⟨l, hB, go⟩ := hh.go (W := W) ex
  refine PS.imp (ps_tryB (tb := fun W => tS X.K X.mg W gb) hst hfr tk hbody hB) fun D σ H ⟨F, env, rel, res⟩ => ?_
  refine ⟨F, env, rel, ?_⟩
  unfold gTry at res
  cases o : gb env with
  | stuck => simp only [o] at res; exact res
  | next e => simp only [o] at res; exact res
  | brk e => simp only [o] at res; exact res
  | cont e => simp only [o] at res; exact res
  | ret d e => simp only [o] at res; exact res
  | exc x e =>
    simp only [o] at res
    split at res
    · rename_i hx
      intro cls da σ' H' F' y r xr
      refine go D x cls da σ' e F' H' H hx xr.1 y.there r xr.2 (fun σ2 env2 F2 H2 hq y2 r2 => ?_) (fun hq => ?_) (fun hq => ?_)
      · rw [hq] at res; exact res σ2 H2 F2 (y.trans y2) r2
      · rw [hq] at res; exact res cls da σ' H' F' y r xr
      · rw [hq] at res; exact res
    · exact res.elim
end
end RL

/-! RL8: in, subscripts, slices, built-ins -/
namespace RL
open PySem L2 PyProof.Rows PySem.Spec

section
variable {X : Cx} {W : WX} {a b c : Expr} {ga gb gc : SEnv → Out D} {pos p2 : Pos}
/-! ### in -/
theorem flat_v {K : PySem.W.Frag} {mg : Str → Option Value} {F : Hp} {v : V} {d : D} (r : Rep K mg F v d) (h : flatD d = true) : flatV v = true := by
  cases r <;> first | rfl | (simp [flatD] at h)
theorem flat_vs {K : PySem.W.Frag} {mg : Str → Option Value} {F : Hp} : ∀ {vs : List V} {ds : List D}, Reps K mg F vs ds → ds.all flatD = true → vs.all flatV = true
  | _, _, .nil, _ => rfl
  | _, _, .cons r t, h => by
    simp only [List.all_cons, Bool.and_eq_true] at h ⊢
    exact ⟨flat_v r h.1, flat_vs t h.2⟩
theorem eqV_of {K : PySem.W.Frag} {mg : Str → Option Value} {F : Hp} {v w : V} {d e : D} (r : Rep K mg F v d) (q : Rep K mg F w e) (h : flatD d = true) (h' : flatD e = true) : eqV v w = flatEq d e := by
  cases r <;> first | (simp [flatD] at h; done) | (cases q <;> first | rfl | (simp [flatD] at h'; done))
def inD (d : D) (ds : List D) : Bool := ds.any fun y => flatEq y d
theorem inV_of {K : PySem.W.Frag} {mg : Str → Option Value} {F : Hp} {v : V} {d : D} (r : Rep K mg F v d) (h : flatD d = true) : ∀ {vs : List V} {ds : List D}, Reps K mg F vs ds → ds.all flatD = true → inV v vs = inD d ds
  | _, _, .nil, _ => rfl
  | _, _, .cons q t, hh => by
    simp only [List.all_cons, Bool.and_eq_true] at hh
    have ih := inV_of r h t hh.2
    unfold inV inD at ih ⊢
    rw [List.any_cons, List.any_cons, ih, eqV_of q r hh.1 h]
def hIn : D → D → Option D
  | d, .tup ds => if flatD d && ds.all flatD then some (.bl (inD d ds)) else none
  | d, .lst ds => if flatD d && ds.all flatD then some (.bl (inD d ds)) else none
  | .str s, .str z => match s.cps.toList with
    | [c] => some (.bl (decide (c ∈ z.cps.toList)))
    | _ => none
  | _, _ => none
def hNotIn : D → D → Option D := fun d e => match hIn d e with
  | some (.bl k) => some (.bl (!k))
  | _ => none
theorem one_sign {s : Str} {c : Nat} (h : s.cps.toList = [c]) : s = ⟨#[c]⟩ := by
  obtain ⟨a⟩ := s
  congr
  have := congrArg List.toArray h
  simpa using this
theorem os_in : OpS X (compareOp .In) hIn := by
  refine ⟨_, OpR.or' op_in_seq op_in_sign, fun F H x y d e z Q s rx ry hh hq => ?_⟩
  cases ry <;> try (cases rx <;> simp [hIn] at hh; done)
  · -- a text
    cases rx <;> try (simp [hIn] at hh; done)
    rename_i z1 z2
    simp only [hIn] at hh
    split at hh
    · rename_i c hc
      cases hh
      exact .inr ⟨c, _, by rw [one_sign hc], rfl, hq _ H F (Grow.refl s) .bl⟩
    · cases hh
  · rename_i h1 r1
    have hh2 : (if flatD d && ‹List D›.all flatD then some (D.bl (inD d ‹List D›)) else none) = some z := by
      cases d <;> exact hh
    split at hh2
    · rename_i hf
      simp only [Bool.and_eq_true] at hf
      cases hh2
      refine .inl ⟨_, _, rfl, .inr (sqT_mono s h1), flat_v rx hf.1, flat_vs r1 hf.2, ?_⟩
      rw [inV_of rx hf.1 r1 hf.2]
      exact hq _ H F (Grow.refl s) .bl
    · cases hh2
  · rename_i h1 r1
    have hh2 : (if flatD d && ‹List D›.all flatD then some (D.bl (inD d ‹List D›)) else none) = some z := by
      cases d <;> exact hh
    split at hh2
    · rename_i hf
      simp only [Bool.and_eq_true] at hf
      cases hh2
      refine .inl ⟨_, _, rfl, .inl (.inl (.inl (s _ _ h1))), flat_v rx hf.1, flat_vs r1 hf.2, ?_⟩
      rw [inV_of rx hf.1 r1 hf.2]
      exact hq _ H F (Grow.refl s) .bl
    · cases hh2
theorem os_notIn : OpS X (compareOp .NotIn) hNotIn := by
  refine ⟨_, OpR.or' op_notIn_seq op_notIn_sign, fun F H x y d e z Q s rx ry hh hq => ?_⟩
  unfold hNotIn at hh
  cases ry <;> try (cases rx <;> simp [hIn] at hh; done)
  · cases rx <;> try (simp [hIn] at hh; done)
    rename_i z1 z2
    simp only [hIn] at hh
    split at hh
    · rename_i k hk
      split at hk
      · rename_i c hc
        cases hk
        cases hh
        exact .inr ⟨c, _, by rw [one_sign hc], rfl, hq _ H F (Grow.refl s) .bl⟩
      · cases hk
    · cases hh
  · rename_i h1 r1
    have e1 : hIn d (.tup ‹List D›) = (if flatD d && ‹List D›.all flatD then some (D.bl (inD d ‹List D›)) else none) := by cases d <;> rfl
    rw [e1] at hh
    split at hh
    · rename_i k hk
      split at hk
      · rename_i hf
        simp only [Bool.and_eq_true] at hf
        cases hk
        cases hh
        refine .inl ⟨_, _, rfl, .inr (sqT_mono s h1), flat_v rx hf.1, flat_vs r1 hf.2, ?_⟩
        rw [inV_of rx hf.1 r1 hf.2]
        exact hq _ H F (Grow.refl s) .bl
      · cases hk
    · cases hh
  · rename_i h1 r1
    have e1 : hIn d (.lst ‹List D›) = (if flatD d && ‹List D›.all flatD then some (D.bl (inD d ‹List D›)) else none) := by cases d <;> rfl
    rw [e1] at hh
    split at hh
    · rename_i k hk
      split at hk
      · rename_i hf
        simp only [Bool.and_eq_true] at hf
        cases hk
        cases hh
        refine .inl ⟨_, _, rfl, .inl (.inl (.inl (s _ _ h1))), flat_v rx hf.1, flat_vs r1 hf.2, ?_⟩
        rw [inV_of rx hf.1 r1 hf.2]
        exact hq _ H F (Grow.refl s) .bl
      · cases hk
    · cases hh
/-! ### a[i] -/
def hIx : D → D → Option D
  | .tup ds, .int i => atI ds i
  | .lst ds, .int i => atI ds i
  | .sc ns, .int i => (atI ns i).map .int
  | .str z, .int i => if fits z.length then (atI z.cps.toList i).map fun c => .str ⟨#[c]⟩ else none
  | _, _ => none
theorem Reps.atI {K : PySem.W.Frag} {mg : Str → Option Value} {F : Hp} {vs : List V} {ds : List D} {i : Int} {d : D} (r : Reps K mg F vs ds) (h : L2.atI ds i = some d) : ∃ v, L2.atI vs i = some v ∧ Rep K mg F v d := by
  unfold L2.atI at h ⊢
  rw [r.length]
  cases q : ixN ds.length i with
  | none => rw [q] at h; cases h
  | some j =>
    rw [q] at h
    exact r.get h
theorem atI_map {α β : Type} (f : α → β) (xs : List α) (i : Int) : atI (xs.map f) i = (atI xs i).map f := by
  unfold atI
  rw [List.length_map]
  cases ixN xs.length i with
  | none => rfl
  | some j => simp
def gIx (ga gb : SEnv → Out D) : SEnv → Out D := gBin hIx ga gb
theorem se_ix (ha : SE X W a ga) (hb : SE X W b gb) (hs : PlainIx b := by intro _ _; rfl) : SE X W (.Subscript a b pos) (gIx ga gb) := by
  refine PE.imp (pe_ix ix_seq ha hb hs) (bin_imp (h := hIx) fun F H x y d e z Q s rx ry hh hq => ?_)
  cases rx <;> try (cases ry <;> simp [hIx] at hh; done)
  · cases ry <;> try (simp [hIx] at hh; done)
    simp only [hIx] at hh
    split at hh
    · rename_i hf
      cases q : atI ‹Str›.cps.toList ‹Int› with
      | none => rw [q] at hh; cases hh
      | some c => rw [q] at hh; cases hh; exact .inr (.inr ⟨_, _, c, rfl, rfl, fits_line hf, q, hq _ H F (Grow.refl s) .str⟩)
    · cases hh
  · rename_i h1 r1
    cases ry <;> try (simp [hIx] at hh; done)
    obtain ⟨v, e1, e2⟩ := r1.atI hh
    exact .inr (.inl ⟨_, _, _, v, rfl, rfl, sqT_mono s h1, e1, hq _ H F (Grow.refl s) e2⟩)
  · rename_i h1 r1
    cases ry <;> try (simp [hIx] at hh; done)
    obtain ⟨v, e1, e2⟩ := r1.atI hh
    exact .inl ⟨_, _, _, v, rfl, rfl, .inl (.inl (s _ _ h1)), e1, hq _ H F (Grow.refl s) e2⟩
  · rename_i ns h1
    cases ry <;> try (simp [hIx] at hh; done)
    simp only [hIx] at hh
    cases q : atI ns ‹Int› with
    | none => rw [q] at hh; cases hh
    | some n =>
      rw [q] at hh
      cases hh
      exact .inl ⟨_, _, _, .int n, rfl, rfl, sqL_mono s h1, by rw [atI_map, q]; rfl, hq _ H F (Grow.refl s) .int⟩
/-! ### slices -/
def cutD (xs : List D) (lo hi : Option Int) : List D := (xs.drop (HT.sIx xs.length 0 lo)).take (HT.sIx xs.length xs.length hi - HT.sIx xs.length 0 lo)
theorem Reps.cut {K : PySem.W.Frag} {mg : Str → Option Value} {F : Hp} {vs : List V} {ds : List D} (r : Reps K mg F vs ds) (lo hi : Option Int) : Reps K mg F (cutV vs lo hi) (cutD ds lo hi) := by
  unfold cutV cutD
  rw [r.length]
  exact (r.drop _).take _
def hSl (d : D) (lo hi : Option Int) : Option D := match d with
  | .str z => if fits z.length then some (.str (cutS z lo hi)) else none
  | .tup ds => some (.tup (cutD ds lo hi))
  | .lst ds => some (.lst (cutD ds lo hi))
  | _ => none
def RO : L2.St → SEnv → Hp → Option Int → Option Int → Prop := fun _ _ _ b c => b = c
def tO (K : PySem.W.Frag) (mg : Str → Option Value) (W : WX) (g : SEnv → Out (Option Int)) : TO := fun σ H Q => ∃ F env, Rel K mg F σ H env ∧ RES K mg W RO σ env F H (g env) Q
def SO (X : Cx) (W : WX) (e : Option Expr) (g : SEnv → Out (Option Int)) : Prop := PO X e (tO X.K X.mg W g)
theorem PO.imp {e : Option Expr} {t u : TO} (h : PO X e t) (i : ∀ σ H Q, u σ H Q → t σ H Q) : PO X e u := ⟨fun pins s σ H Q I q => h.run pins s σ H Q I (i σ H Q q)⟩
def gNone : SEnv → Out (Option Int) := fun env => .ok none env
def gSome (ga : SEnv → Out D) : SEnv → Out (Option Int) := fun env => (ga env).bind fun d e => match d with | .int i => .ok (some i) e | _ => .stuck
theorem so_none : SO X W none gNone := PO.imp po_none fun σ H Q ⟨F, env, rel, res⟩ => res none H F Ext.refl rel rfl
theorem so_some (h : SE X W a ga) : SO X W (some a) (gSome ga) := by
  refine PO.imp (po_some h) fun σ H Q ⟨F, env, rel, res⟩ => ?_
  refine ⟨F, env, rel, (RES.bind (k := fun d e => match d with | .int i => .ok (some i) e | _ => .stuck) res).mono ?_⟩
  rintro x H1 ⟨env1, F1, d, x1, rel1, rx, res1⟩
  cases d <;> try exact res1.elim
  cases rx
  exact ⟨_, rfl, res1 _ H1 F1 Ext.refl rel1 rfl⟩
def gSl (ga : SEnv → Out D) (gl gh : SEnv → Out (Option Int)) : SEnv → Out D := fun env => (ga env).bind fun d e => (gl e).bind fun lo e1 => (gh e1).bind fun hi e2 => ofO (hSl d lo hi) e2
theorem se_slice {lo hi : Option Expr} {gl gh : SEnv → Out (Option Int)} (ha : SE X W a ga) (hl : SO X W lo gl) (hh : SO X W hi gh) : SE X W (.Subscript a (.Slice lo hi none p2) pos) (gSl ga gl gh) := by
  refine PE.imp (pe_slice (SlR.or sl_str (SlR.or sl_tupA sl_list)) ha hl hh) fun σ H Q ⟨F, env, rel, res⟩ => ?_
  refine ⟨F, env, rel, (RES.bind (k := fun d e => (gl e).bind fun lo e1 => (gh e1).bind fun hi e2 => ofO (hSl d lo hi) e2) res).mono ?_⟩
  rintro x H1 ⟨env1, F1, d, x1, rel1, rx, res1⟩
  refine ⟨F1, env1, rel1, (RES.bind (k := fun lo e1 => (gh e1).bind fun hi e2 => ofO (hSl d lo hi) e2) res1).mono ?_⟩
  rintro lo' H2 ⟨env2, F2, lo, x2, rel2, rlo, res2⟩
  refine ⟨F2, env2, rel2, (RES.bind (k := fun hi e2 => ofO (hSl d lo hi) e2) res2).mono ?_⟩
  rintro hi' H3 ⟨env3, F3, hi, x3, rel3, rhi, res3⟩
  have e1 : lo' = lo := rlo
  have e2 : hi' = hi := rhi
  subst e1
  subst e2
  have rx := (rx.mono x2.mono).mono x3.mono
  have s := rel3.sub
  cases rx <;> try exact res3.elim
  · simp only [hSl] at res3
    split at res3
    · rename_i hf
      exact .inl ⟨_, rfl, fits_line hf, res3 _ H3 F3 Ext.refl rel3 .str⟩
    · exact res3.elim
  · rename_i h1 r1
    have rc := r1.cut lo' hi'
    refine .inr (.inl ⟨_, _, rfl, sqT_mono s h1, fun hw => ?_, fun hw p hp => ?_⟩)
    · refine res3 _ H3 F3 Ext.refl rel3 (.tup h1 ?_)
      have : cutV ‹List V› lo' hi' = ‹List V› := by
        unfold cutV
        rw [hw.1, hw.2]
        simp
      rw [← this]
      exact rc
    · have g := Grow.lay (o := .tup (cutV ‹List V› lo' hi')) s hp
      exact res3 _ _ _ (g.ext rel3) (rel3.grow g) (.tup (SqT.of upd_same) (rc.mono g.mono))
  · rename_i h1 r1
    have rc := r1.cut lo' hi'
    refine .inr (.inr ⟨_, _, rfl, .inl (.inl (s _ _ h1)), fun p hp => ?_⟩)
    have g := Grow.lay (o := .lst (cutV ‹List V› lo' hi')) s hp
    exact res3 _ _ _ (g.ext rel3) (rel3.grow g) (.lst upd_same (rc.mono g.mono))
/-! ### built-ins -/
def hLen : List D → Option D
  | [.str z] => if fits z.length then some (.int z.length) else none
  | [.tup ds] => some (.int ds.length)
  | [.lst ds] => some (.int ds.length)
  | [.sc ns] => some (.int ns.length)
  | _ => none
theorem cs_len : CallS X (.builtin "len") hLen := by
  refine ⟨_, call_len, fun F H xs ds z Q s rs hh hq => ?_⟩
  cases rs with
  | nil => simp [hLen] at hh
  | cons r t =>
    cases t with
    | cons _ _ => cases r <;> simp [hLen] at hh
    | nil =>
      cases r <;> try (simp [hLen] at hh; done)
      · simp only [hLen] at hh
        split at hh
        · rename_i hf
          cases hh
          exact ⟨_, _, rfl, ⟨fits_line hf, rfl⟩, hq _ H F (Grow.refl s) .int⟩
        · cases hh
      · rename_i h1 r1
        simp only [hLen, Option.some.injEq] at hh
        subst hh
        exact ⟨_, _, rfl, .inr ⟨_, sqT_mono s h1, rfl⟩, by rw [r1.length]; exact hq _ H F (Grow.refl s) .int⟩
      · rename_i h1 r1
        simp only [hLen, Option.some.injEq] at hh
        subst hh
        exact ⟨_, _, rfl, .inl ⟨_, .inl (.inl (s _ _ h1)), rfl⟩, by rw [r1.length]; exact hq _ H F (Grow.refl s) .int⟩
      · rename_i ns h1
        simp only [hLen, Option.some.injEq] at hh
        subst hh
        exact ⟨_, _, rfl, .inl ⟨_, sqL_mono s h1, rfl⟩, by rw [List.length_map]; exact hq _ H F (Grow.refl s) .int⟩
def hIntOf : List D → Option D
  | [.int i] => some (.int i)
  | [.bl k] => some (.int (if k then 1 else 0))
  | _ => none
theorem cs_int : CallS X (.type "int") hIntOf := by
  refine ⟨_, call_int1, fun F H xs ds z Q s rs hh hq => ?_⟩
  cases rs with
  | nil => simp [hIntOf] at hh
  | cons r t =>
    cases t with
    | cons _ _ => cases r <;> simp [hIntOf] at hh
    | nil =>
      cases r <;> try (simp [hIntOf] at hh; done)
      · simp only [hIntOf, Option.some.injEq] at hh
        subst hh
        exact .inr ⟨_, rfl, hq _ H F (Grow.refl s) .int⟩
      · simp only [hIntOf, Option.some.injEq] at hh
        subst hh
        exact .inl ⟨_, rfl, hq _ H F (Grow.refl s) .int⟩
/-- list(x), a new list; tuple(x) -/
def hListOf : List D → Option D
  | [.tup ds] => some (.lst ds)
  | [.lst ds] => some (.lst ds)
  | _ => none
theorem cs_list : CallS X (.type "list") hListOf := by
  refine ⟨_, call_list_of, fun F H xs ds z Q s rs hh hq => ?_⟩
  cases rs with
  | nil => simp [hListOf] at hh
  | cons r t =>
    cases t with
    | cons _ _ => cases r <;> simp [hListOf] at hh
    | nil =>
      cases r <;> try (simp [hListOf] at hh; done)
      · rename_i h1 r1
        simp only [hListOf, Option.some.injEq] at hh
        subst hh
        refine ⟨_, _, rfl, .inr (sqT_mono s h1), fun p hp => ?_⟩
        have g := Grow.lay (o := .lst ‹List V›) s hp
        exact hq _ _ _ g (.lst upd_same (r1.mono g.mono))
      · rename_i h1 r1
        simp only [hListOf, Option.some.injEq] at hh
        subst hh
        refine ⟨_, _, rfl, .inl (.inl (.inl (s _ _ h1))), fun p hp => ?_⟩
        have g := Grow.lay (o := .lst ‹List V›) s hp
        exact hq _ _ _ g (.lst upd_same (r1.mono g.mono))
def hTupOf : List D → Option D
  | [.tup ds] => some (.tup ds)
  | [.lst ds] => some (.tup ds)
  | _ => none
theorem cs_tuple : CallS X (.type "tuple") hTupOf := by
  refine ⟨_, call_tuple_of, fun F H xs ds z Q s rs hh hq => ?_⟩
  cases rs with
  | nil => simp [hTupOf] at hh
  | cons r t =>
    cases t with
    | cons _ _ => cases r <;> simp [hTupOf] at hh
    | nil =>
      cases r <;> try (simp [hTupOf] at hh; done)
      · rename_i h1 r1
        simp only [hTupOf, Option.some.injEq] at hh
        subst hh
        exact ⟨_, _, rfl, .inr ⟨sqT_mono s h1, hq _ H F (Grow.refl s) (.tup h1 r1)⟩⟩
      · rename_i h1 r1
        simp only [hTupOf, Option.some.injEq] at hh
        subst hh
        refine ⟨_, _, rfl, .inl ⟨.inl (.inl (s _ _ h1)), fun p hp => ?_⟩⟩
        have g := Grow.lay (o := .tup ‹List V›) s hp
        exact hq _ _ _ g (.tup (SqT.of upd_same) (r1.mono g.mono))
/-! ### isinstance -/
/-- what the text says of the classes whose instances are asked -/
structure InsOk (K : PySem.W.Frag) (C : Addr) : Prop where
  cl : Cls K C
  ha : PySem.W.findIn K (.ref C) "__class__" = some (some (.builtin "object.__class__"))
  hn : PySem.W.specialIn K (.builtin "object.__class__") "__get__" = some (some (.builtin "getset_descriptor.__get__"))
  htk : PySem.W.takesIn K (.builtin "object.__class__") = some true
  hm : PySem.W.mroIn K C (.type "object") = some true
def tyD : D → Option String
  | .non => some "NoneType" | .bl _ => some "bool" | .int _ => some "int" | .str _ => some "str" | .tup _ => some "tuple" | .lst _ => some "list" | .dct0 => some "dict" | _ => none
theorem ty_of {K : PySem.W.Frag} {mg : Str → Option Value} {F H : Hp} {v : V} {d : D} {t : String} (s : ∀ a o, F a = some o → H a = some o) (r : Rep K mg F v d) (h : tyD d = some t) : TyX K H v (.type t) := by
  cases r <;> (simp only [tyD, Option.some.injEq] at h; try subst h)
  · exact .base .non
  · exact .base (.bl _)
  · exact .base (.int _)
  · exact .base (.str _)
  · rename_i h1 r1
    rcases h1 with h1 | ⟨o, its, n, h1, h2, _⟩
    · rcases h1 with h1 | ⟨o, h1⟩
      · exact .base (.tup (s _ _ h1))
      · exact .fTuple (s _ _ h1)
    · exact .kTuple h1 h2
  · rename_i h1 r1
    exact .base (.lst (s _ _ h1))
  · cases h
  · rename_i h1
    exact .base (.dK (s _ _ h1))
  · cases h
  · cases h
def isTy (a b : String) : Bool := a == b || (a == "bool" && b == "int")
theorem kit_is {K : PySem.W.Frag} {d : D} {t b : String} (h : tyD d = some t) (hb : b ∈ ["str", "int", "bool", "tuple", "list"]) : PySem.W.kitOne K (.type t) (.type b) = some (isTy t b) := by
  refine kit_ty ?_
  have ht : t ∈ ["NoneType", "bool", "int", "str", "tuple", "list", "dict"] := by
    cases d <;> simp only [tyD, Option.some.injEq, reduceCtorEq] at h <;> (subst h; decide)
  have all : ∀ t ∈ ["NoneType", "bool", "int", "str", "tuple", "list", "dict"], ∀ b ∈ ["str", "int", "bool", "tuple", "list"], kitB t b = some (isTy t b) := by decide +kernel
  exact all t ht b hb
/-- isinstance(e, T), T a built-in class -/
def gIsi (b : String) (ga : SEnv → Out D) : SEnv → Out D := fun env => (ga env).bind fun d e => match d with
  | .obj _ _ => .ok (.bl false) e
  | _ => match tyD d with
    | some t => .ok (.bl (isTy t b)) e
    | none => .stuck
/-- what holds of the frozen classes -/
structure ClsFacts (K : PySem.W.Frag) (mg : Str → Option Value) : Prop where
  ins : ∀ c C ns, flds c = some ns → mg c = some (.ref C) → InsOk K C
  noB : ∀ c C ns, flds c = some ns → mg c = some (.ref C) → ∀ b ∈ ["str", "int", "bool", "tuple", "list"], PySem.W.kitOne K (.ref C) (.type b) = some false
  noC : ∀ c C ns, flds c = some ns → mg c = some (.ref C) → ∀ t ∈ ["NoneType", "bool", "int", "str", "tuple", "list", "dict"], PySem.W.kitOne K (.type t) (.ref C) = some false
  own : ∀ c C ns, flds c = some ns → mg c = some (.ref C) → PySem.W.kitOne K (.ref C) (.ref C) = some true
theorem se_isi {b : String} {T : Str} {p q : Pos} (cf : ClsFacts X.K X.mg) (hm : X.mg "isinstance" = none) (hT : X.mg T = none) (hv : bootBuiltins T = some (.type b)) (hb : b ∈ ["str", "int", "bool", "tuple", "list"]) (ha : SE X W a ga)
    (hg : Gl X "isinstance" := by rfl) (hgT : Gl X T := by rfl) (hn : T ≠ "__name__" := by decide) (hdT : (T == ("__debug__" : Str)) = false := by decide)
    (he : starEach [a, .Name T q] X.env = (false, eval a X.env) :: starEach [.Name T q] X.env := by rfl) : SE X W (.Call (.Name "isinstance" p) [a, .Name T q] [] pos) (gIsi b ga) := by
  have hpl : (backTo pos (starEach [.Name T q] X.env)).any (·.1) = false := rfl
  have hT2 : PE X (.Name T q) (tC (.ty b)) := pe_bltn hgT hT hv rfl hn hdT
  refine PE.imp (pe_callB (t := tCons (tE X.K X.mg W ga) (tCons (tC (.ty b)) tNil)) call_isi hg hm (by decide +kernel) (pa_cons ha (pa_cons hT2 pa_nil) he) (by decide) (by decide) he hpl) fun σ H Q ⟨F, env, rel, res⟩ => ?_
  show tE X.K X.mg W ga σ H fun x H1 => rIsi X.K [x, .ty b] H1 Q
  refine ⟨F, env, rel, (RES.bind (k := fun d e => match d with | .obj _ _ => .ok (D.bl false) e | _ => match tyD d with | some t => .ok (D.bl (isTy t b)) e | none => .stuck) res).mono ?_⟩
  rintro x H1 ⟨env1, F1, d, x1, rel1, rx, res1⟩
  have plain : ∀ t, tyD d = some t → (∀ v H' F', Ext σ env1 F1 H1 σ env1 F' H' → Rel X.K X.mg F' σ H' env1 → Rep X.K X.mg F' v (.bl (isTy t b)) → Q v H') → rIsi X.K [x, .ty b] H1 Q := fun t ht hq =>
    ⟨x, .ty b, .type t, .type b, isTy t b, rfl, .ty b, ty_of rel1.sub rx ht, kit_is ht hb, hq _ H1 F1 Ext.refl rel1 .bl⟩
  cases rx with
  | obj h1 h2 h3 h4 h5 =>
    have I := cf.ins _ _ _ h3 h2
    exact ⟨_, .ty b, .ref _, .type b, false, rfl, .ty b, .base (.ins (rel1.sub _ _ h1) I.cl I.ha I.hn I.htk I.hm), cf.noB _ _ _ h3 h2 b hb, res1 _ H1 F1 Ext.refl rel1 .bl⟩
  | non => exact plain _ rfl fun v H' F' y r z => res1 v H' F' y r z
  | bl => exact plain _ rfl fun v H' F' y r z => res1 v H' F' y r z
  | int => exact plain _ rfl fun v H' F' y r z => res1 v H' F' y r z
  | str => exact plain _ rfl fun v H' F' y r z => res1 v H' F' y r z
  | tup _ _ => exact plain _ rfl fun v H' F' y r z => res1 v H' F' y r z
  | lst _ _ => exact plain _ rfl fun v H' F' y r z => res1 v H' F' y r z
  | sc _ => exact res1.elim
  | dct0 _ => exact plain _ rfl fun v H' F' y r z => res1 v H' F' y r z
  | gl _ => exact res1.elim
/-- isinstance(e, C), C an own class -/
def gIsC (c : Str) (ga : SEnv → Out D) : SEnv → Out D := fun env => (ga env).bind fun d e => match d with
  | .obj c' _ => if c' = c then .ok (.bl true) e else .stuck
  | _ => match tyD d with
    | some _ => .ok (.bl false) e
    | none => .stuck
theorem se_isC {c : Str} {C : Addr} {ns : List Str} {p q : Pos} (cf : ClsFacts X.K X.mg) (hm : X.mg "isinstance" = none) (hf : flds c = some ns) (hC : X.mg c = some (.ref C)) (ha : SE X W a ga)
    (hg : Gl X "isinstance" := by rfl) (hgT : Gl X c := by rfl) (hdT : (c == ("__debug__" : Str)) = false := by decide)
    (he : starEach [a, .Name c q] X.env = (false, eval a X.env) :: starEach [.Name c q] X.env := by rfl) : SE X W (.Call (.Name "isinstance" p) [a, .Name c q] [] pos) (gIsC c ga) := by
  have hpl : (backTo pos (starEach [.Name c q] X.env)).any (·.1) = false := rfl
  have hT2 : PE X (.Name c q) (tC (.ref C)) := pe_glob (v := .ref C) hgT hC rfl hdT
  refine PE.imp (pe_callB (t := tCons (tE X.K X.mg W ga) (tCons (tC (.ref C)) tNil)) call_isi hg hm (by decide +kernel) (pa_cons ha (pa_cons hT2 pa_nil) he) (by decide) (by decide) he hpl) fun σ H Q ⟨F, env, rel, res⟩ => ?_
  show tE X.K X.mg W ga σ H fun x H1 => rIsi X.K [x, .ref C] H1 Q
  refine ⟨F, env, rel, (RES.bind (k := fun d e => match d with | .obj c' _ => if c' = c then .ok (D.bl true) e else .stuck | _ => match tyD d with | some _ => .ok (D.bl false) e | none => .stuck) res).mono ?_⟩
  rintro x H1 ⟨env1, F1, d, x1, rel1, rx, res1⟩
  have plain : ∀ t, tyD d = some t → (∀ v H' F', Ext σ env1 F1 H1 σ env1 F' H' → Rel X.K X.mg F' σ H' env1 → Rep X.K X.mg F' v (.bl false) → Q v H') → rIsi X.K [x, .ref C] H1 Q := fun t ht hq => by
    have ht' : t ∈ ["NoneType", "bool", "int", "str", "tuple", "list", "dict"] := by
      cases d <;> simp only [tyD, Option.some.injEq, reduceCtorEq] at ht <;> (subst ht; decide)
    exact ⟨x, .ref C, .type t, .ref C, false, rfl, .own C, ty_of rel1.sub rx ht, cf.noC _ _ _ hf hC t ht', hq _ H1 F1 Ext.refl rel1 .bl⟩
  cases rx with
  | obj h1 h2 h3 h4 h5 =>
    have I := cf.ins _ _ _ h3 h2
    simp only at res1
    split at res1
    · rename_i hc
      subst hc
      rw [hC] at h2
      cases h2
      exact ⟨_, .ref C, .ref C, .ref C, true, rfl, .own C, .base (.ins (rel1.sub _ _ h1) I.cl I.ha I.hn I.htk I.hm), cf.own _ _ _ hf hC, res1 _ H1 F1 Ext.refl rel1 .bl⟩
    · exact res1.elim
  | non => exact plain _ rfl fun v H' F' y r z => res1 v H' F' y r z
  | bl => exact plain _ rfl fun v H' F' y r z => res1 v H' F' y r z
  | int => exact plain _ rfl fun v H' F' y r z => res1 v H' F' y r z
  | str => exact plain _ rfl fun v H' F' y r z => res1 v H' F' y r z
  | tup _ _ => exact plain _ rfl fun v H' F' y r z => res1 v H' F' y r z
  | lst _ _ => exact plain _ rfl fun v H' F' y r z => res1 v H' F' y r z
  | sc _ => exact res1.elim
  | dct0 _ => exact plain _ rfl fun v H' F' y r z => res1 v H' F' y r z
  | gl _ => exact res1.elim
end
end RL

/-! RL9: instances, lists that change -/
namespace RL
open PySem L2 PyProof.Rows PySem.Spec

section
variable {X : Cx} {W : WX} {a b c e : Expr} {ga gb ge : SEnv → Out D} {pos pos' p : Pos}
/-! ### fields of frozen instances -/
theorem zip_lookup {K : PySem.W.Frag} {mg : Str → Option Value} {F : Hp} {f : Str} : ∀ {ns : List Str} {vs : List V} {ds : List D} {d : D}, Reps K mg F vs ds → (ns.zip ds).lookup f = some d → ∃ v, (ns.zip vs).lookup f = some v ∧ Rep K mg F v d
  | [], _, _, _, _, h => by simp at h
  | _ :: _, _, _, _, .nil, h => by simp at h
  | n :: ns, _, _, d, .cons (v := v) r t, h => by
    simp only [List.zip_cons_cons, List.lookup_cons] at h ⊢
    cases q : f == n with
    | true => rw [q] at h; cases h; exact ⟨v, rfl, r⟩
    | false => rw [q] at h; exact zip_lookup t h
def gFld (c f : Str) (ga : SEnv → Out D) : SEnv → Out D := fun env => (ga env).bind fun d e => match d with
  | .obj c' xs => if c' = c then ofO (((flds c).getD []).zip xs |>.lookup f) e else .stuck
  | _ => .stuck
theorem se_fld {c f : Str} {C : Addr} (cf : ClsFacts X.K X.mg) (hC : X.mg c = some (.ref C)) (hn : NoAttr X.K C f) (ha : SE X W a ga) (hb : attributeBase a f X.env (eval a X.env) = eval a X.env := by rfl) : SE X W (.Attribute a f pos) (gFld c f ga) := by
  refine PE.imp (pe_fld ha hb) fun σ H Q ⟨F, env, rel, res⟩ => ?_
  refine ⟨F, env, rel, (RES.bind (k := fun d e => match d with | .obj c' xs => if c' = c then ofO (((flds c).getD []).zip xs |>.lookup f) e else .stuck | _ => .stuck) res).mono ?_⟩
  rintro x H1 ⟨env1, F1, d, x1, rel1, rx, res1⟩
  cases rx <;> try exact res1.elim
  rename_i h1 h2 h3 h4 h5
  simp only at res1
  split at res1
  · rename_i hc
    subst hc
    rw [hC] at h2
    cases h2
    rw [h3, Option.getD_some] at res1
    cases q : (List.zip ‹List Str› ‹List D›).lookup f with
    | none => rw [q] at res1; exact res1.elim
    | some z =>
      rw [q] at res1
      obtain ⟨v, e1, e2⟩ := zip_lookup h5 q
      exact ⟨_, C, _, _, v, rfl, rel1.sub _ _ h1, (cf.ins _ _ _ h3 hC).cl, hn, e1, res1 _ H1 F1 Ext.refl rel1 e2⟩
  · exact res1.elim
/-! ### a thing of a slot changes -/
theorem Rel.mutate {K : PySem.W.Frag} {mg : Str → Option Value} {F H : Hp} {σ : L2.St} {env : SEnv} {i : Nat} {io : Bool} {m m' : MO} {p : Addr} {o : HO} (r : Rel K mg F σ H env) (e : env[i]? = some (.own io m)) (es : σ[i]? = some (some (V.ref p)))
    (ho : OwnAt K mg F (upd H p o) p m') : Ext σ env F H σ (env.set i (.own io m')) F (upd H p o) ∧ Rel K mg F σ (upd H p o) (env.set i (.own io m')) := by
  have hi : i < env.length := (List.getElem?_eq_some_iff.mp e).1
  obtain ⟨p', e1, n, _⟩ := r.own i io m e
  rw [es] at e1
  simp only [Option.some.injEq, V.ref.injEq] at e1
  subst e1
  have key : ∀ (j : Nat) (io' : Bool) (m1 : MO), (env.set i (Sl.own io m'))[j]? = some (Sl.own io' m1) → ∃ m0, env[j]? = some (Sl.own io' m0) ∧ (i = j → m1 = m') ∧ (i ≠ j → m1 = m0) := fun j io' m1 q => by
    by_cases z : i = j
    · subst z
      rw [List.getElem?_set_self hi] at q
      cases q
      exact ⟨m, e, fun _ => rfl, fun w => absurd rfl w⟩
    · rw [List.getElem?_set_ne z] at q
      exact ⟨m1, q, fun w => absurd w z, fun _ => rfl⟩
  refine ⟨⟨fun _ _ h => h, fun _ _ h => .inl h, fun b u h no => ?_, fun b q => ?_, fun j m0 q => ?_, fun j m0 q => ?_, rfl, fun b q => ?_⟩, ⟨by simp [r.len], fun b u q => ?_, fun j x q => ?_, fun j io' m0 q => ?_, fun j k io' jo m0 n0 b ne q1 q2 s1 s2 => ?_⟩⟩
  · rw [upd_ne fun z => no ⟨i, io, m, e, by rw [z]; exact es⟩]; exact h
  · obtain ⟨j, io', m0, q, s⟩ := q
    obtain ⟨m1, q, _⟩ := key j io' m0 q
    exact .inl ⟨j, io', m1, q, s⟩
  · obtain ⟨m1, q, _⟩ := key j _ m0 q
    exact ⟨⟨m1, q⟩, rfl⟩
  · by_cases z : i = j
    · subst z
      rw [e] at q
      cases q
      exact ⟨m', by rw [List.getElem?_set_self hi]⟩
    · exact ⟨m0, by rw [List.getElem?_set_ne z]; exact q⟩
  · by_cases z : b = p
    · rw [z, upd_same] at q; cases q
    · rwa [upd_ne z] at q
  · rw [upd_ne (ne_of_none q n)]; exact r.sub b u q
  · by_cases z : i = j
    · subst z; rw [List.getElem?_set_self hi] at q; cases q
    · rw [List.getElem?_set_ne z] at q; exact r.val j x q
  · by_cases z : i = j
    · subst z
      rw [List.getElem?_set_self hi] at q
      cases q
      exact ⟨p, es, n, ho⟩
    · rw [List.getElem?_set_ne z] at q
      obtain ⟨b, s1, n1, o1⟩ := r.own j io' m0 q
      have ne : b ≠ p := fun w => by subst w; exact r.sep i j _ _ _ _ b z e q es s1
      refine ⟨b, s1, n1, ?_⟩
      cases m0 with
      | lst ds => obtain ⟨ws, h1, h2⟩ := o1; exact ⟨ws, by rw [upd_ne ne]; exact h1, h2⟩
      | ins c fs => obtain ⟨C, dx, ws, h1, h2, h4⟩ := o1; exact ⟨C, dx, ws, h1, by rw [upd_ne ne]; exact h2, h4⟩
  · obtain ⟨m1, q1, _⟩ := key j _ m0 q1
    obtain ⟨n1, q2, _⟩ := key k _ n0 q2
    exact r.sep j k _ _ _ _ b ne q1 q2 s1 s2
/-- what a slot owns -/
theorem Rel.ownV {K : PySem.W.Frag} {mg : Str → Option Value} {F H : Hp} {σ : L2.St} {env : SEnv} {i : Nat} {io : Bool} {m : MO} (r : Rel K mg F σ H env) (e : env[i]? = some (.own io m)) : ∃ p, σ[i]? = some (some (V.ref p)) ∧ F p = none ∧ OwnAt K mg F H p m := r.own i io m e
/-! ### fields of an instance that changes, at slot i -/
def gFldO (i : Nat) (c f : Str) : SEnv → Out D := fun env => match env[i]? with
  | some (.own _ (.ins c' fs)) => if c' = c then ofO (fs.lookup f) env else .stuck
  | _ => .stuck
theorem se_fldO' {i : Nat} {c f : Str} {C : Addr} (hC : X.mg c = some (.ref C)) (hcl : Cls X.K C) (hn : NoAttr X.K C f) (hv : PE X a (tVar i)) (hb : attributeBase a f X.env (eval a X.env) = eval a X.env) : SE X W (.Attribute a f pos) (gFldO i c f) := by
  refine PE.imp (pe_fld hv hb) fun σ H Q ⟨F, env, rel, res⟩ => ?_
  unfold gFldO at res
  cases e : env[i]? with
  | none => simp only [e] at res; exact res.elim
  | some y =>
    simp only [e] at res
    cases y with
    | un => exact res.elim
    | d _ => exact res.elim
    | own io m =>
      cases m with
      | lst _ => exact res.elim
      | ins c' fs =>
        simp only at res
        split at res
        · rename_i hc
          subst hc
          obtain ⟨q, e1, n, C', dx, vs, h1, h2, h3⟩ := rel.ownV e
          rw [hC] at h1
          cases h1
          cases l : fs.lookup f with
          | none => rw [l] at res; exact res.elim
          | some z =>
            rw [l] at res
            obtain ⟨v, l1, l2⟩ := h3.lookup l
            exact ⟨_, e1, _, C, dx, vs, v, rfl, h2, hcl, hn, l1, res _ H F Ext.refl rel l2⟩
        · exact res.elim
theorem se_fldO (i : Nat) {x c f : Str} {C : Addr} (hC : X.mg c = some (.ref C)) (hcl : Cls X.K C) (hn : NoAttr X.K C f) (hN : X.N[i]? = some x := by rfl) (hv : Vis X.env.scope x := by first | exact Or.inl rfl | exact Or.inr (Or.inl rfl) | exact Or.inr (Or.inr rfl))
    (hd : (x == ("__debug__" : Str)) = false := by decide) (hcd : (x == ("__classdict__" : Str)) = false := by decide) (hb : attributeBase (.Name x p) f X.env (eval (.Name x p) X.env) = eval (.Name x p) X.env := by rfl) : SE X W (.Attribute (.Name x p) f pos) (gFldO i c f) :=
  se_fldO' hC hcl hn (pe_var hN hv hd hcd) hb
def setFld (i : Nat) (c f : Str) (d : D) (env : SEnv) : Option SEnv := match env[i]? with
  | some (.own io (.ins c' fs)) => if c' = c ∧ fs.length < 1000 then some (env.set i (.own io (.ins c' (dput f d fs)))) else none
  | _ => none
theorem Rel.setFld {K : PySem.W.Frag} {mg : Str → Option Value} {F H : Hp} {σ : L2.St} {env env' : SEnv} {i : Nat} {c f : Str} {C : Addr} {v : V} {d : D} (r : Rel K mg F σ H env) (hC : mg c = some (.ref C)) (rv : Rep K mg F v d) (h : setFld i c f d env = some env') :
    ∃ q dx vs, σ[i]? = some (some (V.ref q)) ∧ H q = some (.ins C dx vs) ∧ vs.length < 1000 ∧ Ext σ env F H σ env' F (upd H q (.ins C dx (putF f v vs))) ∧ Rel K mg F σ (upd H q (.ins C dx (putF f v vs))) env' := by
  unfold RL.setFld at h
  cases e : env[i]? with
  | none => simp [e] at h
  | some y =>
    cases y with
    | un => simp [e] at h
    | d _ => simp [e] at h
    | own io m =>
      cases m with
      | lst _ => simp [e] at h
      | ins c' fs =>
        simp only [e] at h
        split at h
        · rename_i hc
          obtain ⟨hc, hl⟩ := hc
          subst hc
          cases h
          obtain ⟨q, e1, n, C', dx, vs, h1, h2, h3⟩ := r.ownV e
          rw [hC] at h1
          cases h1
          have := r.mutate (m' := .ins c' (dput f d fs)) (o := .ins C dx (putF f v vs)) e e1 ⟨C, dx, _, hC, upd_same, h3.put rv⟩
          exact ⟨q, dx, vs, e1, h2, by rw [h3.length]; exact hl, this.1, this.2⟩
        · cases h
def gSetFld (i : Nat) (c f : Str) (ge : SEnv → Out D) : SEnv → SOut := gAsg ge (setFld i c f)
theorem ss_fldO (i : Nat) {x c f : Str} {C : Addr} (hC : X.mg c = some (.ref C)) (hcl : Cls X.K C) (hn : NoAttr X.K C f) (he : SE X W e ge) (hN : X.N[i]? = some x := by rfl) (hv : Vis X.env.scope x := by first | exact Or.inl rfl | exact Or.inr (Or.inl rfl) | exact Or.inr (Or.inr rfl))
    (hd : (x == ("__debug__" : Str)) = false := by decide) (hcd : (x == ("__classdict__" : Str)) = false := by decide) (hs : swapsWith e (some (.Attribute (.Name x p) f pos')) pos.line X.env = pure false := by rfl) : SS X W (.Assign [.Attribute (.Name x p) f pos'] e pos) (gSetFld i c f ge) := by
  refine PS.imp (ps_fld (pe_var hN hv hd hcd) he hs) fun D σ H ⟨F, env, rel, res⟩ => ?_
  refine ⟨F, env, rel, (RS.ofE (k := fun d e => match setFld i c f d e with | none => .stuck | some e' => .next e') res).mono ?_⟩
  rintro v H1 ⟨env1, F1, d, x1, rel1, rv, res1⟩
  cases o : setFld i c f d env1 with
  | none => simp only [o] at res1; exact res1.elim
  | some e' =>
    simp only [o] at res1
    obtain ⟨q, dx, vs, s1, h1, hl, y, r⟩ := rel1.setFld hC rv o
    exact ⟨_, s1, q, C, dx, vs, rfl, h1, hcl, hn, hl, res1 _ _ _ y r⟩
/-- a target x.f -/
def gAttr (K : PySem.W.Frag) (to : TE) (f : Str) : TG := fun v σ H Q => to σ H fun x H2 => ∃ a C dx fs, x = .ref a ∧ H2 a = some (.ins C dx fs) ∧ Cls K C ∧ NoAttr K C f ∧ fs.length < 1000 ∧ Q σ (upd H2 a (.ins C dx (putF f v fs)))
theorem pg_attr {o : Expr} {f : Str} {to : TE} (ho : PE X o to) : PG X (.Attribute o f pos) (gAttr X.K to f) := by
  refine ⟨fun pins s σ H v u Q I r h => ?_⟩
  rw [assign_Attribute]
  refine wpAny_bind (wpAny_holding (thn (ho.run pins s σ H _ I h) fun ov s1 hh => ?_))
  obtain ⟨x, H1, I1, r1, p, C, dx, fs, ex, h1, hc, hn, hl, q⟩ := hh
  subst ex
  cases (show ov = Value.ref p from r1)
  refine wpAny_bind (wpAny_standAt (wpAny_bind (wpAny_holding ?_)))
  exact setattr_ok I1 h1 hc hn hl r fun s3 I3 => wpAny_release ⟨σ, _, I3, q⟩
theorem sg_attr (i : Nat) {x c f : Str} {C : Addr} (hC : X.mg c = some (.ref C)) (hcl : Cls X.K C) (hn : NoAttr X.K C f) (hN : X.N[i]? = some x := by rfl) (hv : Vis X.env.scope x := by first | exact Or.inl rfl | exact Or.inr (Or.inl rfl) | exact Or.inr (Or.inr rfl))
    (hd : (x == ("__debug__" : Str)) = false := by decide) (hcd : (x == ("__classdict__" : Str)) = false := by decide) : SG X (.Attribute (.Name x p) f pos) (setFld i c f) [] := by
  refine PG.imp (pg_attr (pe_var hN hv hd hcd)) fun v σ H Q ⟨F, env, d, rel, rv, env', h, q⟩ => ?_
  obtain ⟨w, dx, vs, s1, h1, hl, y, r⟩ := rel.setFld hC rv h
  exact ⟨_, s1, w, C, dx, vs, rfl, h1, hcl, hn, hl, q _ _ _ y r fun _ _ => rfl⟩
/-! ### making -/
def tMakeS (C : Addr) (sp : Sp) (E : L2.St → XK) (t : TA) : TE := fun σ H Q => t σ H fun vs H1 => ∀ x dx, H1 x = none → H1 dx = none → dx ≠ x → sp (.ref x :: vs) (upd (upd H1 dx (.own x)) x (.ins C dx [])) (fun v H2 => v = .non ∧ Q (.ref x) H2) (E σ)
theorem pe_makeS {C f : Addr} {CX : CXT} {k : Nat} {fd : FuncData} {ps : List Str} {sp : Sp} {E : L2.St → XK} {x : Str} {es : List Expr} {t : TA} (M : Mk X.K C f) (F : FnOk X.prog X.w X.K X.mg X.base CX k f fd ps sp) (hr : Room (k + 1) X.A) (hm : X.mg x = some (.ref C)) (hb : Binds X.K fd ps [])
    (hx : ∀ σ, PassesAt CX X σ (E σ)) (ha : PA X (e :: es) t) (hg : Gl X x := by rfl) (hdb : (x == ("__debug__" : Str)) = false := by decide) (he : starEach (e :: es) X.env = (false, eval e X.env) :: starEach es X.env := by rfl)
    (hpl : (backTo pos (starEach es X.env)).any (·.1) = false := by rfl) : PE X (.Call (.Name x p) (e :: es) [] pos) (tMakeS C sp E t) := by
  refine ⟨fun pins s σ H Q I hq => wpAny_Call_Name_kw (ld_glob I hg hm ?_ hdb)⟩
  refine PySem.W.callWith_K (h₀ := X.base) I.ok.mod.kin M.kp (thn (ha.run pos pins s σ H _ I hq) fun us s1 hh => ?_) he hpl
  obtain ⟨vs, H1, J, r, want⟩ := hh
  refine ⟨J.kIn, ?_⟩
  have go := want (s1.heap.objs.size + 1) s1.heap.objs.size (J.hok.fresh (Nat.le_succ _)) (J.hok.fresh (Nat.le_refl _)) (Nat.ne_of_lt (Nat.lt_succ_self _))
  have J2 := Inv.made (C := C) J
  have r2 : Vals (V.ref (s1.heap.objs.size + 1) :: vs) (Value.ref (s1.heap.objs.size + 1) :: us) := .cons rfl r
  have hl : (Value.ref (s1.heap.objs.size + 1) :: us).length = ps.length := r2.length.symm.trans (F.len _ _ _ _ go)
  have bb := hb _ (Value.ref (s1.heap.objs.size + 1) :: us) J2.kIn (by rw [List.append_nil]; exact hl)
  rw [List.append_nil] at bb
  refine wpAny_call (make_map (f := f) J.kIn M.makes M.init (beq_iff_eq.mp M.fn) (codeAny_mono (F.run _ X.stack _ _ ⟨Value.ref (s1.heap.objs.size + 1) :: us, []⟩ _ _ _ (E σ) (hr.make C us []) (J2.env0.make C us []) bb r2 go) fun res s' out => ?_))
  cases res with
  | error er => exact hx σ pins _ _ er s' J2 out
  | ok fl =>
    cases fl with
    | next => exact out.elim
    | brk => exact out.elim
    | cont => exact out.elim
    | ret u =>
      obtain ⟨v, H', J3, rv, ev, q3⟩ := J2.after out
      subst ev
      exact ⟨rv, V.ref (s1.heap.objs.size + 1), H', J3, rfl, q3⟩
/-- what the parameters of __init__ are at the entry -/
theorem make_rel {K : PySem.W.Frag} {mg : Str → Option Value} {F H : Hp} {vs : List V} {ds : List D} {c : Str} {C x dx : Addr} (s : ∀ a o, F a = some o → H a = some o) (hC : mg c = some (.ref C)) (rs : Reps K mg F vs ds) (nx : H x = none) (nd : H dx = none) :
    Rel K mg F ((V.ref x :: vs).map some) (upd (upd H dx (.own x)) x (.ins C dx [])) (.own true (.ins c []) :: ds.map .d) := by
  refine ⟨by simp [rs.length], fun a o q => ?_, fun i d q => ?_, fun i io m q => ?_, fun i j io jo m n a ne q1 q2 _ _ => ?_⟩
  · have h1 := s a o q
    rw [upd_ne (ne_of_none h1 nx), upd_ne (ne_of_none h1 nd)]
    exact h1
  · cases i with
    | zero => simp at q
    | succ i =>
      have q2 : ds[i]? = some d := by
        rw [List.getElem?_cons_succ, List.getElem?_map] at q
        cases z : ds[i]? with
        | none => rw [z] at q; cases q
        | some y => rw [z] at q; cases q; rfl
      obtain ⟨v, e1, e2⟩ := rs.get q2
      exact ⟨v, by simp [e1], e2⟩
  · cases i with
    | zero =>
      simp only [List.getElem?_cons_zero, Option.some.injEq, Sl.own.injEq] at q
      obtain ⟨rfl, rfl⟩ := q
      refine ⟨x, rfl, ?_, C, dx, [], hC, upd_same, trivial⟩
      cases z : F x with
      | none => rfl
      | some o => rw [s x o z] at nx; cases nx
    | succ i =>
      rw [List.getElem?_cons_succ, List.getElem?_map] at q
      cases z : ds[i]? with
      | none => rw [z] at q; cases q
      | some y => rw [z] at q; cases q
  · have only : ∀ {i : Nat} {io : Bool} {m : MO}, (Sl.own true (.ins c []) :: ds.map Sl.d)[i]? = some (Sl.own io m) → i = 0 := fun {i io m} q => by
      cases i with
      | zero => rfl
      | succ i =>
        rw [List.getElem?_cons_succ, List.getElem?_map] at q
        cases z : ds[i]? with
        | none => rw [z] at q; cases q
        | some y => rw [z] at q; cases q
    exact ne ((only q1).trans (only q2).symm)
/-- behind __init__: new objects alone -/
theorem make_grow {F F' H H' : Hp} {vs : List V} {ds : List D} {ps' : List Sl} {c : Str} {C x dx : Addr} (s : ∀ a o, F a = some o → H a = some o) (nx : H x = none) (nd : H dx = none)
    (y : Ext ((V.ref x :: vs).map some) (.own true (.ins c []) :: ds.map .d) F (upd (upd H dx (.own x)) x (.ins C dx [])) ((V.ref x :: vs).map some) ps' F' H') (s' : ∀ a o, F' a = some o → H' a = some o) : Grow F H F' H' := by
  have own : ∀ a, Own ((V.ref x :: vs).map some) (.own true (.ins c []) :: ds.map Sl.d) a → a = x := by
    rintro a ⟨i, io, m, q, e⟩
    cases i with
    | zero => simp only [List.map_cons, List.getElem?_cons_zero, Option.some.injEq, V.ref.injEq] at e; exact e.symm
    | succ i =>
      rw [List.getElem?_cons_succ, List.getElem?_map] at q
      cases z : ds[i]? with
      | none => rw [z] at q; cases q
      | some y => rw [z] at q; cases q
  refine ⟨y.mono, fun a o q => ?_, fun a o q => ?_, s'⟩
  · rcases y.new a o q with z | z | z
    · exact .inl z
    · right
      by_cases w : a = x
      · rw [w]; exact nx
      · rw [upd_ne w] at z
        by_cases w2 : a = dx
        · rw [w2]; exact nd
        · rwa [upd_ne w2] at z
    · rw [own a z]; exact .inr nx
  · have n1 := ne_of_none q nx
    have n2 := ne_of_none q nd
    refine y.keep a o ?_ fun z => n1 (own a z)
    rw [upd_ne n1, upd_ne n2]
    exact q
def gMake (c : Str) (Fn : List Sl → FOut) (gs : SEnv → Out (List D)) : SEnv → Out D := fun env => (gs env).bind fun ds e => match Fn (.own true (.ins c []) :: ds.map .d) with
  | .ok .non (.own true (.ins c' fs) :: _) => if c' = c ∧ flds c = some (fs.map (·.1)) then .ok (.obj c (fs.map (·.2))) e else .stuck
  | .exc x _ => .exc x e
  | _ => .stuck
theorem se_make {c : Str} {C f : Addr} {k n : Nat} {fd : FuncData} {ps : List Str} {es : List Expr} {Fn : List Sl → FOut} {gs : SEnv → Out (List D)} (M : Mk X.K C f) (Fo : FnOk X.prog X.w X.K X.mg X.base (L2.CX X.prog X.w) k f fd ps (spF X.K X.mg n Fn)) (hr : Room (k + 1) X.A) (hm : X.mg c = some (.ref C)) (hb : Binds X.K fd ps [])
    (tk : Takes X W) (ha : SA X W (e :: es) gs) (hn : (e :: es).length + 1 = n) (hg : Gl X c := by rfl) (hdb : (c == ("__debug__" : Str)) = false := by decide) (he : starEach (e :: es) X.env = (false, eval e X.env) :: starEach es X.env := by rfl)
    (hpl : (backTo pos (starEach es X.env)).any (·.1) = false := by rfl) : SE X W (.Call (.Name c p) (e :: es) [] pos) (gMake c Fn gs) := by
  refine PE.imp (pe_makeS M Fo hr hm hb (fun σ => passAt tk σ) ha.pa hg hdb he hpl) fun σ H Q ⟨F, env, rel, res⟩ => ?_
  refine ⟨F, env, rel, RES.len ha.len ((RES.bind (k := fun ds e => match Fn (.own true (.ins c []) :: ds.map .d) with
    | .ok .non (.own true (.ins c' fs) :: _) => if c' = c ∧ flds c = some (fs.map (·.1)) then .ok (D.obj c (fs.map (·.2))) e else .stuck
    | .exc x _ => .exc x e
    | _ => .stuck) res).mono ?_)⟩
  rintro vs H1 ⟨env1, F1, ds, x1, rel1, rs, res1⟩ hl
  intro x dx nx nd ne
  refine ⟨by simp only [List.length_cons] at hn ⊢; rw [hl]; simp only [List.length_cons]; omega, F1, .own true (.ins c []) :: ds.map .d, make_rel rel1.sub hm rs nx nd, by simp [parOk, List.all_map, Function.comp_def], ?_⟩
  cases o : Fn (.own true (.ins c []) :: ds.map .d) with
  | stuck => simp only [o] at res1; exact res1
  | exc xx ps' =>
    simp only [o] at res1
    intro cls da H' F' y r' z
    have g := make_grow rel1.sub nx nd y r'.sub
    refine res1 cls da H' F' (g.ext rel1) (rel1.grow g) ⟨fun d hd => ?_, z.2⟩
    have h2 := z.1 d hd
    by_cases w : d = x
    · rw [w]; exact nx
    · rw [upd_ne w] at h2
      by_cases w2 : d = dx
      · rw [w2]; exact nd
      · rwa [upd_ne w2] at h2
  | ok d ps' =>
    simp only [o] at res1
    cases d <;> try exact res1.elim
    cases ps' with
    | nil => exact res1.elim
    | cons s0 more =>
      cases s0 with
      | un => exact res1.elim
      | d _ => exact res1.elim
      | own io m =>
        cases io with
        | false => exact res1.elim
        | true =>
          cases m with
          | lst _ => exact res1.elim
          | ins c' fs =>
            simp only at res1
            split at res1
            · rename_i hc
              obtain ⟨hc, hf⟩ := hc
              subst hc
              intro v H' F' y r' z
              cases z
              refine ⟨rfl, ?_⟩
              have g := make_grow rel1.sub nx nd y r'.sub
              obtain ⟨q, e1, n1, C', dx', ws, h1, h2, h3⟩ := r'.own 0 true _ rfl
              simp only [List.map_cons, List.getElem?_cons_zero, Option.some.injEq, V.ref.injEq] at e1
              subst e1
              have m2 : ∀ b u, F' b = some u → upd F' x (.ins C' dx' ws) b = some u := fun b u q => by rw [upd_ne (ne_of_none q n1)]; exact q
              have sub2 : ∀ b u, upd F' x (.ins C' dx' ws) b = some u → H' b = some u := fun b u q => by
                by_cases w : b = x
                · rw [w, upd_same] at q; rw [w, h2]; exact q
                · rw [upd_ne w] at q; exact r'.sub b u q
              obtain ⟨k1, k2, k3⟩ := h3.split
              have g3 : Grow F1 H1 (upd F' x (.ins C' dx' ws)) H' := by
                refine ⟨fun b u q => ?_, fun b u q => ?_, g.keep, sub2⟩
                · exact m2 _ _ (g.mono _ _ q)
                · by_cases w : b = x
                  · rw [w]; exact .inr nx
                  · rw [upd_ne w] at q; exact g.new b u q
              refine res1 _ H' _ (g3.ext rel1) (rel1.grow g3) (.obj (C := C') (dx := dx') (vs := ws.map (·.2)) (by rw [upd_same, ← k1]) h1 hf k2 (k3.mono m2))
            · exact res1.elim
end
end RL

/-! RL10: what is walked: enumerate of a list, a tuple, a text -/
namespace RL
open PySem L2 PyProof.Rows PySem.Spec

set_option maxHeartbeats 2000000 in
theorem meets_enum1 {v : Value} {o : Obj} {H : Heap → Prop} (B : Begins v o H) :
    Meets (Builtin.«enumerate.__new__» ⟨[.type "enumerate", v], []⟩) (fun _ R s => H s.heap ∧
      R (.ok (.ret (.ref (s.heap.push o).objs.size))) { s with heap := (s.heap.push o).push { cls := .type "enumerate", data := .fields #[.none, .bool false, .ref s.heap.objs.size, rawInt 0, .none, .none] } }) :=
  .of_wp fun prog w A R s hh => by
    obtain ⟨hp, gg, dd, tk, os⟩ := s
    obtain ⟨h1, h⟩ := hh
    have hsub := sub_enumerate
    have start : ∀ {A' : Around} {E : Value → Shared → Prop} {Q : Value → Shared → Prop}, Q (.ref hp.objs.size) ⟨hp.push o, gg, dd, tk, os⟩ → wpAny (model prog w) A' (pyIter v) Q E ⟨hp, gg, dd, tk, os⟩ := fun q => B.iter prog w _ _ ⟨hp, gg, dd, tk, os⟩ _ h1 q
    wp_walk using start
    refine wpAny_stack_any fun st => wpAny_pure ?_
    split
    · rename_i cc _ _ _ _ _
      cases (cc == Value.type "enumerate")
      · wp_walk using start
        exact ⟨_, rfl, h⟩
      · wp_walk using start
        exact ⟨_, rfl, h⟩
    · wp_walk using start
      exact ⟨_, rfl, h⟩
theorem enum_begins1 {prog : Program} {w : World} {A : Around} {E : Value → Shared → Prop} {s : Shared} {v : Value} {o : Obj} {H : Heap → Prop} {Q : Value → Shared → Prop} (B : Begins v o H) (h1 : H s.heap)
    (h : ∀ h', IsEnum h' (s.heap.objs.size + 1) s.heap.objs.size 0 .none → h'.get? s.heap.objs.size = some o → (∀ b o, s.heap.get? b = some o → h'.get? b = some o) → Q (.ref (s.heap.objs.size + 1)) { s with heap := h' }) :
    wpAny (model prog w) A (call (.type "enumerate") [v]) Q E s := by
  refine callType_new F.called_enumerate (by decide) (F.typeCall_enumerate_1 _) (F.newCall_enumerate_1 _) (fun obj => F.args_object_init_2 obj _) F.entry_enumerate_new (meets_enum1 B) ⟨h1, ?_⟩
  have size1 : (s.heap.push o).objs.size = s.heap.objs.size + 1 := Heap.size_push ..
  show _ ∧ _
  rw [size1]
  have made : IsEnum ((s.heap.push o).push { cls := .type "enumerate", data := .fields #[.none, .bool false, .ref s.heap.objs.size, rawInt 0, .none, .none] }) (s.heap.objs.size + 1) s.heap.objs.size 0 .none := by
    have z := Heap.get?_push_size (s.heap.push o) (o := { cls := .type "enumerate", data := .fields #[.none, .bool false, .ref s.heap.objs.size, rawInt 0, .none, .none] }) rfl
    rw [size1] at z
    exact z
  exact ⟨⟨_, made, rfl⟩, h _ made (Heap.get?_push_of_some _ (Heap.get?_push_size _ B.free)) fun b u x => Heap.get?_push_of_some _ (Heap.get?_push_of_some _ x)⟩
/-- enumerate of what G keeps: n items, xs -/
def Ien (G : Hp → Prop) (n : Nat) (xs : Nat → Option V) : It :=
  ⟨fun i H => G H ∧ i < n, fun i H v H' => ∃ T x, v = .ref T ∧ H T = none ∧ H' = upd H T (.tup [.int (i : Nat), x]) ∧ xs i = some x, fun i H => G H ∧ i = n⟩
theorem turn_en {P : Program} {w : World} {K : PySem.W.Frag} {elts : List Expr} {kk : Nat} {tpos : Pos} {G : Hp → Prop} {n : Nat} {xs : Nat → Option V} (e it : Addr) (fpD : List Addr) (tnS : Nat → Heap → Prop) (hef : e ∉ fpD)
    (get : ∀ (X : Cx) (pins : List (Addr × Obj)) (σ : L2.St) (H : Hp) (s : Shared), X.prog = P → X.w = w → X.K = K → Inv X pins σ H s → G H → (∃ i, tnS i s.heap) → ∃ (SR : Heap → Prop) (PV : Nat → Value → Prop), (∀ A : Around, A.handled = none → Draws P w A it fpD n PV (fun i h => tnS i h ∧ SR h)) ∧ SR s.heap ∧ ∀ i u, PV i u → ∃ x, xs i = some x ∧ RelV x u)
    (tkeep : ∀ i h h', tnS i h → (∀ o, h.get? it = some o → h'.get? it = some o) → tnS i h') (tobj : ∀ i h, tnS i h → ∃ o, h.get? it = some o ∧ ∀ v, o.data ≠ .cell v) :
    Turn P w K (.Tuple elts kk tpos) (Ien G n xs) [e, it] e (fun i h => (∃ old, IsEnum h e it ((i : Nat) : Int) old) ∧ tnS i h ∧ e ≠ it) where
  mem := by simp
  obj := fun i h st b hb => by
    obtain ⟨⟨old, he⟩, ht, _⟩ := st
    rcases (by simpa using hb : b = e ∨ b = it) with z | z
    · rw [z]; exact ⟨_, he, fun v q => nomatch q⟩
    · rw [z]; exact tobj i h ht
  keep := fun i h h' st kp => by
    obtain ⟨⟨old, he⟩, ht, ne⟩ := st
    exact ⟨⟨old, kp e (by simp) _ he⟩, tkeep i h h' ht fun o q => kp it (by simp) o q, ne⟩
  item := by
    intro X hP hw hK hc i pins s σ H E I hf st hg
    obtain ⟨⟨old, he⟩, ht, ne⟩ := st
    obtain ⟨SR, PV, D, sr, val⟩ := get X pins σ H s hP hw hK I hg.1 ⟨i, ht⟩
    subst hP hw hK
    have le : e < s.heap.objs.size := Heap.lt_size he
    have li : it < s.heap.objs.size := by
      obtain ⟨o, q, _⟩ := tobj i _ ht
      exact Heap.lt_size q
    refine wpAny_pyNext_enum_itemD (D X.A.in1 (I.ok.hd hc)) he ⟨ht, sr⟩ hg.2 ne hef fun u h' tk pu ho st' hT hsz hk => ?_
    obtain ⟨x, ex, ru⟩ := val i u pu
    refine ⟨_, rfl, wpAny_letOwnedTupleGo_enum (s := { s with heap := h', toks := tk + 1 }) ho fun h2 he2 sb => ?_⟩
    have hT2 : h2.get? s.heap.objs.size = some { cls := .type "tuple", data := .seq #[.int i tk, u] } := (sb.2 _ (Nat.ne_of_gt le)).trans hT
    have new : ObjOk X.prog X.w (upd H s.heap.objs.size (.tup [.int (i : Nat), x])) h2 s.heap.objs.size (.tup [.int (i : Nat), x]) := by
      refine ⟨?_, [.int i tk, u], .cons ⟨_, rfl⟩ (.cons ru .nil), ⟨_, hT2, rfl, _, rfl⟩⟩
      show 2 ≤ sizeLine
      rw [sizeLine_eq]
      omega
    have I1 : Inv X pins σ (upd H s.heap.objs.size (.tup [.int (i : Nat), x])) { s with heap := h2, toks := tk + 1 } := by
      refine I.turnedNew (ch := [e, it]) (fun b ob hb q => ?_) hf (Nat.le_refl _) new
      simp only [List.mem_cons, List.not_mem_nil, or_false, not_or] at hb
      exact (sb.2 b hb.1).trans (hk b ob hb.1 hb.2 q)
    refine ⟨.ref s.heap.objs.size, _, I1, rfl, ⟨_, x, rfl, I.hok.fresh (Nat.le_refl _), rfl, ex⟩, ⟨⟨u, ?_⟩, tkeep _ _ _ st'.1 fun o q => (sb.2 it (Ne.symm ne)).trans q, ne⟩, fun b hb => ?_⟩
    · rw [Int.natCast_succ]; exact he2
    · have lb : b < s.heap.objs.size := by
        rcases (by simpa using hb : b = e ∨ b = it) with z | z
        · rw [z]; exact le
        · rw [z]; exact li
      rw [upd_ne (Nat.ne_of_lt lb)]
      exact (hf b hb).1
  done := by
    intro X hP hw hK hc i pins s σ H E I hf st hg
    obtain ⟨⟨old, he⟩, ht, ne⟩ := st
    obtain ⟨SR, PV, D, sr, val⟩ := get X pins σ H s hP hw hK I hg.1 ⟨i, ht⟩
    subst hP hw hK
    obtain ⟨f0, f1, f2, f3, f4, f5⟩ := hf it (by simp)
    rw [hg.2] at ht
    exact wpAny_pyNext_enum_endD (D X.A.in1 (I.ok.hd hc)) he ⟨ht, sr⟩ fun h' eb => ⟨rfl, I.turned (t' := s.toks) (fun b o hb q => eb b o hb q) f0 f1 f3 f4 f5⟩
  self := fun A i s Q E st h => by
    obtain ⟨⟨_, he⟩, _⟩ := st
    exact wpAny_pyIter_enum he h
theorem walk_en {G : Hp → Prop} {n : Nat} {xs : Nat → Option V} : Walk (Ien G n xs) n G (YPair (fun i => some (.int (i : Nat))) xs) :=
  ⟨fun i H hi g => ⟨g, hi⟩, fun H g => ⟨g, rfl⟩, fun i H x H' hi g y => by
    obtain ⟨T, z, e1, e2, e3, e4⟩ := y
    exact ⟨T, .int (i : Nat), z, e1, e2, e3, rfl, e4⟩⟩
/-- the reading: a list, a tuple, a text -/
def iEnumA (K : PySem.W.Frag) (ta : TA) : TI := fun σ H R => ta σ H fun vs H1 => (∃ a xs, vs = [.ref a] ∧ SqL K H1 a xs ∧ R (Ien (fun H => SqL K H a xs) xs.length fun i => xs[i]?) H1) ∨ (∃ a xs, vs = [.ref a] ∧ SqT K H1 a xs ∧ R (Ien (fun H => SqT K H a xs) xs.length fun i => xs[i]?) H1) ∨
  ∃ z, vs = [.str z] ∧ R (Ien (fun _ => True) z.cps.size fun i => z.cps[i]?.map fun c => .str ⟨#[c]⟩) H1
theorem draws_n {prog : Program} {w : World} {A : Around} {it : Addr} {fp : List Addr} {n m : Nat} {P : Nat → Value → Prop} {St : Nat → Heap → Prop} (e : n = m) (D : Draws prog w A it fp n P St) : Draws prog w A it fp m P St := e ▸ D
/-- the iterator's records are new -/
theorem fp_new {X : Cx} {pins : List (Addr × Obj)} {σ : L2.St} {H : Hp} {s : Shared} (I : Inv X pins σ H s) : ∀ b ∈ [s.heap.objs.size + 1, s.heap.objs.size], FpOk X pins H b := fun b hb => by
  have le : s.heap.objs.size ≤ b := by
    rcases (by simpa using hb : b = s.heap.objs.size + 1 ∨ b = s.heap.objs.size) with z | z
    · rw [z]; exact Nat.le_succ _
    · rw [z]; exact Nat.le_refl _
  exact I.fpOk le (I.hok.fresh le)
theorem pi_enumA {X : Cx} {e : Expr} {ta : TA} {p pos tpos : Pos} {elts : List Expr} {kk : Nat} (hm : X.mg "enumerate" = none) (ha : PA X [e] ta) (hg : Gl X "enumerate" := by rfl) (hs : starEach [e] X.env = [(false, eval e X.env)] := by rfl) :
    PI X (.Tuple elts kk tpos) (.Call (.Name "enumerate" p) [e] [] pos) (iEnumA X.K ta) := by
  refine ⟨fun pins s σ H R I hq => ?_⟩
  refine Call_ (ld_blt I hg hm boot_enumerate (PyProof.Rows.callWith_type1 (thn (ha.run pos pins s σ H _ I hq) fun us s1 hh => ?_) hs rfl))
  obtain ⟨vs, H1, I1, r1, q1⟩ := hh
  rcases q1 with ⟨a, xs, rfl, hx, q⟩ | ⟨a, xs, rfl, hx, q⟩ | ⟨z, rfl, q⟩
  · cases r1 with
    | cons r rr =>
    cases rr
    cases r
    obtain ⟨its, rv, pl, hz⟩ := I1.list hx
    have la : a < s1.heap.objs.size := by obtain ⟨o, n, h1, _⟩ := pl; exact Heap.lt_size h1
    refine enum_begins1 (begins_list a its.toArray) pl.isList fun h' he hit hk => wpAny_pyIter_enum he ?_
    refine ⟨s1.heap.objs.size + 1, [s1.heap.objs.size + 1, s1.heap.objs.size], _, _, H1, rfl, I1.kept (t' := s1.toks) hk,
      turn_en _ s1.heap.objs.size [s1.heap.objs.size, a] (fun i h => h.IsListIter s1.heap.objs.size a i) ?_ ?_ (fun i h h2 st kp => st.at kp) (fun i h st => ?_), ⟨⟨.none, he⟩, ⟨_, hit, rfl, rfl⟩, Nat.succ_ne_self _⟩, fp_new I1, q⟩
    · simp only [List.mem_cons, List.not_mem_nil, or_false, not_or]
      exact ⟨Nat.succ_ne_self _, Nat.ne_of_gt (Nat.lt_succ_of_lt la)⟩
    · intro Y pins2 σ2 H2 s2 hP hw hK J g ⟨i, ht⟩
      rw [← hK] at g
      obtain ⟨its2, rv2, pl2, _⟩ := J.list g
      have ne : a ≠ s1.heap.objs.size := fun w => by
        obtain ⟨o, h1, h2, _⟩ := ht
        obtain ⟨o', n', h3, h4, _⟩ := pl2
        rw [← w, h3] at h1
        cases h1
        rw [h4] at h2
        exact absurd h2 (by decide)
      refine ⟨fun h => h.IsList a its2.toArray, fun i v => its2.toArray[i]? = some v, fun A hA => draws_n (by rw [List.size_toArray, ← rv2.length]) (Draws.list hA s1.heap.objs.size a ne its2.toArray), pl2.isList, fun i u hu => ?_⟩
      have hu : its2[i]? = some u := by simpa using hu
      have hi := (List.getElem?_eq_some_iff.mp hu).1
      cases hxx : xs[i]? with
      | none => rw [List.getElem?_eq_none_iff] at hxx; have := rv2.length; omega
      | some x =>
        obtain ⟨u', hu', ru⟩ := rv2.get hxx
        rw [hu] at hu'
        cases hu'
        exact ⟨x, rfl, ru⟩
    · obtain ⟨o, h1, h2, h3⟩ := st
      exact ⟨o, h1, fun v w => by rw [h3] at w; cases w⟩
  · cases r1 with
    | cons r rr =>
    cases rr
    cases r
    obtain ⟨its, rv, pt, hz⟩ := I1.tuple hx
    have la : a < s1.heap.objs.size := pt.lt
    have tup : s1.heap.IsTuple a its.toArray := pt
    refine enum_begins1 (begins_tuple a its.toArray) tup fun h' he hit hk => wpAny_pyIter_enum he ?_
    refine ⟨s1.heap.objs.size + 1, [s1.heap.objs.size + 1, s1.heap.objs.size], _, _, H1, rfl, I1.kept (t' := s1.toks) hk,
      turn_en _ s1.heap.objs.size [s1.heap.objs.size, a] (fun i h => h.IsTupleIter s1.heap.objs.size a i) ?_ ?_ (fun i h h2 st kp => st.at kp) (fun i h st => ?_), ⟨⟨.none, he⟩, ⟨_, hit, rfl, rfl⟩, Nat.succ_ne_self _⟩, fp_new I1, q⟩
    · simp only [List.mem_cons, List.not_mem_nil, or_false, not_or]
      exact ⟨Nat.succ_ne_self _, Nat.ne_of_gt (Nat.lt_succ_of_lt la)⟩
    · intro Y pins2 σ2 H2 s2 hP hw hK J g ⟨i, ht⟩
      rw [← hK] at g
      obtain ⟨its2, rv2, pt2, _⟩ := J.tuple g
      have ne : a ≠ s1.heap.objs.size := fun w => by
        obtain ⟨o, h1, h2, _⟩ := ht
        obtain ⟨o', h3, h4, _⟩ := pt2
        rw [← w, h3] at h1
        cases h1
        rw [h4] at h2
        exact absurd h2 (by decide)
      refine ⟨fun h => h.IsTuple a its2.toArray, fun i v => its2.toArray[i]? = some v, fun A hA => draws_n (by rw [List.size_toArray, ← rv2.length]) (Draws.tuple hA s1.heap.objs.size a ne its2.toArray), pt2, fun i u hu => ?_⟩
      have hu : its2[i]? = some u := by simpa using hu
      have hi := (List.getElem?_eq_some_iff.mp hu).1
      cases hxx : xs[i]? with
      | none => rw [List.getElem?_eq_none_iff] at hxx; have := rv2.length; omega
      | some x =>
        obtain ⟨u', hu', ru⟩ := rv2.get hxx
        rw [hu] at hu'
        cases hu'
        exact ⟨x, rfl, ru⟩
    · obtain ⟨o, h1, h2, h3⟩ := st
      exact ⟨o, h1, fun v w => by rw [h3] at w; cases w⟩
  · cases r1 with
    | cons r rr =>
    cases rr
    obtain ⟨t, rfl⟩ := r
    refine enum_begins1 (begins_text z t) trivial fun h' he hit hk => wpAny_pyIter_enum he ?_
    refine ⟨s1.heap.objs.size + 1, [s1.heap.objs.size + 1, s1.heap.objs.size], _, _, H1, rfl, I1.kept (t' := s1.toks) hk,
      turn_en _ s1.heap.objs.size [s1.heap.objs.size] (fun i h => h.IsStrIter s1.heap.objs.size (strIterType z) z t i) ?_ ?_ (fun i h h2 st kp => by obtain ⟨o, h1, h2, h3⟩ := st; exact ⟨o, kp o h1, h2, h3⟩) (fun i h st => ?_), ⟨⟨.none, he⟩, ⟨_, hit, rfl, rfl⟩, Nat.succ_ne_self _⟩, fp_new I1, q⟩
    · simp
    · intro Y pins2 σ2 H2 s2 hP hw hK J g _
      refine ⟨fun _ => True, fun i v => ∃ c u, z.cps[i]? = some c ∧ v = .str ⟨#[c]⟩ u, fun A hA => ?_, trivial, fun i u hu => ?_⟩
      · have D := Draws.text (prog := X.prog) (w := X.w) hA s1.heap.objs.size z t
        exact ⟨fun i h st => D.live i h st.1, fun i h h2 st kp => ⟨D.frame i h h2 st.1 kp, trivial⟩, fun i s Q E hi st hQ => D.item i s Q E hi st.1 fun x h' tk a b c => hQ x h' tk a ⟨b, trivial⟩ c, fun s Q E st hE => D.done s Q E st.1 hE⟩
      · obtain ⟨c, u', h1, h2⟩ := hu
        exact ⟨.str ⟨#[c]⟩, by rw [h1]; rfl, ⟨u', h2⟩⟩
    · obtain ⟨o, h1, h2, h3⟩ := st
      exact ⟨o, h1, fun v w => by rw [h3] at w; cases w⟩
end RL

/-! RL11: what is walked; new lists; comprehensions; lists that change -/
namespace RL
open PySem L2 PyProof.Rows PySem.Spec

section
variable {X : Cx} {W : WX} {a b c e tg : Expr} {ga gb ge : SEnv → Out D} {pos pos' p : Pos}
def signs (z : Str) : List D := z.cps.toList.map fun c => .str ⟨#[c]⟩
def itemsD : D → Option (List D)
  | .tup ds => some ds
  | .lst ds => some ds
  | .str z => some (signs z)
  | _ => none
def ofL {α : Type} (o : Option α) (e : SEnv) : Out α := match o with
  | some z => .ok z e
  | none => .stuck
def gItems (ga : SEnv → Out D) : SEnv → Out (List D) := fun env => (ga env).bind fun d e => ofL (itemsD d) e
theorem it_tup {K : PySem.W.Frag} {mg : Str → Option Value} {F : Hp} {q : Addr} {vs : List V} {ds : List D} (h : SqT K F q vs) (r : Reps K mg F vs ds) : ItOk K mg F (Itt K q) ds := by
  refine ⟨⟨fun H => SqT K H q vs, YAt vs, by rw [← r.length]; exact walk_tup, fun H1 s => sqT_mono s h, fun i F1 H1 x H2 hi m s y => ?_⟩⟩
  obtain ⟨rfl, hx⟩ := y
  obtain ⟨d, e1, e2⟩ := r.getV hx
  exact ⟨F1, d, e1, Grow.refl s, e2.mono m⟩
theorem it_lst {K : PySem.W.Frag} {mg : Str → Option Value} {F : Hp} {q : Addr} {vs : List V} {ds : List D} (h : F q = some (.lst vs)) (r : Reps K mg F vs ds) : ItOk K mg F (Itl K q) ds := by
  refine ⟨⟨fun H => SqL K H q vs, YAt vs, by rw [← r.length]; exact walk_list, fun H1 s => .inl (.inl (s _ _ h)), fun i F1 H1 x H2 hi m s y => ?_⟩⟩
  obtain ⟨rfl, hx⟩ := y
  obtain ⟨d, e1, e2⟩ := r.getV hx
  exact ⟨F1, d, e1, Grow.refl s, e2.mono m⟩
theorem it_str {K : PySem.W.Frag} {mg : Str → Option Value} {F : Hp} {z : Str} : ItOk K mg F (Its z) (signs z) := by
  refine ⟨⟨fun _ => True, fun i H v H' => H' = H ∧ ∃ c, z.cps[i]? = some c ∧ v = .str ⟨#[c]⟩, by unfold signs; rw [List.length_map, Array.length_toList]; exact walk_str, fun _ _ => trivial, fun i F1 H1 x H2 hi m s y => ?_⟩⟩
  obtain ⟨rfl, c, hc, rfl⟩ := y
  refine ⟨F1, .str ⟨#[c]⟩, ?_, Grow.refl s, .str⟩
  unfold signs
  rw [List.getElem?_map, Array.getElem?_toList, hc]
  rfl
theorem PI.or {it : Expr} {t u : TI} (h : PI X tg it t) (k : PI X tg it u) : PI X tg it (fun σ H R => t σ H R ∨ u σ H R) := ⟨fun pins s σ H R I q => q.elim (h.run pins s σ H R I) (k.run pins s σ H R I)⟩
/-- for .. in e -/
theorem si_seq (ha : SE X W a ga) : SI X W tg a (gItems ga) := by
  refine PI.imp (PI.or (pi_tup ha) (PI.or (pi_list ha) (pi_str ha))) fun σ H R ⟨F, env, rel, res⟩ => ?_
  unfold gItems at res
  cases o : ga env with
  | stuck => rw [o] at res; exact res.elim
  | exc x e2 => rw [o] at res; exact .inl ⟨F, env, rel, by rw [o]; exact res⟩
  | ok d e2 =>
    rw [o] at res
    simp only [Out.bind] at res
    cases d <;> try exact res.elim
    · refine .inr (.inr ⟨F, env, rel, ?_⟩)
      rw [o]
      intro v H1 F1 x1 rel1 rv
      cases rv
      exact ⟨_, rfl, res _ H1 F1 x1 rel1 it_str⟩
    · refine .inl ⟨F, env, rel, ?_⟩
      rw [o]
      intro v H1 F1 x1 rel1 rv
      cases rv with
      | tup h r => exact ⟨_, rfl, ⟨_, sqT_mono rel1.sub h⟩, res _ H1 F1 x1 rel1 (it_tup h r)⟩
    · refine .inr (.inl ⟨F, env, rel, ?_⟩)
      rw [o]
      intro v H1 F1 x1 rel1 rv
      cases rv with
      | lst h r => exact ⟨_, rfl, ⟨_, .inl (.inl (rel1.sub _ _ h))⟩, res _ H1 F1 x1 rel1 (it_lst h r)⟩
/-- range(n), range(a, b) -/
def rangeD (lo : Int) (n : Nat) : List D := (List.range n).map fun i => .int (lo + (i : Nat))
theorem it_range {K : PySem.W.Frag} {mg : Str → Option Value} {F : Hp} {lo : Int} {n : Nat} : ItOk K mg F (Itr lo n) (rangeD lo n) := by
  refine ⟨⟨fun _ => True, YFn fun i => .int (lo + i), by unfold rangeD; rw [List.length_map, List.length_range]; exact walk_range, fun _ _ => trivial, fun i F1 H1 x H2 hi m s y => ?_⟩⟩
  obtain ⟨rfl, rfl⟩ := y
  refine ⟨F1, .int (lo + (i : Nat)), ?_, Grow.refl s, .int⟩
  unfold rangeD at hi ⊢
  rw [List.length_map, List.length_range] at hi
  rw [List.getElem?_map, List.getElem?_range hi]
  rfl
def inR (i : Int) : Bool := decide (-(2 ^ 62) ≤ i) && decide (i < 2 ^ 62)
def hRange : List D → Option (List D)
  | [.int j] => if inR j then some (rangeD 0 j.toNat) else none
  | [.int i, .int j] => if inR i && inR j then some (rangeD i (j - i).toNat) else none
  | _ => none
def gRange (gs : SEnv → Out (List D)) : SEnv → Out (List D) := fun env => (gs env).bind fun ds e => ofL (hRange ds) e
theorem si_range1 {gs : SEnv → Out (List D)} (hm : X.mg "range" = none) (ha : SA X W [a] gs) (hg : Gl X "range" := by rfl) (hs : starEach [a] X.env = [(false, eval a X.env)] := by rfl) : SI X W tg (.Call (.Name "range" p) [a] [] pos) (gRange gs) := by
  refine PI.imp (pi_range1 hg hm ha.pa hs) fun σ H R ⟨F, env, rel, res⟩ => ?_
  refine ⟨F, env, rel, RES.len ha.len ((RES.bind (k := fun ds e => ofL (hRange ds) e) res).mono ?_)⟩
  rintro vs H1 ⟨env1, F1, ds, x1, rel1, rs, res1⟩ hl
  cases rs with
  | nil => cases hl
  | cons r t =>
    cases t with
    | cons _ _ => simp at hl
    | nil =>
      cases r <;> try exact res1.elim
      simp only [hRange] at res1
      split at res1
      · rename_i hi
        simp only [inR, Bool.and_eq_true, decide_eq_true_eq] at hi
        exact ⟨_, rfl, hi.1, hi.2, res1 _ H1 F1 Ext.refl rel1 it_range⟩
      · exact res1.elim
theorem si_range2 {gs : SEnv → Out (List D)} (hm : X.mg "range" = none) (ha : SA X W [a, b] gs) (hg : Gl X "range" := by rfl) (hs : starEach [a, b] X.env = [(false, eval a X.env), (false, eval b X.env)] := by rfl) (hs2 : starEach [b] X.env = [(false, eval b X.env)] := by rfl) : SI X W tg (.Call (.Name "range" p) [a, b] [] pos) (gRange gs) := by
  refine PI.imp (pi_range2 hg hm ha.pa hs hs2) fun σ H R ⟨F, env, rel, res⟩ => ?_
  refine ⟨F, env, rel, RES.len ha.len ((RES.bind (k := fun ds e => ofL (hRange ds) e) res).mono ?_)⟩
  rintro vs H1 ⟨env1, F1, ds, x1, rel1, rs, res1⟩ hl
  cases rs with
  | nil => cases hl
  | cons r t =>
    cases t with
    | nil => simp at hl
    | cons r2 t =>
      cases t with
      | cons _ _ => simp at hl
      | nil =>
        cases r <;> cases r2 <;> try exact res1.elim
        simp only [hRange] at res1
        split at res1
        · rename_i hi
          simp only [inR, Bool.and_eq_true, decide_eq_true_eq] at hi
          exact ⟨_, _, rfl, ⟨hi.1.1, hi.1.2, hi.2.1, hi.2.2⟩, res1 _ H1 F1 Ext.refl rel1 it_range⟩
        · exact res1.elim
/-- enumerate(e) -/
def enumD (ds : List D) : List D := ds.mapIdx fun i d => .tup [.int (i : Nat), d]
theorem it_enum {K : PySem.W.Frag} {mg : Str → Option Value} {F : Hp} {G : Hp → Prop} {n : Nat} {xs : Nat → Option V} {ds : List D} (hn : n = ds.length) (hG : ∀ H1, (∀ a o, F a = some o → H1 a = some o) → G H1) (hx : ∀ i x, xs i = some x → ∃ d, ds[i]? = some d ∧ Rep K mg F x d) : ItOk K mg F (Ien G n xs) (enumD ds) := by
  refine ⟨⟨G, YPair (fun i => some (.int (i : Nat))) xs, by unfold enumD; rw [List.length_mapIdx, ← hn]; exact walk_en, hG, fun i F1 H1 v H2 hi m s y => ?_⟩⟩
  obtain ⟨T, x, y, rfl, hT, rfl, e1, e2⟩ := y
  cases e1
  obtain ⟨d, e3, e4⟩ := hx i y e2
  have g := Grow.lay (o := .tup [.int (i : Nat), y]) s hT
  refine ⟨_, .tup [.int (i : Nat), d], ?_, g, .tup (SqT.of upd_same) (.cons .int (.cons ((e4.mono m).mono g.mono) .nil))⟩
  unfold enumD
  rw [List.getElem?_mapIdx, e3]
  rfl
def gEnum (ga : SEnv → Out D) : SEnv → Out (List D) := fun env => (ga env).bind fun d e => ofL ((itemsD d).map enumD) e
theorem si_enum {elts : List Expr} {kk : Nat} {tpos : Pos} (hm : X.mg "enumerate" = none) (ha : SE X W a ga) (hg : Gl X "enumerate" := by rfl) (hs : starEach [a] X.env = (false, eval a X.env) :: starEach [] X.env := by rfl) : SI X W (.Tuple elts kk tpos) (.Call (.Name "enumerate" p) [a] [] pos) (gEnum ga) := by
  refine PI.imp (pi_enumA (ta := tCons (tE X.K X.mg W ga) tNil) hm (pa_cons ha pa_nil hs) hg hs) fun σ H R ⟨F, env, rel, res⟩ => ?_
  show tE X.K X.mg W ga σ H fun x H1 => _
  refine ⟨F, env, rel, (RES.bind (k := fun d e => ofL ((itemsD d).map enumD) e) res).mono ?_⟩
  rintro v H1 ⟨env1, F1, d, x1, rel1, rv, res1⟩
  cases rv <;> try exact res1.elim
  · rename_i z
    refine .inr (.inr ⟨_, rfl, res1 _ H1 F1 Ext.refl rel1 (it_enum (ds := signs z) (by simp [signs]) (fun _ _ => trivial) fun i x hx => ?_)⟩)
    cases q : z.cps[i]? with
    | none => rw [q] at hx; cases hx
    | some c =>
      rw [q] at hx
      cases hx
      exact ⟨.str ⟨#[c]⟩, by unfold signs; rw [List.getElem?_map, Array.getElem?_toList, q]; rfl, .str⟩
  · rename_i h r
    exact .inr (.inl ⟨_, _, rfl, sqT_mono rel1.sub h, res1 _ H1 F1 Ext.refl rel1 (it_enum r.length (fun H2 s => sqT_mono s h) fun i x hx => r.getV hx)⟩)
  · rename_i h r
    exact .inl ⟨_, _, rfl, .inl (.inl (rel1.sub _ _ h)), res1 _ H1 F1 Ext.refl rel1 (it_enum r.length (fun H2 s => .inl (.inl (s _ _ h))) fun i x hx => r.getV hx)⟩
/-! ### new lists -/
def tF (K : PySem.W.Frag) (mg : Str → Option Value) (W : WX) (g : SEnv → Out (List D)) : TE := fun σ H Q => ∃ F env, Rel K mg F σ H env ∧
  match g env with
  | .stuck => False
  | .ok ds env' => ∀ H1 F1 vs p, Ext σ env F H σ env' F1 H1 → Rel K mg F1 σ H1 env' → Reps K mg F1 vs ds → H1 p = none → Q (.ref p) (upd H1 p (.lst vs))
  | .exc x env' => ∀ cls da H' F', Ext σ env F H σ env' F' H' → Rel K mg F' σ H' env' → XRep K mg F' H' H x cls da → W cls da σ H'
def SF (X : Cx) (W : WX) (e : Expr) (g : SEnv → Out (List D)) : Prop := PE X e (tF X.K X.mg W g)
/-- .. as a value -/
theorem SF.se {gs : SEnv → Out (List D)} (h : SF X W e gs) : SE X W e (gLst gs) := by
  refine PE.imp h fun σ H Q ⟨F, env, rel, res⟩ => ⟨F, env, rel, ?_⟩
  unfold gLst at res
  cases o : gs env with
  | stuck => rw [o] at res; exact res
  | exc x e2 => rw [o] at res; exact res
  | ok ds e2 =>
    rw [o] at res
    intro H1 F1 vs q x1 rel1 rs hq
    have g := Grow.lay (o := .lst vs) rel1.sub hq
    exact res _ _ _ (x1.trans (g.ext rel1)) (rel1.grow g) (.lst upd_same (rs.mono g.mono))
theorem sf_lst {es : List Expr} {gs : SEnv → Out (List D)} (h : SA X W es gs) (hl : fits es.length = true := by rfl) : SF X W (.List es pos) gs := by
  refine PE.imp (pe_lst h.pa) fun σ H Q ⟨F, env, rel, res⟩ => ⟨F, env, rel, RES.len h.len ?_⟩
  cases o : gs env with
  | stuck => rw [o] at res; exact res
  | exc x e2 => rw [o] at res; exact res
  | ok ds e2 =>
    rw [o] at res
    intro vs H1 F1 x1 rel1 rs hn
    exact ⟨by rw [hn]; exact fits_line hl, fun q hq => res H1 F1 vs q x1 rel1 rs hq⟩
/-- list(e) -/
def gListOf (ga : SEnv → Out D) : SEnv → Out (List D) := fun env => (ga env).bind fun d e => match d with
  | .tup ds => .ok ds e
  | .lst ds => .ok ds e
  | _ => .stuck
theorem sf_listOf (hm : X.mg "list" = none) (ha : SE X W a ga) (hg : Gl X "list" := by rfl) (hs : starEach [a] X.env = (false, eval a X.env) :: starEach [] X.env := by rfl) : SF X W (.Call (.Name "list" p) [a] [] pos) (gListOf ga) := by
  have hpl : (backTo pos (starEach [] X.env)).any (·.1) = false := rfl
  refine PE.imp (pe_callTy (t := tCons (tE X.K X.mg W ga) tNil) call_list_of hg hm (by decide +kernel) (pa_cons ha pa_nil hs) (by decide) (by decide) hs hpl) fun σ H Q ⟨F, env, rel, res⟩ => ?_
  show tE X.K X.mg W ga σ H fun x H1 => _
  refine ⟨F, env, rel, ?_⟩
  unfold gListOf at res
  cases o : ga env with
  | stuck => rw [o] at res; exact res
  | exc x e2 => rw [o] at res; exact res
  | ok d e2 =>
    rw [o] at res
    intro v H1 F1 x1 rel1 rv
    cases rv <;> try exact res.elim
    · rename_i h r
      exact ⟨_, _, rfl, .inr (sqT_mono rel1.sub h), fun q hq => res H1 F1 _ q x1 rel1 r hq⟩
    · rename_i h r
      exact ⟨_, _, rfl, .inl (.inl (.inl (rel1.sub _ _ h))), fun q hq => res H1 F1 _ q x1 rel1 r hq⟩
/-- slot i owns a new thing -/
def setOwn (i : Nat) (m : MO) (e : SEnv) : Option SEnv := match e[i]? with
  | some (.own true _) => none
  | _ => some (e.set i (.own false m))
theorem Rel.setOwn {K : PySem.W.Frag} {mg : Str → Option Value} {F H : Hp} {σ : L2.St} {env env' : SEnv} {i : Nat} {q : Addr} {o : HO} {m : MO} (r : Rel K mg F σ H env) (hq : H q = none) (ho : OwnAt K mg F (upd H q o) q m) (h : setOwn i m env = some env') :
    Ext σ env F H (σ.set i (some (.ref q))) env' F (upd H q o) ∧ Rel K mg F (σ.set i (some (.ref q))) (upd H q o) env' := by
  have g := Grow.skip (o := o) r.sub hq
  have fq : F q = none := by
    cases z : F q with
    | none => rfl
    | some u => rw [r.sub q u z] at hq; cases hq
  have old : ∀ {j : Nat} {io : Bool} {m : MO} {b : Addr}, env[j]? = some (Sl.own io m) → σ[j]? = some (some (V.ref b)) → b ≠ q := fun {j io m b} w s z => by
    obtain ⟨b', e1, _, e3⟩ := r.own j io m w
    rw [s] at e1
    cases e1
    obtain ⟨u, hu⟩ := e3.there
    rw [z, hq] at hu
    cases hu
  have x0 := g.ext r
  have r := r.grow g
  have hn : (∀ m, env[i]? ≠ some (.own true m)) ∧ env' = env.set i (.own false m) := by
    unfold RL.setOwn at h
    split at h
    · cases h
    · rename_i hh
      exact ⟨fun m e => hh m e, (Option.some.inj h).symm⟩
  obtain ⟨hn, rfl⟩ := hn
  have key : ∀ (j : Nat) (s : Sl), (env.set i (Sl.own false m))[j]? = some s → (i = j ∧ s = .own false m ∧ i < env.length) ∨ (i ≠ j ∧ env[j]? = some s) := fun j s w => by
    by_cases z : i = j
    · subst z
      rw [List.getElem?_set_self'] at w
      cases z : env[i]? with
      | none => rw [z] at w; cases w
      | some y => rw [z] at w; cases w; exact .inl ⟨rfl, rfl, (List.getElem?_eq_some_iff.mp z).1⟩
    · rw [List.getElem?_set_ne z] at w; exact .inr ⟨z, w⟩
  have ks : ∀ j, i ≠ j → (σ.set i (some (V.ref q)))[j]? = σ[j]? := fun j z => List.getElem?_set_ne z
  refine ⟨⟨x0.mono, x0.new, x0.keep, fun b w => ?_, fun j m0 w => ?_, fun j m0 w => ?_, by simp, x0.there⟩, ⟨by simp [r.len], r.sub, fun j x w => ?_, fun j io m0 w => ?_, fun j k io jo m0 n0 b ne w1 w2 s1 s2 => ?_⟩⟩
  · obtain ⟨j, io, m0, w, s⟩ := w
    rcases key j _ w with ⟨rfl, e2, hl⟩ | ⟨z, w⟩
    · rw [List.getElem?_set_self (by rw [r.len]; exact hl)] at s
      cases s
      exact .inr hq
    · rw [ks j z] at s
      exact .inl ⟨j, io, m0, w, s⟩
  · rcases key j _ w with ⟨rfl, e2, hl⟩ | ⟨z, w⟩
    · cases e2
    · exact ⟨⟨m0, w⟩, ks j z⟩
  · have z : i ≠ j := fun z => by subst z; exact hn m0 w
    exact ⟨m0, by rw [List.getElem?_set_ne z]; exact w⟩
  · rcases key j _ w with ⟨rfl, e2, hl⟩ | ⟨z, w⟩
    · cases e2
    · rw [ks j z]; exact r.val j x w
  · rcases key j _ w with ⟨rfl, e2, hl⟩ | ⟨z, w⟩
    · cases e2
      exact ⟨q, by rw [List.getElem?_set_self (by rw [r.len]; exact hl)], fq, ho⟩
    · rw [ks j z]; exact r.own j io m0 w
  · rcases key j _ w1 with ⟨rfl, e2, hl⟩ | ⟨z, w1⟩
    · rcases key k _ w2 with ⟨rfl, _, _⟩ | ⟨z2, w2⟩
      · exact ne rfl
      · rw [List.getElem?_set_self (by rw [r.len]; exact hl)] at s1
        cases s1
        rw [ks k z2] at s2
        exact old w2 s2 rfl
    · rw [ks j z] at s1
      rcases key k _ w2 with ⟨rfl, _, hl⟩ | ⟨z2, w2⟩
      · rw [List.getElem?_set_self (by rw [r.len]; exact hl)] at s2
        cases s2
        exact old w1 s1 rfl
      · rw [ks k z2] at s2
        exact r.sep j k _ _ _ _ b ne w1 w2 s1 s2
def gOwnL (i : Nat) (gs : SEnv → Out (List D)) : SEnv → SOut := fun env => (gs env).toS fun ds e => match setOwn i (.lst ds) e with
  | none => .stuck
  | some e' => .next e'
/-- x = a new list, x to be changed -/
theorem ss_own (i : Nat) {x : Str} {gs : SEnv → Out (List D)} (hN : X.N.Nodup) (he : SF X W e gs) (hi : X.N[i]? = some x := by rfl) (hx : Loc X.env.scope x := by first | exact Or.inl rfl | exact Or.inr rfl) (hs : swapsWith e (some (.Name x pos')) pos.line X.env = pure false := by rfl)
    (hf : X.fn x = true ∨ X.env.scope.names.lookup x = some .local := by first | exact .inl rfl | exact .inr rfl | assumption) : SS X W (.Assign [.Name x pos'] e pos) (gOwnL i gs) := by
  refine PS.imp (ps_set hN hi hx he hs hf) fun D σ H ⟨F, env, rel, res⟩ => ⟨F, env, rel, ?_⟩
  unfold gOwnL at res
  cases o : gs env with
  | stuck => rw [o] at res; exact res
  | exc x e2 => rw [o] at res; exact fun cls da H' F' y r z => res cls da σ H' F' y r z
  | ok ds e2 =>
    rw [o] at res
    intro H1 F1 vs q x1 rel1 rs hq
    simp only [Out.toS] at res
    cases w : setOwn i (.lst ds) e2 with
    | none => simp only [w] at res; exact res.elim
    | some e' =>
      simp only [w] at res
      obtain ⟨y, r⟩ := rel1.setOwn (o := .lst vs) (m := .lst ds) hq ⟨vs, upd_same, rs⟩ w
      exact res _ _ _ (x1.trans y) r
/-! ### lists that change -/
def gIxO (i : Nat) (gb : SEnv → Out D) : SEnv → Out D := fun env => match env[i]? with
  | some (.own _ _) => (gb env).bind fun d e => match e[i]?, d with
    | some (.own _ (.lst xs)), .int k => ofO (atI xs k) e
    | _, _ => .stuck
  | _ => .stuck
theorem se_ixO (i : Nat) {x : Str} (hb : SE X W b gb) (hN : X.N[i]? = some x := by rfl) (hv : Vis X.env.scope x := by first | exact Or.inl rfl | exact Or.inr (Or.inl rfl) | exact Or.inr (Or.inr rfl)) (hs : PlainIx b := by intro _ _; rfl)
    (hd : (x == ("__debug__" : Str)) = false := by decide) (hcd : (x == ("__classdict__" : Str)) = false := by decide) : SE X W (.Subscript (.Name x p) b pos) (gIxO i gb) := by
  refine PE.imp (pe_ix ix_list (pe_var hN hv hd hcd) hb hs) fun σ H Q ⟨F, env, rel, res⟩ => ?_
  unfold gIxO at res
  cases e0 : env[i]? with
  | none => simp only [e0] at res; exact res.elim
  | some y =>
    cases y with
    | un => simp only [e0] at res; exact res.elim
    | d _ => simp only [e0] at res; exact res.elim
    | own io m =>
      simp only [e0] at res
      obtain ⟨q, s1, _⟩ := rel.ownV e0
      refine ⟨_, s1, F, env, rel, (RES.bind (k := fun d e => match e[i]?, d with | some (.own _ (.lst xs)), .int k => ofO (atI xs k) e | _, _ => .stuck) res).mono ?_⟩
      rintro v H1 ⟨env1, F1, d, x1, rel1, rv, res1⟩
      cases e1 : env1[i]? with
      | none => simp only [e1] at res1; exact res1.elim
      | some y =>
        cases y with
        | un => simp only [e1] at res1; exact res1.elim
        | d _ => simp only [e1] at res1; exact res1.elim
        | own io1 m1 =>
          cases m1 with
          | ins _ _ => simp only [e1] at res1; exact res1.elim
          | lst xs =>
            cases rv <;> try (simp only [e1] at res1; exact res1.elim)
            simp only [e1] at res1
            obtain ⟨q1, s2, n1, ws, h1, h2⟩ := rel1.ownV e1
            rw [s1] at s2
            cases s2
            rename_i k
            cases z : atI xs k with
            | none => rw [z] at res1; exact res1.elim
            | some d =>
              rw [z] at res1
              obtain ⟨w, z1, z2⟩ := h2.atI z
              exact ⟨_, _, _, w, rfl, rfl, .inl (.inl h1), z1, res1 _ H1 F1 Ext.refl rel1 z2⟩
/-- x[b] = e -/
def setIx (i : Nat) (k : Int) (d : D) (e : SEnv) : Option SEnv := match e[i]? with
  | some (.own io (.lst xs)) => match ixN xs.length k with
    | some j => some (e.set i (.own io (.lst (xs.set j d))))
    | none => none
  | _ => none
def gSetIx (i : Nat) (gb ge : SEnv → Out D) : SEnv → SOut := fun env => (ge env).toS fun d e => match e[i]? with
  | some (.own _ _) => (gb e).toS fun k e1 => match k with
    | .int k => match setIx i k d e1 with
      | none => .stuck
      | some e' => .next e'
    | _ => .stuck
  | _ => .stuck
theorem ss_setIx (i : Nat) {x : Str} {pt : Pos} (he : SE X W e ge) (hb : SE X W b gb) (hN : X.N[i]? = some x := by rfl) (hv : Vis X.env.scope x := by first | exact Or.inl rfl | exact Or.inr (Or.inl rfl) | exact Or.inr (Or.inr rfl))
    (hd : (x == ("__debug__" : Str)) = false := by decide) (hcd : (x == ("__classdict__" : Str)) = false := by decide)
    (hs : swapsWithSole [.Subscript (.Name x p) b pt] e pos.line X.env = pure false := by rfl) (hw : swappedStores [.Subscript (.Name x p) b pt] e X.env = pure none := by rfl) (h1 : (assignEach [.Subscript (.Name x p) b pt] X.env).map (·.2) = [assign (.Subscript (.Name x p) b pt) X.env] := by rfl)
    (hA : ∀ v, assign (.Subscript (.Name x p) b pt) X.env v = (do
      let at0 ← holding [v] (eval (.Name x p) X.env)
      let at1 ← holding [v, at0] (eval b X.env)
      standAt pt
      holding [v, at0, at1] (setItem at0 at1 v)
      release [v, at0, at1] []) := by intro _; rfl) : SS X W (.Assign [.Subscript (.Name x p) b pt] e pos) (gSetIx i gb ge) := by
  have hg : PG X (.Subscript (.Name x p) b pt) (gSub (tVar i) (tE X.K X.mg W gb) rSetL) := pg_sub (pe_var hN hv hd hcd) hb set_list hA
  refine PS.imp (ps_asg he hg hs hw h1) fun D σ H ⟨F, env, rel, res⟩ => ?_
  refine ⟨F, env, rel, (RS.ofE (k := fun d e => match e[i]? with | some (.own _ _) => ((gb e).toS fun k e1 => match k with | .int k => (match setIx i k d e1 with | none => .stuck | some e' => .next e') | _ => .stuck) | _ => .stuck) res).mono ?_⟩
  rintro v H1 ⟨env1, F1, d, x1, rel1, rv, res1⟩
  cases e0 : env1[i]? with
  | none => simp only [e0] at res1; exact res1.elim
  | some y =>
    cases y with
    | un => simp only [e0] at res1; exact res1.elim
    | d _ => simp only [e0] at res1; exact res1.elim
    | own io m =>
      simp only [e0] at res1
      obtain ⟨q, s1, _⟩ := rel1.ownV e0
      refine ⟨_, s1, F1, env1, rel1, (RS.ofE (k := fun k e1 => match k with | .int k => (match setIx i k d e1 with | none => .stuck | some e' => .next e') | _ => .stuck) res1).mono ?_⟩
      rintro w H2 ⟨env2, F2, k, x2, rel2, rk, res2⟩
      cases rk <;> try exact res2.elim
      rename_i k
      unfold setIx at res2
      cases e1 : env2[i]? with
      | none => simp only [e1] at res2; exact res2.elim
      | some y =>
        cases y with
        | un => simp only [e1] at res2; exact res2.elim
        | d _ => simp only [e1] at res2; exact res2.elim
        | own io1 m1 =>
          cases m1 with
          | ins _ _ => simp only [e1] at res2; exact res2.elim
          | lst xs =>
            simp only [e1] at res2
            obtain ⟨q1, s2, n1, ws, h1, h2⟩ := rel2.ownV e1
            rw [s1] at s2
            cases s2
            cases z : ixN xs.length k with
            | none => simp only [z] at res2; exact res2.elim
            | some j =>
              simp only [z] at res2
              obtain ⟨y, r⟩ := rel2.mutate (m' := .lst (xs.set j d)) (o := .lst (ws.set j v)) e1 s1 ⟨_, upd_same, h2.set (Rep.mono x2.mono rv) j⟩
              exact ⟨_, _, _, j, rfl, rfl, h1, by rw [h2.length]; exact z, res2 _ _ _ y r⟩
/-- x.append(e) -/
def gAppend (i : Nat) (ge : SEnv → Out D) : SEnv → Out D := fun env => match env[i]? with
  | some (.own _ (.lst _)) => (ge env).bind fun d e => match e[i]? with
    | some (.own io (.lst xs)) => if fits xs.length then .ok .non (e.set i (.own io (.lst (xs ++ [d])))) else .stuck
    | _ => .stuck
  | _ => .stuck
theorem se_append (i : Nat) {x : Str} {apos : Pos} (h : PE X (.Call (.Attribute (.Name x p) "append" apos) [e] [] pos) (tBM X.K "list" rAppend (tVar i) (tCons (tE X.K X.mg W ge) tNil))) : SE X W (.Call (.Attribute (.Name x p) "append" apos) [e] [] pos) (gAppend i ge) := by
  refine PE.imp h fun σ H Q ⟨F, env, rel, res⟩ => ?_
  unfold gAppend at res
  cases e0 : env[i]? with
  | none => simp only [e0] at res; exact res.elim
  | some y =>
    cases y with
    | un => simp only [e0] at res; exact res.elim
    | d _ => simp only [e0] at res; exact res.elim
    | own io m =>
      cases m with
      | ins _ _ => simp only [e0] at res; exact res.elim
      | lst xs0 =>
        simp only [e0] at res
        obtain ⟨q, s1, _, ws0, h0, _⟩ := rel.ownV e0
        refine ⟨_, s1, .inl ⟨rfl, ws0, .inl (.inl h0)⟩, ?_⟩
        show tE X.K X.mg W ge σ H fun y H1 => rAppend (.ref q) [y] H1 Q
        refine ⟨F, env, rel, (RES.bind (k := fun d e => match e[i]? with | some (.own io (.lst xs)) => if fits xs.length then .ok D.non (e.set i (.own io (.lst (xs ++ [d])))) else .stuck | _ => .stuck) res).mono ?_⟩
        rintro v H1 ⟨env1, F1, d, x1, rel1, rv, res1⟩
        cases e1 : env1[i]? with
        | none => simp only [e1] at res1; exact res1.elim
        | some y =>
          cases y with
          | un => simp only [e1] at res1; exact res1.elim
          | d _ => simp only [e1] at res1; exact res1.elim
          | own io1 m1 =>
            cases m1 with
            | ins _ _ => simp only [e1] at res1; exact res1.elim
            | lst xs =>
              simp only [e1] at res1
              split at res1
              · rename_i hf
                obtain ⟨q1, s2, n1, ws, h1, h2⟩ := rel1.ownV e1
                rw [s1] at s2
                cases s2
                obtain ⟨y, r⟩ := rel1.mutate (m' := .lst (xs ++ [d])) (o := .lst (ws ++ [v])) e1 s1 ⟨_, upd_same, h2.append (.cons rv .nil)⟩
                exact ⟨_, ws, v, rfl, rfl, h1, by rw [h2.length]; exact fits_lt hf, res1 _ _ _ y r .non⟩
              · exact res1.elim
end
end RL

/-! RL12: comprehensions -/
namespace RL
open PySem L2 PyProof.Rows PySem.Spec

abbrev W0 : WX := fun _ _ _ _ => False
/-- the slots vs are blank -/
def blank (env : SEnv) (vs : List Nat) : Bool := vs.all fun i => match env[i]? with
  | some .un => true
  | none => true
  | _ => false
def blankE (env : SEnv) : List Nat → SEnv
  | [] => env
  | v :: vs => (blankE env vs).set v .un
theorem blankE_len (env : SEnv) : ∀ vs : List Nat, (blankE env vs).length = env.length
  | [] => rfl
  | v :: vs => by unfold blankE; rw [List.length_set, blankE_len env vs]
theorem blankE_get {env : SEnv} {j : Nat} {s : Sl} : ∀ {vs : List Nat}, (blankE env vs)[j]? = some s → s ≠ .un → env[j]? = some s ∧ j ∉ vs
  | [], h, _ => ⟨h, by simp⟩
  | v :: vs, h, hs => by
    unfold blankE at h
    by_cases z : v = j
    · subst z
      rw [List.getElem?_set_self'] at h
      cases w : (blankE env vs)[v]? with
      | none => rw [w] at h; cases h
      | some y => rw [w] at h; simp only [Option.map_eq_map, Option.map_some, Option.some.injEq] at h; exact absurd h.symm hs
    · rw [List.getElem?_set_ne z] at h
      obtain ⟨h1, h2⟩ := blankE_get h hs
      exact ⟨h1, by simp [h2, Ne.symm z]⟩
theorem blankE_of {env : SEnv} {j : Nat} {s : Sl} : ∀ {vs : List Nat}, env[j]? = some s → j ∉ vs → (blankE env vs)[j]? = some s
  | [], h, _ => h
  | v :: vs, h, hn => by
    unfold blankE
    simp only [List.mem_cons, not_or] at hn
    rw [List.getElem?_set_ne (Ne.symm hn.1)]
    exact blankE_of h hn.2
theorem blankE_blank {env : SEnv} {vs : List Nat} : blank (blankE env vs) vs = true := by
  unfold blank
  rw [List.all_eq_true]
  intro i hi
  cases w : (blankE env vs)[i]? with
  | none => rfl
  | some s =>
    cases s with
    | un => rfl
    | d x => exact absurd hi (blankE_get w (by simp)).2
    | own io m => exact absurd hi (blankE_get w (by simp)).2
theorem blank_get {env : SEnv} {vs : List Nat} {j : Nat} {s : Sl} (b : blank env vs = true) (h : env[j]? = some s) (hs : s ≠ .un) : j ∉ vs := fun hj => by
  have := List.all_eq_true.mp b j hj
  rw [h] at this
  cases s with
  | un => exact hs rfl
  | d _ => cases this
  | own _ _ => cases this
theorem wipe_get {σ : L2.St} {j : Nat} : ∀ {vs : List Nat}, j ∉ vs → (wipe σ vs)[j]? = σ[j]?
  | [], _ => rfl
  | v :: vs, h => by
    simp only [List.mem_cons, not_or] at h
    unfold wipe
    rw [List.getElem?_set_ne (Ne.symm h.1)]
    exact wipe_get h.2
theorem wipe_in {σ : L2.St} {j : Nat} : ∀ {vs : List Nat}, j ∈ vs → j < σ.length → (wipe σ vs)[j]? = some none
  | v :: vs, h, hl => by
    unfold wipe
    by_cases z : v = j
    · subst z; rw [List.getElem?_set_self (by rw [wipe_length]; exact hl)]
    · rw [List.getElem?_set_ne z]
      exact wipe_in (by simpa [Ne.symm z] using h) hl
theorem wipe_eq {σ σ2 : L2.St} {vs : List Nat} (hl : σ2.length = σ.length) (h : ∀ i, i ∉ vs → σ2[i]? = (wipe σ vs)[i]?) : wipe σ2 vs = wipe σ vs := by
  refine List.ext_getElem? fun j => ?_
  by_cases hj : j ∈ vs
  · by_cases hb : j < σ.length
    · rw [wipe_in hj (by rw [hl]; exact hb), wipe_in hj hb]
    · rw [List.getElem?_eq_none_iff.mpr (by rw [wipe_length, hl]; omega), List.getElem?_eq_none_iff.mpr (by rw [wipe_length]; omega)]
  · rw [wipe_get hj, h j hj]
/-- the heap without the list that is being made -/
def less (H : Hp) (a : Addr) : Hp := fun b => if b = a then none else H b
theorem less_same {H : Hp} {a : Addr} : less H a a = none := if_pos rfl
theorem less_ne {H : Hp} {a b : Addr} (h : b ≠ a) : less H a b = H b := if_neg h
theorem upd_less {H : Hp} {a : Addr} {o : HO} (h : H a = some o) : upd (less H a) a o = H := by
  funext b
  by_cases w : b = a
  · rw [w, upd_same, h]
  · rw [upd_ne w, less_ne w]
theorem less_upd {H : Hp} {a : Addr} {o : HO} (h : H a = none) : less (upd H a o) a = H := by
  funext b
  by_cases w : b = a
  · rw [w, less_same, h]
  · rw [less_ne w, upd_ne w]
section
variable {K : PySem.W.Frag} {mg : Str → Option Value} {F F2 H H2 : Hp} {σ σ2 : L2.St} {env e2 : SEnv} {vs : List Nat} {L : Addr} {ws : List V}
/-- into the block -/
theorem Rel.into (r : Rel K mg F σ (less H L) env) (b : blank env vs = true) : Rel K mg F (wipe σ vs) H env := by
  have up : ∀ a o, less H L a = some o → H a = some o := fun a o q => by
    by_cases w : a = L
    · rw [w, less_same] at q; cases q
    · rwa [less_ne w] at q
  refine ⟨by rw [wipe_length]; exact r.len, fun a o q => up a o (r.sub a o q), fun j d q => ?_, fun j io m q => ?_, fun i j io jo m n a ne q1 q2 s1 s2 => ?_⟩
  · rw [wipe_get (blank_get b q (by simp))]; exact r.val j d q
  · rw [wipe_get (blank_get b q (by simp))]
    obtain ⟨a, e1, e3, e4⟩ := r.own j io m q
    refine ⟨a, e1, e3, ?_⟩
    cases m with
    | lst ds => obtain ⟨us, h1, h2⟩ := e4; exact ⟨us, up _ _ h1, h2⟩
    | ins c fs => obtain ⟨C, dx, us, h1, h2, h3⟩ := e4; exact ⟨C, dx, us, h1, up _ _ h2, h3⟩
  · rw [wipe_get (blank_get b q1 (by simp))] at s1
    rw [wipe_get (blank_get b q2 (by simp))] at s2
    exact r.sep i j io jo m n a ne q1 q2 s1 s2
/-- out of the block -/
theorem Rel.outof (r : Rel K mg F σ (less H L) env) (b : blank env vs = true) (hL : H L = some (.lst ws)) (x : Ext (wipe σ vs) env F H σ2 e2 F2 H2) (r2 : Rel K mg F2 σ2 H2 e2) (ag : ∀ i, i ∉ vs → σ2[i]? = (wipe σ vs)[i]?) :
    Ext σ env F (less H L) σ (blankE e2 vs) F2 (less H2 L) ∧ Rel K mg F2 σ (less H2 L) (blankE e2 vs) ∧ H2 L = some (.lst ws) ∧ F2 L = none := by
  have fl : F L = none := by
    cases z : F L with
    | none => rfl
    | some u => have := r.sub L u z; rw [less_same] at this; cases this
  have own1 : ∀ a, Own (wipe σ vs) env a ↔ Own σ env a := fun a => by
    constructor
    · rintro ⟨i, io, m, q, s⟩
      exact ⟨i, io, m, q, by rw [wipe_get (blank_get b q (by simp))] at s; exact s⟩
    · rintro ⟨i, io, m, q, s⟩
      exact ⟨i, io, m, q, by rw [wipe_get (blank_get b q (by simp))]; exact s⟩
  have noL : ¬ Own σ env L := by
    rintro ⟨i, io, m, q, s⟩
    obtain ⟨a, e1, e3, e4⟩ := r.own i io m q
    rw [s] at e1
    cases e1
    obtain ⟨u, hu⟩ := e4.there
    rw [less_same] at hu
    cases hu
  have hL2 : H2 L = some (.lst ws) := x.keep L _ hL fun z => noL ((own1 L).mp z)
  have fl2 : F2 L = none := by
    cases z : F2 L with
    | none => rfl
    | some u =>
      rcases x.new L u z with w | w | w
      · rw [fl] at w; cases w
      · rw [hL] at w; cases w
      · exact (noL ((own1 L).mp w)).elim
  have nl : ∀ a o, F2 a = some o → a ≠ L := fun a o q => ne_of_none q fl2
  have at2 : ∀ {j : Nat} {s : Sl}, (blankE e2 vs)[j]? = some s → s ≠ .un → e2[j]? = some s ∧ σ2[j]? = σ[j]? := fun {j s} q hs => by
    obtain ⟨q1, q2⟩ := blankE_get q hs
    exact ⟨q1, by rw [ag j q2, wipe_get q2]⟩
  have own2 : ∀ {a}, Own σ (blankE e2 vs) a → Own σ2 e2 a := by
    rintro a ⟨i, io, m, q, s⟩
    obtain ⟨q1, q2⟩ := at2 q (by simp)
    exact ⟨i, io, m, q1, by rw [q2]; exact s⟩
  have noL2 : ¬ Own σ2 e2 L := fun z => by
    rcases x.own L z with w | w
    · exact noL ((own1 L).mp w)
    · rw [hL] at w; cases w
  refine ⟨⟨x.mono, fun a o q => ?_, fun a o q n => ?_, fun a q => ?_, fun j m q => ?_, fun j m q => ?_, rfl, fun a q => ?_⟩, ⟨by rw [blankE_len, ← r2.len, x.slen, wipe_length], fun a o q => ?_, fun j d q => ?_, fun j io m q => ?_, fun i j io jo m n a ne q1 q2 s1 s2 => ?_⟩, hL2, fl2⟩
  · rcases x.new a o q with w | w | w
    · exact .inl w
    · exact .inr (.inl (by rw [less_ne (nl a o q)]; exact w))
    · exact .inr (.inr ((own1 a).mp w))
  · have na : a ≠ L := fun w => by rw [w, less_same] at q; cases q
    rw [less_ne na] at q ⊢
    exact x.keep a o q fun z => n ((own1 a).mp z)
  · rcases x.own a (own2 q) with w | w
    · exact .inl ((own1 a).mp w)
    · exact .inr (by
        by_cases z : a = L
        · rw [z]; exact less_same
        · rw [less_ne z]; exact w)
  · obtain ⟨q1, q2⟩ := at2 q (by simp)
    exact ⟨(x.io j m q1).1, rfl⟩
  · obtain ⟨m0, q0⟩ := x.io' j m q
    exact ⟨m0, blankE_of q0 (blank_get b q (by simp))⟩
  · by_cases z : a = L
    · rw [z]; exact less_same
    · rw [less_ne z] at q ⊢; exact x.there a q
  · rw [less_ne (nl a o q)]; exact r2.sub a o q
  · obtain ⟨q1, q2⟩ := at2 q (by simp)
    rw [← q2]
    exact r2.val j d q1
  · obtain ⟨q1, q2⟩ := at2 q (by simp)
    obtain ⟨a, e1, e3, e4⟩ := r2.own j io m q1
    have na : a ≠ L := fun w => noL2 ⟨j, io, m, q1, by rw [e1, w]⟩
    refine ⟨a, by rw [← q2]; exact e1, e3, ?_⟩
    cases m with
    | lst ds => obtain ⟨us, h1, h2⟩ := e4; exact ⟨us, by rw [less_ne na]; exact h1, h2⟩
    | ins c fs => obtain ⟨C, dx, us, h1, h2, h3⟩ := e4; exact ⟨C, dx, us, h1, by rw [less_ne na]; exact h2, h3⟩
  · obtain ⟨q1, q3⟩ := at2 q1 (by simp)
    obtain ⟨q2, q4⟩ := at2 q2 (by simp)
    rw [← q3] at s1
    rw [← q4] at s2
    exact r2.sep i j io jo m n a ne q1 q2 s1 s2
end
/-- one turn after the other: h the target, tt the test, ge the element, vs the block's own slots -/
def loopC (h : D → SEnv → Option SEnv) (tt : SEnv → Out Bool) (ge : SEnv → Out D) (vs : List Nat) : List D → SEnv → List D → Out (List D)
  | [], e, acc => .ok acc e
  | d :: ds, e, acc => match h d e with
    | none => .stuck
    | some e1 => match tt e1 with
      | .ok true e2 => match ge e2 with
        | .ok y e3 => if fits acc.length then loopC h tt ge vs ds (blankE e3 vs) (acc ++ [y]) else .stuck
        | _ => .stuck
      | .ok false e2 => loopC h tt ge vs ds (blankE e2 vs) acc
      | _ => .stuck
def gComp (gi : SEnv → Out (List D)) (h : D → SEnv → Option SEnv) (tt : SEnv → Out Bool) (ge : SEnv → Out D) (vs : List Nat) : SEnv → Out (List D) := fun env => (gi env).bind fun ds e => if blank e vs then loopC h tt ge vs ds e [] else .stuck
theorem loopC_exc {h : D → SEnv → Option SEnv} {tt : SEnv → Out Bool} {ge : SEnv → Out D} {vs : List Nat} {x : Xn} {e' : SEnv} : ∀ {ds : List D} {e : SEnv} {acc : List D}, loopC h tt ge vs ds e acc ≠ .exc x e'
  | [], e, acc, q => by cases q
  | d :: ds, e, acc, q => by
    unfold loopC at q
    cases o : h d e with
    | none => simp only [o] at q; cases q
    | some e1 =>
      simp only [o] at q
      cases o2 : tt e1 with
      | stuck => simp only [o2] at q; cases q
      | exc y e2 => simp only [o2] at q; cases q
      | ok k e2 =>
        cases k with
        | false => simp only [o2] at q; exact loopC_exc q
        | true =>
          simp only [o2] at q
          cases o3 : ge e2 with
          | stuck => simp only [o3] at q; cases q
          | exc y e3 => simp only [o3] at q; cases q
          | ok y e3 =>
            simp only [o3] at q
            split at q
            · exact loopC_exc q
            · cases q
def gYes : SEnv → Out Bool := fun env => .ok true env
def STs (X : Cx) (W : WX) (ifs : List Expr) (g : SEnv → Out Bool) : Prop := PTs X ifs (tT X.K X.mg W g)
theorem PTs.imp {X : Cx} {ifs : List Expr} {t u : TT} (h : PTs X ifs t) (i : ∀ σ H Q, u σ H Q → t σ H Q) : PTs X ifs u := ⟨fun pins s σ H Q I q => h.run pins s σ H Q I (i σ H Q q)⟩
section
variable {X : Cx} {W : WX} {pos : Pos}
theorem sts_nil : STs X W [] gYes := PTs.imp pts_nil fun σ H Q ⟨F, env, rel, res⟩ => res true H F Ext.refl rel rfl
theorem sts_one {c : Expr} {g : SEnv → Out Bool} (h : ST X W c g) : STs X W [c] g := pts_one h
/-- the reading of a comprehension -/
theorem comp_imp {gi : SEnv → Out (List D)} {h : D → SEnv → Option SEnv} {gt : SEnv → Out Bool} {ge : SEnv → Out D} {vs us : List Nat} (hus : ∀ i, i ∈ us → i ∈ vs) (σ : L2.St) (H : Hp) (Q : VK) (q : tF X.K X.mg W (gComp gi h gt ge vs) σ H Q) :
    tLc (tI X.K X.mg W gi) (tG X.K X.mg h us) (tT X.K X.mg W0 gt) (tE X.K X.mg W0 ge) vs σ H Q := by
  obtain ⟨F, env, rel, res⟩ := q
  refine ⟨F, env, rel, ?_⟩
  unfold gComp at res
  cases o : gi env with
  | stuck => rw [o] at res; exact res
  | exc x e2 => rw [o] at res; exact res
  | ok items env1 =>
    rw [o] at res
    simp only [Out.bind] at res
    intro J H1 F1 x1 rel1 ⟨G, Y, wk, hG, hY⟩ L hL
    by_cases hb : blank env1 vs = true
    · simp only [hb, if_true] at res
      -- what holds between two turns
      refine lc_it wk (fun i H' => ∃ F' env' us acc, Ext σ env F H σ env' F' (less H' L) ∧ Rel X.K X.mg F' σ (less H' L) env' ∧ blank env' vs = true ∧ (∀ a o, F1 a = some o → F' a = some o) ∧ H' L = some (.lst us) ∧ Reps X.K X.mg F' us acc ∧
        loopC h gt ge vs (items.drop i) env' acc = loopC h gt ge vs items env1 []) ⟨F1, env1, [], [], ?_, ?_, hb, fun _ _ z => z, upd_same, .nil, rfl⟩ ?_ ?_ ?_
      · rw [less_upd hL]; exact x1
      · rw [less_upd hL]; exact rel1
      · rintro i H' _ ⟨F', env', us', acc, _, r', _, m', _, _, _⟩
        refine hG H' fun a o z => ?_
        have z2 := r'.sub a o (m' a o z)
        by_cases w : a = L
        · rw [w, less_same] at z2; cases z2
        · rwa [less_ne w] at z2
      · rintro i x H' H'' hi ⟨F', env', us', acc, x', r', b', m', hL', rs', eq'⟩ y
        have rin := r'.into (vs := vs) b'
        obtain ⟨F3, d, hd, gr, rx⟩ := hY i F' H' x H'' hi m' rin.sub y
        have rin3 := rin.grow gr
        have xin3 := gr.ext rin
        rw [List.drop_eq_getElem?_toList_append, hd] at eq'
        simp only [Option.toList_some, List.singleton_append] at eq'
        rw [← eq'] at res
        rw [show loopC h gt ge vs (d :: items.drop (i + 1)) env' acc = (match h d env' with
          | none => .stuck
          | some e1 => match gt e1 with
            | .ok true e2 => (match ge e2 with
              | .ok y e3 => if fits acc.length then loopC h gt ge vs (items.drop (i + 1)) (blankE e3 vs) (acc ++ [y]) else .stuck
              | _ => .stuck)
            | .ok false e2 => loopC h gt ge vs (items.drop (i + 1)) (blankE e2 vs) acc
            | _ => .stuck) from rfl] at res eq'
        cases o1 : h d env' with
        | none => simp only [o1] at res
        | some e1 =>
          simp only [o1] at res eq'
          refine ⟨F3, env', d, rin3, rx, e1, o1, fun σ4 H4 F4 x4 rel4 k4 => ⟨wipe_eq (by rw [x4.slen, wipe_length]) fun i hi => k4 i fun z => hi (hus i z), F4, e1, rel4, ?_⟩⟩
          have ag : ∀ i, i ∉ vs → σ4[i]? = (wipe σ vs)[i]? := fun i hi => k4 i fun z => hi (hus i z)
          cases o2 : gt e1 with
          | stuck => simp only [o2] at res
          | exc xx e2 => simp only [o2] at res
          | ok k e2 =>
            intro kb H5 F5 x5 rel5 rk
            have rk' : kb = k := rk
            subst rk'
            cases kb with
            | false =>
              simp only [o2] at res eq'
              refine iteF ?_
              have xx := (xin3.trans x4).trans x5
              obtain ⟨y1, y2, y3, y4⟩ := r'.outof b' hL' xx rel5 ag
              exact ⟨F5, blankE e2 vs, us', acc, x'.trans y1, y2, blankE_blank, fun a o z => xx.mono a o (m' a o z), y3, rs'.mono xx.mono, eq'⟩
            | true =>
              simp only [o2] at res eq'
              refine iteT ⟨F5, e2, rel5, ?_⟩
              cases o3 : ge e2 with
              | stuck => simp only [o3] at res
              | exc xx e3 => simp only [o3] at res
              | ok y e3 =>
                simp only [o3] at res eq'
                intro v H6 F6 x6 rel6 rv
                have xx := ((xin3.trans x4).trans x5).trans x6
                obtain ⟨y1, y2, y3, y4⟩ := r'.outof b' hL' xx rel6 ag
                by_cases hf : fits acc.length = true
                · simp only [hf, if_true] at res eq'
                  refine ⟨us', y3, by rw [rs'.length]; exact fits_lt hf, F6, blankE e3 vs, us' ++ [v], acc ++ [y], ?_, ?_, blankE_blank, fun a o z => xx.mono a o (m' a o z), upd_same, (rs'.mono xx.mono).append (.cons rv .nil), eq'⟩
                  · have e0 : less (upd H6 L (.lst (us' ++ [v]))) L = less H6 L := by
                      funext b
                      by_cases w : b = L
                      · rw [w, less_same, less_same]
                      · rw [less_ne w, less_ne w, upd_ne w]
                    rw [e0]
                    exact x'.trans y1
                  · have e0 : less (upd H6 L (.lst (us' ++ [v]))) L = less H6 L := by
                      funext b
                      by_cases w : b = L
                      · rw [w, less_same, less_same]
                      · rw [less_ne w, less_ne w, upd_ne w]
                    rw [e0]
                    exact y2
                · simp only [hf, Bool.false_eq_true, if_false] at res
      · rintro H' ⟨F', env', us', acc, x', r', b', m', hL', rs', eq'⟩
        rw [List.drop_length] at eq'
        rw [← eq'] at res
        have fin := res (less H' L) F' us' L x' r' rs' less_same
        rw [upd_less hL'] at fin
        exact fin
    · simp only [hb, Bool.false_eq_true, if_false] at res
theorem sf_comp {elt tg it : Expr} {ifs : List Expr} {scope : Scope} {own : List (Str × Nat)} {gi : SEnv → Out (List D)} {h : D → SEnv → Option SEnv} {gt : SEnv → Out Bool} {ge : SEnv → Out D} {us : List Nat} (hc : X.calm = true) (hN : X.N.Nodup) (hi : SI X W tg it gi)
    (ok : BlkOk X.N X.env.scope scope own) (hus : ∀ i, i ∈ us → i ∈ own.map (·.2))
    (hg : ∀ (s : Shared) (H : Hp) (C : Addr) (cl : List (Str × Addr)) (fp : List Addr), SG (X.blk s H scope (compEnvC scope cl C X.env) fp) tg h us)
    (ht : ∀ (s : Shared) (H : Hp) (C : Addr) (cl : List (Str × Addr)) (fp : List Addr), STs (X.blk s H scope (compEnvC scope cl C X.env) fp) W0 ifs gt)
    (he : ∀ (s : Shared) (H : Hp) (C : Addr) (cl : List (Str × Addr)) (fp : List Addr), SE (X.blk s H scope (compEnvC scope cl C X.env) fp) W0 elt ge) (hs : ∀ x, foldedSetIterable it X.env x = pure x := by intro _; rfl) :
    SF X W (.ListComp elt [⟨tg, it, ifs, 0⟩] scope pos) (gComp gi h gt ge (own.map (·.2))) := PE.imp (pe_lc (g := tG X.K X.mg h us) (tt := tT X.K X.mg W0 gt) (te := tE X.K X.mg W0 ge) hc hN hi ok (fun s H C cl fp => hg s H C cl fp) (fun s H C cl fp => ht s H C cl fp) (fun s H C cl fp => he s H C cl fp) hs) (comp_imp hus)
end
end RL

/-! RL13: chains, own ==, properties, texts' methods -/
namespace RL
open PySem L2 PyProof.Rows PySem.Spec

section
variable {X : Cx} {W : WX} {a b c e : Expr} {ga gb gc ge : SEnv → Out D} {pos pos' p p2 : Pos}
/-! ### comparisons give bools -/
theorem bl_int {g : Int → Int → Bool} : ∀ d e z, hInt (fun i j => .bl (g i j)) d e = some z → ∃ k, z = .bl k := fun d e z h => by
  cases d <;> cases e <;> simp [hInt] at h
  exact ⟨_, h.symm⟩
theorem bl_lt : ∀ d e z, hLt d e = some z → ∃ k, z = .bl k := bl_int
theorem bl_le : ∀ d e z, hLe d e = some z → ∃ k, z = .bl k := bl_int
theorem bl_gt : ∀ d e z, hGt d e = some z → ∃ k, z = .bl k := bl_int
theorem bl_ge : ∀ d e z, hGe d e = some z → ∃ k, z = .bl k := bl_int
theorem bl_eq : ∀ d e z, hEq d e = some z → ∃ k, z = .bl k := fun d e z h => by
  unfold hEq at h
  split at h
  · cases h; exact ⟨_, rfl⟩
  · split at h
    · cases h; exact ⟨_, rfl⟩
    · cases h
theorem bl_ne : ∀ d e z, hNe d e = some z → ∃ k, z = .bl k := fun d e z h => by
  unfold hNe at h
  split at h
  · cases h; exact ⟨_, rfl⟩
  · split at h
    · cases h; exact ⟨_, rfl⟩
    · cases h
theorem bl_isN : ∀ d e z, hIsN d e = some z → ∃ k, z = .bl k := fun d e z h => by
  cases e <;> simp [hIsN] at h
  exact ⟨_, h.symm⟩
theorem bl_notN : ∀ d e z, hNotN d e = some z → ∃ k, z = .bl k := fun d e z h => by
  cases e <;> simp [hNotN] at h
  exact ⟨_, h.symm⟩
theorem bl_in : ∀ d e z, hIn d e = some z → ∃ k, z = .bl k := fun d e z h => by
  unfold hIn at h
  split at h
  · split at h
    · cases h; exact ⟨_, rfl⟩
    · cases h
  · split at h
    · cases h; exact ⟨_, rfl⟩
    · cases h
  · split at h
    · cases h; exact ⟨_, rfl⟩
    · cases h
  · cases h
theorem bl_notIn : ∀ d e z, hNotIn d e = some z → ∃ k, z = .bl k := fun d e z h => by
  unfold hNotIn at h
  split at h
  · cases h; exact ⟨_, rfl⟩
  · cases h
/-! ### a < b < c -/
def gChain (h h' : D → D → Option D) (ga gb gc : SEnv → Out D) : SEnv → Out D := fun env => (ga env).bind fun d e1 => (gb e1).bind fun d2 e2 => match h d d2 with
  | some (.bl true) => (gc e2).bind fun d3 e3 => ofO (h' d2 d3) e3
  | some (.bl false) => .ok (.bl false) e2
  | _ => .stuck
theorem chain_imp {r r' : R2} {h h' : D → D → Option D}
    (hr : ∀ (F H : Hp) (x y : V) (d e z : D) (Q : VK), (∀ a o, F a = some o → H a = some o) → Rep X.K X.mg F x d → Rep X.K X.mg F y e → h d e = some z → (∀ v H' F', Grow F H F' H' → Rep X.K X.mg F' v z → Q v H') → r x y H Q)
    (hr' : ∀ (F H : Hp) (x y : V) (d e z : D) (Q : VK), (∀ a o, F a = some o → H a = some o) → Rep X.K X.mg F x d → Rep X.K X.mg F y e → h' d e = some z → (∀ v H' F', Grow F H F' H' → Rep X.K X.mg F' v z → Q v H') → r' x y H Q) (σ : L2.St) (H : Hp) (Q : VK)
    (q : tE X.K X.mg W (gChain h h' ga gb gc) σ H Q) : tChain r r' (tE X.K X.mg W ga) (tE X.K X.mg W gb) (tE X.K X.mg W gc) σ H Q := by
  obtain ⟨F, env, rel, res⟩ := q
  refine ⟨F, env, rel, (RES.bind (k := fun d e1 => (gb e1).bind fun d2 e2 => match h d d2 with | some (.bl true) => ((gc e2).bind fun d3 e3 => ofO (h' d2 d3) e3) | some (.bl false) => .ok (D.bl false) e2 | _ => .stuck) res).mono ?_⟩
  rintro x H1 ⟨env1, F1, d, x1, rel1, rx, res1⟩
  refine ⟨F1, env1, rel1, (RES.bind (k := fun d2 e2 => match h d d2 with | some (.bl true) => ((gc e2).bind fun d3 e3 => ofO (h' d2 d3) e3) | some (.bl false) => .ok (D.bl false) e2 | _ => .stuck) res1).mono ?_⟩
  rintro y H2 ⟨env2, F2, d2, x2, rel2, ry, res2⟩
  cases o : h d d2 with
  | none => simp only [o] at res2; exact res2.elim
  | some z =>
    cases z <;> try (simp only [o] at res2; exact res2.elim)
    rename_i k
    refine hr F2 H2 x y d d2 (.bl k) _ rel2.sub (Rep.mono x2.mono rx) ry o fun v H3 F3 g rv => ?_
    cases rv
    refine ⟨k, rfl, ?_⟩
    have rel3 := rel2.grow g
    cases k with
    | false =>
      simp only [o] at res2
      exact iteF (res2 _ H3 F3 (g.ext rel2) rel3 .bl)
    | true =>
      simp only [o] at res2
      refine iteT ⟨F3, env2, rel3, (RES.bind (k := fun d3 e3 => ofO (h' d2 d3) e3) (RES.ext (g.ext rel2) res2)).mono ?_⟩
      rintro w H4 ⟨env4, F4, d3, x4, rel4, rw', res4⟩
      cases o2 : h' d2 d3 with
      | none => rw [o2] at res4; exact res4.elim
      | some z =>
        rw [o2] at res4
        exact hr' F4 H4 y w d2 d3 z Q rel4.sub ((Rep.mono g.mono ry).mono x4.mono) rw' o2 fun v H' F' g' rv => res4 v H' F' (g'.ext rel4) (rel4.grow g') rv
theorem se_chain {op op' : CmpOp} {h h' : D → D → Option D} (ho : OpS X (compareOp op) h) (ho' : OpS X (compareOp op') h') (ha : SE X W a ga) (hb : SE X W b gb) (hc : SE X W c gc) (hm : lastMarks [op, op'] [b, c] = false := by with_unfolding_all rfl) : SE X W (.Compare a [op, op'] [b, c] pos) (gChain h h' ga gb gc) := by
  obtain ⟨r, hr, hs⟩ := ho
  obtain ⟨r', hr', hs'⟩ := ho'
  exact PE.imp (pe_chain hr hr' ha hb hc hm) (chain_imp hs hs')
theorem st_chain {op op' : CmpOp} {h h' : D → D → Option D} (ho : OpS X (compareOp op) h) (ho' : OpS X (compareOp op') h') (ha : SE X W a ga) (hb : SE X W b gb) (hc : SE X W c gc) (hbl : ∀ d e z, h' d e = some z → ∃ k, z = .bl k)
    (hm : lastMarks [op, op'] [b, c] = false := by with_unfolding_all rfl) : ST X W (.Compare a [op, op'] [b, c] pos) (gTru (gChain h h' ga gb gc)) := by
  obtain ⟨r, hr, hs⟩ := ho
  obtain ⟨r', hr', hs'⟩ := ho'
  refine PT.imp (pt_chain hr hr' ha hb hc hm) fun σ H Q q => ?_
  show tChain r r' (tE X.K X.mg W ga) (tE X.K X.mg W gb) (tE X.K X.mg W gc) σ H fun x H' => ∃ k, x = .bl k ∧ Q k H'
  refine chain_imp hs hs' σ H _ ?_
  obtain ⟨F, env, rel, res⟩ := q
  refine ⟨F, env, rel, ?_⟩
  have hk : ∀ d e, gChain h h' ga gb gc env = .ok d e → ∃ k, d = .bl k := by
    intro d e q
    unfold gChain at q
    cases h1 : ga env with
    | stuck => rw [h1] at q; cases q
    | exc x e => rw [h1] at q; cases q
    | ok d1 e1 =>
      rw [h1] at q
      simp only [Out.bind] at q
      cases h2 : gb e1 with
      | stuck => rw [h2] at q; cases q
      | exc x e => rw [h2] at q; cases q
      | ok d2 e2 =>
        rw [h2] at q
        simp only [Out.bind] at q
        split at q
        · cases h4 : gc e2 with
          | stuck => rw [h4] at q; cases q
          | exc x e => rw [h4] at q; cases q
          | ok d3 e3 =>
            rw [h4] at q
            simp only at q
            cases h5 : h' d2 d3 with
            | none => rw [h5] at q; cases q
            | some z => rw [h5] at q; cases q; exact hbl _ _ _ h5
        · cases q; exact ⟨_, rfl⟩
        · cases q
  unfold gTru at res
  cases o : gChain h h' ga gb gc env with
  | stuck => rw [o] at res; exact res
  | exc x e => rw [o] at res; exact res
  | ok d e =>
    rw [o] at res
    obtain ⟨k, rfl⟩ := hk d e o
    intro x H' F' y r z
    cases z
    exact ⟨k, rfl, res k H' F' y r rfl⟩
/-! ### -a -/
def hNeg : D → Option D
  | .int i => some (.int (-i))
  | _ => none
def gUn (h : D → Option D) (ga : SEnv → Out D) : SEnv → Out D := fun env => (ga env).bind fun d e => ofO (h d) e
theorem se_neg (ha : SE X W a ga) : SE X W (.UnaryOp .USub a pos) (gUn hNeg ga) := by
  refine PE.imp (pe_un un_neg ha) fun σ H Q ⟨F, env, rel, res⟩ => ?_
  refine ⟨F, env, rel, (RES.bind (k := fun d e => ofO (hNeg d) e) res).mono ?_⟩
  rintro x H1 ⟨env1, F1, d, x1, rel1, rx, res1⟩
  cases rx <;> try exact res1.elim
  exact ⟨_, rfl, res1 _ H1 F1 Ext.refl rel1 .int⟩
/-! ### {} -/
theorem se_dct0 : SE X W (.Dict [] [] pos) (gC .dct0) := by
  refine PE.imp pe_dnewK fun σ H Q ⟨F, env, rel, res⟩ => fun q hq => ?_
  have g := Grow.lay (o := .dK []) rel.sub hq
  exact res _ _ _ (g.ext rel) (rel.grow g) (.dct0 upd_same)
/-! ### properties -/
theorem se_prop {cn f y : Str} {C q g : Addr} {k : Nat} {fd : FuncData} (cf : ClsFacts X.K X.mg) (hC : X.mg cn = some (.ref C)) (hp : PropOf X.K C f q g) (Fo : FnOk X.prog X.w X.K X.mg X.base CX0 k g fd ["self"] (getSp C y)) (hr : Room (k + 1) X.A) (hb : Binds X.K fd ["self"] [])
    (ha : SE X W a ga) (hcl : Cls X.K C) (hab : attributeBase a f X.env (eval a X.env) = eval a X.env := by rfl) : SE X W (.Attribute a f pos) (gFld cn y ga) := by
  refine PE.imp (pe_prop ha hcl hp Fo hr hb .nil (pass0 (X := X.nox)) hab) fun σ H Q ⟨F, env, rel, res⟩ => ?_
  refine ⟨F, env, rel, (RES.bind (k := fun d e => match d with | .obj c' xs => if c' = cn then ofO (((flds cn).getD []).zip xs |>.lookup y) e else .stuck | _ => .stuck) res).mono ?_⟩
  rintro x H1 ⟨env1, F1, d, x1, rel1, rx, res1⟩
  cases rx <;> try exact res1.elim
  rename_i h1 h2 h3 h4 h5
  simp only at res1
  split at res1
  · rename_i hc
    subst hc
    rw [hC] at h2
    cases h2
    rw [h3, Option.getD_some] at res1
    cases w : (List.zip ‹List Str› ‹List D›).lookup y with
    | none => rw [w] at res1; exact res1.elim
    | some z =>
      rw [w] at res1
      obtain ⟨v, e1, e2⟩ := zip_lookup h5 w
      exact ⟨_, _, _, rfl, rel1.sub _ _ h1, _, _, _, v, rfl, rel1.sub _ _ h1, e1, res1 _ H1 F1 Ext.refl rel1 e2⟩
  · exact res1.elim
/-! ### own == -/
/-- x == y, x an instance of the class at C whose __eq__ keeps sp -/
def rOwnEq (K : PySem.W.Frag) (C : Addr) (sp : Sp) (E : XK) : R2 := fun x y H Q => ∃ p dx fs, x = .ref p ∧ H p = some (.ins C dx fs) ∧ ((∃ q dy gs, y = .ref q ∧ H q = some (.ins C dy gs)) ∨ ∃ q xs, y = .ref q ∧ SqT K H q xs) ∧ sp [x, y] H (fun v H' => (∃ k, v = .bl k) ∧ Q v H') E
theorem op_ownEq {C f : Addr} {n : Nat} {fd : FuncData} {ps : List Str} {sp : Sp} (Fo : FnOk X.prog X.w X.K X.mg X.base (L2.CX X.prog X.w) n f fd ps sp) (hs : PySem.W.findIn X.K (.ref C) "__eq__" = some (some (.ref f))) (hf : PySem.W.isFn X.K (.ref f) = true) (hb : Binds X.K fd ps [])
    (hr : Room n X.A) (ht : PySem.W.subIn X.K (.type "tuple") (.ref C) = some false) : OpR X (compareOp .Eq) (rOwnEq X.K C sp (fun _ _ _ => False)) := by
  intro pins s σ H x y v u Q I rx ry hq
  obtain ⟨q, dx, fs, rfl, h1, hy, hsp⟩ := hq
  cases (show v = Value.ref q from rx)
  show wpAny (model X.prog X.w) X.A (richCompare .Eq (.ref q) u) (EP X pins σ Q) X.xe s
  obtain ⟨mA, J, _⟩ := ins_get I.hok h1
  obtain ⟨od, J, _⟩ := J.look
  obtain ⟨m, hF⟩ := I.fr
  have go : wpAny (model X.prog X.w) X.A (call (.ref f) [.ref q, u]) (PySem.W.CmpBack (EP X pins σ Q)) X.xe s := by
    refine thn (run_fn (dvs := []) (ds := []) Fo hr hb .nil passL I (.cons rx (.cons ry .nil)) (by rw [List.append_nil]; exact hsp)) fun z s' hz => ?_
    obtain ⟨w, H', I', rz, ⟨k, ek⟩, q2⟩ := hz
    subst ek
    cases (show z = Value.bool k from rz)
    exact ⟨.bl k, H', I', rfl, q2⟩
  rcases hy with ⟨q2, dy, gs, rfl, h2⟩ | ⟨q2, xs, rfl, h2⟩
  · cases (show u = Value.ref q2 from ry)
    obtain ⟨mB, J', _⟩ := ins_get I.hok h2
    obtain ⟨od', J', _⟩ := J'.look
    exact PySem.W.cmp_K (op := .Eq) (tb := .ref C) hr.units0 hF I.ok.mod.kin J J'.type (by simp [PySem.W.notFirst]) hs hf go
  · cases (show u = Value.ref q2 from ry)
    obtain ⟨its, _, ⟨o, e1, e2, _⟩, _⟩ := I.tuple h2
    have lk : PySem.W.Looks (model X.prog X.w) s.heap (typeOf (.ref q2)) (.type "tuple") := fun A' Q' E' s' kk qq => wpAny_typeOf_ref (kk _ _ e1) (by rw [e2]; exact qq)
    exact PySem.W.cmp_K (op := .Eq) (tb := .type "tuple") hr.units0 hF I.ok.mod.kin J lk (by unfold PySem.W.notFirst; rw [ht]; rfl) hs hf go
def hOwnEq (c : Str) (Fn : List Sl → FOut) : D → D → Option D := fun d e => match d with
  | .obj c' xs => if c' = c then (match e with
    | .obj c2 _ => if c2 = c then (match Fn [.d d, .d e] with | .ok (.bl k) _ => some (.bl k) | _ => none) else none
    | .tup _ => (match Fn [.d d, .d e] with | .ok (.bl k) _ => some (.bl k) | _ => none)
    | _ => none) else none
  | _ => none
theorem os_ownEq {cn : Str} {C f : Addr} {n : Nat} {fd : FuncData} {ps : List Str} {Fn : List Sl → FOut} (Fo : FnOk X.prog X.w X.K X.mg X.base (L2.CX X.prog X.w) n f fd ps (spF X.K X.mg 2 Fn)) (hs : PySem.W.findIn X.K (.ref C) "__eq__" = some (some (.ref f))) (hf : PySem.W.isFn X.K (.ref f) = true) (hb : Binds X.K fd ps [])
    (hr : Room n X.A) (ht : PySem.W.subIn X.K (.type "tuple") (.ref C) = some false) (hC : X.mg cn = some (.ref C)) : OpS X (compareOp .Eq) (hOwnEq cn Fn) := by
  refine ⟨_, op_ownEq Fo hs hf hb hr ht, fun F H x y d e z Q s rx ry hh hq => ?_⟩
  have core : ∀ k ps', Fn [.d d, .d e] = .ok (.bl k) ps' → z = .bl k → spF X.K X.mg 2 Fn [x, y] H (fun v H' => (∃ k, v = .bl k) ∧ Q v H') (fun _ _ _ => False) := fun k ps' hk hz => by
    have rel : Rel X.K X.mg F ([x, y].map some) H [.d d, .d e] := by
      refine ⟨rfl, s, fun i dd q => ?_, fun i io m q => ?_, fun i j io jo m n a ne q1 _ _ _ => ?_⟩
      · match i with
        | 0 => cases q; exact ⟨x, rfl, rx⟩
        | 1 => cases q; exact ⟨y, rfl, ry⟩
        | i + 2 => simp at q
      · match i with
        | 0 => cases q
        | 1 => cases q
        | i + 2 => simp at q
      · match i with
        | 0 => cases q1
        | 1 => cases q1
        | i + 2 => simp at q1
    refine ⟨rfl, F, [.d d, .d e], rel, rfl, ?_⟩
    rw [hk]
    intro v H' F' y2 r2 rv
    subst hz
    cases rv
    refine ⟨⟨k, rfl⟩, hq _ H' F' ⟨y2.mono, fun a o w => ?_, fun a o w => y2.keep a o w ?_, r2.sub⟩ .bl⟩
    · rcases y2.new a o w with w | w | ⟨i, io, m, w, _⟩
      · exact .inl w
      · exact .inr w
      · match i with
        | 0 => cases w
        | 1 => cases w
        | i + 2 => simp at w
    · rintro ⟨i, io, m, w, _⟩
      match i with
      | 0 => cases w
      | 1 => cases w
      | i + 2 => simp at w
  cases rx <;> try (simp [hOwnEq] at hh; done)
  rename_i h1 h2 h3 h4 h5
  simp only [hOwnEq] at hh
  split at hh
  · rename_i hc
    subst hc
    rw [hC] at h2
    cases h2
    cases ry <;> try (simp at hh; done)
    · rename_i g1 g2
      simp only at hh
      split at hh
      · rename_i k ps' hk
        cases hh
        exact ⟨_, _, _, rfl, s _ _ h1, .inr ⟨_, _, rfl, sqT_mono s g1⟩, core k ps' hk rfl⟩
      · cases hh
    · rename_i g1 g2 g3 g4 g5
      simp only at hh
      split at hh
      · rename_i hc2
        subst hc2
        rw [hC] at g2
        cases g2
        split at hh
        · rename_i k ps' hk
          cases hh
          exact ⟨_, _, _, rfl, s _ _ h1, .inl ⟨_, _, _, rfl, s _ _ g1⟩, core k ps' hk rfl⟩
        · cases hh
      · cases hh
  · cases hh
theorem bl_ownEq {cn : Str} {Fn : List Sl → FOut} : ∀ d e z, hOwnEq cn Fn d e = some z → ∃ k, z = .bl k := fun d e z h => by
  unfold hOwnEq at h
  split at h
  · split at h
    · split at h
      · split at h
        · split at h
          · cases h; exact ⟨_, rfl⟩
          · cases h
        · cases h
      · split at h
        · cases h; exact ⟨_, rfl⟩
        · cases h
      · cases h
    · cases h
  · cases h
/-! ### x = [..] of a comprehension -/
theorem ss_ownT {i : Nat} {st : Stmt} {gs : SEnv → Out (List D)} (h : PS X st (tAsg (tF X.K X.mg W gs) (gName i))) : SS X W st (gOwnL i gs) := by
  refine PS.imp h fun D σ H ⟨F, env, rel, res⟩ => ⟨F, env, rel, ?_⟩
  unfold gOwnL at res
  cases o : gs env with
  | stuck => rw [o] at res; exact res
  | exc x e2 => rw [o] at res; exact fun cls da H' F' y r z => res cls da σ H' F' y r z
  | ok ds e2 =>
    rw [o] at res
    intro H1 F1 vs q x1 rel1 rs hq
    simp only [Out.toS] at res
    cases w : setOwn i (.lst ds) e2 with
    | none => simp only [w] at res; exact res.elim
    | some e' =>
      simp only [w] at res
      obtain ⟨y, r⟩ := rel1.setOwn (o := .lst vs) (m := .lst ds) hq ⟨vs, upd_same, rs⟩ w
      exact res _ _ _ (x1.trans y) r
theorem ss_setT {i : Nat} {st : Stmt} {gs : SEnv → Out (List D)} (h : PS X st (tAsg (tF X.K X.mg W gs) (gName i))) : SS X W st (gAsg (gLst gs) (setD i)) := by
  refine PS.imp h fun D σ H ⟨F, env, rel, res⟩ => ⟨F, env, rel, ?_⟩
  unfold gAsg gLst at res
  cases o : gs env with
  | stuck => rw [o] at res; exact res
  | exc x e2 => rw [o] at res; exact fun cls da H' F' y r z => res cls da σ H' F' y r z
  | ok ds e2 =>
    rw [o] at res
    intro H1 F1 vs q x1 rel1 rs hq
    simp only [Out.toS, Out.bind] at res
    cases w : setD i (.lst ds) e2 with
    | none => simp only [w] at res; exact res.elim
    | some e' =>
      simp only [w] at res
      have g := Grow.lay (o := .lst vs) rel1.sub hq
      obtain ⟨y, r⟩ := (rel1.grow g).setD (v := .ref q) (.lst upd_same (rs.mono g.mono)) w
      exact res _ _ _ ((x1.trans (g.ext rel1)).trans y) r
theorem ps_comp {i : Nat} {y : Str} {py spos : Pos} {elt tg it : Expr} {ifs : List Expr} {scope : Scope} {own : List (Str × Nat)} {gi : SEnv → Out (List D)} {h : D → SEnv → Option SEnv} {gt : SEnv → Out Bool} {us : List Nat} (hc : X.calm = true) (hN : X.N.Nodup) (hy : X.N[i]? = some y) (hyl : X.env.scope.names.lookup y = some .local)
    (hsw : swapsWith (.ListComp elt [⟨tg, it, ifs, 0⟩] scope pos) (some (.Name y py)) spos.line X.env = pure true) (hi : SI X W tg it gi) (ok : BlkOk X.N X.env.scope scope own) (hus : ∀ i, i ∈ us → i ∈ own.map (·.2))
    (hg : ∀ (s : Shared) (H : Hp) (C : Addr) (cl : List (Str × Addr)) (fp : List Addr), SG (X.blk s H scope (compEnvC scope cl C X.env) fp) tg h us)
    (ht : ∀ (s : Shared) (H : Hp) (C : Addr) (cl : List (Str × Addr)) (fp : List Addr), STs (X.blk s H scope (compEnvC scope cl C X.env) fp) W0 ifs gt)
    (he : ∀ (s : Shared) (H : Hp) (C : Addr) (cl : List (Str × Addr)) (fp : List Addr), SE (X.blk s H scope (compEnvC scope cl C X.env) fp) W0 elt ge) (hs : ∀ x, foldedSetIterable it X.env x = pure x := by intro _; rfl) :
    PS X (.Assign [.Name y py] (.ListComp elt [⟨tg, it, ifs, 0⟩] scope pos) spos) (tAsg (tF X.K X.mg W (gComp gi h gt ge (own.map (·.2)))) (gName i)) :=
  PS.imp (ps_setLc (g := tG X.K X.mg h us) (tt := tT X.K X.mg W0 gt) (te := tE X.K X.mg W0 ge) hc hN hy hyl hsw hi ok (fun s H C cl fp => hg s H C cl fp) (fun s H C cl fp => ht s H C cl fp) (fun s H C cl fp => he s H C cl fp) hs) fun D σ H q => comp_imp hus σ H _ q
end
end RL

/-! RL14: constants of the module, two names at once -/
namespace RL
open PySem L2 PyProof.Rows PySem.Spec

section
variable {X : Cx} {W : WX} {a b c e : Expr} {ga gb gc ge : SEnv → Out D} {pos pos' p p2 : Pos}
/-- a constant of the module: its value -/
def GC (K : PySem.W.Frag) (mg : Str → Option Value) (x : Str) (d : D) : Prop := ∃ u v, mg x = some u ∧ RelV v u ∧ ∀ F, Rep K mg F v d
theorem se_gc {x : Str} {d : D} (h : GC X.K X.mg x d) (hg : Gl X x := by rfl) (hd : (x == ("__debug__" : Str)) = false := by decide) : SE X W (.Name x pos) (gC d) := by
  obtain ⟨u, v, h1, h2, h3⟩ := h
  exact se_mc h1 h2 h3 hg hd
/-- x, y = a, a new list that is to be changed -/
def gParO (i j : Nat) (ga : SEnv → Out D) (gs : SEnv → Out (List D)) : SEnv → SOut := fun env => (ga env).toS fun d e => (gs e).toS fun ds e2 => match setD i d e2 with
  | none => .stuck
  | some e3 => match setOwn j (.lst ds) e3 with
    | none => .stuck
    | some e4 => .next e4
theorem ss_parO (i j : Nat) {st : Stmt} {gs : SEnv → Out (List D)} (hN : X.N.Nodup) (ha : SE X W a ga) (hb : SF X W b gs) (h : PA X [a, b] (tCons (tE X.K X.mg W ga) (tCons (tF X.K X.mg W gs) tNil)) → PS X st (tPar i j (tCons (tE X.K X.mg W ga) (tCons (tF X.K X.mg W gs) tNil))))
    (hs : starEach [a, b] X.env = (false, eval a X.env) :: starEach [b] X.env := by rfl) (hs2 : starEach [b] X.env = (false, eval b X.env) :: starEach [] X.env := by rfl) : SS X W st (gParO i j ga gs) := by
  refine PS.imp (h (pa_cons ha (pa_cons hb pa_nil hs2) hs)) fun D σ H ⟨F, env, rel, res⟩ => ?_
  show tE X.K X.mg W ga σ H fun v H1 => _
  refine ⟨F, env, rel, (RS.ofE (k := fun d e => (gs e).toS fun ds e2 => match setD i d e2 with | none => .stuck | some e3 => match setOwn j (.lst ds) e3 with | none => .stuck | some e4 => .next e4) res).mono ?_⟩
  rintro v H1 ⟨env1, F1, d, x1, rel1, rv, res1⟩
  show tF X.K X.mg W gs σ H1 fun w H2 => _
  refine ⟨F1, env1, rel1, ?_⟩
  cases o : gs env1 with
  | stuck => rw [o] at res1; exact res1
  | exc x e2 => rw [o] at res1; exact fun cls da H' F' y r z => res1 cls da σ H' F' y r z
  | ok ds e2 =>
    rw [o] at res1
    simp only [Out.toS] at res1
    intro H2 F2 vs q x2 rel2 rs hq
    cases w : setD i d e2 with
    | none => simp only [w] at res1; exact res1.elim
    | some e3 =>
      simp only [w] at res1
      cases w2 : setOwn j (.lst ds) e3 with
      | none => simp only [w2] at res1; exact res1.elim
      | some e4 =>
        simp only [w2] at res1
        obtain ⟨y1, r1⟩ := rel2.setD (Rep.mono x2.mono rv) w
        obtain ⟨y2, r2⟩ := r1.setOwn (o := .lst vs) (m := .lst ds) hq ⟨vs, upd_same, rs⟩ w2
        exact ⟨v, _, rfl, res1 _ _ _ ((x2.trans y1).trans y2) r2⟩
end
end RL

/-! RL15: facts of the text's classes, put together -/
namespace RL
open PySem L2 PyProof.Rows PySem.Spec
theorem exm_at {K : PySem.W.Frag} {a c : Addr} {k : Bool} (h1 : PySem.W.subIn K (.ref c) (.type "BaseException") = some true) (h2 : PySem.W.isClsIn K c = true) (h3 : PySem.W.typeIn K (.ref c) = some (.type "type")) (h4 : PySem.W.subIn K (.ref a) (.ref c) = some k) :
    PySem.W.exmOne K (.ref a) (.ref c) = some k := by
  have q1 : (PySem.W.subIn K (.ref c) (.type "BaseException") == some true) = true := by rw [h1] <;> rfl
  have q2 : ((PySem.W.clsIn K c).isSome && PySem.W.typeIn K (.ref c) == some (.type "type")) = true := by
    rw [show (PySem.W.clsIn K c).isSome = true from h2, h3] <;> rfl
  show (if (PySem.W.subIn K (.ref c) (.type "BaseException") == some true) = true then (if ((PySem.W.clsIn K c).isSome && PySem.W.typeIn K (.ref c) == some (.type "type")) = true then PySem.W.subIn K (.ref a) (.ref c) else none) else none) = some k
  rw [if_pos q1, if_pos q2, h4]
theorem flds_reader {c : Str} {ns : List Str} (h : flds c = some ns) : c = "Reader" := by
  unfold flds at h
  split at h
  · rename_i e; exact e
  · cases h
theorem clsFacts_of {K : PySem.W.Frag} {mg : Str → Option Value} {C : Addr} (hC : mg "Reader" = some (.ref C)) (hi : InsOk K C) (b1 : PySem.W.kitOne K (.ref C) (.type "str") = some false) (b2 : PySem.W.kitOne K (.ref C) (.type "int") = some false) (b3 : PySem.W.kitOne K (.ref C) (.type "bool") = some false) (b4 : PySem.W.kitOne K (.ref C) (.type "tuple") = some false) (b5 : PySem.W.kitOne K (.ref C) (.type "list") = some false)
    (c1 : PySem.W.kitOne K (.type "NoneType") (.ref C) = some false) (c2 : PySem.W.kitOne K (.type "bool") (.ref C) = some false) (c3 : PySem.W.kitOne K (.type "int") (.ref C) = some false) (c4 : PySem.W.kitOne K (.type "str") (.ref C) = some false) (c5 : PySem.W.kitOne K (.type "tuple") (.ref C) = some false) (c6 : PySem.W.kitOne K (.type "list") (.ref C) = some false) (c7 : PySem.W.kitOne K (.type "dict") (.ref C) = some false)
    (o : PySem.W.kitOne K (.ref C) (.ref C) = some true) : ClsFacts K mg := by
  have key : ∀ c C' ns, flds c = some ns → mg c = some (.ref C') → C' = C := fun c C' ns hf hm => by
    rw [flds_reader hf, hC] at hm
    cases hm
    rfl
  refine ⟨fun c C' ns hf hm => ?_, fun c C' ns hf hm b hb => ?_, fun c C' ns hf hm t ht => ?_, fun c C' ns hf hm => ?_⟩
  · rw [key c C' ns hf hm]; exact hi
  · rw [key c C' ns hf hm]
    simp only [List.mem_cons, List.not_mem_nil, or_false] at hb
    rcases hb with rfl | rfl | rfl | rfl | rfl <;> assumption
  · rw [key c C' ns hf hm]
    simp only [List.mem_cons, List.not_mem_nil, or_false] at ht
    rcases ht with rfl | rfl | rfl | rfl | rfl | rfl | rfl <;> assumption
  · rw [key c C' ns hf hm]; exact o
end RL

/-! RL16: how the semantics evaluates: each word at a row of slots that is written out -/
namespace RL
open PySem L2
def ioAt : Option Sl → Bool
  | some (.own true _) => true
  | _ => false
section
variable {α β : Type} {s : Sl} {e e' : SEnv} {ga gb gc ge : SEnv → Out D} {tc ta tb : SEnv → Out Bool} {gs : SEnv → Out (List D)} {as : SEnv → Out (List AE)} {g1 g2 : SEnv → SOut} {d : D} {i j : Nat}
theorem bind_ok {a : α} {k : α → SEnv → Out β} : (Out.ok a e).bind k = k a e := rfl
theorem bind_exc {x : Xn} {k : α → SEnv → Out β} : (Out.exc x e : Out α).bind k = .exc x e := rfl
theorem bind_stuck {k : α → SEnv → Out β} : (Out.stuck : Out α).bind k = .stuck := rfl
theorem toS_ok {a : α} {k : α → SEnv → SOut} : (Out.ok a e).toS k = k a e := rfl
theorem toS_exc {x : Xn} {k : α → SEnv → SOut} : (Out.exc x e : Out α).toS k = .exc x e := rfl
theorem toS_stuck {k : α → SEnv → SOut} : (Out.stuck : Out α).toS k = .stuck := rfl
theorem ofO_some {z : D} : ofO (some z) e = .ok z e := rfl
theorem ofB_some {z : Bool} : ofB (some z) e = .ok z e := rfl
theorem ofL_some {z : α} : ofL (some z) e = .ok z e := rfl
theorem ev_C : gC d (s :: e) = .ok d (s :: e) := rfl
theorem ev_Var : gVar i (s :: e) = (match (s :: e)[i]? with
  | some (.d d) => .ok d (s :: e)
  | some (.own false m) => match m.frz with
    | some d => .ok d ((s :: e).set i (.d d))
    | none => .stuck
  | _ => .stuck) := rfl
theorem ev_Bin {h : D → D → Option D} : gBin h ga gb (s :: e) = (ga (s :: e)).bind fun d e1 => (gb e1).bind fun d2 e2 => ofO (h d d2) e2 := rfl
theorem ev_Ix : gIx ga gb (s :: e) = (ga (s :: e)).bind fun d e1 => (gb e1).bind fun d2 e2 => ofO (hIx d d2) e2 := rfl
theorem ev_Tru : gTru ga (s :: e) = (ga (s :: e)).bind fun d e => ofB (truD d) e := rfl
theorem ev_NotT : gNotT ta (s :: e) = (ta (s :: e)).bind fun k e => .ok (!k) e := rfl
theorem ev_AndT : gAndT ta tb (s :: e) = (ta (s :: e)).bind fun k e => match k with | true => tb e | false => .ok false e := rfl
theorem ev_OrT : gOrT ta tb (s :: e) = (ta (s :: e)).bind fun k e => match k with | true => .ok true e | false => tb e := rfl
theorem ev_AndV : gAndV ga gb (s :: e) = (ga (s :: e)).bind fun k e => match k with | .bl true => gb e | .bl false => .ok (.bl false) e | _ => .stuck := rfl
theorem ev_OrV : gOrV ga gb (s :: e) = (ga (s :: e)).bind fun k e => match k with | .bl true => .ok (.bl true) e | .bl false => gb e | _ => .stuck := rfl
theorem ev_NotV : gNotV ga (s :: e) = (ga (s :: e)).bind fun k e => match k with | .bl k => .ok (.bl (!k)) e | _ => .stuck := rfl
theorem ev_IfE : gIfE tc ga gb (s :: e) = (tc (s :: e)).bind fun k e => match k with | true => ga e | false => gb e := rfl
theorem ev_Nil : RL.gNil (s :: e) = .ok [] (s :: e) := rfl
theorem ev_Cons : RL.gCons ga gs (s :: e) = (ga (s :: e)).bind fun d e => (gs e).bind fun ds e2 => .ok (d :: ds) e2 := rfl
theorem ev_Tup : RL.gTup gs (s :: e) = (gs (s :: e)).bind fun ds e => .ok (.tup ds) e := rfl
theorem ev_Lst : RL.gLst gs (s :: e) = (gs (s :: e)).bind fun ds e => .ok (.lst ds) e := rfl
theorem ev_Call {h : List D → Option D} : gCall h gs (s :: e) = (gs (s :: e)).bind fun ds e => ofO (h ds) e := rfl
theorem ev_Isi {b : String} : gIsi b ga (s :: e) = (ga (s :: e)).bind fun d e => match d with
  | .obj _ _ => .ok (.bl false) e
  | _ => match tyD d with
    | some t => .ok (.bl (isTy t b)) e
    | none => .stuck := rfl
theorem ev_IsC {c : Str} : gIsC c ga (s :: e) = (ga (s :: e)).bind fun d e => match d with
  | .obj c' _ => if c' = c then .ok (.bl true) e else .stuck
  | _ => match tyD d with
    | some _ => .ok (.bl false) e
    | none => .stuck := rfl
theorem ev_Fld {c f : Str} : gFld c f ga (s :: e) = (ga (s :: e)).bind fun d e => match d with
  | .obj c' xs => if c' = c then ofO (((flds c).getD []).zip xs |>.lookup f) e else .stuck
  | _ => .stuck := rfl
theorem ev_FldO {c f : Str} : gFldO i c f (s :: e) = (match (s :: e)[i]? with
  | some (.own _ (.ins c' fs)) => if c' = c then ofO (fs.lookup f) (s :: e) else .stuck
  | _ => .stuck) := rfl
theorem ev_IxO : gIxO i gb (s :: e) = (match (s :: e)[i]? with
  | some (.own _ _) => (gb (s :: e)).bind fun d e => match e[i]?, d with
    | some (.own _ (.lst xs)), .int k => ofO (atI xs k) e
    | _, _ => .stuck
  | _ => .stuck) := rfl
theorem ev_Append : gAppend i ge (s :: e) = (match (s :: e)[i]? with
  | some (.own _ (.lst _)) => (ge (s :: e)).bind fun d e => match e[i]? with
    | some (.own io (.lst xs)) => if fits xs.length then .ok .non (e.set i (.own io (.lst (xs ++ [d])))) else .stuck
    | _ => .stuck
  | _ => .stuck) := rfl
theorem ev_None : gNone (s :: e) = .ok none (s :: e) := rfl
theorem ev_Some : gSome ga (s :: e) = (ga (s :: e)).bind fun d e => match d with | .int i => .ok (some i) e | _ => .stuck := rfl
theorem ev_Sl {gl gh : SEnv → Out (Option Int)} : gSl ga gl gh (s :: e) = (ga (s :: e)).bind fun d e => (gl e).bind fun lo e1 => (gh e1).bind fun hi e2 => ofO (hSl d lo hi) e2 := rfl
theorem ev_Chain {h h' : D → D → Option D} : gChain h h' ga gb gc (s :: e) = (ga (s :: e)).bind fun d e1 => (gb e1).bind fun d2 e2 => match h d d2 with
  | some (.bl true) => (gc e2).bind fun d3 e3 => ofO (h' d2 d3) e3
  | some (.bl false) => .ok (.bl false) e2
  | _ => .stuck := rfl
theorem ev_Un {h : D → Option D} : gUn h ga (s :: e) = (ga (s :: e)).bind fun d e => ofO (h d) e := rfl
theorem ev_Make {c : Str} {Fn : List Sl → FOut} : gMake c Fn gs (s :: e) = (gs (s :: e)).bind fun ds e => match Fn (.own true (.ins c []) :: ds.map .d) with
  | .ok .non (.own true (.ins c' fs) :: _) => if c' = c ∧ flds c = some (fs.map (·.1)) then .ok (.obj c (fs.map (·.2))) e else .stuck
  | .exc x _ => .exc x e
  | _ => .stuck := rfl
theorem ev_aNil : aNil (s :: e) = .ok [] (s :: e) := rfl
theorem ev_aV : aV ga as (s :: e) = (ga (s :: e)).bind fun d e => (as e).bind fun ds e2 => .ok (.v d :: ds) e2 := rfl
theorem ev_aOwn : aOwn i as (s :: e) = (match (s :: e)[i]? with | some (.own _ _) => (as (s :: e)).bind fun ds e2 => .ok (.io i :: ds) e2 | _ => .stuck) := rfl
theorem ev_Fn {Fn : List Sl → FOut} : gFn Fn as (s :: e) = (as (s :: e)).bind fun xs e => match argSl e xs with
  | none => .stuck
  | some ps => if (ios xs).Nodup then (match Fn ps with
    | .stuck => .stuck
    | .ok d ps' => .ok d (putBack e xs ps')
    | .exc x ps' => .exc x (putBack e xs ps')) else .stuck := rfl
theorem ev_Items : gItems ga (s :: e) = (ga (s :: e)).bind fun d e => ofL (itemsD d) e := rfl
theorem ev_Enum : gEnum ga (s :: e) = (ga (s :: e)).bind fun d e => ofL ((itemsD d).map enumD) e := rfl
theorem ev_Range : gRange gs (s :: e) = (gs (s :: e)).bind fun ds e => ofL (hRange ds) e := rfl
theorem ev_ListOf : gListOf ga (s :: e) = (ga (s :: e)).bind fun d e => match d with
  | .tup ds => .ok ds e
  | .lst ds => .ok ds e
  | _ => .stuck := rfl
theorem ev_Comp {h : D → SEnv → Option SEnv} {vs : List Nat} : gComp gs h ta ge vs (s :: e) = (gs (s :: e)).bind fun ds e => if blank e vs then loopC h ta ge vs ds e [] else .stuck := rfl
theorem ev_Yes : gYes (s :: e) = .ok true (s :: e) := rfl
/-! statements -/
theorem ev_Seq : gSeq g1 g2 (s :: e) = (match g1 (s :: e) with
  | .next e => g2 e
  | o => o) := rfl
theorem ev_Next : gNext (s :: e) = .next (s :: e) := rfl
theorem ev_Brk : gBrk (s :: e) = .brk (s :: e) := rfl
theorem ev_Cnt : gCnt (s :: e) = .cont (s :: e) := rfl
theorem ev_Expr : gExpr ge (s :: e) = (ge (s :: e)).toS fun _ e => .next e := rfl
theorem ev_Ret : gRet ge (s :: e) = (ge (s :: e)).toS fun d e => .ret d e := rfl
theorem ev_RetN : gRetN (s :: e) = .ret .non (s :: e) := rfl
theorem ev_IfS : gIfS tc g1 g2 (s :: e) = (tc (s :: e)).toS fun k e => match k with | true => g1 e | false => g2 e := rfl
theorem ev_Asg {h : D → SEnv → Option SEnv} : gAsg ge h (s :: e) = (ge (s :: e)).toS fun d e => match h d e with
  | none => .stuck
  | some e' => .next e' := rfl
theorem ev_setD : setD i d (s :: e) = if ioAt (s :: e)[i]? then none else some ((s :: e).set i (.d d)) := by
  unfold setD ioAt
  split <;> first | rfl | simp_all
theorem ev_setOwn {m : MO} : setOwn i m (s :: e) = if ioAt (s :: e)[i]? then none else some ((s :: e).set i (.own false m)) := by
  unfold setOwn ioAt
  split <;> first | rfl | simp_all
theorem io_un : ioAt (some .un) = false := rfl
theorem io_d : ioAt (some (.d d)) = false := rfl
theorem io_o {m : MO} : ioAt (some (.own false m)) = false := rfl
theorem ev_setFld {c f : Str} : setFld i c f d (s :: e) = (match (s :: e)[i]? with
  | some (.own io (.ins c' fs)) => if c' = c ∧ fs.length < 1000 then some ((s :: e).set i (.own io (.ins c' (dput f d fs)))) else none
  | _ => none) := rfl
theorem ev_SetFld {c f : Str} : gSetFld i c f ge (s :: e) = (ge (s :: e)).toS fun d e => match setFld i c f d e with
  | none => .stuck
  | some e' => .next e' := rfl
theorem ev_hNil : hNil [] (s :: e) = some (s :: e) := rfl
theorem ev_hCons {h : D → SEnv → Option SEnv} {k : List D → SEnv → Option SEnv} {r : List D} : hCons h k (d :: r) (s :: e) = (match h d (s :: e) with
    | none => none
    | some e1 => k r e1) := rfl
theorem ev_hTup {k : List D → SEnv → Option SEnv} {ds : List D} : hTup k (.tup ds) (s :: e) = k ds (s :: e) := rfl
theorem ev_Par : gPar i j gs (s :: e) = (gs (s :: e)).toS fun ds e => match ds with
  | [d1, d2] => match setD i d1 e with
    | none => .stuck
    | some e1 => match setD j d2 e1 with
      | none => .stuck
      | some e2 => .next e2
  | _ => .stuck := rfl
theorem ev_ParO : gParO i j ga gs (s :: e) = (ga (s :: e)).toS fun d e => (gs e).toS fun ds e2 => match setD i d e2 with
  | none => .stuck
  | some e3 => match setOwn j (.lst ds) e3 with
    | none => .stuck
    | some e4 => .next e4 := rfl
theorem ev_OwnL : gOwnL i gs (s :: e) = (gs (s :: e)).toS fun ds e => match setOwn i (.lst ds) e with
  | none => .stuck
  | some e' => .next e' := rfl
theorem ev_SetIx : gSetIx i gb ge (s :: e) = (ge (s :: e)).toS fun d e => match e[i]? with
  | some (.own _ _) => (gb e).toS fun k e1 => match k with
    | .int k => match setIx i k d e1 with
      | none => .stuck
      | some e' => .next e'
    | _ => .stuck
  | _ => .stuck := rfl
theorem ev_setIx {k : Int} : setIx i k d (s :: e) = (match (s :: e)[i]? with
  | some (.own io (.lst xs)) => match ixN xs.length k with
    | some j => some ((s :: e).set i (.own io (.lst (xs.set j d))))
    | none => none
  | _ => none) := rfl
theorem ev_Raise0 {c : Str} : gRaise0 c (s :: e) = .exc ⟨c, []⟩ (s :: e) := rfl
theorem ev_Raise1 {c f : Str} : gRaise1 c f ge (s :: e) = (ge (s :: e)).toS fun d e => .exc ⟨c, [(f, d)]⟩ e := rfl
theorem ev_Try {hs : List Hd} : gTry g1 hs (s :: e) = (match g1 (s :: e) with
  | .exc x e => if x.c ∈ exns then handle x hs e else .stuck
  | o => o) := rfl
theorem ev_For {gi : SEnv → Out (List D)} {h : D → SEnv → Option SEnv} : gFor gi h g1 (s :: e) = (gi (s :: e)).toS fun ds e => loopF h g1 ds e := rfl
theorem ev_loopF0 {h : D → SEnv → Option SEnv} : loopF h g1 [] (s :: e) = .next (s :: e) := rfl
theorem ev_loopF {h : D → SEnv → Option SEnv} {ds : List D} : loopF h g1 (d :: ds) (s :: e) = (match h d (s :: e) with
    | none => .stuck
    | some e1 => match g1 e1 with
      | .next e2 => loopF h g1 ds e2
      | .cont e2 => loopF h g1 ds e2
      | .brk e2 => .next e2
      | o => o) := rfl
theorem ev_runF {n k : Nat} {ps : List Sl} : runF n k g1 (s :: ps) = (match g1 (s :: (ps ++ List.replicate k .un)) with
  | .next e => .ok .non (clean n e)
  | .ret d e => .ok d (clean n e)
  | .exc x e => .exc x (clean n e)
  | _ => .stuck) := rfl
theorem ev_clean0 : clean 0 e = [] := by simp [clean]
theorem ev_cleanN {n : Nat} : clean (n + 1) (s :: e) = keepIo s :: clean n e := by simp [clean]
theorem ev_cleanE {n : Nat} : clean n [] = [] := by simp [clean]
theorem ev_keep_un : keepIo .un = .un := rfl
theorem ev_keep_d : keepIo (.d d) = .un := rfl
theorem ev_keep_o {m : MO} : keepIo (.own false m) = .un := rfl
theorem ev_keep_io {m : MO} : keepIo (.own true m) = .own true m := rfl
end
end RL

/-! RL17: plain facts of the semantics -/
namespace RL
open PySem L2
theorem ev_hLst {k : List D → SEnv → Option SEnv} {ds : List D} {s : Sl} {e : SEnv} : hTup k (.lst ds) (s :: e) = k ds (s :: e) := rfl
theorem put0 {as : List AE} {ps : List Sl} : putBack [] as ps = [] := rfl
theorem nodup0 : (([] : List Nat).Nodup) = True := by simp
theorem nodup1 {i : Nat} : (([i] : List Nat).Nodup) = True := by simp
theorem nodup2 {i j : Nat} : (([i, j] : List Nat).Nodup) = (i ≠ j) := by simp
/-- what an item of a written list is -/
theorem pickL {ds : List D} {k : Int} (h0 : 0 ≤ k) (h : k < ds.length) : ∃ x, x ∈ ds ∧ hIx (.lst ds) (.int k) = some x ∧ ds[k.toNat]? = some x := by
  have hj : k.toNat < ds.length := by omega
  refine ⟨ds[k.toNat], List.getElem_mem hj, ?_, by simp [hj]⟩
  simp [hIx, atI, ixN, h0, h, hj]
theorem pickT {ds : List D} {k : Int} (h0 : 0 ≤ k) (h : k < ds.length) : ∃ x, x ∈ ds ∧ hIx (.tup ds) (.int k) = some x ∧ ds[k.toNat]? = some x := by
  have hj : k.toNat < ds.length := by omega
  refine ⟨ds[k.toNat], List.getElem_mem hj, ?_, by simp [hj]⟩
  simp [hIx, atI, ixN, h0, h, hj]
theorem eq_str {a b : Str} : hEq (.str a) (.str b) = some (.bl (a == b)) := rfl
theorem ne_str {a b : Str} : hNe (.str a) (.str b) = some (.bl (!(a == b))) := rfl
theorem eq_int {a b : Int} : hEq (.int a) (.int b) = some (.bl (a == b)) := rfl
theorem ne_int {a b : Int} : hNe (.int a) (.int b) = some (.bl (!(a == b))) := rfl
theorem eq_bl {a b : Bool} : hEq (.bl a) (.bl b) = some (.bl (a == b)) := rfl
theorem ne_bl {a b : Bool} : hNe (.bl a) (.bl b) = some (.bl (!(a == b))) := rfl
theorem gt_int {a b : Int} : hGt (.int a) (.int b) = some (.bl (decide (b < a))) := rfl
theorem ge_int {a b : Int} : hGe (.int a) (.int b) = some (.bl (decide (b ≤ a))) := rfl
theorem lt_int {a b : Int} : hLt (.int a) (.int b) = some (.bl (decide (a < b))) := rfl
theorem le_int {a b : Int} : hLe (.int a) (.int b) = some (.bl (decide (a ≤ b))) := rfl
theorem add_int {a b : Int} : hAdd (.int a) (.int b) = some (.int (a + b)) := rfl
theorem sub_int {a b : Int} : hSub (.int a) (.int b) = some (.int (a - b)) := rfl
theorem tru_bl {k : Bool} : truD (.bl k) = some k := rfl
theorem tru_int {k : Int} : truD (.int k) = some (k != 0) := rfl
theorem tru_non : truD .non = some false := rfl
theorem tru_tup {ds : List D} : truD (.tup ds) = some (!ds.isEmpty) := rfl
theorem tru_lst {ds : List D} : truD (.lst ds) = some (!ds.isEmpty) := rfl
theorem arg0 {e : SEnv} : argSl e [] = some [] := rfl
theorem argV {e : SEnv} {d : D} {r : List AE} : argSl e (.v d :: r) = (match argSl e r with | some q => some (.d d :: q) | none => none) := rfl
theorem argO {e : SEnv} {i : Nat} {r : List AE} : argSl e (.io i :: r) = (match e[i]? with
    | some (.own _ m) => match argSl e r with
      | some q => some (.own true m :: q)
      | none => none
    | _ => none) := rfl
theorem ios0 : ios [] = [] := rfl
theorem iosV {d : D} {r : List AE} : ios (.v d :: r) = ios r := rfl
theorem iosO {i : Nat} {r : List AE} : ios (.io i :: r) = i :: ios r := rfl
theorem frz_l {ds : List D} : MO.frz (.lst ds) = some (.lst ds) := rfl
theorem mapIdx_n {α β : Type} {f : Nat → α → β} : ([] : List α).mapIdx f = [] := rfl
theorem mapIdx_c {α β : Type} {f : Nat → α → β} {a : α} {l : List α} : (a :: l).mapIdx f = f 0 a :: l.mapIdx (fun i => f (i + 1)) := List.mapIdx_cons
theorem add_tup {a b : List D} : hAdd (.tup a) (.tup b) = if fits (a.length + b.length) then some (.tup (a ++ b)) else none := rfl
theorem add_lst {a b : List D} : hAdd (.lst a) (.lst b) = if fits (a.length + b.length) then some (.lst (a ++ b)) else none := rfl
theorem add_str {a b : Str} : hAdd (.str a) (.str b) = if fits (a.length + b.length) then some (.str (a ++ b)) else none := rfl
theorem ty_NoneType_str : isTy "NoneType" "str" = false := by decide
theorem ty_NoneType_int : isTy "NoneType" "int" = false := by decide
theorem ty_NoneType_bool : isTy "NoneType" "bool" = false := by decide
theorem ty_NoneType_tuple : isTy "NoneType" "tuple" = false := by decide
theorem ty_NoneType_list : isTy "NoneType" "list" = false := by decide
theorem ty_bool_str : isTy "bool" "str" = false := by decide
theorem ty_bool_int : isTy "bool" "int" = true := by decide
theorem ty_bool_bool : isTy "bool" "bool" = true := by decide
theorem ty_bool_tuple : isTy "bool" "tuple" = false := by decide
theorem ty_bool_list : isTy "bool" "list" = false := by decide
theorem ty_int_str : isTy "int" "str" = false := by decide
theorem ty_int_int : isTy "int" "int" = true := by decide
theorem ty_int_bool : isTy "int" "bool" = false := by decide
theorem ty_int_tuple : isTy "int" "tuple" = false := by decide
theorem ty_int_list : isTy "int" "list" = false := by decide
theorem ty_str_str : isTy "str" "str" = true := by decide
theorem ty_str_int : isTy "str" "int" = false := by decide
theorem ty_str_bool : isTy "str" "bool" = false := by decide
theorem ty_str_tuple : isTy "str" "tuple" = false := by decide
theorem ty_str_list : isTy "str" "list" = false := by decide
theorem ty_tuple_str : isTy "tuple" "str" = false := by decide
theorem ty_tuple_int : isTy "tuple" "int" = false := by decide
theorem ty_tuple_bool : isTy "tuple" "bool" = false := by decide
theorem ty_tuple_tuple : isTy "tuple" "tuple" = true := by decide
theorem ty_tuple_list : isTy "tuple" "list" = false := by decide
theorem ty_list_str : isTy "list" "str" = false := by decide
theorem ty_list_int : isTy "list" "int" = false := by decide
theorem ty_list_bool : isTy "list" "bool" = false := by decide
theorem ty_list_tuple : isTy "list" "tuple" = false := by decide
theorem ty_list_list : isTy "list" "list" = true := by decide
theorem ty_dict_str : isTy "dict" "str" = false := by decide
theorem ty_dict_int : isTy "dict" "int" = false := by decide
theorem ty_dict_bool : isTy "dict" "bool" = false := by decide
theorem ty_dict_tuple : isTy "dict" "tuple" = false := by decide
theorem ty_dict_list : isTy "dict" "list" = false := by decide
theorem ne_self {ds : List D} (h : (D.tup ds).okEq = true) : hNe (.tup ds) (.tup ds) = some (.bl false) := by
  have q : PyData.eqv (D.tup ds).py (D.tup ds).py = true := SeqAt.eqv_refl _ (SeqAt.canLay_of_shaped (Bool.and_eq_true_iff.mp h).2)
  unfold hNe D.deq
  rw [h, q]
  rfl
theorem eq_self_tup {ds : List D} (h : (D.tup ds).okEq = true) : hEq (.tup ds) (.tup ds) = some (.bl true) := by
  have q : PyData.eqv (D.tup ds).py (D.tup ds).py = true := SeqAt.eqv_refl _ (SeqAt.canLay_of_shaped (Bool.and_eq_true_iff.mp h).2)
  unfold hEq D.deq
  rw [h, q]
  rfl
theorem eq_tup {ds es : List D} (h : (D.tup ds).okEq = true) (h' : (D.tup es).okEq = true) : hEq (.tup ds) (.tup es) = some (.bl ((D.tup ds).deq (.tup es))) := by
  unfold hEq
  rw [h, h']
  rfl
theorem ne_tup {ds es : List D} (h : (D.tup ds).okEq = true) (h' : (D.tup es).okEq = true) : hNe (.tup ds) (.tup es) = some (.bl (!(D.tup ds).deq (.tup es))) := by
  unfold hNe
  rw [h, h']
  rfl
end RL

/-! RL18: isinstance of two classes; all, any, abs, min; repeats; a call of an item of a list of defs -/
namespace RL
open PySem L2 PyProof.Rows PySem.Spec
section
variable {X : Cx} {W : WX} {a b c : Expr} {ga gb gc : SEnv → Out D} {pos : Pos}
def isTy2 (t a b : String) : Bool := isTy t a || isTy t b
/-- isinstance(e, (S, T)) -/
def gIsi2 (b1 b2 : String) (ga : SEnv → Out D) : SEnv → Out D := fun env => (ga env).bind fun d e => match d with
  | .obj _ _ => .ok (.bl false) e
  | _ => match tyD d with
    | some t => .ok (.bl (isTy2 t b1 b2)) e
    | none => .stuck
theorem any2 {K : PySem.W.Frag} {t u v : Value} {x y : Bool} (h1 : PySem.W.kitOne K t u = some x) (h2 : PySem.W.kitOne K t v = some y) : PySem.W.kitAny K t [u, v] = some (x || y) := by
  refine kitAny_cons h1 (fun e => ?_) fun e => by rw [e]; rfl
  subst e
  exact kitAny_cons h2 (fun e => by subst e; exact kitAny_nil) fun e => by rw [e]; rfl
theorem se_isi2 {b1 b2 : String} {T1 T2 : Str} {p q1 q2 q3 : Pos} {kt : Nat} (cf : ClsFacts X.K X.mg) (hm : X.mg "isinstance" = none) (hT1 : X.mg T1 = none) (hv1 : bootBuiltins T1 = some (.type b1)) (hb1 : b1 ∈ ["str", "int", "bool", "tuple", "list"])
    (hT2 : X.mg T2 = none) (hv2 : bootBuiltins T2 = some (.type b2)) (hb2 : b2 ∈ ["str", "int", "bool", "tuple", "list"]) (ha : SE X W a ga)
    (hg : Gl X "isinstance" := by rfl) (hgT1 : Gl X T1 := by rfl) (hn1 : T1 ≠ "__name__" := by decide) (hdT1 : (T1 == ("__debug__" : Str)) = false := by decide) (hgT2 : Gl X T2 := by rfl) (hn2 : T2 ≠ "__name__" := by decide) (hdT2 : (T2 == ("__debug__" : Str)) = false := by decide)
    (he : starEach [a, .Tuple [.Name T1 q1, .Name T2 q2] kt q3] X.env = (false, eval a X.env) :: starEach [.Tuple [.Name T1 q1, .Name T2 q2] kt q3] X.env := by rfl) : SE X W (.Call (.Name "isinstance" p) [a, .Tuple [.Name T1 q1, .Name T2 q2] kt q3] [] pos) (gIsi2 b1 b2 ga) := by
  have hpl : (backTo pos (starEach [.Tuple [.Name T1 q1, .Name T2 q2] kt q3] X.env)).any (·.1) = false := rfl
  have h1 : PE X (.Name T1 q1) (tC (.ty b1)) := pe_bltn hgT1 hT1 hv1 rfl hn1 hdT1
  have h2 : PE X (.Name T2 q2) (tC (.ty b2)) := pe_bltn hgT2 hT2 hv2 rfl hn2 hdT2
  have h3 : PE X (.Tuple [.Name T1 q1, .Name T2 q2] kt q3) _ := pe_tup (pa_cons h1 (pa_cons h2 pa_nil))
  refine PE.imp (pe_callB (t := tCons (tE X.K X.mg W ga) (tCons _ tNil)) call_isiT hg hm (by decide +kernel) (pa_cons ha (pa_cons h3 pa_nil) he) (by decide) (by decide) he hpl) fun σ H Q ⟨F, env, rel, res⟩ => ?_
  show tE X.K X.mg W ga σ H fun x H1 => ([V.ty b1, .ty b2].length ≤ sizeLine ∧ ∀ p, H1 p = none → rIsiT X.K [x, .ref p] (upd H1 p (.tup [.ty b1, .ty b2])) Q)
  refine ⟨F, env, rel, (RES.bind (k := fun d e => match d with | .obj _ _ => .ok (D.bl false) e | _ => match tyD d with | some t => .ok (D.bl (isTy2 t b1 b2)) e | none => .stuck) res).mono ?_⟩
  rintro x H1 ⟨env1, F1, d, x1, rel1, rx, res1⟩
  refine ⟨fits_line (n := 2) rfl, fun p hp => ?_⟩
  have g := Grow.lay (o := .tup [V.ty b1, .ty b2]) rel1.sub hp
  have rx' : Rep X.K X.mg (upd F1 p (.tup [V.ty b1, .ty b2])) x d := rx.mono g.mono
  have cl : Paired ClsV [V.ty b1, .ty b2] [.type b1, .type b2] := .cons (.ty b1) (.cons (.ty b2) .nil)
  have plain : ∀ t, tyD d = some t → (∀ v H' F', Ext σ env1 F1 H1 σ env1 F' H' → Rel X.K X.mg F' σ H' env1 → Rep X.K X.mg F' v (.bl (isTy2 t b1 b2)) → Q v H') → rIsiT X.K [x, .ref p] (upd H1 p (.tup [V.ty b1, .ty b2])) Q := fun t ht hq =>
    ⟨x, p, _, .type t, _, isTy2 t b1 b2, rfl, upd_same, cl, ty_of g.sub rx' ht, any2 (kit_is ht hb1) (kit_is ht hb2), hq _ _ _ (g.ext rel1) (rel1.grow g) .bl⟩
  cases rx' with
  | obj h1 h2 h3 h4 h5 =>
    have I := cf.ins _ _ _ h3 h2
    exact ⟨_, p, _, .ref _, _, false, rfl, upd_same, cl, .base (.ins (g.sub _ _ h1) I.cl I.ha I.hn I.htk I.hm), any2 (cf.noB _ _ _ h3 h2 b1 hb1) (cf.noB _ _ _ h3 h2 b2 hb2), res1 _ _ _ (g.ext rel1) (rel1.grow g) .bl⟩
  | non => exact plain _ rfl fun v H' F' y r z => res1 v H' F' y r z
  | bl => exact plain _ rfl fun v H' F' y r z => res1 v H' F' y r z
  | int => exact plain _ rfl fun v H' F' y r z => res1 v H' F' y r z
  | str => exact plain _ rfl fun v H' F' y r z => res1 v H' F' y r z
  | tup _ _ => exact plain _ rfl fun v H' F' y r z => res1 v H' F' y r z
  | lst _ _ => exact plain _ rfl fun v H' F' y r z => res1 v H' F' y r z
  | sc _ => exact res1.elim
  | dct0 _ => exact plain _ rfl fun v H' F' y r z => res1 v H' F' y r z
  | gl _ => exact res1.elim
/-! all, any: of a new list of truth values -/
def bls : List D → Option (List Bool)
  | [] => some []
  | .bl k :: r => match bls r with
    | some q => some (k :: q)
    | none => none
  | _ => none
theorem bls_rep {K : PySem.W.Frag} {mg : Str → Option Value} {F : Hp} : ∀ {vs : List V} {ds : List D} {bs : List Bool}, Reps K mg F vs ds → bls ds = some bs → vs = bs.map V.bl
  | _, _, _, .nil, h => by cases h; rfl
  | _, _, _, .cons r t, h => by
    cases r <;> try (simp [bls] at h; done)
    simp only [bls] at h
    split at h
    · rename_i q e
      cases h
      rw [bls_rep t e]
      rfl
    · cases h
def hAll : List D → Option D
  | [.lst ds] => match bls ds with
    | some bs => some (.bl (bs.all id))
    | none => none
  | _ => none
def hAny : List D → Option D
  | [.lst ds] => match bls ds with
    | some bs => some (.bl (bs.any id))
    | none => none
  | _ => none
theorem cs_all (hc : X.calm = true) : CallS X (.builtin "all") hAll := by
  refine ⟨_, cr_all hc, fun F H xs ds z Q s rs hh hq => ?_⟩
  cases rs with
  | nil => simp [hAll] at hh
  | cons r t =>
    cases t with
    | cons _ _ => cases r <;> simp [hAll] at hh
    | nil =>
      cases r <;> try (simp [hAll] at hh; done)
      rename_i h1 r1
      simp only [hAll] at hh
      split at hh
      · rename_i bs e
        cases hh
        have := bls_rep r1 e
        subst this
        exact ⟨_, bs, rfl, .inl (.inl (s _ _ h1)), hq _ H F (Grow.refl s) .bl⟩
      · cases hh
theorem cs_any (hc : X.calm = true) : CallS X (.builtin "any") hAny := by
  refine ⟨_, cr_any hc, fun F H xs ds z Q s rs hh hq => ?_⟩
  cases rs with
  | nil => simp [hAny] at hh
  | cons r t =>
    cases t with
    | cons _ _ => cases r <;> simp [hAny] at hh
    | nil =>
      cases r <;> try (simp [hAny] at hh; done)
      rename_i h1 r1
      simp only [hAny] at hh
      split at hh
      · rename_i bs e
        cases hh
        have := bls_rep r1 e
        subst this
        exact ⟨_, bs, rfl, .inl (.inl (s _ _ h1)), hq _ H F (Grow.refl s) .bl⟩
      · cases hh
def hAbs : List D → Option D
  | [.int i] => some (.int (if i < 0 then -i else i))
  | _ => none
theorem cs_abs : CallS X (.builtin "abs") hAbs := by
  refine ⟨_, call_abs, fun F H xs ds z Q s rs hh hq => ?_⟩
  cases rs with
  | nil => simp [hAbs] at hh
  | cons r t =>
    cases t with
    | cons _ _ => cases r <;> simp [hAbs] at hh
    | nil =>
      cases r <;> try (simp [hAbs] at hh; done)
      simp only [hAbs, Option.some.injEq] at hh
      subst hh
      exact ⟨_, rfl, hq _ H F (Grow.refl s) .int⟩
def hMin : List D → Option D
  | [.int i, .int j] => some (.int (if j < i then j else i))
  | _ => none
theorem cs_min (hc : X.calm = true) : CallS X (.builtin "min") hMin := by
  refine ⟨_, call_min2 hc, fun F H xs ds z Q s rs hh hq => ?_⟩
  cases rs with
  | nil => simp [hMin] at hh
  | cons r t =>
    cases t with
    | nil => cases r <;> simp [hMin] at hh
    | cons r2 t2 =>
      cases t2 with
      | cons _ _ => cases r <;> cases r2 <;> simp [hMin] at hh
      | nil =>
        cases r <;> try (cases r2 <;> simp [hMin] at hh; done)
        cases r2 <;> try (simp [hMin] at hh; done)
        simp only [hMin, Option.some.injEq] at hh
        subst hh
        exact ⟨_, _, rfl, hq _ H F (Grow.refl s) .int⟩
/-! repeats -/
theorem rep_size (a : Array Nat) : ∀ (m : Nat) (acc : Array Nat), ((List.replicate m a).foldl (· ++ ·) acc).size = acc.size + m * a.size
  | 0, acc => by simp
  | m + 1, acc => by
    rw [List.replicate_succ, List.foldl_cons, rep_size a m, Array.size_append, Nat.succ_mul]
    omega
def repS (z : Str) (k : Int) : Str := if k < 1 then Str.empty else if (k == 1 || z.length == 0) = true then z else ⟨(List.replicate k.toNat z.cps).foldl (· ++ ·) #[]⟩
def rRepS : R2 := fun x y H Q => ∃ z k, x = .str z ∧ y = .int k ∧ 0 ≤ k ∧ k ≤ 1000 ∧ z.length ≤ 1000 ∧ Q (.str (repS z k)) H
theorem op_repS : OpR X (binaryOp .Mult) rRepS := by
  intro pins s σ H x y v u Q I rx ry h
  obtain ⟨z, k, rfl, rfl, h1, h2, hz, q⟩ := h
  obtain ⟨t, rfl⟩ := rx
  obtain ⟨t', rfl⟩ := ry
  have hm : z.length * k.toNat ≤ 1000 * 1000 := Nat.mul_le_mul hz (by omega)
  refine PySem.P.mul_str (by rw [decide_eq_false (by omega), decide_eq_false (by omega)]; rfl) (fun c1 _ => ?_) (fun _ _ => ?_) ?_
  · have c2 : (0 : Int) < k := by omega
    have c3 : ((z.length : Nat) : Int) * k ≤ 2 ^ 63 - 1 := by
      have : ((z.length : Nat) : Int) * k ≤ 1000 * 1000 := Int.mul_le_mul (by omega) h2 h1 (by omega)
      omega
    exact Int.not_lt.mpr (Int.le_ediv_of_mul_le c2 c3)
  · unfold Builtin.Str.tooLong
    rw [sizeLine_eq]
    exact decide_eq_false (by omega)
  · unfold repS at q
    split
    · rename_i c
      rw [if_pos c] at q
      exact ⟨by decide, ⟨.str _, H, I.tok _, ⟨_, rfl⟩, q⟩⟩
    · rename_i c
      rw [if_neg c] at q
      split
      · rename_i c'
        rw [if_pos c'] at q
        exact ⟨.str _, H, I, ⟨_, rfl⟩, q⟩
      · rename_i c'
        rw [if_neg c'] at q
        refine ⟨?_, ⟨.str _, H, I.tok _, ⟨_, rfl⟩, q⟩⟩
        show (List.foldl (fun x1 x2 => x1 ++ x2) #[] (List.replicate k.toNat z.cps)).size ≤ sizeLine
        rw [rep_size, sizeLine_eq]
        have e : z.cps.size = z.length := rfl
        rw [e, Nat.mul_comm]
        simp
        omega
theorem Reps.rep {K : PySem.W.Frag} {mg : Str → Option Value} {F : Hp} {vs : List V} {ds : List D} (r : Reps K mg F vs ds) : ∀ m : Nat, Reps K mg F (List.replicate m vs).flatten (List.replicate m ds).flatten
  | 0 => .nil
  | m + 1 => by
    rw [List.replicate_succ, List.replicate_succ, List.flatten_cons, List.flatten_cons]
    exact r.append (Reps.rep r m)
def hRep : D → D → Option D
  | .str z, .int k => if decide (0 ≤ k) && decide (k ≤ 1000) && decide (z.length ≤ 1000) then some (.str (repS z k)) else none
  | .lst ds, .int k => if decide (0 ≤ k) && decide (k ≤ 1000) && decide (ds.length ≤ 1000) then some (.lst (List.replicate k.toNat ds).flatten) else none
  | .tup ds, .int k => if decide (2 ≤ k) && decide (k ≤ 1000) && decide (ds.length ≤ 1000) && !ds.isEmpty then some (.tup (List.replicate k.toNat ds).flatten) else none
  | _, _ => none
theorem os_rep : OpS X (binaryOp .Mult) hRep := by
  refine ⟨_, OpR.or' op_repS (OpR.or' op_rep op_repT), fun F H x y d e z Q s rx ry hh hq => ?_⟩
  cases d <;> try (simp [hRep] at hh; done)
  · cases e <;> try (simp [hRep] at hh; done)
    cases rx; cases ry
    simp only [hRep] at hh
    split at hh
    · rename_i c
      simp only [Bool.and_eq_true, decide_eq_true_eq] at c
      cases hh
      exact .inl ⟨_, _, rfl, rfl, c.1.1, c.1.2, c.2, hq _ H F (Grow.refl s) .str⟩
    · cases hh
  · cases e <;> try (simp [hRep] at hh; done)
    cases ry
    simp only [hRep] at hh
    split at hh
    · rename_i c
      simp only [Bool.and_eq_true, decide_eq_true_eq] at c
      cases hh
      cases rx with
      | @tup _ vs _ h1 r1 =>
        refine .inr (.inr ⟨_, _, _, rfl, rfl, sqT_mono s h1, ?_, c.1.1.1, c.1.1.2, by rw [r1.length]; exact c.1.2, fun p hp => ?_⟩)
        · intro e
          have hl := r1.length
          rw [e] at hl
          have := List.eq_nil_of_length_eq_zero hl.symm
          rw [this] at c
          simp at c
        · have g := Grow.lay (o := .tup (List.replicate (Int.toNat ‹Int›) vs).flatten) s hp
          exact hq _ _ _ g (.tup (SqT.of upd_same) ((r1.mono g.mono).rep _))
    · cases hh
  · cases e <;> try (simp [hRep] at hh; done)
    cases ry
    simp only [hRep] at hh
    split at hh
    · rename_i c
      simp only [Bool.and_eq_true, decide_eq_true_eq] at c
      cases hh
      cases rx with
      | @lst _ vs _ h1 r1 =>
        refine .inr (.inl ⟨_, _, _, rfl, rfl, s _ _ h1, by omega, by omega, ?_, fun p hp => ?_⟩)
        · rw [r1.length, sizeLine_eq]
          have : _ * Int.toNat ‹Int› ≤ 1000 * 1000 := Nat.mul_le_mul c.2 (by omega)
          omega
        · have g := Grow.lay (o := .lst (List.replicate (Int.toNat ‹Int›) vs).flatten) s hp
          exact hq _ _ _ g (.lst upd_same ((r1.mono g.mono).rep _))
    · cases hh
def hMul : D → D → Option D := fun d e => (hMulI d e).or (hRep d e)
theorem os_mul : OpS X (binaryOp .Mult) hMul := OpS.or os_mulI os_rep
end
section
variable {X : Cx} {W : WX} {o i e : Expr} {es : List Expr} {gc : SEnv → Out D} {gs : SEnv → Out (List AE)} {p pos : Pos}
/-- a def by its name -/
def Callee (X : Cx) (n : Nat) (x : Str) (Fn : List Sl → FOut) : Prop :=
  ∃ k f fd ps, Room k X.A ∧ X.mg x = some (.ref f) ∧ FnOk X.prog X.w X.K X.mg X.base (L2.CX X.prog X.w) k f fd ps (spF X.K X.mg n Fn) ∧ PySem.W.keepIn X.K (.ref f) = true ∧ Binds X.K fd ps []
theorem callee {k n : Nat} {x : Str} {f : Addr} {fd : FuncData} {ps : List Str} {Fn : List Sl → FOut} (Fo : FnOk X.prog X.w X.K X.mg X.base (L2.CX X.prog X.w) k f fd ps (spF X.K X.mg n Fn)) (hr : Room k X.A) (hm : X.mg x = some (.ref f)) (hk : PySem.W.keepIn X.K (.ref f) = true) (hb : Binds X.K fd ps []) : Callee X n x Fn :=
  ⟨k, f, fd, ps, hr, hm, Fo, hk, hb⟩
def sNo : Str → Option (List Sl → FOut) := fun _ => none
def sIf (x0 : Str) (Fn : List Sl → FOut) (S : Str → Option (List Sl → FOut)) : Str → Option (List Sl → FOut) := fun x => if x = x0 then some Fn else S x
theorem callee_no {n : Nat} : ∀ x Fn, sNo x = some Fn → Callee X n x Fn := fun _ _ h => by cases h
theorem callee_if {n : Nat} {x0 : Str} {F0 : List Sl → FOut} {S : Str → Option (List Sl → FOut)} (h0 : Callee X n x0 F0) (h : ∀ x Fn, S x = some Fn → Callee X n x Fn) : ∀ x Fn, sIf x0 F0 S x = some Fn → Callee X n x Fn := fun x Fn e => by
  unfold sIf at e
  split at e
  · rename_i q
    cases e
    rw [q]
    exact h0
  · exact h x Fn e
/-- [f, g, ..][k](..) -/
def gFnT (S : Str → Option (List Sl → FOut)) (gc : SEnv → Out D) (gs : SEnv → Out (List AE)) : SEnv → Out D := fun env => (gc env).bind fun d e => match d with
  | .gl x => (match S x with
    | some Fn => gFn Fn gs e
    | none => .stuck)
  | _ => .stuck
theorem se_callT {S : Str → Option (List Sl → FOut)} {n : Nat} (T : ∀ x Fn, S x = some Fn → Callee X n x Fn) (tk : Takes X W) (hc : SE X W (.Subscript o i p) gc) (ha : SAE X W (e :: es) gs) (hl : ∀ env as e, gs env = .ok as e → as.length = n)
    (he : starEach (e :: es) X.env = (false, eval e X.env) :: starEach es X.env := by rfl) (hpl : (backTo pos (starEach es X.env)).any (·.1) = false := by rfl) : SE X W (.Call (.Subscript o i p) (e :: es) [] pos) (gFnT S gc gs) := by
  refine ⟨fun pins s σ H Q I hq => ?_⟩
  obtain ⟨F, env, rel, res⟩ := hq
  have eq : eval (.Call (.Subscript o i p) (e :: es) [] pos) X.env = (do callWith pos (← eval (.Subscript o i p) X.env) [] (backTo pos (starEach (e :: es) X.env)) (backToKw pos (keywordEach [] X.env))) := rfl
  rw [eq]
  have res' := RES.bind (R := RD X.K X.mg) (k := fun d e => match d with | .gl x => (match S x with | some Fn => gFn Fn gs e | none => .stuck) | _ => .stuck) res
  refine wpAny_bind (thn (hc.run pins s σ H _ I ⟨F, env, rel, res'⟩) fun u s1 ⟨v, H1, I1, r1, env1, F1, d, x1, rel1, rx, res1⟩ => ?_)
  cases d <;> try exact res1.elim
  rename_i x
  cases hS : S x with
  | none => simp only [hS] at res1; exact res1.elim
  | some Fn =>
    simp only [hS] at res1
    obtain ⟨k, f, fd, ps, hr, hm, Fo, hk, hb⟩ := T x Fn hS
    cases rx with
    | gl hm2 =>
      rw [hm] at hm2
      cases hm2
      cases r1
      refine PySem.W.callWith_K (h₀ := X.base) I1.ok.mod.kin hk (thn (ha.pa.run pos pins s1 σ H1 _ I1 ⟨F1, env1, rel1, RES.lenA hl ((RES.bind (k := fun as e => match argSl e as with | none => .stuck | some ps => if (ios as).Nodup then (match Fn ps with | .stuck => .stuck | .ok d ps' => .ok d (putBack e as ps') | .exc x ps' => .exc x (putBack e as ps')) else .stuck) res1).mono ?_)⟩) fun us s2 ⟨vs, H2, I2, r, q⟩ => ⟨I2.kIn, run_fnS Fo hr hb (passAt tk σ) I2 r q⟩) he hpl
      rintro vs H2 ⟨env2, F2, as, x2, rel2, rv, res2⟩ hn
      exact fn_imp rel2 rv hn res2
end
/-! evaluation -/
theorem ev_FnT {S : Str → Option (List Sl → FOut)} {gc : SEnv → Out D} {gs : SEnv → Out (List AE)} {s : Sl} {e : SEnv} : gFnT S gc gs (s :: e) = (gc (s :: e)).bind fun d e => match d with
  | .gl x => (match S x with
    | some Fn => gFn Fn gs e
    | none => .stuck)
  | _ => .stuck := rfl
theorem ev_sIf {x0 x : Str} {Fn : List Sl → FOut} {S : Str → Option (List Sl → FOut)} : sIf x0 Fn S x = if x = x0 then some Fn else S x := rfl
theorem ev_Isi2 {b1 b2 : String} {ga : SEnv → Out D} {s : Sl} {e : SEnv} : gIsi2 b1 b2 ga (s :: e) = (ga (s :: e)).bind fun d e => match d with
  | .obj _ _ => .ok (.bl false) e
  | _ => match tyD d with
    | some t => .ok (.bl (isTy2 t b1 b2)) e
    | none => .stuck := rfl
theorem ev_isTy2 {t a b : String} : isTy2 t a b = (isTy t a || isTy t b) := rfl
theorem mul_int {i j : Int} (h : (RL.small64 i || RL.small64 j) = true) : hMul (.int i) (.int j) = some (.int (i * j)) := by
  unfold hMul hMulI hIntC
  simp [h]
end RL

/-! RL19: a tuple times 0 and times 1 -/
namespace RL
open PySem L2 PyProof.Rows PySem.Spec
theorem tuple_mul1 (l : Addr) (items : Array Value) (n : Nat) (dd : Option Addr) (sl : Array (Option Value)) (u : Tok) :
    Meets (Builtin.«tuple.__mul__» ⟨[.ref l, .int 1 u], []⟩) (fun _ R s => s.heap.get? l = some { cls := .type "tuple", dict := dd, data := .seq items n, slots := sl } ∧ R (.ok (.ret (Value.ref l))) s) :=
  .of_wp fun prog w A R s h => by
    obtain ⟨hp, g, d, tk, os⟩ := s
    obtain ⟨hl, h⟩ := h
    have f1 := AutoSeq1.idx_int
    have c1 : (items.isEmpty || (1 : Int) == 1) = true := by simp
    wp_walk using wpAny_loadPart' hl
    repeat (first
      | (refine wpAny_ite_false (decide_eq_false (by decide)) ?_; wp_walk using wpAny_loadPart' hl)
      | (refine wpAny_ite_true (decide_eq_true c1) ?_; wp_walk using wpAny_loadPart' hl))
    exact ⟨_, rfl, h⟩
theorem tuple_mul0 (l : Addr) (items : Array Value) (n : Nat) (dd : Option Addr) (sl : Array (Option Value)) (u : Tok) (hi : items.isEmpty = false) :
    Meets (Builtin.«tuple.__mul__» ⟨[.ref l, .int 0 u], []⟩) (fun _ R s => s.heap.get? l = some { cls := .type "tuple", dict := dd, data := .seq items n, slots := sl } ∧
      R (.ok (.ret (Value.ref s.heap.objs.size))) { s with heap := s.heap.push { cls := Value.type "tuple", data := Data.seq #[] }, toks := s.toks }) :=
  .of_wp fun prog w A R s h => by
    obtain ⟨hp, g, d, tk, os⟩ := s
    obtain ⟨hl, h⟩ := h
    have f1 := AutoSeq1.idx_int
    have c1 : ¬ (items.isEmpty || (0 : Int) == 1) = true := by rw [hi]; decide
    have c2 : (decide ((0 : Int) ≤ 0) || items.isEmpty) = true := by simp
    wp_walk using wpAny_loadPart' hl
    repeat (first
      | (refine wpAny_ite_false (decide_eq_false (by decide)) ?_; wp_walk using wpAny_loadPart' hl)
      | (refine wpAny_ite_false (decide_eq_false c1) ?_; wp_walk using wpAny_loadPart' hl)
      | (refine wpAny_ite_true (decide_eq_true c2) ?_; wp_walk using wpAny_loadPart' hl))
    exact ⟨_, rfl, h⟩
section
variable {X : Cx}
def rRep1 (K : PySem.W.Frag) : R2 := fun x y H Q => ∃ l xs, x = .ref l ∧ y = .int 1 ∧ SqT K H l xs ∧ Q (.ref l) H
def rRep0 (K : PySem.W.Frag) : R2 := fun x y H Q => ∃ l xs, x = .ref l ∧ y = .int 0 ∧ SqT K H l xs ∧ xs ≠ [] ∧ ∀ p, H p = none → Q (.ref p) (upd H p (.tup []))
theorem op_rep1 : OpR X (binaryOp .Mult) (rRep1 X.K) := by
  intro pins s σ H x y v u Q I rx ry h
  obtain ⟨l, xs, rfl, rfl, hT, q⟩ := h
  cases rx
  obtain ⟨t, rfl⟩ := ry
  obtain ⟨its, r, ⟨⟨cls, dd, data, sl⟩, ho, hc, n, hd⟩, hs⟩ := I.tuple hT
  simp only at hc hd
  subst hc hd
  exact wpAny_binaryOp_repeat_ref (T := "tuple") (U := "int") (by decide) ⟨_, ho, rfl⟩ (fun s' => typeIs_int s' 1 t) noFill_tuple_mul F.fills_int_mul F.slot_int_rmul repeat_tuple F.slot_int_index.lookup
    (call_meets F.slot_int_rmul (typeIs_int s 1 t) F.entry_int_rmul (F.args_int_rmul_2 _ _) (int_rmul_tuple 1 t l its.toArray n dd sl)
      ⟨ho, rfl, ⟨_, ho, rfl⟩, call_meets F.slot_tuple_mul ⟨_, ho, rfl⟩ F.entry_tuple_mul (F.args_tuple_mul_2 _ _) (tuple_mul1 l its.toArray n dd sl t) ⟨ho, ⟨.ref l, H, I, rfl, q⟩⟩⟩)
theorem op_rep0 : OpR X (binaryOp .Mult) (rRep0 X.K) := by
  intro pins s σ H x y v u Q I rx ry h
  obtain ⟨l, xs, rfl, rfl, hT, hne, q⟩ := h
  cases rx
  obtain ⟨t, rfl⟩ := ry
  obtain ⟨its, r, ⟨⟨cls, dd, data, sl⟩, ho, hc, n, hd⟩, hs⟩ := I.tuple hT
  simp only at hc hd
  subst hc hd
  have hi : its.toArray.isEmpty = false := by
    cases its with
    | nil => exact absurd (List.eq_nil_of_length_eq_zero r.length) hne
    | cons a b => rfl
  refine wpAny_binaryOp_repeat_ref (T := "tuple") (U := "int") (by decide) ⟨_, ho, rfl⟩ (fun s' => typeIs_int s' 0 t) noFill_tuple_mul F.fills_int_mul F.slot_int_rmul repeat_tuple F.slot_int_index.lookup
    (call_meets F.slot_int_rmul (typeIs_int s 0 t) F.entry_int_rmul (F.args_int_rmul_2 _ _) (int_rmul_tuple 0 t l its.toArray n dd sl)
      ⟨ho, rfl, ⟨_, ho, rfl⟩, call_meets F.slot_tuple_mul ⟨_, ho, rfl⟩ F.entry_tuple_mul (F.args_tuple_mul_2 _ _) (tuple_mul0 l its.toArray n dd sl t hi) ⟨ho, ?_⟩⟩)
  refine ⟨.ref s.heap.objs.size, _, I.laid (t' := s.toks) (o := .tup []) (fun b ob q => Heap.get?_push_of_some _ q) (Nat.le_refl _) ?_, rfl, q _ (I.hok.fresh (Nat.le_refl _))⟩
  exact ⟨Nat.zero_le _, [], .nil, IsTup.new _ _⟩
def hRepT : D → D → Option D
  | .tup ds, .int k => if ds.isEmpty then none else if k = 0 then some (.tup []) else if k = 1 then some (.tup ds) else none
  | _, _ => none
theorem os_repT : OpS X (binaryOp .Mult) hRepT := by
  refine ⟨_, OpR.or' op_rep0 op_rep1, fun F H x y d e z Q s rx ry hh hq => ?_⟩
  cases d <;> try (simp [hRepT] at hh; done)
  cases e <;> try (simp [hRepT] at hh; done)
  cases ry
  simp only [hRepT] at hh
  split at hh
  · cases hh
  · rename_i c
    cases rx with
    | @tup _ vs ds h1 r1 =>
      split at hh
      · rename_i c0
        subst c0
        cases hh
        refine .inl ⟨_, _, rfl, rfl, sqT_mono s h1, ?_, fun p hp => ?_⟩
        · intro e
          have hl := r1.length
          rw [e] at hl
          have := List.eq_nil_of_length_eq_zero hl.symm
          rw [this] at c
          exact c rfl
        · have g := Grow.lay (o := .tup []) s hp
          exact hq _ _ _ g (.tup (SqT.of upd_same) .nil)
      · split at hh
        · rename_i c1
          subst c1
          cases hh
          exact .inr ⟨_, _, rfl, rfl, sqT_mono s h1, hq _ H F (Grow.refl s) (.tup h1 r1)⟩
        · cases hh
def hMul2 : D → D → Option D := fun d e => (hMul d e).or (hRepT d e)
theorem os_mul2 : OpS X (binaryOp .Mult) hMul2 := OpS.or os_mul os_repT
end
end RL

/-! RL20: methods of texts, index, str(n), int(text) -/
namespace RL
open PySem L2 PyProof.Rows PySem.Spec

section
variable {X : Cx} {W : WX} {o e f : Expr} {go ge gf : SEnv → Out D} {apos pos p2 : Pos}
/-- a method of texts with one argument -/
def Mt1 (X : Cx) (id : String) (h : Str → D → Option D) : Prop :=
  ∃ r : V → List V → Hp → VK → Prop, MtR X id r ∧ ∀ (F H : Hp) (a : Str) (y : V) (d z : D) (Q : VK), (∀ b u, F b = some u → H b = some u) → Rep X.K X.mg F y d → h a d = some z →
    (∀ v H' F', Grow F H F' H' → Rep X.K X.mg F' v z → Q v H') → r (.str a) [y] H Q
def gM1 (h : Str → D → Option D) (go ge : SEnv → Out D) : SEnv → Out D := fun env => (go env).bind fun d e1 => match d with
  | .str a => (ge e1).bind fun d2 e2 => ofO (h a d2) e2
  | _ => .stuck
theorem ev_M1 {h : Str → D → Option D} {s : Sl} {e : SEnv} : gM1 h go ge (s :: e) = (go (s :: e)).bind fun d e1 => match d with
  | .str a => (ge e1).bind fun d2 e2 => ofO (h a d2) e2
  | _ => .stuck := rfl
theorem se_m1 {id : String} {name : Str} {h : Str → D → Option D} (slot : Slot "str" name id) (ty : typeOf (.builtin id) = pure (.type "method_descriptor")) (hm : Mt1 X id h) (ho : SE X W o go) (he : SE X W e ge)
    (hs : starEach [e] X.env = [(false, eval e X.env)] := by rfl) (hb : attributeBase o name X.env (eval o X.env) = eval o X.env := by rfl) (hl : (apos.endLine == pos.line) = true := by rfl) :
    SE X W (.Call (.Attribute o name apos) [e] [] pos) (gM1 h go ge) := by
  obtain ⟨r, hr, hq⟩ := hm
  refine PE.imp (pe_m1 slot ty hr ho he hs hb hl) fun σ H Q ⟨F, env, rel, res⟩ => ?_
  refine ⟨F, env, rel, (RES.bind (k := fun d e1 => match d with | .str a => (ge e1).bind fun d2 e2 => ofO (h a d2) e2 | _ => .stuck) res).mono ?_⟩
  rintro x H1 ⟨env1, F1, d, x1, rel1, rx, res1⟩
  cases rx with
  | str =>
    rename_i a
    refine ⟨⟨_, rfl⟩, F1, env1, rel1, (RES.bind (k := fun d2 e2 => ofO (h a d2) e2) res1).mono ?_⟩
    rintro y H2 ⟨env2, F2, d2, x2, rel2, ry, res2⟩
    cases q : h a d2 with
    | none => rw [q] at res2; exact res2.elim
    | some z =>
      rw [q] at res2
      exact hq F2 H2 a y d2 z Q rel2.sub ry q fun v H' F' g rv => res2 v H' F' (g.ext rel2) (rel2.grow g) rv
  | _ => exact res1.elim
/-! split -/
def hSplit (a : Str) : D → Option D
  | .str b => if (b.length != 0) && fits a.length then some (.lst ((Txt.split a b).map .str)) else none
  | _ => none
theorem reps_strs {K : PySem.W.Frag} {mg : Str → Option Value} {F : Hp} : ∀ ys : List Str, Reps K mg F (ys.map V.str) (ys.map D.str)
  | [] => .nil
  | _ :: ys => .cons .str (reps_strs ys)
theorem mt_split' : Mt1 X "str.split" hSplit := by
  refine ⟨_, mt_split, fun F H a y d z Q s ry hh hq => ?_⟩
  cases ry <;> simp only [hSplit, reduceCtorEq] at hh
  split at hh
  · rename_i c
    cases hh
    simp only [Bool.and_eq_true, bne_iff_ne, ne_eq] at c
    refine ⟨a, _, rfl, rfl, by simpa using c.1, ?_, fun p hp => ?_⟩
    · have := of_decide_eq_true c.2
      rw [sizeLine_eq]; show a.length + 2 ≤ 16777216; omega
    · exact hq _ _ _ (Grow.lay s hp) (.lst upd_same (reps_strs _))
  · cases hh
theorem se_split (ho : SE X W o go) (he : SE X W e ge)
    (hs : starEach [e] X.env = [(false, eval e X.env)] := by rfl) (hb : attributeBase o "split" X.env (eval o X.env) = eval o X.env := by rfl) (hl : (apos.endLine == pos.line) = true := by rfl) :
    SE X W (.Call (.Attribute o "split" apos) [e] [] pos) (gM1 hSplit go ge) := se_m1 F.slot_str_split F.type_str_split mt_split' ho he hs hb hl
/-! join -/
def strsD : List D → Option (List Str)
  | [] => some []
  | .str a :: r => (strsD r).map (a :: ·)
  | _ :: _ => none
theorem strs_vs {K : PySem.W.Frag} {mg : Str → Option Value} {F : Hp} : ∀ {vs : List V} {ds : List D} {ys : List Str}, Reps K mg F vs ds → strsD ds = some ys → vs = ys.map V.str
  | _, _, _, .nil, h => by cases h; rfl
  | _, _, _, .cons r t, h => by
    cases r <;> simp only [strsD, reduceCtorEq] at h
    obtain ⟨zs, h1, rfl⟩ := Option.map_eq_some_iff.mp h
    rw [strs_vs t h1]; rfl
def joinFits (a : Str) (ys : List Str) : Bool := decide ((ys.map (·.length)).sum + ys.length * a.length ≤ 1000000)
def hJoin (a : Str) : D → Option D
  | .lst ds => (strsD ds).bind fun ys => if joinFits a ys then some (.str (Txt.join a ys)) else none
  | .tup ds => (strsD ds).bind fun ys => if joinFits a ys then some (.str (Txt.join a ys)) else none
  | _ => none
theorem mt_join' : Mt1 X "str.join" hJoin := by
  refine ⟨_, mt_join, fun F H a y d z Q s ry hh hq => ?_⟩
  cases ry <;> simp only [hJoin, reduceCtorEq] at hh
  all_goals
    obtain ⟨ys, h1, h2⟩ := Option.bind_eq_some_iff.mp hh
    split at h2
    · rename_i c
      cases h2
      have c1 := of_decide_eq_true c
      rename_i hv rs
      have e := strs_vs rs h1
      subst e
      refine ⟨a, _, ys, rfl, rfl, ?_, by omega, hq _ H F (Grow.refl s) .str⟩
      first | exact .inl (.inl (.inl (s _ _ hv))) | exact .inr (sqT_mono s hv)
    · cases h2
theorem se_join (ho : SE X W o go) (he : SE X W e ge)
    (hs : starEach [e] X.env = [(false, eval e X.env)] := by rfl) (hb : attributeBase o "join" X.env (eval o X.env) = eval o X.env := by rfl) (hl : (apos.endLine == pos.line) = true := by rfl) :
    SE X W (.Call (.Attribute o "join" apos) [e] [] pos) (gM1 hJoin go ge) := se_m1 F.slot_str_join F.type_str_join mt_join' ho he hs hb hl
/-! find, strip -/
def hFind (a : Str) : D → Option D
  | .str b => some (.int (Txt.find a b))
  | _ => none
theorem mt_find' : Mt1 X "str.find" hFind := by
  refine ⟨_, mt_find, fun F H a y d z Q s ry hh hq => ?_⟩
  cases ry <;> simp only [hFind, reduceCtorEq] at hh
  cases hh
  exact ⟨a, _, rfl, rfl, hq _ H F (Grow.refl s) .int⟩
theorem se_find (ho : SE X W o go) (he : SE X W e ge)
    (hs : starEach [e] X.env = [(false, eval e X.env)] := by rfl) (hb : attributeBase o "find" X.env (eval o X.env) = eval o X.env := by rfl) (hl : (apos.endLine == pos.line) = true := by rfl) :
    SE X W (.Call (.Attribute o "find" apos) [e] [] pos) (gM1 hFind go ge) := se_m1 F.slot_str_find F.type_str_find mt_find' ho he hs hb hl
def hStrip (a : Str) : D → Option D
  | .str b => if fits a.length then some (.str (Txt.stripChars a b)) else none
  | _ => none
theorem mt_strip' : Mt1 X "str.strip" hStrip := by
  refine ⟨_, mt_stripChars, fun F H a y d z Q s ry hh hq => ?_⟩
  cases ry <;> simp only [hStrip, reduceCtorEq] at hh
  split at hh
  · rename_i c
    cases hh
    exact ⟨a, _, rfl, rfl, fits_line c, hq _ H F (Grow.refl s) .str⟩
  · cases hh
theorem se_strip (ho : SE X W o go) (he : SE X W e ge)
    (hs : starEach [e] X.env = [(false, eval e X.env)] := by rfl) (hb : attributeBase o "strip" X.env (eval o X.env) = eval o X.env := by rfl) (hl : (apos.endLine == pos.line) = true := by rfl) :
    SE X W (.Call (.Attribute o "strip" apos) [e] [] pos) (gM1 hStrip go ge) := se_m1 F.slot_str_strip F.type_str_strip mt_strip' ho he hs hb hl
/-! str(n), int(text) -/
def hStrOf : List D → Option D
  | [.int i] => if decide (i.natAbs.log2 < 1920) then some (.str (toString i)) else none
  | _ => none
theorem cs_str : CallS X (.type "str") hStrOf := by
  refine ⟨_, call_str_int, fun F H vs ds z Q s rs hh hq => ?_⟩
  cases rs with
  | nil => simp [hStrOf] at hh
  | cons r t =>
    cases t with
    | cons _ _ => cases r <;> simp [hStrOf] at hh
    | nil =>
      cases r <;> simp only [hStrOf, reduceCtorEq] at hh
      split at hh
      · rename_i c
        cases hh
        exact ⟨_, rfl, of_decide_eq_true c, hq _ H F (Grow.refl s) .str⟩
      · cases hh
def hIntTx : List D → Option D
  | [.str a] => if decide (a.length ≤ 640) then (PySem.intText? a).map .int else none
  | _ => none
theorem cs_intTx : CallS X (.type "int") hIntTx := by
  refine ⟨_, call_int_str, fun F H vs ds z Q s rs hh hq => ?_⟩
  cases rs with
  | nil => simp [hIntTx] at hh
  | cons r t =>
    cases t with
    | cons _ _ => cases r <;> simp [hIntTx] at hh
    | nil =>
      cases r <;> simp only [hIntTx, reduceCtorEq] at hh
      split at hh
      · rename_i c
        obtain ⟨n, h1, rfl⟩ := Option.map_eq_some_iff.mp hh
        exact ⟨_, n, rfl, h1, of_decide_eq_true c, hq _ H F (Grow.refl s) .int⟩
      · cases hh
def hIntOf2 : List D → Option D := fun ds => (hIntOf ds).or (hIntTx ds)
theorem cs_int2 : CallS X (.type "int") hIntOf2 := CallS.or cs_int cs_intTx
end
end RL

/-! MA: readers as machines on lists of signs, and what a text's form is (no program in sight) -/
namespace M
def fig (c : Nat) : Bool := decide (48 ≤ c) && decide (c ≤ 57)
structure P where
  pt : Option Nat
  cm : Option Nat
  rest : Nat
  must : Bool
  sg : Nat
  zeros : Bool
  blanks : Bool
  expo : Bool
  deriving DecidableEq
structure P.Ok (R : P) : Prop where
  pt : R.pt = none ∨ R.pt = some 46 ∨ R.pt = some 44
  cm : R.cm = none ∨ R.cm = some 46 ∨ R.cm = some 44 ∨ R.cm = some 39 ∨ R.cm = some 32
  rest : R.rest = 2 ∨ R.rest = 3
  sg : R.sg = 0 ∨ R.sg = 1 ∨ R.sg = 2
  ne : R.cm ≠ none → R.cm ≠ R.pt
  bl : R.blanks = true → R.cm ≠ some 32
inductive St where
  | ahead | minus | fg (m : Nat) (g n : Bool) | point | frac | e | em | pow (n : Bool) | pows | behind | blanks
  deriving DecidableEq
def St.whole : St → Bool
  | fg m g _ => !g || m == 3
  | _ => false
def St.canEnd : St → Bool
  | fg m g _ => !g || m == 3
  | frac => true | pow _ => true | pows => true | behind => true | blanks => true
  | _ => false
def nextFig (R : P) (st : St) (c : Nat) : Option St := match st with
  | .ahead => some (.fg 1 false (c == 48 && !R.zeros))
  | .minus => some (.fg 1 false (c == 48 && !R.zeros))
  | .fg m g n => if n || (m == 3 && (g || (R.must && R.cm.isSome))) then none else some (.fg (min (m + 1) 4) g false)
  | .point => some .frac
  | .frac => some .frac
  | .e => some (.pow (c == 48 && !R.zeros))
  | .em => some (.pow (c == 48 && !R.zeros))
  | .pow n => if n then none else some .pows
  | _ => none
def nextMark (R : P) (st : St) : Option St := match st with
  | .fg m g n => if n || decide (3 < m) then none else if (if g then m == R.rest else decide (m ≤ R.rest)) then some (.fg 0 true false) else none
  | _ => none
def nextMinus (R : P) (st : St) : Option St := match st with
  | .e => some .em
  | .ahead => if R.sg == 1 then some .minus else none
  | .behind => none
  | .blanks => none
  | st => if R.sg == 2 && st.canEnd then some .behind else none
def next (R : P) (st : St) (c : Nat) : Option St :=
  if fig c then nextFig R st c
  else if c == 45 then nextMinus R st
  else if c == 101 then (if R.expo && (st == .frac || st.whole) then some .e else none)
  else if some c == R.cm then nextMark R st
  else if some c == R.pt then (if st.whole then some .point else none)
  else if c == 32 && R.blanks then (if st == .ahead then some .ahead else if st.canEnd then some .blanks else none)
  else none
def run (R : P) : St → List Nat → Option St
  | st, [] => some st
  | st, c :: t => match next R st c with
    | none => none
    | some s => run R s t
def acc (R : P) : St → List Nat → Bool
  | st, [] => st.canEnd
  | st, c :: t => match next R st c with
    | none => false
    | some s => acc R s t
def stopAt (R : P) : St → List Nat → Nat → Option Nat
  | st, [], i => if st.canEnd then none else some i
  | st, c :: t, i => match next R st c with
    | none => some i
    | some s => stopAt R s t (i + 1)
theorem acc_run {R : P} : ∀ {u : List Nat} {st : St} {t : List Nat}, acc R st (u ++ t) = match run R st u with
    | none => false
    | some s => acc R s t
  | [], st, t => rfl
  | c :: u, st, t => by
    simp only [List.cons_append, acc, run]
    cases next R st c with
    | none => rfl
    | some s => exact acc_run
theorem run_app {R : P} : ∀ {u : List Nat} {st : St} {t : List Nat}, run R st (u ++ t) = match run R st u with
    | none => none
    | some s => run R s t
  | [], st, t => rfl
  | c :: u, st, t => by
    simp only [List.cons_append, run]
    cases next R st c with
    | none => rfl
    | some s => exact run_app
theorem stop_acc {R : P} : ∀ {t : List Nat} {st : St} {i : Nat}, (stopAt R st t i).isNone = acc R st t
  | [], st, i => by unfold stopAt acc; cases st.canEnd <;> rfl
  | c :: t, st, i => by
    unfold stopAt acc
    cases next R st c with
    | none => rfl
    | some s => exact stop_acc
/-! ### the spec -/
def splitL (c : Nat) : List Nat → List (List Nat)
  | [] => [[]]
  | x :: t => if x = c then [] :: splitL c t else match splitL c t with
    | [] => [[x]]
    | g :: gs => (x :: g) :: gs
theorem splitL_ne {c : Nat} : ∀ {l : List Nat}, splitL c l ≠ []
  | [] => by simp [splitL]
  | x :: t => by
    unfold splitL
    split
    · simp
    · split <;> simp
def figs (w : List Nat) : Bool := !w.isEmpty && w.all fig
def cut (o : Option Nat) (w : List Nat) : List (List Nat) := match o with
  | some c => splitL c w
  | none => [w]
def sWhole (R : P) (w : List Nat) : Bool :=
  let ws := cut R.cm w
  if !ws.all figs then false
  else if !R.zeros && (decide (1 < w.length) && (w.head? == some 48)) then false
  else if ws.length == 1 then R.cm.isNone || (!R.must || decide (w.length ≤ 3))
  else if (ws.getLast?.getD []).length != 3 || !(decide (1 ≤ (ws.head?.getD []).length) && decide ((ws.head?.getD []).length ≤ R.rest)) then false
  else (ws.drop 1).dropLast.all fun g => g.length == R.rest
def strip32 (l : List Nat) : List Nat := ((l.dropWhile (· == 32)).reverse.dropWhile (· == 32)).reverse
def sBody (R : P) (t : List Nat) : List Nat × Bool :=
  let b := if R.blanks then strip32 t else t
  if R.sg == 1 && b.take 1 == [45] then (b.drop 1, true)
  else if R.sg == 2 && b.drop (b.length - 1) == [45] then (b.dropLast, true)
  else (b, false)
def dv (l : List Nat) : Nat := l.foldl (fun acc c => acc * 10 + (c - 48)) 0
def signed (l : List Nat) : Int := match l with
  | 45 :: d => -(dv d : Int)
  | d => (dv d : Int)
def norm : Nat → Int → Int → Int × Int
  | 0, n, k => (n, k)
  | f + 1, n, k => if n ≠ 0 ∧ n % 10 = 0 then norm f (n / 10) (k + 1) else (n, if n ≠ 0 then k else 0)
/-- the figures ahead of the decimal sign and behind it, the power, the sign -/
def val (below : Bool) (w f : List Nat) (x : Int) : Int × Int :=
  let n : Int := (dv (w.filter fig ++ f) : Int)
  norm ((w.filter fig ++ f).length + 1) (if below then -n else n) (x - (f.length : Int))
def sHalves (R : P) (below : Bool) (x : Int) (w : List Nat) : Option (Int × Int) :=
  let hs := cut R.pt w
  if decide (2 < hs.length) || !sWhole R (hs.head?.getD []) then none
  else let f := if hs.length == 2 then hs.getD 1 [] else []
    if hs.length == 2 && !figs f then none
    else some (val below (hs.head?.getD []) f x)
def sMeans (R : P) (t : List Nat) : Option (Int × Int) :=
  let (b, below) := sBody R t
  let ws := splitL 101 b
  if ws.length == 2 && R.expo then
    let e := ws.getD 1 []
    let d := if e.take 1 == [45] then e.drop 1 else e
    if !figs d || decide (2 < d.length) then none
    else if !R.zeros && (d.length == 2 && (d.head? == some 48)) then none
    else sHalves R below (signed e) (ws.head?.getD [])
  else if ws.length != 1 then none
  else sHalves R below 0 (ws.head?.getD [])
end M

namespace M
theorem acc_cons {R : P} {st : St} {c : Nat} {t : List Nat} : acc R st (c :: t) = (match next R st c with
    | none => false
    | some s => acc R s t) := by
  first
    | rfl
    | (rw [acc] <;> cases next R st c <;> rfl)
theorem fig_ne {c : Nat} (h : fig c = true) : c ≠ 45 ∧ c ≠ 101 ∧ c ≠ 32 ∧ c ≠ 46 ∧ c ≠ 44 ∧ c ≠ 39 := by
  simp [fig] at h; omega
theorem P.Ok.cm_fig {R : P} (h : R.Ok) {c : Nat} (e : R.cm = some c) : fig c = false ∧ c ≠ 45 ∧ c ≠ 101 := by
  rcases h.cm with q | q | q | q | q <;> rw [q] at e <;> cases e <;> decide
theorem P.Ok.pt_fig {R : P} (h : R.Ok) {c : Nat} (e : R.pt = some c) : fig c = false ∧ c ≠ 45 ∧ c ≠ 101 ∧ c ≠ 32 := by
  rcases h.pt with q | q | q <;> rw [q] at e <;> cases e <;> decide
def bl (R : P) (t : List Nat) : Bool := t.all (· == 32) && (t.isEmpty || R.blanks)
def tail (R : P) (t : List Nat) : Bool := bl R t || (R.sg == 2 && match t with | 45 :: t' => bl R t' | _ => false)
theorem bl_cons {R : P} {c : Nat} {t : List Nat} : bl R (c :: t) = (c == 32 && R.blanks && bl R t) := by
  unfold bl
  simp only [List.all_cons, List.isEmpty_cons, Bool.false_or]
  cases (c == 32) <;> cases R.blanks <;> cases t.all (· == 32) <;> simp
/-- the states behind which only blanks stand -/
theorem next_blanks {R : P} (h : R.Ok) {c : Nat} {st : St} (hs : st = .blanks ∨ st = .behind) : next R st c = if c == 32 && R.blanks then some .blanks else none := by
  unfold next
  by_cases h1 : fig c = true
  · have := (fig_ne h1).2.2.1
    rcases hs with rfl | rfl <;> simp [h1, nextFig, this]
  · by_cases h2 : c = 45
    · subst h2; rcases hs with rfl | rfl <;> simp [fig, nextMinus]
    · by_cases h3 : c = 101
      · subst h3; rcases hs with rfl | rfl <;> simp [fig, St.whole]
      · by_cases h4 : R.cm = some c
        · have : c = 32 → R.blanks = false := fun e => by
            subst e
            cases q : R.blanks
            · rfl
            · exact absurd h4 (h.bl q)
          rcases hs with rfl | rfl <;> simp [h1, h2, h3, h4, nextMark] <;> exact this
        · by_cases h5 : R.pt = some c
          · have := (h.pt_fig h5).2.2.2
            rcases hs with rfl | rfl <;> simp [h1, h2, h3, Ne.symm h4, h5, St.whole, this]
          · rcases hs with rfl | rfl <;> simp [h1, h2, h3, Ne.symm h4, Ne.symm h5, St.canEnd]
theorem acc_blanks {R : P} (h : R.Ok) : ∀ {t : List Nat} {st : St}, (st = .blanks ∨ st = .behind) → acc R st t = bl R t
  | [], st, hs => by rcases hs with rfl | rfl <;> rfl
  | c :: t, st, hs => by
    unfold acc
    rw [next_blanks h hs, bl_cons]
    by_cases q : (c == 32 && R.blanks) = true
    · rw [q]; simp only [if_true, Bool.true_and]; exact acc_blanks h (.inl rfl)
    · rw [if_neg q]
      simp only [Bool.not_eq_true] at q
      rw [q]; rfl
/-- what a state that can end, not behind a sign, does with a sign that is no figure -/
theorem next_end {R : P} (h : R.Ok) {c : Nat} {st : St} (hs : st = .frac ∨ st = .pows ∨ ∃ n, st = .pow n) (hc : fig c = false) :
    next R st c = if c = 45 then (if R.sg == 2 then some .behind else none) else if c = 101 then (if R.expo && st == .frac then some .e else none) else if c == 32 && R.blanks then some .blanks else none := by
  unfold next
  by_cases h2 : c = 45
  · subst h2; rcases hs with rfl | rfl | ⟨n, rfl⟩ <;> simp [fig, nextMinus, St.canEnd]
  · by_cases h3 : c = 101
    · subst h3; rcases hs with rfl | rfl | ⟨n, rfl⟩ <;> simp [fig, St.whole]
    · by_cases h4 : R.cm = some c
      · have : c = 32 → R.blanks = false := fun e => by
          subst e
          cases q : R.blanks
          · rfl
          · exact absurd h4 (h.bl q)
        rcases hs with rfl | rfl | ⟨n, rfl⟩ <;> simp [hc, h2, h3, h4, nextMark] <;> exact this
      · by_cases h5 : R.pt = some c
        · have := (h.pt_fig h5).2.2.2
          rcases hs with rfl | rfl | ⟨n, rfl⟩ <;> simp [hc, h2, h3, Ne.symm h4, h5, St.whole, this]
        · rcases hs with rfl | rfl | ⟨n, rfl⟩ <;> simp [hc, h2, h3, Ne.symm h4, Ne.symm h5, St.canEnd]
theorem tail_nil {R : P} : tail R [] = true := by simp [tail, bl]
theorem tail_cons {R : P} {c : Nat} {t : List Nat} : tail R (c :: t) = if c = 45 then (R.sg == 2 && bl R t) else (c == 32 && R.blanks && bl R t) := by
  unfold tail
  rw [bl_cons]
  by_cases h : c = 45
  · subst h; simp
  · rw [if_neg h]
    split
    · rename_i q; cases q; exact absurd rfl h
    · simp
theorem tail_fig {R : P} {c : Nat} {t : List Nat} (h : fig c = true) : tail R (c :: t) = false := by
  rw [tail_cons, if_neg (fig_ne h).1]
  simp [(fig_ne h).2.2.1]
theorem acc_pows {R : P} (h : R.Ok) {t : List Nat} : acc R .pows t = tail R t := by
  cases t with
  | nil => simp [acc, St.canEnd, tail_nil]
  | cons c t =>
    unfold acc
    cases hc : fig c
    · rw [next_end h (.inr (.inl rfl)) hc, tail_cons]
      by_cases h2 : c = 45
      · simp only [h2, if_true]
        cases R.sg == 2
        · rfl
        · simp [acc_blanks h (.inr rfl)]
      · simp only [h2, if_false]
        by_cases h3 : c = 101
        · subst h3; simp
        · rw [if_neg h3]
          by_cases q : (c == 32 && R.blanks) = true
          · simp only [q, if_true, Bool.true_and]; exact acc_blanks h (.inl rfl)
          · rw [if_neg q]; simp only [Bool.not_eq_true] at q; simp [q]
    · rw [tail_fig hc]; simp [next, hc, nextFig]
theorem acc_pow {R : P} (h : R.Ok) {t : List Nat} {n : Bool} : acc R (.pow n) t = (tail R t || (!n && match t with | c :: t' => fig c && tail R t' | [] => false)) := by
  cases t with
  | nil => simp [acc, St.canEnd, tail_nil]
  | cons c t =>
    unfold acc
    cases hc : fig c
    · rw [next_end h (.inr (.inr ⟨n, rfl⟩)) hc]
      simp only [hc, Bool.false_and, Bool.and_false, Bool.or_false]
      rw [← acc_pows h, acc_cons, next_end h (.inr (.inl rfl)) hc]
      by_cases h3 : c = 101
      · subst h3; simp
      · simp only [h3, if_false] <;>
        generalize (if c = 45 then if (R.sg == 2) = true then some St.behind else none else if (c == 32 && R.blanks) = true then some St.blanks else none) = o <;> cases o <;> rfl
    · rw [tail_fig hc]
      cases n <;> simp [next, hc, nextFig, acc_pows h]
/-- the figures behind e -/
def pfigs (R : P) (d : List Nat) : Bool := figs d && decide (d.length ≤ 2) && !(!R.zeros && (d.length == 2 && d.head? == some 48))
theorem pfigs1 {R : P} {c : Nat} (h : fig c = true) : pfigs R [c] = true := by simp [pfigs, figs, h]
theorem acc_exp {R : P} (h : R.Ok) {t : List Nat} {st : St} (hs : st = .em ∨ st = .e) (h0 : st = .e → t.head? ≠ some 45) : acc R st t = true ↔ ∃ d r, t = d ++ r ∧ pfigs R d = true ∧ tail R r = true := by
  cases t with
  | nil =>
    constructor
    · intro q; rcases hs with rfl | rfl <;> simp [acc, St.canEnd] at q
    · rintro ⟨d, r, e, q, -⟩
      have : d = [] := by cases d with | nil => rfl | cons => simp at e
      subst this; simp [pfigs, figs] at q
  | cons c t =>
    unfold acc
    cases hc : fig c
    · have hn : next R st c = none := by
        unfold next
        by_cases h2 : c = 45
        · subst h2
          rcases hs with rfl | rfl
          · simp [fig, nextMinus, St.canEnd]
          · exact absurd rfl (h0 rfl)
        · rcases hs with rfl | rfl <;> simp [hc, h2, St.whole, nextMark, St.canEnd]
      rw [hn]
      constructor
      · simp
      · rintro ⟨d, r, e, q, -⟩
        cases d with
        | nil => simp [pfigs, figs] at q
        | cons x d =>
          simp at e
          rw [← e.1] at q
          simp [pfigs, figs, hc] at q
    · have hn : next R st c = some (.pow (c == 48 && !R.zeros)) := by rcases hs with rfl | rfl <;> simp [next, hc, nextFig]
      rw [hn]
      simp only
      rw [acc_pow h]
      constructor
      · intro q
        rcases (Bool.or_eq_true _ _).mp q with q | q
        · exact ⟨[c], t, rfl, pfigs1 hc, q⟩
        · cases t with
          | nil => simp at q
          | cons x t =>
            simp only [Bool.and_eq_true, Bool.not_eq_true'] at q
            refine ⟨[c, x], t, rfl, ?_, q.2.2⟩
            have := q.1
            simp [pfigs, figs, hc, q.2.1]
            rcases Nat.decEq c 48 with z | z
            · exact .inr z
            · subst z; simp at this; exact .inl this
      · rintro ⟨d, r, e, q, z⟩
        match d, e, q with
        | [], e, q => simp [pfigs, figs] at q
        | [x], e, q => simp at e; rw [e.2]; simp [z]
        | [x, y], e, q =>
          simp at e
          obtain ⟨rfl, rfl⟩ := e
          simp [pfigs, figs] at q
          simp only [Bool.or_eq_true, Bool.and_eq_true]
          right
          refine ⟨?_, q.1.2, z⟩
          rcases q.2 with z | z
          · simp [z]
          · simp [z]
        | x :: y :: u :: d, e, q => simp [pfigs] at q
end M

namespace M
def eL : Option (Bool × List Nat) → List Nat
  | none => []
  | some (m, d) => 101 :: ((if m then [45] else []) ++ d)
def eOk (R : P) : Option (Bool × List Nat) → Prop
  | none => True
  | some (_, d) => R.expo = true ∧ pfigs R d = true
theorem acc_e {R : P} (h : R.Ok) {t : List Nat} : acc R .e t = true ↔ ∃ (m : Bool) (d r : List Nat), t = (if m then [45] else []) ++ d ++ r ∧ pfigs R d = true ∧ tail R r = true := by
  by_cases h0 : t.head? = some 45
  · cases t with
    | nil => simp at h0
    | cons c t =>
      simp at h0; subst h0
      have : acc R .e (45 :: t) = acc R .em t := by rw [acc_cons]; simp [next, fig, nextMinus]
      rw [this, acc_exp h (.inl rfl) (by simp)]
      constructor
      · rintro ⟨d, r, rfl, q, z⟩; exact ⟨true, d, r, by simp, q, z⟩
      · rintro ⟨m, d, r, e, q, z⟩
        cases m with
        | true => simp at e; exact ⟨d, r, by simpa using e, q, z⟩
        | false =>
          exfalso
          cases d with
          | nil => simp [pfigs, figs] at q
          | cons x d => simp at e; rw [← e.1] at q; simp [pfigs, figs, fig] at q
  · rw [acc_exp h (.inr rfl) fun _ => h0]
    constructor
    · rintro ⟨d, r, rfl, q, z⟩; exact ⟨false, d, r, by simp, q, z⟩
    · rintro ⟨m, d, r, e, q, z⟩
      cases m with
      | true => subst e; simp at h0
      | false => simp at e; exact ⟨d, r, by simpa using e, q, z⟩
/-- behind the figures: an exponent or none, then the end -/
def EndL (R : P) (t : List Nat) : Prop := ∃ x r, t = eL x ++ r ∧ eOk R x ∧ tail R r = true
theorem endL_cons {R : P} (h : R.Ok) {c : Nat} {t : List Nat} (hc : fig c = false) : EndL R (c :: t) ↔ (c = 45 ∧ R.sg = 2 ∧ bl R t = true) ∨ (c = 101 ∧ R.expo = true ∧ acc R .e t = true) ∨ (c = 32 ∧ R.blanks = true ∧ bl R t = true) := by
  constructor
  · rintro ⟨x, r, e, q, z⟩
    cases x with
    | none =>
      simp [eL] at e
      rw [← e, tail_cons] at z
      by_cases h2 : c = 45
      · rw [if_pos h2] at z; simp at z; exact .inl ⟨h2, z.1, z.2⟩
      · rw [if_neg h2] at z; simp at z; exact .inr (.inr ⟨z.1.1, z.1.2, z.2⟩)
    | some md =>
      obtain ⟨m, d⟩ := md
      simp [eL] at e
      refine .inr (.inl ⟨e.1, q.1, ?_⟩)
      rw [acc_e h]
      exact ⟨m, d, r, by rw [e.2]; simp, q.2, z⟩
  · rintro (⟨rfl, q, z⟩ | ⟨rfl, q, z⟩ | ⟨rfl, q, z⟩)
    · exact ⟨none, _, rfl, trivial, by rw [tail_cons]; simp [q, z]⟩
    · obtain ⟨m, d, r, e, q2, z2⟩ := (acc_e h).mp z
      exact ⟨some (m, d), r, by simp [eL, e], ⟨q, q2⟩, z2⟩
    · exact ⟨none, _, rfl, trivial, by rw [tail_cons]; simp [q, z]⟩
theorem endL_nil {R : P} : EndL R [] := ⟨none, [], rfl, trivial, tail_nil⟩
theorem acc_frac {R : P} (h : R.Ok) : ∀ {t : List Nat}, acc R .frac t = true ↔ ∃ f s, t = f ++ s ∧ f.all fig = true ∧ EndL R s
  | [] => ⟨fun _ => ⟨[], [], rfl, rfl, endL_nil⟩, fun _ => rfl⟩
  | c :: t => by
    rw [acc_cons]
    cases hc : fig c
    · rw [next_end h (.inl rfl) hc]
      have key : EndL R (c :: t) ↔ ∃ f s, c :: t = f ++ s ∧ f.all fig = true ∧ EndL R s := by
        constructor
        · intro q; exact ⟨[], _, rfl, rfl, q⟩
        · rintro ⟨f, s, e, q, z⟩
          cases f with
          | nil => simp at e; rw [e]; exact z
          | cons x f => simp at e; simp [← e.1, hc] at q
      rw [← key, endL_cons h hc]
      by_cases h2 : c = 45
      · simp only [h2, if_true]
        by_cases q : R.sg = 2
        · simp [q, acc_blanks h (.inr rfl)]
        · simp [q]
      · by_cases h3 : c = 101
        · simp only [h3, h2, if_true, if_false]
          by_cases q : R.expo = true
          · simp [q]
          · simp [q]
        · simp only [h2, h3, if_false]
          by_cases q : c = 32 ∧ R.blanks = true
          · simp [q, acc_blanks h (.inl rfl)]
          · rw [if_neg (by simpa using q)]
            simp
            intro a b; exact absurd ⟨a, b⟩ q
    · have : next R .frac c = some .frac := by simp [next, hc, nextFig]
      rw [this]
      simp only
      rw [acc_frac h (t := t)]
      constructor
      · rintro ⟨f, s, rfl, q, z⟩; exact ⟨c :: f, s, rfl, by simp [hc, q], z⟩
      · rintro ⟨f, s, e, q, z⟩
        cases f with
        | nil =>
          simp at e; subst e
          obtain ⟨x, r, e, q1, z1⟩ := z
          cases x with
          | none => simp [eL] at e; rw [← e, tail_fig hc] at z1; cases z1
          | some md => simp [eL] at e; rw [e.1] at hc; simp [fig] at hc
        | cons y f => simp at e; simp at q; exact ⟨f, s, e.2, by simp [List.all_eq_true]; exact q.2, z⟩
theorem acc_point {R : P} (h : R.Ok) {t : List Nat} : acc R .point t = true ↔ ∃ f s, t = f ++ s ∧ figs f = true ∧ EndL R s := by
  cases t with
  | nil =>
    constructor
    · intro q; simp [acc, St.canEnd] at q
    · rintro ⟨f, s, e, q, -⟩
      have : f = [] := by cases f with | nil => rfl | cons => simp at e
      subst this; simp [figs] at q
  | cons c t =>
    rw [acc_cons]
    cases hc : fig c
    · have : next R .point c = none := by
        unfold next
        by_cases h2 : c = 45
        · subst h2; simp [fig, nextMinus, St.canEnd]
        · simp [hc, h2, St.whole, nextMark, St.canEnd]
      rw [this]
      constructor
      · simp
      · rintro ⟨f, s, e, q, -⟩
        cases f with
        | nil => simp [figs] at q
        | cons y f => simp at e; simp [figs, ← e.1, hc] at q
    · have : next R .point c = some .frac := by simp [next, hc, nextFig]
      rw [this]
      simp only
      rw [acc_frac h]
      constructor
      · rintro ⟨f, s, rfl, q, z⟩; exact ⟨c :: f, s, rfl, by simp [figs, hc]; simpa [List.all_eq_true] using q, z⟩
      · rintro ⟨f, s, e, q, z⟩
        cases f with
        | nil => simp [figs] at q
        | cons y f => simp at e; simp [figs] at q; exact ⟨f, s, e.2, by simpa [List.all_eq_true] using q.2, z⟩
/-- behind a whole: a fraction or none, then the end -/
def fL (p : Option Nat) (f : List Nat) : List Nat := if f.isEmpty then [] else p.toList ++ f
def fOk (R : P) (f : List Nat) : Prop := f.all fig = true ∧ (f ≠ [] → R.pt ≠ none)
def After (R : P) (t : List Nat) : Prop := ∃ f s, t = fL R.pt f ++ s ∧ fOk R f ∧ EndL R s
theorem after_nil {R : P} : After R [] := ⟨[], [], rfl, ⟨rfl, fun h => absurd rfl h⟩, endL_nil⟩
theorem after_cons {R : P} (h : R.Ok) {c : Nat} {t : List Nat} (hc : fig c = false) (hm : R.cm ≠ some c) : After R (c :: t) ↔ EndL R (c :: t) ∨ (R.pt = some c ∧ acc R .point t = true) := by
  constructor
  · rintro ⟨f, s, e, q, z⟩
    cases f with
    | nil => simp [fL] at e; rw [e]; exact .inl z
    | cons x f =>
      cases hp : R.pt with
      | none => exact absurd hp (q.2 (by simp))
      | some p =>
        rw [hp] at e
        simp [fL] at e
        refine .inr ⟨by rw [e.1], ?_⟩
        rw [acc_point h]
        exact ⟨x :: f, s, by rw [e.2]; simp, by simpa [figs] using q.1, z⟩
  · rintro (z | ⟨hp, z⟩)
    · exact ⟨[], _, rfl, ⟨rfl, fun h => absurd rfl h⟩, z⟩
    · obtain ⟨f, s, e, q, z⟩ := (acc_point h).mp z
      cases f with
      | nil => simp [figs] at q
      | cons x f => exact ⟨x :: f, s, by rw [hp, e]; simp [fL], ⟨by simpa [figs] using q, fun _ => by rw [hp]; simp⟩, z⟩
/-- what a state of figures does with another sign -/
theorem acc_fg_other {R : P} (h : R.Ok) {m : Nat} {g n : Bool} {c : Nat} {t : List Nat} (hc : fig c = false) (hm : R.cm ≠ some c) : acc R (.fg m g n) (c :: t) = true ↔ (St.fg m g n).whole = true ∧ After R (c :: t) := by
  rw [after_cons h hc hm, endL_cons h hc, acc_cons]
  have hw : (St.fg m g n).canEnd = (St.fg m g n).whole := rfl
  unfold next
  rw [if_neg (by simp [hc])]
  by_cases h2 : c = 45
  · subst h2
    have hp : R.pt ≠ some 45 := fun e => (h.pt_fig e).2.1 rfl
    simp only [beq_self_eq_true, if_true, nextMinus, hw]
    by_cases q : R.sg = 2
    · cases hW : (St.fg m g n).whole
      · simp
      · simp [q, hp, acc_blanks h (.inr rfl)]
    · simp [q, hp]
  · by_cases h3 : c = 101
    · subst h3
      have hp : R.pt ≠ some 101 := fun e => (h.pt_fig e).2.2.1 rfl
      simp [hp]
      by_cases q : R.expo = true
      · cases hW : (St.fg m g n).whole <;> simp [q]
      · simp [q]
    · simp only [h2, h3, beq_iff_eq, if_false, Ne.symm hm, false_and, false_or]
      by_cases h5 : R.pt = some c
      · have := (h.pt_fig h5).2.2.2
        simp only [h5, if_true, this, false_and, true_and, false_or]
        cases hW : (St.fg m g n).whole <;> simp
      · simp only [Ne.symm h5, h5, if_false, false_and, or_false]
        by_cases q : c = 32 ∧ R.blanks = true
        · cases hW : (St.fg m g n).whole <;> simp [q, hw, hW, acc_blanks h (.inl rfl)]
        · rw [if_neg (by simpa using q)]
          simp
          intro _ a b; exact absurd ⟨a, b⟩ q
def wsign (R : P) (c : Nat) : Bool := fig c || some c == R.cm
theorem not_after_w {R : P} (h : R.Ok) {c : Nat} {t : List Nat} (hc : wsign R c = true) : ¬ After R (c :: t) := by
  rintro ⟨f, s, e, q, z⟩
  have hk : ∀ p, R.pt = some p → p ≠ c := by
    intro p hp hpc
    subst hpc
    simp [wsign] at hc
    rcases hc with hc | hc
    · rw [(h.pt_fig hp).1] at hc; cases hc
    · exact h.ne (by rw [← hc]; simp) (by rw [← hc, hp])
  have h1 : c ≠ 101 ∧ c ≠ 45 := by
    simp [wsign] at hc
    rcases hc with hc | hc
    · exact ⟨(fig_ne hc).2.1, (fig_ne hc).1⟩
    · exact ⟨(h.cm_fig hc.symm).2.2, (h.cm_fig hc.symm).2.1⟩
  have h2 : c = 32 → R.blanks = false := by
    intro e; subst e
    simp [wsign] at hc
    rcases hc with hc | hc
    · simp [fig] at hc
    · cases q : R.blanks
      · rfl
      · exact absurd hc.symm (h.bl q)
  cases f with
  | nil =>
    simp [fL] at e; subst e
    obtain ⟨x, r, e, q1, z1⟩ := z
    cases x with
    | none =>
      simp [eL] at e; rw [← e, tail_cons, if_neg h1.2] at z1
      simp at z1
      rw [h2 z1.1.1] at z1; simp at z1
    | some md => simp [eL] at e; exact h1.1 e.1
  | cons y f =>
    cases hp : R.pt with
    | none => exact q.2 (by simp) hp
    | some p => rw [hp] at e; simp [fL] at e; exact hk p hp e.1.symm
theorem acc_fg {R : P} (h : R.Ok) : ∀ {t : List Nat} {m : Nat} {g n : Bool}, acc R (.fg m g n) t = true ↔ ∃ w s m' g' n', t = w ++ s ∧ w.all (wsign R) = true ∧ run R (.fg m g n) w = some (.fg m' g' n') ∧ (St.fg m' g' n').whole = true ∧ After R s
  | [], m, g, n => by
    constructor
    · intro q; exact ⟨[], [], m, g, n, rfl, rfl, rfl, q, after_nil⟩
    · rintro ⟨w, s, m', g', n', e, -, r, q, -⟩
      have : w = [] := by cases w with | nil => rfl | cons => simp at e
      subst this
      cases r
      exact q
  | c :: t, m, g, n => by
    cases hw : wsign R c
    · have hc : fig c = false := by simp [wsign] at hw; exact hw.1
      have hm : R.cm ≠ some c := by simp [wsign] at hw; exact fun e => hw.2 e.symm
      rw [acc_fg_other h hc hm]
      constructor
      · rintro ⟨q, z⟩; exact ⟨[], _, m, g, n, rfl, rfl, rfl, q, z⟩
      · rintro ⟨w, s, m', g', n', e, q0, r, q, z⟩
        cases w with
        | nil => simp at e; cases r; rw [e]; exact ⟨q, z⟩
        | cons x w => simp at e; simp [← e.1, hw] at q0
    · rw [acc_cons]
      have hn : next R (.fg m g n) c = none ∨ ∃ m2 g2 n2, next R (.fg m g n) c = some (.fg m2 g2 n2) := by
        unfold next
        cases hc : fig c
        · simp [wsign, hc] at hw
          have := h.cm_fig hw.symm
          rw [if_neg (by simp), if_neg (by simpa using this.2.1), if_neg (by simpa using this.2.2), if_pos (by simpa using hw)]
          simp only [nextMark]
          split
          · exact .inl rfl
          · split <;> split <;> first | exact .inl rfl | exact .inr ⟨_, _, _, rfl⟩
        · rw [if_pos rfl]
          simp only [nextFig]
          split
          · exact .inl rfl
          · exact .inr ⟨_, _, _, rfl⟩
      constructor
      · intro q
        rcases hn with hn | ⟨m2, g2, n2, hn⟩
        · rw [hn] at q; cases q
        · rw [hn] at q
          obtain ⟨w, s, m', g', n', e, q0, r, q1, z⟩ := (acc_fg h).mp q
          exact ⟨c :: w, s, m', g', n', by rw [e]; rfl, by simp [hw]; simpa using q0, by simp only [run, hn]; exact r, q1, z⟩
      · rintro ⟨w, s, m', g', n', e, q0, r, q1, z⟩
        cases w with
        | nil => simp at e; rw [← e] at z; exact absurd z (not_after_w h hw)
        | cons x w =>
          simp at e
          obtain ⟨rfl, rfl⟩ := e
          rcases hn with hn | ⟨m2, g2, n2, hn⟩
          · simp only [run, hn] at r; cases r
          · simp only [run, hn] at r
            rw [hn]
            exact (acc_fg h).mpr ⟨w, s, m', g', n', rfl, by simp at q0; simpa using q0.2, r, q1, z⟩
end M

namespace M
/-! ### wholes -/
def restOK (R : P) (m : Nat) : List (List Nat) → Bool
  | [] => false
  | [g] => g.all fig && (m + g.length == 3)
  | g :: gs => g.all fig && (m + g.length == R.rest) && restOK R 0 gs
theorem splitL_cons {c x : Nat} {t : List Nat} (h : x ≠ c) : ∃ g gs, splitL c t = g :: gs ∧ splitL c (x :: t) = (x :: g) :: gs := by
  cases e : splitL c t with
  | nil => exact absurd e splitL_ne
  | cons g gs => exact ⟨g, gs, rfl, by simp [splitL, h, e]⟩
theorem splitL_hit {c : Nat} {t : List Nat} : splitL c (c :: t) = [] :: splitL c t := by simp [splitL]
theorem next_fig_fg {R : P} {m : Nat} {g n : Bool} {x : Nat} (hx : fig x = true) : next R (.fg m g n) x = if n || (m == 3 && (g || (R.must && R.cm.isSome))) then none else some (.fg (min (m + 1) 4) g false) := by
  simp [next, hx, nextFig]
theorem next_cm_fg {R : P} (h : R.Ok) {m : Nat} {g n : Bool} {c : Nat} (hc : R.cm = some c) : next R (.fg m g n) c = if n || decide (3 < m) then none else if (if g then m == R.rest else decide (m ≤ R.rest)) then some (.fg 0 true false) else none := by
  have := h.cm_fig hc
  unfold next
  rw [if_neg (by simp [this.1]), if_neg (by simpa using this.2.1), if_neg (by simpa using this.2.2), if_pos (by simp [hc])]
  rfl
def endsWhole (R : P) (st : St) (w : List Nat) : Bool := match run R st w with
  | some (.fg m g n) => (St.fg m g n).whole
  | _ => false
theorem endsWhole_cons {R : P} {st : St} {x : Nat} {t : List Nat} : endsWhole R st (x :: t) = match next R st x with
    | none => false
    | some s => endsWhole R s t := by
  unfold endsWhole
  simp only [run]
  cases next R st x <;> rfl
theorem rest_run {R : P} (h : R.Ok) {c : Nat} (hc : R.cm = some c) : ∀ {w : List Nat} {m : Nat}, m ≤ 3 → w.all (wsign R) = true → endsWhole R (.fg m true false) w = restOK R m (splitL c w)
  | [], m, hm, _ => by simp [endsWhole, run, St.whole, splitL, restOK]
  | x :: t, m, hm, hw => by
    simp only [List.all_cons, Bool.and_eq_true] at hw
    rw [endsWhole_cons]
    cases hx : fig x
    · have e : x = c := by
        have := hw.1
        simp [wsign, hx, hc] at this
        exact this
      subst e
      rw [next_cm_fg h hc, splitL_hit]
      cases q : splitL x t with
      | nil => exact absurd q splitL_ne
      | cons g gs =>
        have h3 : decide (3 < m) = false := by simp; omega
        simp only [h3, Bool.or_false, Bool.false_eq_true, if_false, if_true]
        by_cases hr : m = R.rest
        · have := rest_run h hc (w := t) (m := 0) (by omega) hw.2
          rw [q] at this
          simp [hr, this, restOK]
        · simp [hr, restOK]
    · have hxc : x ≠ c := fun e => by rw [e, (h.cm_fig hc).1] at hx; cases hx
      obtain ⟨g, gs, e1, e2⟩ := splitL_cons (t := t) hxc
      rw [next_fig_fg hx, e2]
      by_cases h3 : m = 3
      · subst h3
        simp only [Bool.false_or, Bool.true_or, Bool.and_true, beq_self_eq_true, if_true]
        have : R.rest ≤ 3 := by rcases h.rest with q | q <;> omega
        cases gs with
        | nil => simp [restOK]
        | cons g2 gs => simp [restOK]; omega
      · have := rest_run h hc (w := t) (m := m + 1) (by omega) hw.2
        rw [e1] at this
        have hm4 : min (m + 1) 4 = m + 1 := by omega
        simp only [h3, hm4, beq_iff_eq, Bool.false_or, beq_eq_false_iff_ne, ne_eq, not_false_eq_true, Bool.false_and, Bool.true_or, Bool.and_true, if_false, decide_false]
        rw [this]
        cases gs with
        | nil => simp [restOK, hx]; rw [show m + 1 + g.length = m + (g.length + 1) by omega]
        | cons g2 gs => simp [restOK, hx]; rw [show m + 1 + g.length = m + (g.length + 1) by omega]
/-- the first group: k figures read so far -/
def firstOK (R : P) (k : Nat) (n : Bool) : List (List Nat) → Bool
  | [] => false
  | [g] => g.all fig && (g.isEmpty || (!n && (!(R.must && R.cm.isSome) || decide (k + g.length ≤ 3))))
  | g :: gs => g.all fig && (!n && decide (k + g.length ≤ R.rest)) && restOK R 0 gs
theorem first_run {R : P} (h : R.Ok) {c : Nat} (hc : R.cm = some c) : ∀ {w : List Nat} {k : Nat} {n : Bool}, (n = true → k = 1) → 1 ≤ k → (R.must = true → k ≤ 3) → w.all (wsign R) = true → endsWhole R (.fg (min k 4) false n) w = firstOK R k n (splitL c w)
  | [], k, n, _, _, _, _ => by simp [endsWhole, run, St.whole, splitL, firstOK]
  | x :: t, k, n, hn, hk, hs, hw => by
    simp only [List.all_cons, Bool.and_eq_true] at hw
    rw [endsWhole_cons]
    have hrest : R.rest ≤ 3 := by rcases h.rest with q | q <;> omega
    cases hx : fig x
    · have e : x = c := by
        have := hw.1
        simp [wsign, hx, hc] at this
        exact this
      subst e
      rw [next_cm_fg h hc, splitL_hit]
      cases q : splitL x t with
      | nil => exact absurd q splitL_ne
      | cons g gs =>
        have := rest_run h hc (w := t) (m := 0) (by omega) hw.2
        rw [q] at this
        cases n
        · by_cases hr : k ≤ R.rest
          · have h4 : min k 4 = k := by omega
            have h3 : ¬ 3 < k := by omega
            simp [h4, h3, hr, this, firstOK]
          · by_cases h3 : 3 < min k 4
            · simp [h3, firstOK, hr]
            · have h4 : min k 4 = k := by omega
              rw [h4] at h3
              simp [h4, h3, hr, firstOK]
        · simp [firstOK]
    · have hxc : x ≠ c := fun e => by rw [e, (h.cm_fig hc).1] at hx; cases hx
      obtain ⟨g, gs, e1, e2⟩ := splitL_cons (t := t) hxc
      rw [next_fig_fg hx, e2]
      cases n
      · by_cases h3 : R.must = true ∧ k = 3
        · have h4 : min k 4 = 3 := by omega
          simp only [h4, h3.1, hc, Option.isSome_some, Bool.and_true, Bool.or_true, beq_self_eq_true, if_true]
          cases gs with
          | nil => simp [firstOK, h3.1, hc]; intro _; omega
          | cons g2 gs => simp [firstOK]; intro _ _; omega
        · have hcond : (false || min k 4 == 3 && (false || R.must && R.cm.isSome)) = false := by
            simp only [hc, Option.isSome_some, Bool.and_true, Bool.false_or]
            cases hm : R.must
            · simp
            · have : k ≠ 3 := fun e => h3 ⟨hm, e⟩
              simp; omega
          rw [hcond]
          simp only [Bool.false_eq_true, if_false]
          have hmin : min (min k 4 + 1) 4 = min (k + 1) 4 := by omega
          rw [hmin]
          have := first_run h hc (w := t) (k := k + 1) (n := false) (by simp) (by omega) (fun q => by have := hs q; have : k ≠ 3 := fun e => h3 ⟨q, e⟩; omega) hw.2
          rw [this, e1]
          cases gs with
          | nil =>
            simp only [firstOK, List.all_cons, hx, Bool.true_and, List.isEmpty_cons, Bool.false_or, List.length_cons, Bool.not_false]
            rw [show k + 1 + g.length = k + (g.length + 1) by omega]
            cases g with
            | nil =>
              simp [hc]
              cases hm : R.must
              · simp
              · have := hs hm
                have : k ≠ 3 := fun e => h3 ⟨hm, e⟩
                simp; omega
            | cons y g => simp
          | cons g2 gs => simp [firstOK, hx]; rw [show k + 1 + g.length = k + (g.length + 1) by omega]
      · simp only [Bool.true_or, if_true]
        cases gs with
        | nil => simp [firstOK]
        | cons g2 gs => simp [firstOK]
/-- without a sign between groups -/
theorem plain_run {R : P} (hc : R.cm = none) : ∀ {w : List Nat} {k : Nat} {n : Bool}, (n = true → k = 1) → 1 ≤ k → w.all fig = true → endsWhole R (.fg (min k 4) false n) w = (w.isEmpty || !n)
  | [], k, n, _, _, _ => by simp [endsWhole, run, St.whole]
  | x :: t, k, n, hn, hk, hw => by
    simp only [List.all_cons, Bool.and_eq_true] at hw
    rw [endsWhole_cons, next_fig_fg hw.1]
    cases n
    · have := plain_run hc (w := t) (k := k + 1) (n := false) (by simp) (by omega) hw.2
      have hmin : min (min k 4 + 1) 4 = min (k + 1) 4 := by omega
      simp [hc, hmin, this]
    · simp
theorem rest_words {R : P} : ∀ {gs : List (List Nat)}, gs ≠ [] → (R.rest = 2 ∨ R.rest = 3) → (restOK R 0 gs = true ↔ (∀ g ∈ gs, figs g = true) ∧ (gs.getLast?.getD []).length = 3 ∧ ∀ g ∈ gs.dropLast, g.length = R.rest)
  | [], h, _ => absurd rfl h
  | [g], _, _ => by
    simp [restOK, figs]
    intro a _ e; subst e; simp at a
  | g :: g2 :: gs, _, hr => by
    have ih := rest_words (R := R) (gs := g2 :: gs) (by simp) hr
    have : restOK R 0 (g :: g2 :: gs) = (g.all fig && (0 + g.length == R.rest) && restOK R 0 (g2 :: gs)) := rfl
    rw [this]
    simp only [Bool.and_eq_true, ih, Nat.zero_add, beq_iff_eq]
    have hd : (g :: g2 :: gs).dropLast = g :: (g2 :: gs).dropLast := rfl
    have hl : (g :: g2 :: gs).getLast? = (g2 :: gs).getLast? := by simp [List.getLast?_cons_cons]
    rw [hd, hl]
    constructor
    · rintro ⟨⟨a, b⟩, c, d, e⟩
      refine ⟨fun x hx => ?_, d, fun x hx => ?_⟩
      · rcases List.mem_cons.mp hx with rfl | hx
        · simp [figs, a]; intro q; subst q; simp at b; omega
        · exact c x hx
      · rcases List.mem_cons.mp hx with rfl | hx
        · exact b
        · exact e x hx
    · rintro ⟨c, d, e⟩
      refine ⟨⟨?_, e g (by simp)⟩, fun x hx => c x (List.mem_cons_of_mem _ hx), d, fun x hx => e x (List.mem_cons_of_mem _ hx)⟩
      have := c g (by simp)
      simp [figs] at this
      simpa [List.all_eq_true] using this.2
/-- a whole, by the machine -/
def mWhole (R : P) (w : List Nat) : Bool := match w with
  | [] => false
  | x :: t => fig x && (t.all (wsign R) && endsWhole R (.fg 1 false (x == 48 && !R.zeros)) t)
theorem splitL_all {R : P} {c : Nat} (hc : R.cm = some c) : ∀ {w : List Nat}, (∀ g ∈ splitL c w, g.all fig = true) → w.all (wsign R) = true
  | [], _ => rfl
  | x :: t, h => by
    by_cases e : x = c
    · subst e
      rw [splitL_hit] at h
      have := splitL_all hc (w := t) fun g hg => h g (List.mem_cons_of_mem _ hg)
      simp [wsign, hc]
      simpa [wsign, hc] using this
    · obtain ⟨g, gs, e1, e2⟩ := splitL_cons (t := t) e
      rw [e2] at h
      have h1 := h (x :: g) (by simp)
      simp only [List.all_cons, Bool.and_eq_true] at h1
      have := splitL_all hc (w := t) fun y hy => by
        rw [e1] at hy
        rcases List.mem_cons.mp hy with rfl | hy
        · exact h1.2
        · exact h y (List.mem_cons_of_mem _ hy)
      simp only [List.all_cons, Bool.and_eq_true]
      exact ⟨by simp [wsign, h1.1], this⟩
theorem mWhole_eq {R : P} (h : R.Ok) (w : List Nat) : mWhole R w = sWhole R w := by
  cases w with
  | nil =>
    unfold sWhole
    cases hc : R.cm with
    | none => simp [mWhole, cut, figs]
    | some c => simp [mWhole, cut, splitL, figs]
  | cons x t =>
    cases hc : R.cm with
    | none =>
      unfold sWhole mWhole
      simp only [cut, hc, List.all_cons, List.all_nil, Bool.and_true, List.length_cons, List.length_nil, Nat.zero_add, beq_self_eq_true, if_true, Option.isNone_none, Bool.true_or]
      by_cases hf : figs (x :: t) = true
      · have hf2 := hf
        simp only [figs, List.isEmpty_cons, Bool.not_false, Bool.true_and, List.all_cons, Bool.and_eq_true] at hf2
        have hw : t.all (wsign R) = true := by
          rw [List.all_eq_true]; intro y hy; simp [wsign, List.all_eq_true.mp hf2.2 y hy]
        have := plain_run hc (w := t) (k := 1) (n := x == 48 && !R.zeros) (fun _ => rfl) (by omega) hf2.2
        simp only [show min 1 4 = 1 from rfl] at this
        rw [this, hw, hf2.1, hf]
        cases t with
        | nil => simp
        | cons y t =>
          cases hz : R.zeros <;> by_cases q : x = 48 <;> simp [q]
      · have : fig x = true → t.all (wsign R) = true → False := by
          intro a b
          apply hf
          simp only [figs, List.isEmpty_cons, Bool.not_false, Bool.true_and, List.all_cons, Bool.and_eq_true]
          refine ⟨a, ?_⟩
          rw [List.all_eq_true] at b ⊢
          intro y hy
          have := b y hy
          simpa [wsign, hc] using this
        simp only [Bool.not_eq_true] at hf
        rw [hf]
        cases hx : fig x
        · simp
        · cases hw : t.all (wsign R)
          · simp
          · exact (this hx hw).elim
    | some c =>
      unfold sWhole mWhole
      simp only [cut, hc]
      cases hx : fig x
      · by_cases e : x = c
        · subst e
          rw [splitL_hit]
          simp [figs]
        · obtain ⟨g, gs, e1, e2⟩ := splitL_cons (t := t) e
          rw [e2]
          simp [figs, hx]
      · have hxc : x ≠ c := fun e => by rw [e, (h.cm_fig hc).1] at hx; cases hx
        obtain ⟨g, gs, e1, e2⟩ := splitL_cons (t := t) hxc
        rw [e2]
        cases hw : t.all (wsign R)
        · -- some sign is wrong
          have : ((x :: g) :: gs).all figs = false := by
            cases q : ((x :: g) :: gs).all figs
            · rfl
            · exfalso
              have := splitL_all hc (w := t) fun y hy => by
                rw [e1] at hy
                rw [List.all_eq_true] at q
                rcases List.mem_cons.mp hy with rfl | hy
                · have := q (x :: y) (by simp)
                  simp only [figs, List.isEmpty_cons, Bool.not_false, Bool.true_and, List.all_cons, Bool.and_eq_true] at this
                  exact this.2
                · have := q y (List.mem_cons_of_mem _ hy)
                  simp only [figs, Bool.and_eq_true] at this
                  exact this.2
              rw [this] at hw; cases hw
          simp only [this]
          simp
        · have := first_run h hc (w := t) (k := 1) (n := x == 48 && !R.zeros) (fun _ => rfl) (by omega) (fun _ => by omega) hw
          simp only [show min 1 4 = 1 from rfl] at this
          rw [this, e1]
          cases gs with
          | nil =>
            have hgl : g = t := by
              have : ∀ {l : List Nat} {g : List Nat}, splitL c l = [g] → g = l := by
                intro l
                induction l with
                | nil => intro g q; simp [splitL] at q; first | exact q | exact q.symm
                | cons y l ih =>
                  intro g q
                  by_cases e : y = c
                  · subst e; rw [splitL_hit] at q; simp at q; exact absurd q.2 splitL_ne
                  · obtain ⟨g', gs', a, b⟩ := splitL_cons (t := l) e
                    rw [b] at q
                    simp at q
                    rw [q.2] at a
                    rw [← q.1, ih a]
              exact this e1
            subst hgl
            simp only [firstOK, List.all_cons, List.all_nil, Bool.and_true, figs, List.isEmpty_cons, Bool.not_false, Bool.true_and, hx, hc, Option.isSome_some, List.length_cons, List.length_nil, Nat.zero_add, beq_self_eq_true, if_true, Option.isNone_some, Bool.false_or, List.head?_cons]
            cases hg : g.all fig
            · simp
            · cases g with
              | nil => cases R.zeros <;> cases R.must <;> simp
              | cons y g =>
                have ea : decide (1 + (y :: g).length ≤ 3) = decide ((y :: g).length + 1 ≤ 3) := by
                  rw [Nat.add_comm]
                rw [ea]
                cases qq : (x == 48)
                · have : (some x == some 48) = false := by simpa using qq
                  cases hz : R.zeros <;> cases hm : R.must <;> simp [this]
                · have : (some x == some 48) = true := by simpa using qq
                  cases hz : R.zeros <;> cases hm : R.must <;> simp [this]
          | cons g2 gs =>
            have hlen : 1 < (x :: t).length := by
              cases t with
              | nil => simp [splitL] at e1
              | cons y t => simp
            have hrw := rest_words (R := R) (gs := g2 :: gs) (by simp) h.rest
            rw [Bool.eq_iff_iff]
            have L : (firstOK R 1 (x == 48 && !R.zeros) (g :: g2 :: gs)) = true ↔ ((g.all fig = true ∧ ((x == 48 && !R.zeros) = false ∧ 1 + g.length ≤ R.rest)) ∧ (∀ g ∈ g2 :: gs, figs g = true) ∧ ((g2 :: gs).getLast?.getD []).length = 3 ∧ ∀ g ∈ (g2 :: gs).dropLast, g.length = R.rest) := by
              simp only [firstOK, Bool.and_eq_true, hrw, decide_eq_true_eq, Bool.not_eq_true']
            simp only [Bool.true_and]
            rw [L]
            constructor
            · rintro ⟨⟨a, b1, b2⟩, c1, c2, c3⟩
              have hall : ((x :: g) :: g2 :: gs).all figs = true := by
                rw [List.all_eq_true]
                intro y hy
                rcases List.mem_cons.mp hy with rfl | hy
                · simp [figs, hx]; simpa [List.all_eq_true] using a
                · exact c1 y hy
              simp only [hall]
              have hz : (!R.zeros && (decide (1 < (x :: t).length) && ((x :: t).head? == some 48))) = false := by
                simp at b1
                cases q : R.zeros
                · simp; intro _; rcases Nat.decEq x 48 with z | z
                  · exact z
                  · rw [b1 z] at q; cases q
                · simp
              simp only [hz]
              simp [List.getLast?_cons_cons] at c2 ⊢
              refine ⟨⟨c2, decide_eq_true (by omega)⟩, ?_⟩
              intro y hy
              exact c3 y (by simpa using hy)
            · intro q
              by_cases hall : ((x :: g) :: g2 :: gs).all figs = true
              · simp only [hall] at q
                have hz : (!R.zeros && (decide (1 < (x :: t).length) && ((x :: t).head? == some 48))) = false := by
                  cases z : (!R.zeros && (decide (1 < (x :: t).length) && ((x :: t).head? == some 48)))
                  · rfl
                  · rw [z] at q; simp at q
                simp only [hz] at q
                simp [List.getLast?_cons_cons] at q
                rw [List.all_eq_true] at hall
                have h1 := hall (x :: g) (by simp)
                simp only [figs, List.isEmpty_cons, Bool.not_false, Bool.true_and, List.all_cons, Bool.and_eq_true] at h1
                have q12 := of_decide_eq_true q.1.2
                refine ⟨⟨h1.2, ?_, by omega⟩, fun y hy => hall y (List.mem_cons_of_mem _ hy), by simpa using q.1.1, fun y hy => q.2 y (by simpa using hy)⟩
                simp [hlen] at hz
                cases zz : R.zeros
                · simp; exact hz zz (by simpa using hlen)
                · simp
              · simp only [Bool.not_eq_true] at hall
                rw [hall] at q
                simp at q
end M

namespace M
theorem next_start_none {R : P} {c : Nat} (hc : fig c = false) : next R .minus c = none := by
  unfold next
  by_cases h2 : c = 45
  · subst h2; simp [fig, nextMinus, St.canEnd]
  · simp [hc, h2, St.whole, nextMark, St.canEnd]
theorem next_minus_fig {R : P} {c : Nat} (hc : fig c = true) : next R .minus c = some (.fg 1 false (c == 48 && !R.zeros)) ∧ next R .ahead c = some (.fg 1 false (c == 48 && !R.zeros)) := by
  simp [next, hc, nextFig]
theorem endsWhole_iff {R : P} {st : St} {w : List Nat} : endsWhole R st w = true ↔ ∃ m g n, run R st w = some (.fg m g n) ∧ (St.fg m g n).whole = true := by
  unfold endsWhole
  constructor
  · intro h
    split at h
    · rename_i m g n e; exact ⟨m, g, n, e, h⟩
    · cases h
  · rintro ⟨m, g, n, e, h⟩
    rw [e]; exact h
theorem acc_minus {R : P} (h : R.Ok) {t : List Nat} : acc R .minus t = true ↔ ∃ w s, t = w ++ s ∧ mWhole R w = true ∧ After R s := by
  cases t with
  | nil =>
    constructor
    · intro q; simp [acc, St.canEnd] at q
    · rintro ⟨w, s, e, q, -⟩
      have : w = [] := by cases w with | nil => rfl | cons => simp at e
      subst this; simp [mWhole] at q
  | cons c t =>
    rw [acc_cons]
    cases hc : fig c
    · rw [next_start_none hc]
      constructor
      · simp
      · rintro ⟨w, s, e, q, -⟩
        cases w with
        | nil => simp [mWhole] at q
        | cons x w => simp at e; simp [mWhole, ← e.1, hc] at q
    · rw [(next_minus_fig hc).1]
      simp only
      rw [acc_fg h]
      constructor
      · rintro ⟨w, s, m, g, n, rfl, q0, r, q, z⟩
        refine ⟨c :: w, s, rfl, ?_, z⟩
        simp only [mWhole, hc, Bool.true_and, q0, endsWhole_iff]
        exact ⟨m, g, n, r, q⟩
      · rintro ⟨w, s, e, q, z⟩
        cases w with
        | nil => simp [mWhole] at q
        | cons x w =>
          simp at e
          obtain ⟨rfl, rfl⟩ := e
          simp only [mWhole, hc, Bool.true_and, Bool.and_eq_true, endsWhole_iff] at q
          obtain ⟨q0, m, g, n, r, q⟩ := q
          exact ⟨w, s, m, g, n, rfl, q0, r, q, z⟩
theorem acc_ahead {R : P} (h : R.Ok) : ∀ {t : List Nat}, acc R .ahead t = true ↔ ∃ a u, t = List.replicate a 32 ++ u ∧ (a ≠ 0 → R.blanks = true) ∧ ((∃ v, u = 45 :: v ∧ R.sg = 1 ∧ acc R .minus v = true) ∨ acc R .minus u = true)
  | [] => by
    constructor
    · intro q; simp [acc, St.canEnd] at q
    · rintro ⟨a, u, e, -, q⟩
      have : u = [] := by cases u with | nil => rfl | cons => simp at e
      subst this
      rcases q with ⟨v, q, -⟩ | q
      · simp at q
      · simp [acc, St.canEnd] at q
  | c :: t => by
    rw [acc_cons]
    by_cases h32 : c = 32 ∧ R.blanks = true
    · have hcm : R.cm ≠ some 32 := h.bl h32.2
      have hpt : R.pt ≠ some 32 := fun e => (h.pt_fig e).2.2.2 rfl
      have : next R .ahead c = some .ahead := by
        rw [h32.1]
        simp [next, fig, Ne.symm hcm, Ne.symm hpt, h32.2]
      rw [this]
      simp only
      rw [acc_ahead h]
      constructor
      · rintro ⟨a, u, rfl, q, z⟩; exact ⟨a + 1, u, by rw [h32.1]; simp [List.replicate_succ], fun _ => h32.2, z⟩
      · rintro ⟨a, u, e, q, z⟩
        cases a with
        | zero =>
          simp at e; subst e
          rw [h32.1] at z
          rcases z with ⟨v, z, -⟩ | z
          · simp at z
          · rw [acc_cons, next_start_none (by decide)] at z; cases z
        | succ a => simp [List.replicate_succ] at e; exact ⟨a, u, e.2, fun _ => h32.2, z⟩
    · have key : (∃ a u, c :: t = List.replicate a 32 ++ u ∧ (a ≠ 0 → R.blanks = true) ∧ ((∃ v, u = 45 :: v ∧ R.sg = 1 ∧ acc R .minus v = true) ∨ acc R .minus u = true)) ↔ ((c = 45 ∧ R.sg = 1 ∧ acc R .minus t = true) ∨ acc R .minus (c :: t) = true) := by
        constructor
        · rintro ⟨a, u, e, q, z⟩
          cases a with
          | zero =>
            simp at e; subst e
            rcases z with ⟨v, z, q2⟩ | z
            · simp at z; left; rw [z.2]; exact ⟨z.1, q2⟩
            · exact .inr z
          | succ a => simp [List.replicate_succ] at e; exact absurd ⟨e.1, q (by simp)⟩ h32
        · rintro (⟨rfl, q, z⟩ | z)
          · exact ⟨0, _, rfl, fun h => absurd rfl h, .inl ⟨t, rfl, q, z⟩⟩
          · exact ⟨0, _, rfl, fun h => absurd rfl h, .inr z⟩
      rw [key]
      cases hc : fig c
      · by_cases h2 : c = 45
        · subst h2
          rw [acc_cons, next_start_none (by decide)]
          by_cases q : R.sg = 1
          · simp [next, fig, nextMinus, q]
          · simp [next, fig, nextMinus, q]
        · have : next R .ahead c = none := by
            unfold next
            have hb : (c == 32 && R.blanks) = false := by
              cases q : (c == 32 && R.blanks)
              · rfl
              · simp at q; exact absurd q h32
            simp [hc, h2, St.whole, nextMark, hb]
          rw [this, acc_cons, next_start_none hc]
          simp [h2]
      · rw [acc_cons, (next_minus_fig hc).1, (next_minus_fig hc).2]
        simp [(fig_ne hc).1]
theorem all32 : ∀ {l : List Nat}, l.all (· == 32) = true → l = List.replicate l.length 32
  | [], _ => rfl
  | x :: t, h => by
    simp only [List.all_cons, Bool.and_eq_true, beq_iff_eq] at h
    rw [List.length_cons, List.replicate_succ, ← all32 h.2, h.1]
theorem all32' (n : Nat) : (List.replicate n 32).all (· == 32) = true := by simp
theorem tail_iff {R : P} {r : List Nat} : tail R r = true ↔ ∃ (nb : Bool) (b : Nat), r = (if nb then [45] else []) ++ List.replicate b 32 ∧ (b ≠ 0 → R.blanks = true) ∧ (nb = true → R.sg = 2) := by
  have hb : ∀ {l : List Nat}, bl R l = true ↔ ∃ b, l = List.replicate b 32 ∧ (b ≠ 0 → R.blanks = true) := by
    intro l
    constructor
    · intro q
      simp only [bl, Bool.and_eq_true] at q
      refine ⟨l.length, all32 q.1, fun z => ?_⟩
      cases l with
      | nil => simp at z
      | cons => simpa using q.2
    · rintro ⟨b, rfl, q⟩
      cases b with
      | zero => simp [bl]
      | succ b => simp [bl, q]
  cases r with
  | nil => exact ⟨fun _ => ⟨false, 0, rfl, fun h => absurd rfl h, fun h => by cases h⟩, fun _ => tail_nil⟩
  | cons c t =>
    by_cases h2 : c = 45
    · subst h2
      rw [tail_cons, if_pos rfl]
      simp only [Bool.and_eq_true, beq_iff_eq, hb]
      constructor
      · rintro ⟨q, b, rfl, z⟩; exact ⟨true, b, by simp, z, fun _ => q⟩
      · rintro ⟨nb, b, e, z, q⟩
        cases nb with
        | true => simp at e; exact ⟨q rfl, b, e, z⟩
        | false =>
          simp at e
          cases b with
          | zero => simp at e
          | succ b => simp [List.replicate_succ] at e
    · have : tail R (c :: t) = bl R (c :: t) := by rw [tail_cons, if_neg h2, bl_cons]
      rw [this, hb]
      constructor
      · rintro ⟨b, e, z⟩; exact ⟨false, b, by simpa using e, z, fun h => by cases h⟩
      · rintro ⟨nb, b, e, z, q⟩
        cases nb with
        | true => simp at e; exact absurd e.1 h2
        | false => exact ⟨b, by simpa using e, z⟩
structure Form (R : P) (t : List Nat) (a b : Nat) (neg : Bool) (w f : List Nat) (x : Option (Bool × List Nat)) : Prop where
  eq : t = List.replicate a 32 ++ ((if neg && R.sg == 1 then [45] else []) ++ (w ++ (fL R.pt f ++ (eL x ++ ((if neg && R.sg == 2 then [45] else []) ++ List.replicate b 32)))))
  bl : a ≠ 0 ∨ b ≠ 0 → R.blanks = true
  sg : neg = true → R.sg = 1 ∨ R.sg = 2
  w : mWhole R w = true
  f : fOk R f
  x : eOk R x
theorem form_of_acc {R : P} (h : R.Ok) {t : List Nat} (q : acc R .ahead t = true) : ∃ a b neg w f x, Form R t a b neg w f x := by
  obtain ⟨a, u, rfl, ha, z⟩ := (acc_ahead h).mp q
  rcases z with ⟨v, rfl, h1, z⟩ | z
  · obtain ⟨w, s, rfl, hw, f, s2, rfl, hf, x, r, rfl, hx, hr⟩ := (acc_minus h).mp z
    obtain ⟨nb, b, rfl, hb, hn⟩ := tail_iff.mp hr
    have : nb = false := by cases nb with | false => rfl | true => have := hn rfl; omega
    subst this
    refine ⟨a, b, true, w, f, x, ⟨by simp [h1], fun z => z.elim ha hb, fun _ => .inl h1, hw, hf, hx⟩⟩
  · obtain ⟨w, s, rfl, hw, f, s2, rfl, hf, x, r, rfl, hx, hr⟩ := (acc_minus h).mp z
    obtain ⟨nb, b, rfl, hb, hn⟩ := tail_iff.mp hr
    refine ⟨a, b, nb, w, f, x, ⟨?_, fun z => z.elim ha hb, fun q => .inr (hn q), hw, hf, hx⟩⟩
    cases nb with
    | false => simp
    | true => simp [hn rfl]
theorem acc_of_form {R : P} (h : R.Ok) {t : List Nat} {a b : Nat} {neg : Bool} {w f : List Nat} {x : Option (Bool × List Nat)} (F : Form R t a b neg w f x) : acc R .ahead t = true := by
  rw [acc_ahead h]
  have A : ∀ nb : Bool, (nb = true → R.sg = 2) → acc R .minus (w ++ (fL R.pt f ++ (eL x ++ ((if nb then [45] else []) ++ List.replicate b 32)))) = true := by
    intro nb hn
    rw [acc_minus h]
    exact ⟨w, _, rfl, F.w, f, _, rfl, F.f, x, _, rfl, F.x, tail_iff.mpr ⟨nb, b, rfl, fun z => F.bl (.inr z), hn⟩⟩
  refine ⟨a, _, F.eq, fun z => F.bl (.inl z), ?_⟩
  cases neg with
  | false => right; simpa using A false (by simp)
  | true =>
    rcases F.sg rfl with q | q
    · left
      refine ⟨_, by simp [q]; rfl, q, ?_⟩
      simpa using A false (by simp)
    · right; simpa [q] using A true (fun _ => q)
/-! ### the spec at a form -/
theorem splitL_free {c : Nat} : ∀ {l : List Nat}, c ∉ l → splitL c l = [l]
  | [], _ => rfl
  | x :: t, h => by
    have hx : x ≠ c := fun e => h (by simp [e])
    have := splitL_free (c := c) (l := t) fun q => h (List.mem_cons_of_mem _ q)
    simp [splitL, hx, this]
theorem splitL_app {c : Nat} {r : List Nat} : ∀ {l : List Nat}, c ∉ l → splitL c (l ++ c :: r) = l :: splitL c r
  | [], _ => splitL_hit
  | x :: t, h => by
    have hx : x ≠ c := fun e => h (by simp [e])
    have := splitL_app (c := c) (r := r) (l := t) fun q => h (List.mem_cons_of_mem _ q)
    simp [splitL, hx, this]
theorem splitL_one {c : Nat} : ∀ {l g : List Nat}, splitL c l = [g] → g = l
  | [], g, q => by simp [splitL] at q; first | exact q | exact q.symm
  | y :: l, g, q => by
    by_cases e : y = c
    · subst e; rw [splitL_hit] at q; simp at q; exact absurd q.2 splitL_ne
    · obtain ⟨g', gs', a, b⟩ := splitL_cons (t := l) e
      rw [b] at q
      simp at q
      rw [q.2] at a
      rw [← q.1, splitL_one a]
theorem splitL_two {c : Nat} : ∀ {l u : List Nat} {vs : List (List Nat)}, splitL c l = u :: vs → vs ≠ [] → ∃ r, l = u ++ c :: r ∧ splitL c r = vs
  | [], u, vs, q, h => by simp [splitL] at q; exact absurd q.2 h
  | y :: l, u, vs, q, h => by
    by_cases e : y = c
    · subst e; rw [splitL_hit] at q; simp at q; rw [q.1]; exact ⟨l, rfl, q.2⟩
    · obtain ⟨g', gs', a, b⟩ := splitL_cons (t := l) e
      rw [b] at q
      simp at q
      obtain ⟨r, e1, e2⟩ := splitL_two (c := c) (l := l) a (by rw [q.2]; exact h)
      exact ⟨r, by rw [← q.1, e1]; rfl, by rw [e2, q.2]⟩
theorem dropWhile_rep {a : Nat} {l : List Nat} : (List.replicate a 32 ++ l).dropWhile (· == 32) = l.dropWhile (· == 32) := by
  induction a with
  | zero => rfl
  | succ a ih => simp [List.replicate_succ, List.dropWhile_cons, ih]
theorem dropWhile_free {l : List Nat} (h : ∀ y ∈ l, y ≠ 32) : l.dropWhile (· == 32) = l := by
  cases l with
  | nil => rfl
  | cons x t => simp [List.dropWhile_cons, h x (by simp)]
theorem strip_mid {a b : Nat} {l : List Nat} (h : ∀ y ∈ l, y ≠ 32) : strip32 (List.replicate a 32 ++ (l ++ List.replicate b 32)) = l := by
  unfold strip32
  rw [dropWhile_rep]
  cases l with
  | nil =>
    have : (List.replicate b 32 : List Nat).dropWhile (· == 32) = [] := by
      have := dropWhile_rep (a := b) (l := [])
      simpa using this
    simp [this]
  | cons x t =>
    have : ((x :: t) ++ List.replicate b 32).dropWhile (· == 32) = (x :: t) ++ List.replicate b 32 := by
      simp [List.dropWhile_cons, h x (by simp)]
    rw [this, List.reverse_append, List.reverse_replicate, dropWhile_rep, dropWhile_free, List.reverse_reverse]
    intro y hy
    exact h y (List.mem_reverse.mp hy)
theorem strip_eq (l : List Nat) : ∃ a b, l = List.replicate a 32 ++ (strip32 l ++ List.replicate b 32) := by
  have A : ∀ l : List Nat, ∃ a, l = List.replicate a 32 ++ l.dropWhile (· == 32) := by
    intro l
    induction l with
    | nil => exact ⟨0, rfl⟩
    | cons x t ih =>
      obtain ⟨a, e⟩ := ih
      by_cases q : x = 32
      · refine ⟨a + 1, ?_⟩
        subst q
        simp only [List.dropWhile_cons, beq_self_eq_true, if_true, List.replicate_succ, List.cons_append]
        rw [← e]
      · exact ⟨0, by simp [List.dropWhile_cons, q]⟩
  obtain ⟨a, e⟩ := A l
  obtain ⟨b, e2⟩ := A (l.dropWhile (· == 32)).reverse
  refine ⟨a, b, ?_⟩
  have e3 := congrArg List.reverse e2
  rw [List.reverse_reverse, List.reverse_append, List.reverse_replicate] at e3
  unfold strip32
  rw [← e3]
  exact e
end M

namespace M
variable {R : P} {t : List Nat} {a b : Nat} {neg : Bool} {w f : List Nat} {x : Option (Bool × List Nat)}
theorem mWhole_signs (hw : mWhole R w = true) : ∀ y ∈ w, wsign R y = true := by
  cases w with
  | nil => simp [mWhole] at hw
  | cons c w =>
    simp only [mWhole, Bool.and_eq_true] at hw
    intro y hy
    rcases List.mem_cons.mp hy with rfl | hy
    · simp [wsign, hw.1]
    · exact List.all_eq_true.mp hw.2.1 y hy
theorem next_cm (h : R.Ok) {st s : St} {c : Nat} (hc : R.cm = some c) (e : next R st c = some s) : s = .fg 0 true false := by
  have := h.cm_fig hc
  unfold next at e
  rw [if_neg (by simp [this.1]), if_neg (by simpa using this.2.1), if_neg (by simpa using this.2.2), if_pos (by simp [hc])] at e
  unfold nextMark at e
  cases st <;> simp only [reduceCtorEq] at e
  split at e
  · cases e
  · split at e <;> split at e <;> first | (cases e; rfl) | cases e
theorem mWhole_last (h : R.Ok) (hw : mWhole R w = true) : ∃ u d, w = u ++ [d] ∧ fig d = true := by
  cases w with
  | nil => simp [mWhole] at hw
  | cons c w =>
    have hs := mWhole_signs hw
    simp only [mWhole, Bool.and_eq_true] at hw
    rcases List.eq_nil_or_concat w with rfl | ⟨u, d, rfl⟩
    · exact ⟨[], c, rfl, hw.1⟩
    · refine ⟨c :: u, d, by simp, ?_⟩
      obtain ⟨m, g, n, r, q⟩ := endsWhole_iff.mp hw.2.2
      have hd := hs d (by simp)
      simp only [wsign, Bool.or_eq_true, beq_iff_eq] at hd
      rcases hd with hd | hd
      · exact hd
      · exfalso
        rw [List.concat_eq_append, run_app] at r
        split at r
        · cases r
        · rename_i s _
          simp only [run] at r
          cases e : next R s d with
          | none => rw [e] at r; cases r
          | some s2 =>
            rw [e] at r
            have := next_cm h hd.symm e
            subst this
            cases r
            simp [St.whole] at q
theorem figs_iff {l : List Nat} : figs l = true ↔ l ≠ [] ∧ ∀ y ∈ l, fig y = true := by
  simp [figs]
theorem pfigs_iff {d : List Nat} : pfigs R d = true ↔ figs d = true ∧ d.length ≤ 2 ∧ (!R.zeros && (d.length == 2 && d.head? == some 48)) = false := by
  unfold pfigs
  simp only [Bool.and_eq_true, decide_eq_true_eq, Bool.not_eq_true', and_assoc]
/-- the middle of a form -/
abbrev core (R : P) (w f : List Nat) (x : Option (Bool × List Nat)) : List Nat := w ++ (fL R.pt f ++ eL x)
theorem last_fig {l : List Nat} (h : figs l = true) : ∃ u d, l = u ++ [d] ∧ fig d = true := by
  rw [figs_iff] at h
  rcases List.eq_nil_or_concat l with rfl | ⟨u, d, rfl⟩
  · exact absurd rfl h.1
  · exact ⟨u, d, by simp, h.2 d (by simp)⟩
theorem fL_figs (hf : fOk R f) (hn : f ≠ []) : figs f = true ∧ ∃ p, R.pt = some p ∧ fL R.pt f = p :: f := by
  refine ⟨figs_iff.mpr ⟨hn, List.all_eq_true.mp hf.1⟩, ?_⟩
  cases hp : R.pt with
  | none => exact absurd hp (hf.2 hn)
  | some p =>
    refine ⟨p, rfl, ?_⟩
    cases f with
    | nil => exact absurd rfl hn
    | cons => simp [fL]
theorem core_last (h : R.Ok) (hw : mWhole R w = true) (hf : fOk R f) (hx : eOk R x) : ∃ u d, core R w f x = u ++ [d] ∧ fig d = true := by
  cases x with
  | some md =>
    obtain ⟨m, d⟩ := md
    obtain ⟨u, y, rfl, q⟩ := last_fig (pfigs_iff.mp hx.2).1
    exact ⟨w ++ (fL R.pt f ++ (101 :: ((if m then [45] else []) ++ u))), y, by simp [core, eL], q⟩
  | none =>
    by_cases hn : f = []
    · subst hn
      obtain ⟨u, d, rfl, q⟩ := mWhole_last h hw
      exact ⟨u, d, by simp [core, fL, eL], q⟩
    · obtain ⟨q1, p, hp, e⟩ := fL_figs hf hn
      obtain ⟨u, d, rfl, q⟩ := last_fig q1
      refine ⟨w ++ (p :: u), d, ?_, q⟩
      unfold core
      rw [e]; simp [eL]
theorem core_head (hw : mWhole R w = true) : ∃ d u, core R w f x = d :: u ∧ fig d = true := by
  cases w with
  | nil => simp [mWhole] at hw
  | cons c w =>
    simp only [mWhole, Bool.and_eq_true] at hw
    exact ⟨c, _, rfl, hw.1⟩
theorem core_no32 (h : R.Ok) (hb : R.blanks = true) (hw : mWhole R w = true) (hf : fOk R f) (hx : eOk R x) : ∀ y ∈ core R w f x, y ≠ 32 := by
  have fg : ∀ y, fig y = true → y ≠ 32 := fun y q => (fig_ne q).2.2.1
  intro y hy
  rcases List.mem_append.mp hy with hy | hy
  · have := mWhole_signs hw y hy
    simp only [wsign, Bool.or_eq_true, beq_iff_eq] at this
    rcases this with q | q
    · exact fg y q
    · intro e; subst e; exact h.bl hb q.symm
  · rcases List.mem_append.mp hy with hy | hy
    · by_cases hn : f = []
      · subst hn; simp [fL] at hy
      · obtain ⟨q1, p, hp, e⟩ := fL_figs hf hn
        rw [e] at hy
        rcases List.mem_cons.mp hy with rfl | hy
        · exact (h.pt_fig hp).2.2.2
        · exact fg y ((figs_iff.mp q1).2 y hy)
    · cases x with
      | none => simp [eL] at hy
      | some md =>
        obtain ⟨m, d⟩ := md
        simp only [eL, List.mem_cons, List.mem_append] at hy
        rcases hy with rfl | hy | hy
        · decide
        · cases m <;> simp at hy; subst hy; decide
        · exact fg y ((figs_iff.mp (pfigs_iff.mp hx.2).1).2 y hy)
theorem sBody_form (h : R.Ok) (F : Form R t a b neg w f x) : sBody R t = (core R w f x, neg) := by
  have e0 : (if R.blanks then strip32 t else t) = (if neg && R.sg == 1 then [45] else []) ++ (core R w f x ++ (if neg && R.sg == 2 then [45] else [])) := by
    cases hb : R.blanks with
    | true =>
      rw [if_pos rfl, F.eq]
      have := strip_mid (a := a) (b := b) (l := (if neg && R.sg == 1 then [45] else []) ++ (core R w f x ++ (if neg && R.sg == 2 then [45] else []))) (by
        intro y hy
        rcases List.mem_append.mp hy with hy | hy
        · split at hy <;> simp at hy; subst hy; decide
        · rcases List.mem_append.mp hy with hy | hy
          · exact core_no32 h hb F.w F.f F.x y hy
          · split at hy <;> simp at hy; subst hy; decide)
      rw [← this]
      simp [core, List.append_assoc]
    | false =>
      have ha : a = 0 := by
        rcases Nat.eq_zero_or_pos a with q | q
        · exact q
        · have := F.bl (.inl (by omega)); rw [hb] at this; cases this
      have hb0 : b = 0 := by
        rcases Nat.eq_zero_or_pos b with q | q
        · exact q
        · have := F.bl (.inr (by omega)); rw [hb] at this; cases this
      rw [if_neg (by simp), F.eq, ha, hb0]
      simp [core, List.append_assoc]
  unfold sBody
  rw [e0]
  obtain ⟨d1, u1, h1, q1⟩ := core_head (R := R) (f := f) (x := x) F.w
  obtain ⟨u2, d2, h2, q2⟩ := core_last h F.w F.f F.x
  cases neg with
  | false =>
    simp only [Bool.false_and, Bool.false_eq_true, if_false, List.nil_append, List.append_nil]
    have n1 : (List.take 1 (core R w f x) == [45]) = false := by
      rw [h1]; simp [(fig_ne q1).1]
    have n2 : (List.drop ((core R w f x).length - 1) (core R w f x) == [45]) = false := by
      rw [h2]; simp [(fig_ne q2).1]
    rw [n1, n2]
    simp
  | true =>
    rcases F.sg rfl with q | q
    · simp [q]
    · simp only [q, Bool.true_and, show ((2 : Nat) == 1) = false from rfl, Bool.false_eq_true, if_false, List.nil_append, beq_self_eq_true, if_true]
      generalize core R w f x = l
      simp
def xval : Option (Bool × List Nat) → Int
  | none => 0
  | some (true, d) => -(dv d : Int)
  | some (false, d) => (dv d : Int)
theorem w_no (h : R.Ok) (hw : mWhole R w = true) : 101 ∉ w ∧ ∀ p, R.pt = some p → p ∉ w := by
  have hs := mWhole_signs hw
  constructor
  · intro q
    have := hs _ q
    simp only [wsign, Bool.or_eq_true, beq_iff_eq] at this
    rcases this with z | z
    · simp [fig] at z
    · exact (h.cm_fig z.symm).2.2 rfl
  · intro p hp q
    have := hs _ q
    simp only [wsign, Bool.or_eq_true, beq_iff_eq] at this
    rcases this with z | z
    · rw [(h.pt_fig hp).1] at z; cases z
    · exact h.ne (by rw [← z]; simp) (by rw [← z, hp])
theorem halves_form (h : R.Ok) (hw : mWhole R w = true) (hf : fOk R f) (neg : Bool) (k : Int) : sHalves R neg k (w ++ fL R.pt f) = some (val neg w f k) := by
  have hsw : sWhole R w = true := by rw [← mWhole_eq h]; exact hw
  unfold sHalves
  by_cases hn : f = []
  · subst hn
    have : cut R.pt (w ++ fL R.pt []) = [w] := by
      cases hp : R.pt with
      | none => simp [cut, fL]
      | some p => simp [cut, fL, splitL_free ((w_no h hw).2 p hp)]
    rw [this]
    simp [hsw]
  · obtain ⟨q1, p, hp, e⟩ := fL_figs hf hn
    have pf : p ∉ f := fun q => by
      have := (figs_iff.mp q1).2 p q
      rw [(h.pt_fig hp).1] at this; cases this
    have : cut R.pt (w ++ fL R.pt f) = [w, f] := by
      rw [e]
      simp only [cut, hp]
      rw [splitL_app ((w_no h hw).2 p hp), splitL_free pf]
    rw [this]
    simp [hsw, q1]
theorem sMeans_form (h : R.Ok) (F : Form R t a b neg w f x) : sMeans R t = some (val neg w f (xval x)) := by
  unfold sMeans
  rw [sBody_form h F]
  have wf : 101 ∉ w ++ fL R.pt f := by
    intro q
    rcases List.mem_append.mp q with q | q
    · exact (w_no h F.w).1 q
    · by_cases hn : f = []
      · subst hn; simp [fL] at q
      · obtain ⟨q1, p, hp, e⟩ := fL_figs F.f hn
        rw [e] at q
        rcases List.mem_cons.mp q with q | q
        · exact (h.pt_fig hp).2.2.1 q.symm
        · have := (figs_iff.mp q1).2 _ q
          simp [fig] at this
  cases x with
  | none =>
    have : splitL 101 (core R w f none) = [w ++ fL R.pt f] := by
      unfold core
      rw [show w ++ (fL R.pt f ++ eL none) = w ++ fL R.pt f by simp [eL]]
      exact splitL_free wf
    simp only [this]
    simp [halves_form h F.w F.f, xval]
  | some md =>
    obtain ⟨m, d⟩ := md
    have hd := pfigs_iff.mp F.x.2
    have dn : 101 ∉ d := fun q => by
      have := (figs_iff.mp hd.1).2 _ q
      simp [fig] at this
    have : splitL 101 (core R w f (some (m, d))) = [w ++ fL R.pt f, (if m then [45] else []) ++ d] := by
      unfold core
      rw [show w ++ (fL R.pt f ++ eL (some (m, d))) = (w ++ fL R.pt f) ++ 101 :: ((if m then [45] else []) ++ d) by simp [eL]]
      rw [splitL_app wf, splitL_free]
      intro q
      rcases List.mem_append.mp q with q | q
      · cases m <;> simp at q
      · exact dn q
    simp only [this]
    have e1 : (if (List.take 1 ((if m then [45] else []) ++ d) == [45]) = true then List.drop 1 ((if m then [45] else []) ++ d) else ((if m then [45] else []) ++ d)) = d := by
      cases m with
      | true => simp
      | false =>
        cases d with
        | nil => simp
        | cons y d =>
          have := (figs_iff.mp hd.1).2 y (by simp)
          simp [(fig_ne this).1]
    have e2 : signed ((if m then [45] else []) ++ d) = xval (some (m, d)) := by
      cases m with
      | true => simp [signed, xval]
      | false =>
        cases d with
        | nil => simp [signed, xval]
        | cons y d =>
          have := (figs_iff.mp hd.1).2 y (by simp)
          simp only [Bool.false_eq_true, if_false, List.nil_append, xval]
          unfold signed
          split
          · rename_i q; cases q; exact absurd rfl (fig_ne this).1
          · rfl
    have n2 : ¬ 2 < d.length := by omega
    have e1' := e1
    simp only [List.length_cons, List.length_nil, List.getD_cons_succ, List.getD_cons_zero, List.head?_cons, Option.getD_some, F.x.1, Nat.zero_add, show ((1 + 1 : Nat) == 2) = true from rfl, Bool.and_true, if_true]
    rw [e1, e2, hd.2.2, hd.1]
    simp [n2, halves_form h F.w F.f]
theorem form_of_sMeans (h : R.Ok) {v : Int × Int} (q : sMeans R t = some v) : ∃ a b neg w f x, Form R t a b neg w f x := by
  -- the ends
  obtain ⟨a, b, neg, c, hb, ht, hbl, hsg⟩ : ∃ (a b : Nat) (neg : Bool) (c : List Nat), sBody R t = (c, neg) ∧ t = List.replicate a 32 ++ ((if neg && R.sg == 1 then [45] else []) ++ (c ++ ((if neg && R.sg == 2 then [45] else []) ++ List.replicate b 32))) ∧ (a ≠ 0 ∨ b ≠ 0 → R.blanks = true) ∧ (neg = true → R.sg = 1 ∨ R.sg = 2) := by
    obtain ⟨a, b, b0, e0, e1, hbl⟩ : ∃ (a b : Nat) (b0 : List Nat), (if R.blanks then strip32 t else t) = b0 ∧ t = List.replicate a 32 ++ (b0 ++ List.replicate b 32) ∧ (a ≠ 0 ∨ b ≠ 0 → R.blanks = true) := by
      cases hb : R.blanks with
      | true => obtain ⟨a, b, e⟩ := strip_eq t; exact ⟨a, b, _, rfl, by simpa using e, fun _ => rfl⟩
      | false => exact ⟨0, 0, _, rfl, by simp, fun q => by simp at q⟩
    unfold sBody
    rw [e0]
    simp only
    by_cases c1 : (R.sg == 1 && List.take 1 b0 == [45]) = true
    · rw [if_pos c1]
      simp at c1
      refine ⟨a, b, true, _, rfl, ?_, hbl, fun _ => .inl c1.1⟩
      rw [e1]
      cases b0 with
      | nil => simp at c1
      | cons y b0 => simp at c1; simp [c1]
    · rw [if_neg c1]
      by_cases c2 : (R.sg == 2 && List.drop (b0.length - 1) b0 == [45]) = true
      · rw [if_pos c2]
        simp at c2
        refine ⟨a, b, true, _, rfl, ?_, hbl, fun _ => .inr c2.1⟩
        rw [e1]
        rcases List.eq_nil_or_concat b0 with rfl | ⟨u, d, rfl⟩
        · simp at c2
        · simp at c2; simp [c2]
      · rw [if_neg c2]
        exact ⟨a, b, false, _, rfl, by simpa using e1, hbl, fun q => by cases q⟩
  unfold sMeans at q
  rw [hb] at q
  simp only at q
  have halves : ∀ (k : Int) (z : List Nat), sHalves R neg k z = some v → ∃ w f, z = w ++ fL R.pt f ∧ mWhole R w = true ∧ fOk R f := by
    intro k z e
    unfold sHalves at e
    simp only at e
    by_cases c1 : (decide (2 < (cut R.pt z).length) || !sWhole R ((cut R.pt z).head?.getD [])) = true
    · rw [if_pos c1] at e; cases e
    · rw [if_neg c1] at e
      simp at c1
      by_cases c2 : ((cut R.pt z).length == 2 && !figs (if ((cut R.pt z).length == 2) = true then (cut R.pt z).getD 1 [] else [])) = true
      · rw [if_pos c2] at e; cases e
      · cases hp : R.pt with
        | none =>
          rw [hp] at c1
          simp [cut] at c1
          exact ⟨z, [], by simp [fL], by rw [mWhole_eq h]; exact c1, ⟨rfl, fun q => absurd rfl q⟩⟩
        | some p =>
          have hcut : cut R.pt z = splitL p z := by rw [hp]; rfl
          cases hs : splitL p z with
          | nil => exact absurd hs splitL_ne
          | cons u vs =>
            rw [hs] at hcut
            simp only [hcut] at c1 c2
            cases vs with
            | nil =>
              have := splitL_one hs
              subst this
              simp at c1
              exact ⟨u, [], by simp [fL], by rw [mWhole_eq h]; exact c1, ⟨rfl, fun q => absurd rfl q⟩⟩
            | cons v2 vs =>
              obtain ⟨r, e1, e2⟩ := splitL_two hs (by simp)
              cases vs with
              | nil =>
                have := splitL_one e2
                subst this
                simp at c1 c2
                have hf := figs_iff.mp c2
                refine ⟨u, v2, ?_, by rw [mWhole_eq h]; exact c1, ⟨by rw [List.all_eq_true]; exact hf.2, fun _ => by simp [hp]⟩⟩
                rw [e1]
                cases v2 with
                | nil => exact absurd rfl hf.1
                | cons => simp [fL]
              | cons => simp at c1
  split at q
  · rename_i c1
    simp at c1
    cases hs : splitL 101 c with
    | nil => rw [hs] at c1; simp at c1
    | cons u vs =>
      rw [hs] at c1 q
      cases vs with
      | nil => simp at c1
      | cons e vs =>
        cases vs with
        | cons => simp at c1
        | nil =>
          obtain ⟨r, e1, e2⟩ := splitL_two hs (by simp)
          have := splitL_one e2
          subst this
          simp only [List.getD_cons_succ, List.getD_cons_zero, List.head?_cons, Option.getD_some] at q
          by_cases c2 : (!figs (if (List.take 1 e == [45]) = true then List.drop 1 e else e) || decide (2 < (if (List.take 1 e == [45]) = true then List.drop 1 e else e).length)) = true
          · rw [if_pos c2] at q; cases q
          · rw [if_neg c2] at q
            by_cases c3 : (!R.zeros && ((if (List.take 1 e == [45]) = true then List.drop 1 e else e).length == 2 && (if (List.take 1 e == [45]) = true then List.drop 1 e else e).head? == some 48)) = true
            · rw [if_pos c3] at q; cases q
            · rw [if_neg c3] at q
              obtain ⟨w, f, rfl, hw, hf⟩ := halves _ _ q
              simp only [Bool.or_eq_true, Bool.not_eq_true', decide_eq_true_eq, not_or, Nat.not_lt, Bool.not_eq_false] at c2
              simp only [Bool.not_eq_true] at c3
              by_cases hm : (List.take 1 e == [45]) = true
              · rw [if_pos hm] at c2 c3
                refine ⟨a, b, neg, w, f, some (true, e.drop 1), ⟨?_, hbl, hsg, hw, hf, c1.2, ?_⟩⟩
                · rw [ht, e1]
                  cases e with
                  | nil => simp at hm
                  | cons y e => simp at hm; simp [eL, hm]
                · rw [pfigs_iff]; exact ⟨c2.1, c2.2, c3⟩
              · rw [if_neg hm] at c2 c3
                refine ⟨a, b, neg, w, f, some (false, e), ⟨?_, hbl, hsg, hw, hf, c1.2, ?_⟩⟩
                · rw [ht, e1]; simp [eL]
                · rw [pfigs_iff]; exact ⟨c2.1, c2.2, c3⟩
  · split at q
    · cases q
    · rename_i c2
      cases hs : splitL 101 c with
      | nil => exact absurd hs splitL_ne
      | cons u vs =>
        rw [hs] at c2 q
        cases vs with
        | cons => simp at c2
        | nil =>
          have := splitL_one hs
          subst this
          obtain ⟨w, f, e, hw, hf⟩ := halves _ _ q
          simp only [List.head?_cons, Option.getD_some] at e
          subst e
          exact ⟨a, b, neg, w, f, none, ⟨by rw [ht]; simp [eL], hbl, hsg, hw, hf, trivial⟩⟩
theorem sMeans_acc (h : R.Ok) : (sMeans R t).isSome = acc R .ahead t := by
  rw [Bool.eq_iff_iff]
  constructor
  · intro q
    obtain ⟨v, e⟩ := Option.isSome_iff_exists.mp q
    obtain ⟨a, b, neg, w, f, x, F⟩ := form_of_sMeans h e
    exact acc_of_form h F
  · intro q
    obtain ⟨a, b, neg, w, f, x, F⟩ := form_of_acc h q
    rw [sMeans_form h F]; rfl
end M

namespace M
variable {R : P}
def St.Good : St → Prop
  | .fg m g n => g = true → m ≤ 3 ∧ n = false
  | _ => True
theorem next_good (h : R.Ok) {st s : St} {c : Nat} (gd : st.Good) (e : next R st c = some s) : s.Good := by
  by_cases hc : fig c = true
  · rw [next, if_pos hc] at e
    cases st with
    | fg m g n =>
      simp only [nextFig] at e
      split at e
      · cases e
      · rename_i q
        cases e
        intro z
        have := gd z
        simp [z] at q
        exact ⟨by omega, rfl⟩
    | pow n => simp only [nextFig] at e; split at e <;> cases e; trivial
    | _ => simp [nextFig] at e <;> subst e <;> first | trivial | (intro z; cases z)
  · rw [next, if_neg hc] at e
    split at e
    · unfold nextMinus at e
      split at e
      all_goals first
        | (cases e; trivial)
        | cases e
        | (split at e <;> cases e; trivial)
    · split at e
      · split at e <;> cases e; trivial
      · split at e
        · unfold nextMark at e
          split at e
          · split at e
            · cases e
            · split at e <;> split at e <;> first | (cases e; intro _; exact ⟨by omega, rfl⟩) | cases e
          · cases e
        · split at e
          · split at e <;> cases e; trivial
          · split at e
            · split at e
              · cases e; trivial
              · split at e <;> cases e; trivial
            · cases e
theorem run_good (h : R.Ok) : ∀ {u : List Nat} {st s : St}, st.Good → run R st u = some s → s.Good
  | [], st, s, g, e => by cases e; exact g
  | c :: u, st, s, g, e => by
    simp only [run] at e
    cases q : next R st c with
    | none => rw [q] at e; cases e
    | some s2 => rw [q] at e; exact run_good h (next_good h g q) e
def zeros3 : List (List Nat) := [[], [48], [48, 48], [48, 48, 48]]
theorem complete (h : R.Ok) {st : St} (gd : st.Good) : ∃ z ∈ zeros3, acc R st z = true := by
  have f48 : fig 48 = true := by decide
  cases st with
  | ahead => exact ⟨[48], by decide, by simp [acc, next, f48, nextFig, St.canEnd]⟩
  | minus => exact ⟨[48], by decide, by simp [acc, next, f48, nextFig, St.canEnd]⟩
  | point => exact ⟨[48], by decide, by simp [acc, next, f48, nextFig, St.canEnd]⟩
  | e => exact ⟨[48], by decide, by simp [acc, next, f48, nextFig, St.canEnd]⟩
  | em => exact ⟨[48], by decide, by simp [acc, next, f48, nextFig, St.canEnd]⟩
  | fg m g n =>
    cases g with
    | false => exact ⟨[], by decide, by simp [acc, St.canEnd]⟩
    | true =>
      obtain ⟨hm, rfl⟩ := gd rfl
      match m, hm with
      | 0, _ => exact ⟨[48, 48, 48], by decide, by simp [acc, next, f48, nextFig, St.canEnd]⟩
      | 1, _ => exact ⟨[48, 48], by decide, by simp [acc, next, f48, nextFig, St.canEnd]⟩
      | 2, _ => exact ⟨[48], by decide, by simp [acc, next, f48, nextFig, St.canEnd]⟩
      | 3, _ => exact ⟨[], by decide, by simp [acc, St.canEnd]⟩
      | m + 4, hm => omega
  | _ => exact ⟨[], by decide, by simp [acc, St.canEnd]⟩
theorem alive_iff (h : R.Ok) {u : List Nat} : (run R .ahead u).isSome = zeros3.any fun z => (sMeans R (u ++ z)).isSome := by
  rw [Bool.eq_iff_iff]
  simp only [List.any_eq_true, sMeans_acc h]
  constructor
  · intro q
    obtain ⟨s, e⟩ := Option.isSome_iff_exists.mp q
    obtain ⟨z, hz, hq⟩ := complete h (run_good h (st := .ahead) trivial e)
    exact ⟨z, hz, by rw [acc_run, e]; exact hq⟩
  · rintro ⟨z, hz, q⟩
    rw [acc_run] at q
    cases e : run R .ahead u with
    | none => rw [e] at q; cases q
    | some s => rfl
theorem alive_mono {st : St} {t : List Nat} {i j : Nat} (hij : i ≤ j) (q : (run R st (t.take j)).isSome = true) : (run R st (t.take i)).isSome = true := by
  have e : t.take j = t.take i ++ (t.take j).drop i := by
    have h1 : (t.take j).take i = t.take i := by rw [List.take_take]; congr 1; omega
    rw [← h1, List.take_append_drop]
  rw [e, run_app] at q
  cases z : run R st (t.take i) with
  | none => rw [z] at q; cases q
  | some s => rfl
theorem stop_spec : ∀ {t : List Nat} {st : St} {i k : Nat}, stopAt R st t i = some k → ∃ j, k = i + j ∧ j ≤ t.length ∧ ∀ n, n ≤ t.length → (run R st (t.take n)).isSome = decide (n ≤ j)
  | [], st, i, k, e => by
    simp only [stopAt] at e
    split at e <;> cases e
    exact ⟨0, rfl, Nat.le_refl _, fun n hn => by simp at hn; subst hn; rfl⟩
  | c :: t, st, i, k, e => by
    simp only [stopAt] at e
    cases q : next R st c with
    | none =>
      rw [q] at e
      cases e
      refine ⟨0, rfl, by omega, fun n hn => ?_⟩
      cases n with
      | zero => rfl
      | succ n => simp [run, q]
    | some s =>
      rw [q] at e
      obtain ⟨j, e1, h1, h2⟩ := stop_spec e
      refine ⟨j + 1, by omega, by simpa using h1, fun n hn => ?_⟩
      cases n with
      | zero => simp [run]
      | succ n =>
        have := h2 n (by simpa using hn)
        simp only [List.take_succ_cons, run, q]
        rw [this]
        simp
end M

/-! RL21: texts as lists of signs, comprehensions without effects -/
namespace RL
open PySem L2 SX
/-! what comes back from a call, slot by slot -/
def putOne (o : Option MO) (s : Sl) : Sl := match s with
  | .own b m => match o with
    | some m' => .own b m'
    | none => .own b m
  | s => s
def putFrom (as : List AE) (ps : List Sl) : Nat → SEnv → SEnv
  | _, [] => []
  | n, s :: e => putOne (backIo as ps n) s :: putFrom as ps (n + 1) e
theorem putFrom_eq (as : List AE) (ps : List Sl) : ∀ (e : SEnv) (n : Nat), e.mapIdx (fun i s => putOne (backIo as ps (n + i)) s) = putFrom as ps n e
  | [], n => rfl
  | s :: e, n => by
    rw [List.mapIdx_cons, putFrom, ← putFrom_eq as ps e (n + 1)]
    congr 1
    congr 1
    funext i s
    rw [show n + 1 + i = n + (i + 1) by omega]
theorem putBack_eq {e : SEnv} {as : List AE} {ps : List Sl} : putBack e as ps = putFrom as ps 0 e := by
  rw [← putFrom_eq]
  simp only [Nat.zero_add]
  rfl
theorem putFrom_n {as : List AE} {ps : List Sl} {n : Nat} : putFrom as ps n [] = [] := rfl
theorem putFrom_c {as : List AE} {ps : List Sl} {n : Nat} {s : Sl} {e : SEnv} : putFrom as ps n (s :: e) = putOne (backIo as ps n) s :: putFrom as ps (n + 1) e := rfl
theorem putOne_none {s : Sl} : putOne none s = s := by cases s <;> rfl
theorem putOne_own {b : Bool} {m m' : MO} : putOne (some m') (.own b m) = .own b m' := rfl
abbrev tx (a : List Nat) : D := .str (S a)
theorem fitsN {n : Nat} (h : n ≤ 1000000) : fits n = true := decide_eq_true h
theorem tx_len {a : List Nat} (h : a.length ≤ 1000000) : hLen [tx a] = some (.int a.length) := by
  simp only [hLen, S_len, fitsN h, if_true]
theorem tx_ix {a : List Nat} {i : Int} (h : a.length ≤ 1000000) : hIx (tx a) (.int i) = (atI a i).map fun c => tx [c] := by
  simp only [hIx, S_len, fitsN h, if_true]
theorem tx_add {a b : List Nat} (h : a.length + b.length ≤ 1000000) : hAdd (tx a) (tx b) = some (tx (a ++ b)) := by
  rw [add_str, S_len, S_len, fitsN h, if_pos rfl, S_cat]
theorem tx_eq {a b : List Nat} : hEq (tx a) (tx b) = some (.bl (a == b)) := by rw [eq_str, S_beq]
theorem tx_ne {a b : List Nat} : hNe (tx a) (tx b) = some (.bl (!(a == b))) := by rw [ne_str, S_beq]
theorem tx_in {c : Nat} {z : List Nat} : hIn (tx [c]) (tx z) = some (.bl (decide (c ∈ z))) := rfl
theorem tx_items {a : List Nat} : itemsD (tx a) = some (a.map fun c => tx [c]) := rfl
theorem spl_splitL {c : Nat} : ∀ {l acc : List Nat}, TL.spl [c] 0 acc l = match M.splitL c l with
    | [] => [acc]
    | g :: gs => (acc ++ g) :: gs
  | [], acc => by simp [TL.spl_nil, M.splitL]
  | x :: t, acc => by
    by_cases e : x = c
    · subst e
      rw [TL.spl_hit (by simp [TL.pre]), M.splitL_hit]
      have := spl_splitL (c := x) (l := t) (acc := [])
      simp only [List.length_cons, List.length_nil, Nat.zero_add, Nat.sub_self]
      rw [this]
      cases q : M.splitL x t with
      | nil => exact absurd q M.splitL_ne
      | cons g gs => simp
    · rw [TL.spl_miss (TL.pre_of_head [] t e)]
      obtain ⟨g, gs, e1, e2⟩ := M.splitL_cons (t := t) e
      rw [spl_splitL, e1, e2]
      simp
theorem tx_split {c : Nat} {a : List Nat} (hc : c < 256) (h : a.length ≤ 1000000) : hSplit (S a) (tx [c]) = some (.lst ((M.splitL c a).map tx)) := by
  have : ((S [c]).length != 0 && fits (S a).length) = true := by rw [S_len, S_len, fitsN h]; rfl
  simp only [hSplit, this, if_true]
  rw [split_S (by simp) (by simp [hc]), spl_splitL]
  cases q : M.splitL c a with
  | nil => exact absurd q M.splitL_ne
  | cons g gs => simp only [List.nil_append, List.map_map]; rfl
def sl (a : List Nat) (lo hi : Option Int) : List Nat := (a.drop (HT.sIx a.length 0 lo)).take (HT.sIx a.length a.length hi - HT.sIx a.length 0 lo)
theorem tx_sl {a : List Nat} {lo hi : Option Int} (h : a.length ≤ 1000000) : hSl (tx a) lo hi = some (tx (sl a lo hi)) := by
  simp only [hSl, S_len, fitsN h, if_true, cutS]
  rfl
theorem sl_to {a : List Nat} {k : Nat} : sl a none (some (k : Int)) = a.take k := by
  unfold sl
  rw [HT.sIx_nat, HT.sIx_none, List.drop_zero, Nat.sub_zero]
  rcases Nat.le_total k a.length with h | h
  · rw [Nat.min_eq_left h]
  · rw [Nat.min_eq_right h, List.take_of_length_le (Nat.le_refl _), List.take_of_length_le h]
theorem sl_from {a : List Nat} {k : Nat} : sl a (some (k : Int)) none = a.drop k := by
  unfold sl
  rw [HT.sIx_nat, HT.sIx_none]
  rcases Nat.le_total k a.length with h | h
  · rw [Nat.min_eq_left h, List.take_of_length_le (by simp)]
  · rw [Nat.min_eq_right h, List.drop_eq_nil_of_le (Nat.le_refl _), List.drop_eq_nil_of_le h]; simp
theorem sl_neg (a : List Nat) (k : Nat) : HT.sIx a.length 0 (some (-(k : Int))) = a.length - k ∧ HT.sIx a.length a.length (some (-(k : Int))) = a.length - k ∨ k = 0 := by
  rcases Nat.eq_zero_or_pos k with q | q
  · exact .inr q
  · left
    simp only [HT.sIx]
    rw [if_pos (by omega)]
    constructor <;> omega
theorem sl_fromN {a : List Nat} {k : Nat} (hk : 0 < k) : sl a (some (-(k : Int))) none = a.drop (a.length - k) := by
  rcases sl_neg a k with ⟨q, -⟩ | q
  · unfold sl
    rw [q, HT.sIx_none, List.take_of_length_le (by simp)]
  · omega
theorem sl_toN {a : List Nat} {k : Nat} (hk : 0 < k) : sl a none (some (-(k : Int))) = a.take (a.length - k) := by
  rcases sl_neg a k with ⟨-, q⟩ | q
  · unfold sl
    rw [q, HT.sIx_none, List.drop_zero, Nat.sub_zero]
  · omega
theorem dropWhile_eq {p q : Nat → Bool} (h : ∀ x, p x = q x) (l : List Nat) : l.dropWhile p = l.dropWhile q := by
  have : p = q := funext h
  rw [this]
theorem takeWhile_drop {p : Nat → Bool} : ∀ l : List Nat, l.drop (l.takeWhile p).length = l.dropWhile p
  | [] => rfl
  | x :: t => by
    simp only [List.takeWhile_cons, List.dropWhile_cons]
    cases p x
    · rfl
    · simp [takeWhile_drop t]
theorem strip_list (p : Nat → Bool) (a : List Nat) : Txt.stripBy p true true (S a) = S ((a.dropWhile p).reverse.dropWhile p).reverse := by
  have lo : stripLo p true (S a) = (a.takeWhile p).length := rfl
  have e1 : a.drop (a.takeWhile p).length = a.dropWhile p := takeWhile_drop a
  have hi : stripHi p true (S a) (stripLo p true (S a)) = a.length - ((a.dropWhile p).reverse.takeWhile p).length := by
    unfold stripHi
    rw [if_pos rfl, S_len, lo]
    show a.length - ((a.drop (a.takeWhile p).length).reverse.takeWhile p).length = _
    rw [e1]
  have hle : (a.takeWhile p).length ≤ a.length := (List.takeWhile_prefix p).length_le
  have hlen : (a.dropWhile p).length = a.length - (a.takeWhile p).length := by rw [← e1, List.length_drop]
  have e2 : ((a.dropWhile p).reverse.dropWhile p).reverse = (a.dropWhile p).take ((a.dropWhile p).length - ((a.dropWhile p).reverse.takeWhile p).length) := by
    rw [← takeWhile_drop (p := p) (a.dropWhile p).reverse, List.drop_reverse, List.reverse_reverse]
  have cutE : stripped p true true (S a) = S ((a.dropWhile p).reverse.dropWhile p).reverse := by
    unfold stripped
    refine TL.ext_tl ?_
    rw [TL.tl_strSub, hi, lo, e2]
    show (a.drop (a.takeWhile p).length).take (a.length - ((a.dropWhile p).reverse.takeWhile p).length - (a.takeWhile p).length) = _
    rw [e1]
    congr 1
    omega
  unfold Txt.stripBy
  split
  · rename_i h
    rw [← cutE]
    unfold stripSame at h
    simp only [Bool.and_eq_true, beq_iff_eq] at h
    unfold stripped
    rw [h.2, h.1]
    refine TL.ext_tl ?_
    rw [TL.tl_strSub]
    simp [S_len]
  · exact cutE
theorem tx_strip {a : List Nat} (h : a.length ≤ 1000000) : hStrip (S a) (tx [32]) = some (tx (M.strip32 a)) := by
  simp only [hStrip, S_len, fitsN h, if_true]
  have : Txt.stripChars (S a) (S [32]) = S (M.strip32 a) := by
    unfold Txt.stripChars
    rw [strip_list]
    have e : ∀ x : Nat, (S [32]).cps.contains x = (x == 32) := by intro x; simp [S]; by_cases q : x = 32 <;> simp [q]
    unfold M.strip32
    rw [dropWhile_eq e, dropWhile_eq e]
  rw [this]
theorem all_digits {l : List Nat} (h : l.all M.fig = true) : NumText.AllDigits l := by
  intro c hc
  have := List.all_eq_true.mp h c hc
  simp [M.fig] at this
  omega
theorem tx_int {d : List Nat} (h : M.figs d = true) (hl : d.length ≤ 640) : hIntOf2 [tx d] = some (.int (M.dv d)) := by
  have hf := M.figs_iff.mp h
  have : intText? (S d) = some ((NumText.digitsVal d : Nat) : Int) := intText_digits (all_digits (by simpa [M.figs, List.all_eq_true] using hf.2)) hf.1 (by rw [S_len]; omega)
  show (hIntOf [tx d]).or (hIntTx [tx d]) = _
  have h0 : hIntOf [tx d] = none := rfl
  rw [h0, Option.none_or]
  simp only [hIntTx, S_len, hl, decide_true, if_true, this, Option.map_some]
  rfl
theorem tx_intN {d : List Nat} (h : M.figs d = true) (hl : d.length ≤ 639) : hIntOf2 [tx (45 :: d)] = some (.int (-(M.dv d : Int))) := by
  have hf := M.figs_iff.mp h
  have : intText? (S (45 :: d)) = some (-((NumText.digitsVal d : Nat) : Int)) := intText_neg (cs := d) rfl (all_digits (by simpa [M.figs, List.all_eq_true] using hf.2)) hf.1 (by rw [S_len]; simp; omega)
  show (hIntOf [tx (45 :: d)]).or (hIntTx [tx (45 :: d)]) = _
  have h0 : hIntOf [tx (45 :: d)] = none := rfl
  have hl2 : (45 :: d).length ≤ 640 := by simp; omega
  rw [h0, Option.none_or]
  simp only [hIntTx, S_len, hl2, decide_true, if_true, this, Option.map_some]
  rfl
theorem strsD_tx : ∀ ys : List (List Nat), strsD (ys.map tx) = some (ys.map S)
  | [] => rfl
  | y :: ys => by simp only [List.map_cons, strsD, strsD_tx ys, Option.map_some]
theorem tx_join {a : List Nat} {ys : List (List Nat)} (h : (ys.map List.length).sum + ys.length * a.length ≤ 1000000) : hJoin (S a) (.lst (ys.map tx)) = some (tx (TL.joinL a ys)) := by
  have : joinFits (S a) (ys.map S) = true := by
    unfold joinFits
    rw [lens, List.length_map, S_len]
    exact decide_eq_true h
  simp only [hJoin, strsD_tx, Option.bind_some, this, if_true, join_S]
theorem joinL_nil : ∀ ys : List (List Nat), TL.joinL [] ys = ys.flatten
  | [] => rfl
  | [x] => by simp [TL.joinL]
  | x :: y :: r => by
    show x ++ ([] ++ TL.joinL [] (y :: r)) = _
    rw [joinL_nil (y :: r)]; simp
/-- a comprehension without effects -/
theorem loopC_pure {h : D → SEnv → Option SEnv} {tt : SEnv → Out Bool} {ge : SEnv → Out D} {vs : List Nat} {e : SEnv} {ψ : D → Bool} {φ : D → D} : ∀ {ds acc : List D}, (∀ d ∈ ds, ∃ e1 e2, h d e = some e1 ∧ tt e1 = .ok (ψ d) e1 ∧ (ψ d = true → ge e1 = .ok (φ d) e2) ∧ blankE e1 vs = e ∧ blankE e2 vs = e) → acc.length + ds.length ≤ 1000000 →
    loopC h tt ge vs ds e acc = .ok (acc ++ (ds.filter ψ).map φ) e
  | [], acc, _, _ => by simp [loopC]
  | d :: ds, acc, H, hl => by
    obtain ⟨e1, e2, h1, h2, h3, h4, h5⟩ := H d (by simp)
    simp only [List.length_cons] at hl
    have ih := fun acc' => loopC_pure (h := h) (tt := tt) (ge := ge) (vs := vs) (e := e) (ψ := ψ) (φ := φ) (ds := ds) (acc := acc') fun x hx => H x (List.mem_cons_of_mem _ hx)
    unfold loopC
    rw [h1]
    simp only [h2]
    cases q : ψ d with
    | false => simp only [h4]; rw [ih acc (by omega)]; simp [q]
    | true =>
      simp only [h3 q, fitsN (show acc.length ≤ 1000000 by omega), if_true, h5]
      rw [ih (acc ++ [φ d]) (by simp; omega)]
      simp [q]
theorem bls_map {α : Type} {g : α → Bool} : ∀ l : List α, bls (l.map fun x => .bl (g x)) = some (l.map g)
  | [] => rfl
  | x :: l => by simp only [List.map_cons, bls, bls_map l]
theorem all_map {α : Type} {g : α → Bool} (l : List α) : hAll [.lst (l.map fun x => .bl (g x))] = some (.bl (l.all g)) := by
  simp only [hAll, bls_map, List.all_map]
  rfl
theorem any_map {α : Type} {g : α → Bool} (l : List α) : hAny [.lst (l.map fun x => .bl (g x))] = some (.bl (l.any g)) := by
  simp only [hAny, bls_map, List.any_map]
  rfl
theorem filter_true {α : Type} (l : List α) : l.filter (fun _ => true) = l := by simp
end RL

/-! RL22: replace of written texts, in a def (a token is out when its body begins) -/
namespace RL
open PySem L2 PyProof.Rows PySem.Spec
def SET (X : Cx) (W : WX) (e : Expr) (g : SEnv → Out D) : Prop := PET X e (tE X.K X.mg W g)
def SST (X : Cx) (W : WX) (st : Stmt) (g : SEnv → SOut) : Prop := PST X st (tS X.K X.mg W g)
def SBT (X : Cx) (W : WX) (sts : List Stmt) (g : SEnv → SOut) : Prop := PSsT X sts (tS X.K X.mg W g)
section
variable {X : Cx} {W : WX} {o e : Expr} {st : Stmt} {sts : List Stmt} {go ge : SEnv → Out D} {g1 g2 : SEnv → SOut} {pos apos c0 c1 : Pos} {y z : Str} {j k : Nat}
theorem PET.imp {t u : TE} (h : PET X e t) (i : ∀ σ H Q, u σ H Q → t σ H Q) : PET X e u := fun pins s σ H Q h0 I q => h pins s σ H Q h0 I (i σ H Q q)
theorem PST.imp {t u : TS} (h : PST X st t) (i : ∀ D σ H, u D σ H → t D σ H) : PST X st u := fun pins s σ H D h0 I q => h pins s σ H D h0 I (i D σ H q)
theorem PSsT.imp {t u : TS} (h : PSsT X sts t) (i : ∀ D σ H, u D σ H → t D σ H) : PSsT X sts u := fun pins s σ H D h0 I q => h pins s σ H D h0 I (i D σ H q)
theorem SST.of (h : SS X W st g1) : SST X W st g1 := PST.of h
theorem SBT.of (h : SB X W sts g1) : SBT X W sts g1 := PSsT.of h
theorem sbt_cons (h1 : SST X W st g1) (h2 : SBT X W sts g2) : SBT X W (st :: sts) (gSeq g1 g2) := PSsT.imp (psst_cons h1 h2) seq_imp
def gRepl (y z : Str) (go : SEnv → Out D) : SEnv → Out D := fun env => (go env).bind fun d e => match d with
  | .str a => if decide (a.length + (a.length + 1) * z.length ≤ 1000000) then .ok (.str (Txt.replace a y z)) e else .stuck
  | _ => .stuck
theorem repl_imp (σ : L2.St) (H : Hp) (Q : VK) (q : tE X.K X.mg W (gRepl y z go) σ H Q) : CwR.tReplC (tE X.K X.mg W go) y z σ H Q := by
  obtain ⟨F, env, rel, res⟩ := q
  refine ⟨F, env, rel, (RES.bind (k := fun (d : D) (e : SEnv) => (match d with | .str a => if decide (a.length + (a.length + 1) * z.length ≤ 1000000) then Out.ok (D.str (Txt.replace a y z)) e else .stuck | _ => .stuck : Out D)) res).mono ?_⟩
  rintro x H1 ⟨env1, F1, d, x1, rel1, rx, res1⟩
  cases rx with
  | str =>
    rename_i a
    simp only at res1
    split at res1
    · rename_i c
      refine ⟨a, rfl, ?_, res1 _ H1 F1 Ext.refl rel1 .str⟩
      have := of_decide_eq_true c
      omega
    · exact res1.elim
  | _ => exact res1.elim
theorem set_repl (ho : SE X W o go) (hyz : (y == z) = false := by decide +kernel)
    (hst : starEach [.Constant (.str y) j c0, .Constant (.str z) k c1] X.env = [(false, eval (.Constant (.str y) j c0) X.env), (false, eval (.Constant (.str z) k c1) X.env)] := by rfl)
    (hbase : attributeBase o "replace" X.env (eval o X.env) = eval o X.env := by rfl) (hline : (apos.endLine == pos.line) = true := by rfl) :
    SET X W (.Call (.Attribute o "replace" apos) [.Constant (.str y) j c0, .Constant (.str z) k c1] [] pos) (gRepl y z go) :=
  PET.imp (CwR.pet_replC ho hyz hst hbase hline) repl_imp
theorem set_replT (ho : SET X W o go) (hyz : (y == z) = false := by decide +kernel)
    (hst : starEach [.Constant (.str y) j c0, .Constant (.str z) k c1] X.env = [(false, eval (.Constant (.str y) j c0) X.env), (false, eval (.Constant (.str z) k c1) X.env)] := by rfl)
    (hbase : attributeBase o "replace" X.env (eval o X.env) = eval o X.env := by rfl) (hline : (apos.endLine == pos.line) = true := by rfl) :
    SET X W (.Call (.Attribute o "replace" apos) [.Constant (.str y) j c0, .Constant (.str z) k c1] [] pos) (gRepl y z go) :=
  PET.imp (CwR.pet_replT ho hyz hst hbase hline) repl_imp
/-- a method of texts, the receiver wants a token -/
theorem pet_m1 {to te : TE} {id : String} {name : Str} {r : V → List V → Hp → VK → Prop} (slot : Slot "str" name id) (ty : typeOf (.builtin id) = pure (.type "method_descriptor")) (rule : MtR X id r) (ho : PET X o to) (he : PE X e te)
    (hs : starEach [e] X.env = [(false, eval e X.env)] := by rfl) (hbase : attributeBase o name X.env (eval o X.env) = eval o X.env := by rfl) (hline : (apos.endLine == pos.line) = true := by rfl) :
    PET X (.Call (.Attribute o name apos) [e] [] pos) (tM1 r to te) := by
  intro pins s σ H Q h0 I h
  refine PySem.Call_method1 hbase hs hline (thn (ho pins s σ H _ h0 I h) fun v s1 ⟨x, H1, I1, r1, q1⟩ => ?_)
  obtain ⟨⟨a, rfl⟩, q1⟩ := q1
  obtain ⟨t, rfl⟩ := _root_.id r1
  refine ⟨"str", _, F.plainAttrs_str, slot, ty, typeIs_str _ _ _, (fun _ e => nomatch e), Calls.callWith_builtin rfl (Calls.evalArgs_plain (Calls.spliced_cons ?_))⟩
  exact thn (he.run pins s1 σ H1 _ I1 q1) fun u s2 ⟨y, H2, I2, r2, q2⟩ => Calls.spliced_nil (rule pins s2 σ H2 _ [y] _ [u] Q I2 r1 (.cons r2 .nil) q2)
theorem m1_imp {r : V → List V → Hp → VK → Prop} {h : Str → D → Option D} (hq : ∀ (F H : Hp) (a : Str) (y : V) (d z : D) (Q : VK), (∀ b u, F b = some u → H b = some u) → Rep X.K X.mg F y d → h a d = some z →
    (∀ v H' F', Grow F H F' H' → Rep X.K X.mg F' v z → Q v H') → r (.str a) [y] H Q) (σ : L2.St) (H : Hp) (Q : VK) (q : tE X.K X.mg W (gM1 h go ge) σ H Q) : tM1 r (tE X.K X.mg W go) (tE X.K X.mg W ge) σ H Q := by
  obtain ⟨F, env, rel, res⟩ := q
  refine ⟨F, env, rel, (RES.bind (k := fun d e1 => match d with | .str a => (ge e1).bind fun d2 e2 => ofO (h a d2) e2 | _ => .stuck) res).mono ?_⟩
  rintro x H1 ⟨env1, F1, d, x1, rel1, rx, res1⟩
  cases rx with
  | str =>
    rename_i a
    refine ⟨⟨_, rfl⟩, F1, env1, rel1, (RES.bind (k := fun d2 e2 => ofO (h a d2) e2) res1).mono ?_⟩
    rintro y H2 ⟨env2, F2, d2, x2, rel2, ry, res2⟩
    cases q : h a d2 with
    | none => rw [q] at res2; exact res2.elim
    | some z =>
      rw [q] at res2
      exact hq F2 H2 a y d2 z Q rel2.sub ry q fun v H' F' g rv => res2 v H' F' (g.ext rel2) (rel2.grow g) rv
  | _ => exact res1.elim
theorem set_split (ho : SET X W o go) (he : SE X W e ge)
    (hs : starEach [e] X.env = [(false, eval e X.env)] := by rfl) (hb : attributeBase o "split" X.env (eval o X.env) = eval o X.env := by rfl) (hl : (apos.endLine == pos.line) = true := by rfl) :
    SET X W (.Call (.Attribute o "split" apos) [e] [] pos) (gM1 hSplit go ge) := by
  obtain ⟨r, hr, hq⟩ := (mt_split' : Mt1 X "str.split" hSplit)
  exact PET.imp (pet_m1 F.slot_str_split F.type_str_split hr ho he hs hb hl) (m1_imp hq)
/-- x = e -/
theorem sst_set (i : Nat) {x : Str} {pos' : Pos} (hN : X.N.Nodup) (he : SET X W e ge) (hi : X.N[i]? = some x := by rfl) (hx : Loc X.env.scope x := by first | exact Or.inl rfl | exact Or.inr rfl) (hs : swapsWith e (some (.Name x pos')) pos.line X.env = pure false := by rfl)
    (hf : X.fn x = true ∨ X.env.scope.names.lookup x = some .local := by first | exact .inl rfl | exact .inr rfl | assumption) : SST X W (.Assign [.Name x pos'] e pos) (gAsg ge (setD i)) := by
  have h0 : PST X (.Assign [.Name x pos'] e pos) (tAsg (tE X.K X.mg W ge) (gName i)) := by
    intro pins s σ H D h0 I h
    refine wpAny_Assign_Name (thn (he pins s σ H _ h0 I h) fun v s1 ⟨y, H1, I1, r1, q1⟩ => ?_) hs
    exact store_ok I1 hN hi hx r1 (fun s2 I2 => ⟨_, H1, I2, q1⟩) hf
  refine PST.imp h0 fun D σ H ⟨F, env, rel, res⟩ => ?_
  refine ⟨F, env, rel, (RS.ofE (k := fun d e => match setD i d e with | none => .stuck | some e' => .next e') res).mono ?_⟩
  rintro v H1 ⟨env1, F1, d, x1, rel1, rv, res1⟩
  cases o : setD i d env1 with
  | none => simp only [o] at res1; exact res1.elim
  | some e' =>
    simp only [o] at res1
    obtain ⟨y, r⟩ := rel1.setD rv o
    exact res1 _ _ _ y r
end
section
variable {P : Program} {w : World} {K : PySem.W.Frag} {mg : Str → Option Value} {base : Heap}
/-- THE RULE for a def whose body wants a token -/
theorem fn_okT {x qual : Str} {st : Stmt} {f : Addr} {fd : FuncData} {N ps : List Str} {k lv n : Nat} {gb : SEnv → SOut} (F : Fun K x qual st f fd) (S : FnScope N ps (defScope st)) (hnc : ∀ y ∈ (defScope st).names, y.2 ≠ .cell) (hps : 1 ≤ ps.length) (hn : ps.length = n) (hk : n + k = N.length)
    (hbody : ∀ (cdv : Value) (A : Around) (outer : List Env) (s : Shared) (H : Hp) (E : XK), Room lv (A.deeper (envOfC qual (defScope st) s.heap.objs.size f cdv)) →
      Takes (cxOf (L2.CX P w) P w K mg base N qual (defScope st) f cdv A outer s H E) (wOf E) →
      PassesOwn (model P w) (A.deeper (envOfC qual (defScope st) s.heap.objs.size f cdv)) (envOfC qual (defScope st) s.heap.objs.size f cdv) (cxOf (L2.CX P w) P w K mg base N qual (defScope st) f cdv A outer s H E).xe →
      SBT (cxOf (L2.CX P w) P w K mg base N qual (defScope st) f cdv A outer s H E) (wOf E) (defBody st) gb) : FnOk P w K mg base (L2.CX P w) (lv + 1) f fd ps (spF K mg n (runF n k gb)) := by
  obtain ⟨oc, od, kV, doc, pm, an, cdv, ct, osl, rfl, lk, hcd⟩ := F.ex
  refine fn_ofT lk hcd S hnc hps (fun vs H Q E h => h.1.trans hn.symm) fun A outer s H vs Q E hr h => ?_
  obtain ⟨hl, F0, sl, rel, ok, res⟩ := h
  refine ⟨_, hbody cdv A outer s H E hr (takes_of rfl rfl rfl rfl) (passes_of (X := cxOf (L2.CX P w) P w K mg base N qual (defScope st) f cdv A outer s H E) rfl), F0, sl ++ List.replicate k Sl.un, entry_rel (k := k) (N := N) rel (by rw [hl]; exact hk), ?_⟩
  subst hl
  unfold runF at res
  cases o : gb (sl ++ List.replicate k Sl.un) with
  | stuck => simp only [o] at res
  | brk e => simp only [o] at res
  | cont e => simp only [o] at res
  | next e =>
    simp only [o] at res
    intro σ' H' F' x r
    obtain ⟨x', r'⟩ := exit_ok hk rel x r
    exact res .non H' F' x' r' .non
  | ret d e =>
    simp only [o] at res
    intro v σ' H' F' x r q
    obtain ⟨x', r'⟩ := exit_ok hk rel x r
    exact res v H' F' x' r' q
  | exc d e =>
    simp only [o] at res
    intro cls da σ' H' F' x r q
    obtain ⟨x', r'⟩ := exit_ok hk rel x r
    exact res cls da H' F' x' r' q
end
theorem ev_Repl {y z : Str} {go : SEnv → Out D} {s : Sl} {e : SEnv} : gRepl y z go (s :: e) = (go (s :: e)).bind fun d e => match d with
  | .str a => if decide (a.length + (a.length + 1) * z.length ≤ 1000000) then .ok (.str (Txt.replace a y z)) e else .stuck
  | _ => .stuck := rfl
end RL

/-! RL23: great ints; texts repeated less than no times -/
namespace RL
open PySem L2 PyProof.Rows PySem.Spec
section
variable {X : Cx}
def rRepN : R2 := fun x y H Q => ∃ z k, x = .str z ∧ y = .int k ∧ k < 0 ∧ -1000000 ≤ k ∧ Q (.str Str.empty) H
theorem op_repN : OpR X (binaryOp .Mult) rRepN := by
  intro pins s σ H x y v u Q I rx ry h
  obtain ⟨z, k, rfl, rfl, h1, h2, q⟩ := h
  obtain ⟨t, rfl⟩ := rx
  obtain ⟨t', rfl⟩ := ry
  refine PySem.P.mul_str (by rw [decide_eq_false (by omega), decide_eq_false (by omega)]; rfl) (fun c1 _ => absurd (show k < 1 by omega) c1) (fun c1 _ => absurd (show k < 1 by omega) c1) ?_
  rw [if_pos (show k < 1 by omega)]
  exact ⟨by decide, ⟨.str _, H, I.tok _, ⟨_, rfl⟩, q⟩⟩
def hRepN : D → D → Option D
  | .str _, .int k => if decide (k < 0) && decide (-1000000 ≤ k) then some (.str Str.empty) else none
  | _, _ => none
theorem os_repN : OpS X (binaryOp .Mult) hRepN := by
  refine ⟨_, op_repN, fun F H x y d e z Q s rx ry hh hq => ?_⟩
  cases d <;> try (simp [hRepN] at hh; done)
  cases e <;> try (simp [hRepN] at hh; done)
  cases rx; cases ry
  simp only [hRepN] at hh
  split at hh
  · rename_i c
    simp only [Bool.and_eq_true, decide_eq_true_eq] at c
    cases hh
    exact ⟨_, _, rfl, rfl, c.1, c.2, hq _ H F (Grow.refl s) .str⟩
  · cases hh
/-- below 2^250 -/
def wide (i : Int) : Bool := decide (i.natAbs < 2 ^ 250)
def hFdivA : D → D → Option D := hIntC (fun _ j => decide (0 < j) && wide j) fun i j => .int (i / j)
theorem os_fdivA : OpS X (binaryOp .FloorDiv) hFdivA := os_intC op_fdivW (fun i j h => by
    have := (Bool.and_eq_true _ _).mp h
    exact wide_div (b := 250) (of_decide_eq_true this.1) (of_decide_eq_true this.2) (by omega) (by omega)) fun _ _ _ => .int
def hMulW : D → D → Option D := hIntC (fun i j => wide i && wide j) fun i j => .int (i * j)
theorem os_mulW : OpS X (binaryOp .Mult) hMulW := os_intC op_mulW (fun i j h => by
    have := (Bool.and_eq_true _ _).mp h
    exact wide_mul (a := 250) (b := 250) (of_decide_eq_true this.1) (of_decide_eq_true this.2) (by omega) (by omega) (by omega)) fun _ _ _ => .int
def hMulA : D → D → Option D := fun d e => (hMul2 d e).or ((hMulW d e).or (hRepN d e))
theorem os_mulA : OpS X (binaryOp .Mult) hMulA := OpS.or os_mul2 (OpS.or os_mulW os_repN)
end
theorem mulA_of {d e z : D} (h : hMul d e = some z) : hMulA d e = some z := by simp [hMulA, hMul2, h]
theorem mulA_small {i j : Int} (h : (RL.small64 i || RL.small64 j) = true) : hMulA (.int i) (.int j) = some (.int (i * j)) := mulA_of (mul_int h)
theorem mulA_wide {i j : Int} (hi : wide i = true) (hj : wide j = true) : hMulA (.int i) (.int j) = some (.int (i * j)) := by
  by_cases h : (RL.small64 i || RL.small64 j) = true
  · exact mulA_small h
  · have e1 : hMul2 (.int i) (.int j) = none := by
      simp only [Bool.not_eq_true] at h
      simp [hMul2, hMul, hMulI, hIntC, h, hRep, hRepT]
    simp [hMulA, e1, hMulW, hIntC, hi, hj]
theorem divA {i j : Int} (h : 0 < j) (hj : wide j = true) : hFdivA (.int i) (.int j) = some (.int (i / j)) := by simp [hFdivA, hIntC, h, hj]
end RL

/-! RL24: x in a list that changes, its index; several names at once, the first a new list -/
namespace RL
open PySem L2 PyProof.Rows PySem.Spec
theorem units65 {k : Nat} {A : Around} (r : Room k A) : A.units + 65 < cLine := by have := r.un; omega

section
variable {X : Cx} {W : WX} {a b c e : Expr} {ga gb gc ge : SEnv → Out D} {pos pos' p p2 : Pos}
theorem pys_any (d : D) : ∀ xs : List D, (D.pys xs).any (fun z => PyData.eqv z d.py) = xs.any fun z => z.deq d
  | [] => rfl
  | x :: xs => by rw [D.pys, List.any_cons, List.any_cons, pys_any d xs]; rfl
theorem pys_get : ∀ (xs : List D) (i : Nat), (D.pys xs)[i]? = (xs[i]?).map D.py
  | [], _ => by simp [D.pys]
  | x :: xs, 0 => by simp [D.pys]
  | x :: xs, i + 1 => by simpa [D.pys] using pys_get xs i
/-- the items of a slot that holds a list, told or not -/
def lstAt : Option Sl → Option (List D)
  | some (.own _ (.lst xs)) => some xs
  | some (.d (.lst xs)) => some xs
  | _ => none
theorem Rel.lstAt {F H : Hp} {σ : L2.St} {env : SEnv} {i : Nat} {xs : List D} (r : Rel X.K X.mg F σ H env) (h : lstAt env[i]? = some xs) :
    ∃ q vs, σ[i]? = some (some (V.ref q)) ∧ H q = some (.lst vs) ∧ Reps X.K X.mg F vs xs := by
  cases e : env[i]? with
  | none => rw [e] at h; cases h
  | some y =>
    rw [e] at h
    cases y with
    | un => cases h
    | d z =>
      cases z <;> try (cases h; done)
      cases h
      obtain ⟨v, s, q⟩ := r.val i _ e
      cases q with
      | lst h1 h2 => exact ⟨_, _, s, r.sub _ _ h1, h2⟩
    | own io m =>
      cases m with
      | ins _ _ => cases h
      | lst ys =>
        cases h
        obtain ⟨q, s1, _, ws, h1, h2⟩ := r.own i io _ e
        exact ⟨q, ws, s1, h1, h2⟩
theorem Ext.lstAt_slot {σ : L2.St} {env : SEnv} {i : Nat} {xs : List D} {F H : Hp} (r : Rel X.K X.mg F σ H env) (h : RL.lstAt env[i]? = some xs) : ∃ q, σ[i]? = some (some (V.ref q)) := by
  obtain ⟨q, _, s, _⟩ := r.lstAt h
  exact ⟨q, s⟩
/-- x in l -/
def gInO (i : Nat) (ga : SEnv → Out D) : SEnv → Out D := fun env => (ga env).bind fun d e => match lstAt e[i]? with
  | some xs => if d.okEq && (D.lst xs).okEq then .ok (.bl (xs.any fun z => z.deq d)) e else .stuck
  | none => .stuck
def gNotInO (i : Nat) (ga : SEnv → Out D) : SEnv → Out D := fun env => (ga env).bind fun d e => match lstAt e[i]? with
  | some xs => if d.okEq && (D.lst xs).okEq then .ok (.bl (!xs.any fun z => z.deq d)) e else .stuck
  | none => .stuck
theorem inO_imp (i : Nat) (σ : L2.St) (H : Hp) (Q : VK) (q : tE X.K X.mg W (gInO i ga) σ H Q) : tOp (rInD X.K) (tE X.K X.mg W ga) (tVar i) σ H Q := by
  obtain ⟨F, env, rel, res⟩ := q
  refine ⟨F, env, rel, (RES.bind (k := fun d e => match lstAt e[i]? with | some xs => if d.okEq && (D.lst xs).okEq then .ok (D.bl (xs.any fun z => z.deq d)) e else .stuck | none => .stuck) res).mono ?_⟩
  rintro x H1 ⟨env1, F1, d, x1, rel1, rx, res1⟩
  cases o : lstAt env1[i]? with
  | none => simp only [o] at res1; exact res1.elim
  | some xs =>
    simp only [o] at res1
    split at res1
    · rename_i ho
      obtain ⟨q, vs, s1, h1, h2⟩ := rel1.lstAt o
      simp only [D.okEq, Bool.and_eq_true] at ho
      have ho2 : D.areData xs = true := by simpa [D.isData] using ho.2.1
      refine ⟨_, s1, d.py, D.pys xs, dp_of rel1.sub rx ho.1.1, .lst (.inl (.inl h1)) (dps_of rel1.sub h2 ho2), ho.1.2, by simpa [D.py] using ho.2.2, ?_⟩
      rw [pys_any]
      exact res1 _ H1 F1 Ext.refl rel1 .bl
    · exact res1.elim
theorem notInO_imp (i : Nat) (σ : L2.St) (H : Hp) (Q : VK) (q : tE X.K X.mg W (gNotInO i ga) σ H Q) : tOp (rNotInD X.K) (tE X.K X.mg W ga) (tVar i) σ H Q := by
  obtain ⟨F, env, rel, res⟩ := q
  refine ⟨F, env, rel, (RES.bind (k := fun d e => match lstAt e[i]? with | some xs => if d.okEq && (D.lst xs).okEq then .ok (D.bl (!xs.any fun z => z.deq d)) e else .stuck | none => .stuck) res).mono ?_⟩
  rintro x H1 ⟨env1, F1, d, x1, rel1, rx, res1⟩
  cases o : lstAt env1[i]? with
  | none => simp only [o] at res1; exact res1.elim
  | some xs =>
    simp only [o] at res1
    split at res1
    · rename_i ho
      obtain ⟨q, vs, s1, h1, h2⟩ := rel1.lstAt o
      simp only [D.okEq, Bool.and_eq_true] at ho
      have ho2 : D.areData xs = true := by simpa [D.isData] using ho.2.1
      refine ⟨_, s1, d.py, D.pys xs, dp_of rel1.sub rx ho.1.1, .lst (.inl (.inl h1)) (dps_of rel1.sub h2 ho2), ho.1.2, by simpa [D.py] using ho.2.2, ?_⟩
      rw [pys_any]
      exact res1 _ H1 F1 Ext.refl rel1 .bl
    · exact res1.elim
theorem test_imp {g : SEnv → Out D} {t : TE} (hk : ∀ env d e, g env = .ok d e → ∃ k, d = .bl k) (h : ∀ σ H Q, tE X.K X.mg W g σ H Q → t σ H Q) (σ : L2.St) (H : Hp) (Q) (q : tT X.K X.mg W (gTru g) σ H Q) : tTest t σ H Q := by
  refine h σ H _ ?_
  obtain ⟨F, env, rel, res⟩ := q
  refine ⟨F, env, rel, ?_⟩
  unfold gTru at res
  cases o : g env with
  | stuck => rw [o] at res; exact res
  | exc x e => rw [o] at res; exact res
  | ok d e =>
    rw [o] at res
    obtain ⟨k, rfl⟩ := hk env d e o
    intro x H' F' y r z
    cases z
    exact ⟨k, rfl, res k H' F' y r rfl⟩
theorem inO_bl {i : Nat} : ∀ env d e, gInO i ga env = .ok d e → ∃ k, d = .bl k := by
  intro env d e h
  unfold gInO at h
  cases h1 : ga env with
  | stuck => rw [h1] at h; cases h
  | exc x e => rw [h1] at h; cases h
  | ok d1 e1 =>
    rw [h1] at h
    simp only [Out.bind] at h
    split at h
    · split at h
      · cases h; exact ⟨_, rfl⟩
      · cases h
    · cases h
theorem notInO_bl {i : Nat} : ∀ env d e, gNotInO i ga env = .ok d e → ∃ k, d = .bl k := by
  intro env d e h
  unfold gNotInO at h
  cases h1 : ga env with
  | stuck => rw [h1] at h; cases h
  | exc x e => rw [h1] at h; cases h
  | ok d1 e1 =>
    rw [h1] at h
    simp only [Out.bind] at h
    split at h
    · split at h
      · cases h; exact ⟨_, rfl⟩
      · cases h
    · cases h
section
variable {x : Str} (i : Nat)
theorem se_inO (hu : X.A.units + 65 < cLine) (ha : SE X W a ga) (hN : X.N[i]? = some x := by rfl) (hv : Vis X.env.scope x := by first | exact Or.inl rfl | exact Or.inr (Or.inl rfl) | exact Or.inr (Or.inr rfl)) 
    (hd : (x == ("__debug__" : Str)) = false := by decide) (hcd : (x == ("__classdict__" : Str)) = false := by decide) (hm : behindInMarks .In (.Name x p) = false := by rfl) : SE X W (.Compare a [.In] [.Name x p] pos) (gInO i ga) :=
  PE.imp (pe_cmpR (op_inD hu) ha (pe_var hN hv hd hcd) hm) (inO_imp i)
theorem st_inO (hu : X.A.units + 65 < cLine) (ha : SE X W a ga) (hN : X.N[i]? = some x := by rfl) (hv : Vis X.env.scope x := by first | exact Or.inl rfl | exact Or.inr (Or.inl rfl) | exact Or.inr (Or.inr rfl)) 
    (hd : (x == ("__debug__" : Str)) = false := by decide) (hcd : (x == ("__classdict__" : Str)) = false := by decide) (hm : behindInMarks .In (.Name x p) = false := by rfl) : ST X W (.Compare a [.In] [.Name x p] pos) (gTru (gInO i ga)) :=
  PT.imp (pt_cmpR (op_inD hu) ha (pe_var hN hv hd hcd) hm) (test_imp inO_bl (inO_imp i))
theorem se_notInO (hu : X.A.units + 65 < cLine) (ha : SE X W a ga) (hN : X.N[i]? = some x := by rfl) (hv : Vis X.env.scope x := by first | exact Or.inl rfl | exact Or.inr (Or.inl rfl) | exact Or.inr (Or.inr rfl)) 
    (hd : (x == ("__debug__" : Str)) = false := by decide) (hcd : (x == ("__classdict__" : Str)) = false := by decide) (hm : behindInMarks .NotIn (.Name x p) = false := by rfl) : SE X W (.Compare a [.NotIn] [.Name x p] pos) (gNotInO i ga) :=
  PE.imp (pe_cmpR (op_notInD hu) ha (pe_var hN hv hd hcd) hm) (notInO_imp i)
theorem st_notInO (hu : X.A.units + 65 < cLine) (ha : SE X W a ga) (hN : X.N[i]? = some x := by rfl) (hv : Vis X.env.scope x := by first | exact Or.inl rfl | exact Or.inr (Or.inl rfl) | exact Or.inr (Or.inr rfl)) 
    (hd : (x == ("__debug__" : Str)) = false := by decide) (hcd : (x == ("__classdict__" : Str)) = false := by decide) (hm : behindInMarks .NotIn (.Name x p) = false := by rfl) : ST X W (.Compare a [.NotIn] [.Name x p] pos) (gTru (gNotInO i ga)) :=
  PT.imp (pt_cmpR (op_notInD hu) ha (pe_var hN hv hd hcd) hm) (test_imp notInO_bl (notInO_imp i))
end
/-- the first place of an equal one -/
def ixOf (d : D) : List D → Option Nat
  | [] => none
  | x :: xs => if x.deq d then some 0 else (ixOf d xs).map (· + 1)
theorem ixOf_spec {d : D} : ∀ {xs : List D} {j : Nat}, ixOf d xs = some j → (∃ z, xs[j]? = some z ∧ z.deq d = true) ∧ ∀ (m : Nat) (z : D), m < j → xs[m]? = some z → z.deq d = false
  | [], _, h => by cases h
  | x :: xs, j, h => by
    unfold ixOf at h
    split at h
    · rename_i hx
      cases h
      exact ⟨⟨x, rfl, hx⟩, fun m z hm => by omega⟩
    · rename_i hx
      cases o : ixOf d xs with
      | none => rw [o] at h; cases h
      | some k =>
        rw [o] at h
        cases h
        obtain ⟨⟨z, h1, h2⟩, h3⟩ := ixOf_spec o
        refine ⟨⟨z, by simpa using h1, h2⟩, fun m z hm hz => ?_⟩
        cases m with
        | zero => simp at hz; subst hz; simpa using hx
        | succ m => exact h3 m z (by simpa using hm) (by simpa using hz)
def gIndexO (i : Nat) (ge : SEnv → Out D) : SEnv → Out D := fun env => match lstAt env[i]? with
  | none => .stuck
  | some _ => (ge env).bind fun d e => match lstAt e[i]? with
    | none => .stuck
    | some xs => if d.okEq && (D.lst xs).okEq then ofO ((ixOf d xs).map fun j => .int (j : Nat)) e else .stuck
theorem se_indexO (i : Nat) {x : Str} {apos : Pos} (h : PE X (.Call (.Attribute (.Name x p) "index" apos) [e] [] pos) (tBM X.K "list" (rIndexD X.K) (tVar i) (tCons (tE X.K X.mg W ge) tNil))) : SE X W (.Call (.Attribute (.Name x p) "index" apos) [e] [] pos) (gIndexO i ge) := by
  refine PE.imp h fun σ H Q ⟨F, env, rel, res⟩ => ?_
  unfold gIndexO at res
  cases e0 : lstAt env[i]? with
  | none => simp only [e0] at res; exact res.elim
  | some xs0 =>
    simp only [e0] at res
    obtain ⟨q, ws0, s1, h0, _⟩ := rel.lstAt e0
    refine ⟨_, s1, .inl ⟨rfl, ws0, .inl (.inl h0)⟩, ?_⟩
    show tE X.K X.mg W ge σ H fun y H1 => rIndexD X.K (.ref q) [y] H1 Q
    refine ⟨F, env, rel, (RES.bind (k := fun d e => match lstAt e[i]? with | none => .stuck | some xs => if d.okEq && (D.lst xs).okEq then ofO ((ixOf d xs).map fun j => D.int (j : Nat)) e else .stuck) res).mono ?_⟩
    rintro v H1 ⟨env1, F1, d, x1, rel1, rv, res1⟩
    cases o : lstAt env1[i]? with
    | none => simp only [o] at res1; exact res1.elim
    | some xs =>
      simp only [o] at res1
      split at res1
      · rename_i ho
        obtain ⟨q', vs, s2, h1, h2⟩ := rel1.lstAt o
        rw [s1] at s2
        cases s2
        simp only [D.okEq, Bool.and_eq_true] at ho
        have ho2 : D.areData xs = true := by simpa [D.isData] using ho.2.1
        cases oi : ixOf d xs with
        | none => rw [oi] at res1; exact res1.elim
        | some j =>
          rw [oi] at res1
          obtain ⟨⟨z, z1, z2⟩, z3⟩ := ixOf_spec oi
          refine ⟨q, v, d.py, D.pys xs, j, z.py, rfl, rfl, .lst (.inl (.inl h1)) (dps_of rel1.sub h2 ho2), dp_of rel1.sub rv ho.1.1, by simpa [D.py] using ho.2.2, ho.1.2, by rw [pys_get, z1]; rfl, z2, fun m z' hm hz => ?_, res1 _ H1 F1 Ext.refl rel1 .int⟩
          rw [pys_get] at hz
          cases om : xs[m]? with
          | none => rw [om] at hz; cases hz
          | some y => rw [om] at hz; cases hz; exact z3 m y hm om
      · exact res1.elim
/-! ### several names at once, the first a new list -/
theorem Rel.setOwnX {K : PySem.W.Frag} {mg : Str → Option Value} {F H F0 H0 : Hp} {σ σ0 : L2.St} {env env' env0 : SEnv} {i : Nat} {q : Addr} {m : MO} (r : Rel K mg F σ H env) (fq : F q = none) (hno : ¬ Own σ env q) (ho : OwnAt K mg F H q m)
    (x0 : Ext σ0 env0 F0 H0 σ env F H) (hq : H0 q = none) (h : RL.setOwn i m env = some env') :
    Ext σ0 env0 F0 H0 (σ.set i (some (.ref q))) env' F H ∧ Rel K mg F (σ.set i (some (.ref q))) H env' := by
  have old : ∀ {j : Nat} {io : Bool} {m : MO} {b : Addr}, env[j]? = some (Sl.own io m) → σ[j]? = some (some (V.ref b)) → b ≠ q := fun {j io m b} w s z => by
    subst z
    exact hno ⟨j, io, m, w, s⟩
  have hn : (∀ m, env[i]? ≠ some (.own true m)) ∧ env' = env.set i (.own false m) := by
    unfold RL.setOwn at h
    split at h
    · cases h
    · rename_i hh
      exact ⟨fun m e => hh m e, (Option.some.inj h).symm⟩
  obtain ⟨hn, rfl⟩ := hn
  have key : ∀ (j : Nat) (s : Sl), (env.set i (Sl.own false m))[j]? = some s → (i = j ∧ s = .own false m ∧ i < env.length) ∨ (i ≠ j ∧ env[j]? = some s) := fun j s w => by
    by_cases z : i = j
    · subst z
      rw [List.getElem?_set_self'] at w
      cases z : env[i]? with
      | none => rw [z] at w; cases w
      | some y => rw [z] at w; cases w; exact .inl ⟨rfl, rfl, (List.getElem?_eq_some_iff.mp z).1⟩
    · rw [List.getElem?_set_ne z] at w; exact .inr ⟨z, w⟩
  have ks : ∀ j, i ≠ j → (σ.set i (some (V.ref q)))[j]? = σ[j]? := fun j z => List.getElem?_set_ne z
  refine ⟨⟨x0.mono, x0.new, x0.keep, fun b w => ?_, fun j m0 w => ?_, fun j m0 w => ?_, by simp [x0.slen], x0.there⟩, ⟨by simp [r.len], r.sub, fun j x w => ?_, fun j io m0 w => ?_, fun j k io jo m0 n0 b ne w1 w2 s1 s2 => ?_⟩⟩
  · obtain ⟨j, io, m0, w, s⟩ := w
    rcases key j _ w with ⟨rfl, e2, hl⟩ | ⟨z, w⟩
    · rw [List.getElem?_set_self (by rw [r.len]; exact hl)] at s
      cases s
      exact .inr hq
    · rw [ks j z] at s
      exact x0.own b ⟨j, io, m0, w, s⟩
  · rcases key j _ w with ⟨rfl, e2, hl⟩ | ⟨z, w⟩
    · cases e2
    · rw [ks j z]; exact x0.io j m0 w
  · obtain ⟨m1, w1⟩ := x0.io' j m0 w
    have z : i ≠ j := fun z => by subst z; exact hn m1 w1
    exact ⟨m1, by rw [List.getElem?_set_ne z]; exact w1⟩
  · rcases key j _ w with ⟨rfl, e2, hl⟩ | ⟨z, w⟩
    · cases e2
    · rw [ks j z]; exact r.val j x w
  · rcases key j _ w with ⟨rfl, e2, hl⟩ | ⟨z, w⟩
    · cases e2
      exact ⟨q, by rw [List.getElem?_set_self (by rw [r.len]; exact hl)], fq, ho⟩
    · rw [ks j z]; exact r.own j io m0 w
  · rcases key j _ w1 with ⟨rfl, e2, hl⟩ | ⟨z, w1⟩
    · rcases key k _ w2 with ⟨rfl, _, _⟩ | ⟨z2, w2⟩
      · exact ne rfl
      · rw [List.getElem?_set_self (by rw [r.len]; exact hl)] at s1
        cases s1
        rw [ks k z2] at s2
        exact old w2 s2 rfl
    · rw [ks j z] at s1
      rcases key k _ w2 with ⟨rfl, _, hl⟩ | ⟨z2, w2⟩
      · rw [List.getElem?_set_self (by rw [r.len]; exact hl)] at s2
        cases s2
        exact old w1 s1 rfl
      · rw [ks k z2] at s2
        exact r.sep j k io jo m0 n0 b ne w1 w2 s1 s2
/-- a new list beside all: it stays as it is -/
theorem fresh_stays {K : PySem.W.Frag} {mg : Str → Option Value} {F1 F2 H1 H2 : Hp} {σ : L2.St} {env1 env2 : SEnv} {q : Addr} {vs : List V} (r : Rel K mg F1 σ H1 env1) (hq : H1 q = none) (x : Ext σ env1 F1 (upd H1 q (.lst vs)) σ env2 F2 H2) :
    F2 q = none ∧ ¬ Own σ env2 q ∧ H2 q = some (.lst vs) := by
  have n1 : ¬ Own σ env1 q := fun ⟨j, io, m, w, s⟩ => by
    obtain ⟨b, e1, _, e3⟩ := r.own j io m w
    rw [s] at e1
    cases e1
    obtain ⟨u, hu⟩ := e3.there
    rw [hq] at hu
    cases hu
  have u : upd H1 q (.lst vs) q = some (.lst vs) := upd_same
  refine ⟨?_, fun w => ?_, x.keep q _ u n1⟩
  · cases z : F2 q with
    | none => rfl
    | some o =>
      rcases x.new q o z with h | h | h
      · rw [r.sub q o h] at hq; cases hq
      · rw [u] at h; cases h
      · exact (n1 h).elim
  · rcases x.own q w with h | h
    · exact n1 h
    · rw [u] at h; cases h
def gParL (i j : Nat) (gs : SEnv → Out (List D)) (gb : SEnv → Out D) : SEnv → SOut := fun env => (gs env).toS fun ds e => (gb e).toS fun d e2 => match setOwn i (.lst ds) e2 with
  | none => .stuck
  | some e3 => match setD j d e3 with
    | none => .stuck
    | some e4 => .next e4
theorem ss_parL (i j : Nat) {st : Stmt} {gs : SEnv → Out (List D)} (ha : SF X W a gs) (hb : SE X W b gb) (h : PA X [a, b] (tCons (tF X.K X.mg W gs) (tCons (tE X.K X.mg W gb) tNil)) → PS X st (tPar i j (tCons (tF X.K X.mg W gs) (tCons (tE X.K X.mg W gb) tNil))))
    (hs : starEach [a, b] X.env = (false, eval a X.env) :: starEach [b] X.env := by rfl) (hs2 : starEach [b] X.env = (false, eval b X.env) :: starEach [] X.env := by rfl) : SS X W st (gParL i j gs gb) := by
  refine PS.imp (h (pa_cons ha (pa_cons hb pa_nil hs2) hs)) fun D σ H ⟨F, env, rel, res⟩ => ?_
  unfold tPar
  unfold tCons
  refine ⟨F, env, rel, ?_⟩
  unfold gParL at res
  cases o : gs env with
  | stuck => rw [o] at res; exact res
  | exc x e2 => rw [o] at res; exact fun cls da H' F' y r z => res cls da σ H' F' y r z
  | ok ds env1 =>
    rw [o] at res
    simp only [Out.toS] at res
    intro H1 F1 vs q x1 rel1 rs hq
    have g := Grow.skip (o := .lst vs) rel1.sub hq
    have y1 := x1.trans (g.ext rel1)
    have hq0 : H q = none := x1.there q hq
    show tE X.K X.mg W gb σ _ fun w H2 => _
    refine ⟨F1, env1, rel1.grow g, ?_⟩
    cases o2 : gb env1 with
    | stuck => rw [o2] at res; exact res
    | exc x e2 => rw [o2] at res; exact fun cls da H' F' y r z => res cls da σ H' F' (y1.trans y) r ⟨fun d zz => y1.there d (z.1 d zz), z.2⟩
    | ok d env2 =>
      rw [o2] at res
      simp only [Out.toS] at res
      intro w H2 F2 x2 rel2 rv
      obtain ⟨f1, f2, f3⟩ := fresh_stays rel1 hq x2
      cases w1 : setOwn i (.lst ds) env2 with
      | none => simp only [w1] at res; exact res.elim
      | some e3 =>
        simp only [w1] at res
        cases w2 : setD j d e3 with
        | none => simp only [w2] at res; exact res.elim
        | some e4 =>
          simp only [w2] at res
          obtain ⟨y3, r3⟩ := rel2.setOwnX f1 f2 (m := .lst ds) ⟨vs, f3, rs.mono x2.mono⟩ (y1.trans x2) hq0 w1
          obtain ⟨y4, r4⟩ := r3.setD rv w2
          exact ⟨_, w, rfl, res _ _ _ (y3.trans y4) r4⟩
/-- x, y, z = a new list, b, c -/
def gParL3 (i j l : Nat) (gs : SEnv → Out (List D)) (gb gc : SEnv → Out D) : SEnv → SOut := fun env => (gs env).toS fun ds e => (gb e).toS fun d e2 => (gc e2).toS fun d2 e3 => match setOwn i (.lst ds) e3 with
  | none => .stuck
  | some e4 => match setD j d e4 with
    | none => .stuck
    | some e5 => match setD l d2 e5 with
      | none => .stuck
      | some e6 => .next e6
theorem ss_parL3 (i j l : Nat) {st : Stmt} {gs : SEnv → Out (List D)} (ha : SF X W a gs) (hb : SE X W b gb) (hc : SE X W c gc) (h : PA X [a, b, c] (tCons (tF X.K X.mg W gs) (tCons (tE X.K X.mg W gb) (tCons (tE X.K X.mg W gc) tNil))) → PS X st (tPar3 i j l (tCons (tF X.K X.mg W gs) (tCons (tE X.K X.mg W gb) (tCons (tE X.K X.mg W gc) tNil)))))
    (hs : starEach [a, b, c] X.env = (false, eval a X.env) :: starEach [b, c] X.env := by rfl) (hs2 : starEach [b, c] X.env = (false, eval b X.env) :: starEach [c] X.env := by rfl) (hs3 : starEach [c] X.env = (false, eval c X.env) :: starEach [] X.env := by rfl) : SS X W st (gParL3 i j l gs gb gc) := by
  refine PS.imp (h (pa_cons ha (pa_cons hb (pa_cons hc pa_nil hs3) hs2) hs)) fun D σ H ⟨F, env, rel, res⟩ => ?_
  unfold tPar3
  unfold tCons
  refine ⟨F, env, rel, ?_⟩
  unfold gParL3 at res
  cases o : gs env with
  | stuck => rw [o] at res; exact res
  | exc x e2 => rw [o] at res; exact fun cls da H' F' y r z => res cls da σ H' F' y r z
  | ok ds env1 =>
    rw [o] at res
    simp only [Out.toS] at res
    intro H1 F1 vs q x1 rel1 rs hq
    have g := Grow.skip (o := .lst vs) rel1.sub hq
    have y1 := x1.trans (g.ext rel1)
    have hq0 : H q = none := x1.there q hq
    show tE X.K X.mg W gb σ _ fun w H2 => _
    refine ⟨F1, env1, rel1.grow g, ?_⟩
    cases o2 : gb env1 with
    | stuck => rw [o2] at res; exact res
    | exc x e2 => rw [o2] at res; exact fun cls da H' F' y r z => res cls da σ H' F' (y1.trans y) r ⟨fun d zz => y1.there d (z.1 d zz), z.2⟩
    | ok d env2 =>
      rw [o2] at res
      simp only [Out.toS] at res
      intro w H2 F2 x2 rel2 rv
      have y2 := y1.trans x2
      show tE X.K X.mg W gc σ _ fun w H2 => _
      refine ⟨F2, env2, rel2, ?_⟩
      cases o3 : gc env2 with
      | stuck => rw [o3] at res; exact res
      | exc x e2 => rw [o3] at res; exact fun cls da H' F' y r z => res cls da σ H' F' (y2.trans y) r ⟨fun d zz => y2.there d (z.1 d zz), z.2⟩
      | ok d2 env3 =>
        rw [o3] at res
        simp only [Out.toS] at res
        intro w' H3 F3 x3 rel3 rv3
        obtain ⟨f1, f2, f3⟩ := fresh_stays rel1 hq (x2.trans x3)
        cases w1 : setOwn i (.lst ds) env3 with
        | none => simp only [w1] at res; exact res.elim
        | some e3 =>
          simp only [w1] at res
          cases w2 : setD j d e3 with
          | none => simp only [w2] at res; exact res.elim
          | some e4 =>
            simp only [w2] at res
            cases w3 : setD l d2 e4 with
            | none => simp only [w3] at res; exact res.elim
            | some e5 =>
              simp only [w3] at res
              obtain ⟨y3, r3⟩ := rel3.setOwnX f1 f2 (m := .lst ds) ⟨vs, f3, rs.mono (x2.trans x3).mono⟩ (y2.trans x3) hq0 w1
              obtain ⟨y4, r4⟩ := r3.setD (rv.mono x3.mono) w2
              obtain ⟨y5, r5⟩ := r4.setD rv3 w3
              exact ⟨_, w, w', rfl, res _ _ _ ((y3.trans y4).trans y5) r5⟩
end
/-! ### evaluation -/
section
variable {s : Sl} {e : SEnv} {i j l : Nat} {ga gb gc ge : SEnv → Out D} {gs : SEnv → Out (List D)}
theorem lst_o {io : Bool} {xs : List D} : lstAt (some (.own io (.lst xs))) = some xs := rfl
theorem lst_d {xs : List D} : lstAt (some (.d (.lst xs))) = some xs := rfl
theorem ev_InO : gInO i ga (s :: e) = (ga (s :: e)).bind fun d e => match lstAt e[i]? with
  | some xs => if d.okEq && (D.lst xs).okEq then .ok (.bl (xs.any fun z => z.deq d)) e else .stuck
  | none => .stuck := rfl
theorem ev_NotInO : gNotInO i ga (s :: e) = (ga (s :: e)).bind fun d e => match lstAt e[i]? with
  | some xs => if d.okEq && (D.lst xs).okEq then .ok (.bl (!xs.any fun z => z.deq d)) e else .stuck
  | none => .stuck := rfl
theorem ev_IndexO : gIndexO i ge (s :: e) = (match lstAt (s :: e)[i]? with
  | none => .stuck
  | some _ => (ge (s :: e)).bind fun d e => match lstAt e[i]? with
    | none => .stuck
    | some xs => if d.okEq && (D.lst xs).okEq then ofO ((ixOf d xs).map fun j => .int (j : Nat)) e else .stuck) := rfl
theorem ev_ParL : gParL i j gs gb (s :: e) = (gs (s :: e)).toS fun ds e => (gb e).toS fun d e2 => match setOwn i (.lst ds) e2 with
  | none => .stuck
  | some e3 => match setD j d e3 with
    | none => .stuck
    | some e4 => .next e4 := rfl
theorem ev_ParL3 : gParL3 i j l gs gb gc (s :: e) = (gs (s :: e)).toS fun ds e => (gb e).toS fun d e2 => (gc e2).toS fun d2 e3 => match setOwn i (.lst ds) e3 with
  | none => .stuck
  | some e4 => match setD j d e4 with
    | none => .stuck
    | some e5 => match setD l d2 e5 with
      | none => .stuck
      | some e6 => .next e6 := rfl
end
end RL

/-! RL25: len of a new instance of an own class -/
namespace RL
open PySem L2 PyProof.Rows PySem.Spec

section
variable {X : Cx} {W : WX} {a b c e : Expr} {ga gb gc ge : SEnv → Out D} {pos pos' p p2 : Pos}
theorem run_fn1 {CX : CXT} {k : Nat} {f : Addr} {fd : FuncData} {ps : List Str} {sp : Sp} {E : XK} {pins : List (Addr × Obj)} {σ : L2.St} {H : Hp} {s : Shared} {Q : VK} {us : List Value} {vs : List V} (F : FnOk X.prog X.w X.K X.mg X.base CX k f fd ps sp) (hr : Room (k + 1) X.A) (hb : Binds X.K fd ps []) (hx : Passes CX X E)
    (I : Inv X pins σ H s) (r : Vals vs us) (h : sp vs H Q E) : wpAny (model X.prog X.w) X.A.in1 (call (.ref f) us) (EP X pins σ Q) X.xe s := by
  have hl : us.length = ps.length := by rw [← r.length]; exact F.len _ _ _ _ h
  have hbb := hb s us I.kIn (by rw [List.append_nil]; exact hl)
  rw [List.append_nil] at hbb
  refine wpAny_call (codeAny_mono (F.run X.A.in1 X.stack s H ⟨us, []⟩ us vs Q E hr.in1 I.env0.in1 hbb r h) fun r s' hq => ?_)
  cases r with
  | error e => exact hx pins σ H s e s' I hq
  | ok fl =>
    cases fl with
    | ret u => exact I.after hq
    | next => exact False.elim hq
    | brk => exact False.elim hq
    | cont => exact False.elim hq
/-- len(x), x an instance of the class at C whose __len__ keeps sp -/
def rLenO (C : Addr) (sp : Sp) (E : XK) : List V → Hp → VK → Prop := fun xs H Q => ∃ p dx fs, xs = [V.ref p] ∧ H p = some (.ins C dx fs) ∧ sp [V.ref p] H (fun v H' => ∃ k : Int, v = .int k ∧ (0 ≤ k ∧ k < 2 ^ 63) ∧ Q (.int k) H') E
theorem call_lenO {C f : Addr} {n : Nat} {fd : FuncData} {ps : List Str} {sp : Sp} (Fo : FnOk X.prog X.w X.K X.mg X.base (L2.CX X.prog X.w) n f fd ps sp) (hs : PySem.W.findIn X.K (.ref C) "__len__" = some (some (.ref f))) (hf : PySem.W.isFn X.K (.ref f) = true) (hb : Binds X.K fd ps [])
    (hr : Room (n + 1) X.A) : CallR X (.builtin "len") (rLenO C sp (fun _ _ _ => False)) := by
  intro pins s σ H xs us Q I r hq
  obtain ⟨q, dx, fs, rfl, h1, hsp⟩ := hq
  obtain ⟨u, rfl, rx⟩ := vals1 r
  cases (show u = Value.ref q from rx)
  obtain ⟨mA, J, _⟩ := ins_get I.hok h1
  obtain ⟨od, J, _⟩ := J.look
  obtain ⟨m, hF⟩ := I.fr
  refine PySem.W.len_K hF I.ok.mod.kin J hs hf ?_
  refine thn (run_fn1 Fo hr hb passL I r hsp) fun z s' hz => ?_
  obtain ⟨w, H', I', rz, k, rfl, hk, q2⟩ := hz
  obtain ⟨t, rfl⟩ := (show ∃ t, z = Value.int k t from rz)
  exact ⟨hk, .int k, H', I'.tok _, ⟨_, rfl⟩, q2⟩
def gLenMk (c : Str) (FI FL : List Sl → FOut) (gs : SEnv → Out (List D)) : SEnv → Out D := fun env => (gs env).bind fun ds e => match FI (.own true (.ins c []) :: ds.map .d) with
  | .ok .non (.own true (.ins c' fs) :: _) => if c' = c then (match FL [.own true (.ins c fs)] with
    | .ok (.int k) _ => if 0 ≤ k ∧ k < 2 ^ 63 then .ok (.int k) e else .stuck
    | _ => .stuck) else .stuck
  | .exc x _ => .exc x e
  | _ => .stuck
/-- behind __init__ and a method: new objects alone -/
theorem len_grow {F F1 H H1 F2 H2 : Hp} {x : Addr} {ps' : List Sl} {m : MO} (g : Grow F H F1 H1) (nx : H x = none) (s2 : ∀ a o, F2 a = some o → H2 a = some o)
    (y : Ext [some (V.ref x)] [.own true m] F1 H1 [some (V.ref x)] ps' F2 H2) : Grow F H F2 H2 := by
  have own : ∀ a, Own [some (V.ref x)] [Sl.own true m] a → a = x := by
    rintro a ⟨i, io, m', q, e⟩
    match i with
    | 0 => simp only [List.getElem?_cons_zero, Option.some.injEq, V.ref.injEq] at e; exact e.symm
    | i + 1 => simp at q
  refine ⟨fun a o q => y.mono a o (g.mono a o q), fun a o q => ?_, fun a o q => ?_, s2⟩
  · rcases y.new a o q with z | z | z
    · exact g.new a o z
    · right
      cases w : H a with
      | none => rfl
      | some u => rw [g.keep a u w] at z; cases z
    · rw [own a z]; exact .inr nx
  · exact y.keep a o (g.keep a o q) fun z => by rw [own a z, nx] at q; cases q
theorem se_lenMk {c : Str} {C f fl : Addr} {k kl n : Nat} {fd fdl : FuncData} {ps psl : List Str} {es : List Expr} {FI FL : List Sl → FOut} {gs : SEnv → Out (List D)} (M : Mk X.K C f) (Fo : FnOk X.prog X.w X.K X.mg X.base (L2.CX X.prog X.w) k f fd ps (spF X.K X.mg n FI)) (hr : Room (k + 1) X.A) (hm : X.mg c = some (.ref C)) (hb : Binds X.K fd ps [])
    (tk : Takes X W) (ha : SA X W (e :: es) gs) (hn : (e :: es).length + 1 = n)
    (Fl : FnOk X.prog X.w X.K X.mg X.base (L2.CX X.prog X.w) kl fl fdl psl (spF X.K X.mg 1 FL)) (hrl : Room (kl + 1) X.A) (hs : PySem.W.findIn X.K (.ref C) "__len__" = some (some (.ref fl))) (hfl : PySem.W.isFn X.K (.ref fl) = true) (hbl : Binds X.K fdl psl [])
    (hml : X.mg "len" = none) (hgl : Gl X "len" := by rfl)
    (hg : Gl X c := by rfl) (hdb : (c == ("__debug__" : Str)) = false := by decide) (he : starEach (e :: es) X.env = (false, eval e X.env) :: starEach es X.env := by rfl)
    (hpl : (backTo pos (starEach es X.env)).any (·.1) = false := by rfl)
    (he2 : starEach [.Call (.Name c p) (e :: es) [] pos] X.env = (false, eval (.Call (.Name c p) (e :: es) [] pos) X.env) :: starEach [] X.env := by rfl) (hpl2 : (backTo pos' (starEach [] X.env)).any (·.1) = false := by rfl) :
    SE X W (.Call (.Name "len" p2) [.Call (.Name c p) (e :: es) [] pos] [] pos') (gLenMk c FI FL gs) := by
  refine PE.imp (pe_callB (call_lenO Fl hs hfl hbl hrl) hgl hml (by decide +kernel) (pa_cons (pe_makeS M Fo hr hm hb (fun σ => passAt tk σ) ha.pa hg hdb he hpl) pa_nil he2) (by decide) (by decide) he2 hpl2) fun σ H Q ⟨F, env, rel, res⟩ => ?_
  unfold tCB
  unfold tCons
  refine ⟨F, env, rel, RES.len ha.len ((RES.bind (k := fun ds e => match FI (.own true (.ins c []) :: ds.map .d) with
    | .ok .non (.own true (.ins c' fs) :: _) => if c' = c then (match FL [.own true (.ins c fs)] with
      | .ok (.int k) _ => if 0 ≤ k ∧ k < 2 ^ 63 then .ok (D.int k) e else .stuck
      | _ => .stuck) else .stuck
    | .exc x _ => .exc x e
    | _ => .stuck) res).mono ?_)⟩
  rintro vs H1 ⟨env1, F1, ds, x1, rel1, rs, res1⟩ hl
  intro x dx nx nd ne
  refine ⟨by simp only [List.length_cons] at hn ⊢; rw [hl]; simp only [List.length_cons]; omega, F1, .own true (.ins c []) :: ds.map .d, make_rel rel1.sub hm rs nx nd, by simp [parOk, List.all_map, Function.comp_def], ?_⟩
  cases o : FI (.own true (.ins c []) :: ds.map .d) with
  | stuck => simp only [o] at res1; exact res1
  | exc xx ps' =>
    simp only [o] at res1
    intro cls da H' F' y r' z
    have g := make_grow rel1.sub nx nd y r'.sub
    refine res1 cls da H' F' (g.ext rel1) (rel1.grow g) ⟨fun d hd => ?_, z.2⟩
    have h2 := z.1 d hd
    by_cases w : d = x
    · rw [w]; exact nx
    · rw [upd_ne w] at h2
      by_cases w2 : d = dx
      · rw [w2]; exact nd
      · rwa [upd_ne w2] at h2
  | ok d ps' =>
    simp only [o] at res1
    cases d <;> try exact res1.elim
    cases ps' with
    | nil => exact res1.elim
    | cons s0 more =>
      cases s0 with
      | un => exact res1.elim
      | d _ => exact res1.elim
      | own io m =>
        cases io with
        | false => exact res1.elim
        | true =>
          cases m with
          | lst _ => exact res1.elim
          | ins c' fs =>
            simp only at res1
            split at res1
            · rename_i hc
              subst hc
              intro v H' F' y r' z
              cases z
              refine ⟨rfl, ?_⟩
              have g := make_grow rel1.sub nx nd y r'.sub
              obtain ⟨q, e1, n1, C', dx', ws, h1, h2, h3⟩ := r'.own 0 true _ rfl
              simp only [List.map_cons, List.getElem?_cons_zero, Option.some.injEq, V.ref.injEq] at e1
              subst e1
              rw [hm] at h1
              cases h1
              have relL : Rel X.K X.mg F' ([V.ref x].map some) H' [.own true (.ins c' fs)] := by
                refine ⟨rfl, r'.sub, fun i dd q => ?_, fun i io m q => ?_, fun i j io jo m n a ne q1 q2 _ _ => ?_⟩
                · match i with
                  | 0 => cases q
                  | i + 1 => simp at q
                · match i with
                  | 0 => cases q; exact ⟨x, rfl, n1, _, _, _, hm, h2, h3⟩
                  | i + 1 => simp at q
                · match i, j with
                  | 0, 0 => exact ne rfl
                  | 0, j + 1 => simp at q2
                  | i + 1, _ => simp at q1
              refine ⟨x, dx', ws, rfl, h2, rfl, F', _, relL, rfl, ?_⟩
              cases o2 : FL [.own true (.ins c' fs)] with
              | stuck => simp only [o2] at res1; exact res1
              | exc xx ps' => simp only [o2] at res1; exact res1.elim
              | ok d2 ps2 =>
                simp only [o2] at res1
                cases d2 <;> try exact res1.elim
                simp only at res1
                split at res1
                · rename_i hk
                  intro v H2 F2 y2 r2 z2
                  cases z2
                  have g2 := len_grow g nx r2.sub y2
                  exact ⟨_, rfl, hk, res1 _ H2 F2 (g2.ext rel1) (rel1.grow g2) .int⟩
                · exact res1.elim
            · exact res1.elim
end
section
variable {s : Sl} {e : SEnv} {c : Str} {FI FL : List Sl → FOut} {gs : SEnv → Out (List D)}
theorem ev_LenMk : gLenMk c FI FL gs (s :: e) = (gs (s :: e)).bind fun ds e => match FI (.own true (.ins c []) :: ds.map .d) with
  | .ok .non (.own true (.ins c' fs) :: _) => if c' = c then (match FL [.own true (.ins c fs)] with
    | .ok (.int k) _ => if 0 ≤ k ∧ k < 2 ^ 63 then .ok (.int k) e else .stuck
    | _ => .stuck) else .stuck
  | .exc x _ => .exc x e
  | _ => .stuck := rfl
end
end RL

local macro_rules
  | `(tactic| simp? [$args,*]) => `(tactic| simp only [RL.bind_ok, RL.bind_exc, RL.bind_stuck, RL.toS_ok, RL.toS_exc, RL.toS_stuck, RL.ofO_some, RL.ofB_some, RL.ofL_some, RL.ev_C, RL.ev_Var, RL.ev_Bin, RL.ev_Ix, RL.ev_Tru, RL.ev_NotT, RL.ev_AndT, RL.ev_OrT, RL.ev_AndV, RL.ev_OrV, RL.ev_NotV, RL.ev_IfE, RL.ev_Nil, RL.ev_Cons, RL.ev_Tup, RL.ev_Lst, RL.ev_Call, RL.ev_Isi, RL.ev_Isi2, RL.ev_isTy2, RL.ev_FnT, Bool.or_false, Bool.false_or, Bool.or_true, Bool.true_or, Option.some.injEq, RL.ev_IsC, RL.ev_Fld, RL.ev_FldO, RL.ev_IxO, RL.ev_Append, RL.ev_None, RL.ev_Some, RL.ev_Sl, RL.ev_Chain, RL.ev_Un, RL.ev_Make, RL.ev_aNil, RL.ev_aV, RL.ev_aOwn, RL.ev_Fn, RL.ev_Items, RL.ev_Enum, RL.ev_Range, RL.ev_ListOf, RL.ev_Comp, RL.ev_Yes, RL.ev_Seq, RL.ev_Next, RL.ev_Brk, RL.ev_Cnt, RL.ev_Expr, RL.ev_Ret, RL.ev_RetN, RL.ev_IfS, RL.ev_Asg, RL.ev_setD, RL.ev_setOwn, RL.io_un, RL.io_d, RL.io_o, Bool.false_eq_true, RL.ev_setFld, RL.ev_SetFld, RL.ev_hNil, RL.ev_hCons, RL.ev_hTup, RL.ev_hLst, RL.ev_Par, RL.ev_ParO, RL.ev_OwnL, RL.ev_SetIx, RL.ev_setIx, RL.ev_Raise0, RL.ev_Raise1, RL.ev_Try, RL.ev_For, RL.ev_runF, RL.ev_clean0, RL.ev_cleanN, RL.ev_cleanE, RL.ev_keep_un, RL.ev_keep_d, RL.ev_keep_o, RL.ev_keep_io, RL.eq_str, RL.ne_str, RL.eq_int, RL.ne_int, RL.eq_bl, RL.ne_bl, RL.gt_int, RL.ge_int, RL.lt_int, RL.le_int, RL.add_int, RL.sub_int, RL.tru_bl, RL.tru_int, RL.tru_non, RL.tru_tup, RL.tru_lst, RL.arg0, RL.argV, RL.argO, RL.ios0, RL.iosV, RL.iosO, RL.nodup0, RL.nodup1, RL.frz_l, RL.putBack_eq, RL.putFrom_n, RL.putFrom_c, RL.putOne_none, RL.putOne_own, RL.backIo, RL.ev_M1, List.getElem?_cons_zero, List.getElem?_cons_succ, List.set_cons_zero, List.set_cons_succ, List.replicate_succ, List.replicate_zero, List.cons_append, List.nil_append, List.append_nil, List.map_cons, List.map_nil, ite_true, ite_false, if_true, if_false, Bool.not_true, Bool.not_false, decide_true, decide_false, reduceIte, Nat.reduceAdd, Nat.reduceEqDiff, Nat.succ_ne_zero, Nat.zero_add, Nat.reduceLeDiff, eq_self, and_self, and_true, true_and, RL.tyD, RL.ty_NoneType_str, RL.ty_NoneType_int, RL.ty_NoneType_bool, RL.ty_NoneType_tuple, RL.ty_NoneType_list, RL.ty_bool_str, RL.ty_bool_int, RL.ty_bool_bool, RL.ty_bool_tuple, RL.ty_bool_list, RL.ty_int_str, RL.ty_int_int, RL.ty_int_bool, RL.ty_int_tuple, RL.ty_int_list, RL.ty_str_str, RL.ty_str_int, RL.ty_str_bool, RL.ty_str_tuple, RL.ty_str_list, RL.ty_tuple_str, RL.ty_tuple_int, RL.ty_tuple_bool, RL.ty_tuple_tuple, RL.ty_tuple_list, RL.ty_list_str, RL.ty_list_int, RL.ty_list_bool, RL.ty_list_tuple, RL.ty_list_list, RL.ty_dict_str, RL.ty_dict_int, RL.ty_dict_bool, RL.ty_dict_tuple, RL.ty_dict_list, RL.ev_InO, RL.ev_NotInO, RL.ev_IndexO, RL.ev_ParL, RL.ev_ParL3, RL.lst_o, RL.lst_d, RL.ev_LenMk, $args,*])
local macro_rules
  | `(tactic| push_cast [$args,*]) => `(tactic| simp only [RL.bind_ok, RL.bind_exc, RL.bind_stuck, RL.toS_ok, RL.toS_exc, RL.toS_stuck, RL.ofO_some, RL.ofB_some, RL.ofL_some, RL.ev_C, RL.ev_Var, RL.ev_Bin, RL.ev_Ix, RL.ev_Tru, RL.ev_NotT, RL.ev_AndT, RL.ev_OrT, RL.ev_AndV, RL.ev_OrV, RL.ev_NotV, RL.ev_IfE, RL.ev_Nil, RL.ev_Cons, RL.ev_Tup, RL.ev_Lst, RL.ev_Call, RL.ev_Isi, RL.ev_Isi2, RL.ev_isTy2, RL.ev_FnT, Bool.or_false, Bool.false_or, Bool.or_true, Bool.true_or, Option.some.injEq, RL.ev_IsC, RL.ev_Fld, RL.ev_FldO, RL.ev_IxO, RL.ev_Append, RL.ev_None, RL.ev_Some, RL.ev_Sl, RL.ev_Chain, RL.ev_Un, RL.ev_Make, RL.ev_aNil, RL.ev_aV, RL.ev_aOwn, RL.ev_Fn, RL.ev_Items, RL.ev_Enum, RL.ev_Range, RL.ev_ListOf, RL.ev_Comp, RL.ev_Yes, RL.ev_Seq, RL.ev_Next, RL.ev_Brk, RL.ev_Cnt, RL.ev_Expr, RL.ev_Ret, RL.ev_RetN, RL.ev_IfS, RL.ev_Asg, RL.ev_setD, RL.ev_setOwn, RL.io_un, RL.io_d, RL.io_o, Bool.false_eq_true, RL.ev_setFld, RL.ev_SetFld, RL.ev_hNil, RL.ev_hCons, RL.ev_hTup, RL.ev_hLst, RL.ev_Par, RL.ev_ParO, RL.ev_OwnL, RL.ev_SetIx, RL.ev_setIx, RL.ev_Raise0, RL.ev_Raise1, RL.ev_Try, RL.ev_For, RL.ev_runF, RL.ev_clean0, RL.ev_cleanN, RL.ev_cleanE, RL.ev_keep_un, RL.ev_keep_d, RL.ev_keep_o, RL.ev_keep_io, RL.eq_str, RL.ne_str, RL.eq_int, RL.ne_int, RL.eq_bl, RL.ne_bl, RL.gt_int, RL.ge_int, RL.lt_int, RL.le_int, RL.add_int, RL.sub_int, RL.tru_bl, RL.tru_int, RL.tru_non, RL.tru_tup, RL.tru_lst, RL.arg0, RL.argV, RL.argO, RL.ios0, RL.iosV, RL.iosO, RL.nodup0, RL.nodup1, RL.frz_l, RL.putBack_eq, RL.putFrom_n, RL.putFrom_c, RL.putOne_none, RL.putOne_own, RL.backIo, RL.ev_M1, List.getElem?_cons_zero, List.getElem?_cons_succ, List.set_cons_zero, List.set_cons_succ, List.replicate_succ, List.replicate_zero, List.cons_append, List.nil_append, List.append_nil, List.map_cons, List.map_nil, ite_true, ite_false, if_true, if_false, Bool.not_true, Bool.not_false, decide_true, decide_false, reduceIte, Nat.reduceAdd, Nat.reduceEqDiff, Nat.succ_ne_zero, Nat.zero_add, RL.add_tup, RL.add_lst, RL.fits, List.length_cons, List.length_nil, Nat.reduceLeDiff, eq_self, and_self, and_true, true_and, RL.tyD, RL.ty_NoneType_str, RL.ty_NoneType_int, RL.ty_NoneType_bool, RL.ty_NoneType_tuple, RL.ty_NoneType_list, RL.ty_bool_str, RL.ty_bool_int, RL.ty_bool_bool, RL.ty_bool_tuple, RL.ty_bool_list, RL.ty_int_str, RL.ty_int_int, RL.ty_int_bool, RL.ty_int_tuple, RL.ty_int_list, RL.ty_str_str, RL.ty_str_int, RL.ty_str_bool, RL.ty_str_tuple, RL.ty_str_list, RL.ty_tuple_str, RL.ty_tuple_int, RL.ty_tuple_bool, RL.ty_tuple_tuple, RL.ty_tuple_list, RL.ty_list_str, RL.ty_list_int, RL.ty_list_bool, RL.ty_list_tuple, RL.ty_list_list, RL.ty_dict_str, RL.ty_dict_int, RL.ty_dict_bool, RL.ty_dict_tuple, RL.ty_dict_list, RL.ev_InO, RL.ev_NotInO, RL.ev_IndexO, RL.ev_ParL, RL.ev_ParL3, RL.lst_o, RL.lst_d, RL.ev_LenMk, $args,*])
local macro_rules
  | `(tactic| simp_all? [$args,*]) => `(tactic| simp only [RL.bind_ok, RL.bind_exc, RL.bind_stuck, RL.toS_ok, RL.toS_exc, RL.toS_stuck, RL.ofO_some, RL.ofB_some, RL.ofL_some, RL.ev_C, RL.ev_Var, RL.ev_Bin, RL.ev_Ix, RL.ev_Tru, RL.ev_NotT, RL.ev_AndT, RL.ev_OrT, RL.ev_AndV, RL.ev_OrV, RL.ev_NotV, RL.ev_IfE, RL.ev_Nil, RL.ev_Cons, RL.ev_Tup, RL.ev_Lst, RL.ev_Call, RL.ev_Isi, RL.ev_Isi2, RL.ev_isTy2, RL.ev_FnT, Bool.or_false, Bool.false_or, Bool.or_true, Bool.true_or, Option.some.injEq, RL.ev_IsC, RL.ev_Fld, RL.ev_FldO, RL.ev_IxO, RL.ev_Append, RL.ev_None, RL.ev_Some, RL.ev_Sl, RL.ev_Chain, RL.ev_Un, RL.ev_Make, RL.ev_aNil, RL.ev_aV, RL.ev_aOwn, RL.ev_Fn, RL.ev_Items, RL.ev_Enum, RL.ev_Range, RL.ev_ListOf, RL.ev_Comp, RL.ev_Yes, RL.ev_Seq, RL.ev_Next, RL.ev_Brk, RL.ev_Cnt, RL.ev_Expr, RL.ev_Ret, RL.ev_RetN, RL.ev_IfS, RL.ev_Asg, RL.ev_setD, RL.ev_setOwn, RL.io_un, RL.io_d, RL.io_o, Bool.false_eq_true, RL.ev_setFld, RL.ev_SetFld, RL.ev_hNil, RL.ev_hCons, RL.ev_hTup, RL.ev_hLst, RL.ev_Par, RL.ev_ParO, RL.ev_OwnL, RL.ev_SetIx, RL.ev_setIx, RL.ev_Raise0, RL.ev_Raise1, RL.ev_Try, RL.ev_For, RL.ev_runF, RL.ev_clean0, RL.ev_cleanN, RL.ev_cleanE, RL.ev_keep_un, RL.ev_keep_d, RL.ev_keep_o, RL.ev_keep_io, RL.eq_str, RL.ne_str, RL.eq_int, RL.ne_int, RL.eq_bl, RL.ne_bl, RL.gt_int, RL.ge_int, RL.lt_int, RL.le_int, RL.add_int, RL.sub_int, RL.tru_bl, RL.tru_int, RL.tru_non, RL.tru_tup, RL.tru_lst, RL.arg0, RL.argV, RL.argO, RL.ios0, RL.iosV, RL.iosO, RL.nodup0, RL.nodup1, RL.frz_l, RL.putBack, RL.backIo, RL.mapIdx_n, RL.mapIdx_c, List.getElem?_cons_zero, List.getElem?_cons_succ, List.set_cons_zero, List.set_cons_succ, List.replicate_succ, List.replicate_zero, List.cons_append, List.nil_append, List.append_nil, List.map_cons, List.map_nil, ite_true, ite_false, if_true, if_false, Bool.not_true, Bool.not_false, decide_true, decide_false, reduceIte, Nat.reduceAdd, Nat.reduceEqDiff, Nat.succ_ne_zero, Nat.zero_add, Nat.reduceLeDiff, eq_self, and_self, and_true, true_and, RL.tyD, RL.ty_NoneType_str, RL.ty_NoneType_int, RL.ty_NoneType_bool, RL.ty_NoneType_tuple, RL.ty_NoneType_list, RL.ty_bool_str, RL.ty_bool_int, RL.ty_bool_bool, RL.ty_bool_tuple, RL.ty_bool_list, RL.ty_int_str, RL.ty_int_int, RL.ty_int_bool, RL.ty_int_tuple, RL.ty_int_list, RL.ty_str_str, RL.ty_str_int, RL.ty_str_bool, RL.ty_str_tuple, RL.ty_str_list, RL.ty_tuple_str, RL.ty_tuple_int, RL.ty_tuple_bool, RL.ty_tuple_tuple, RL.ty_tuple_list, RL.ty_list_str, RL.ty_list_int, RL.ty_list_bool, RL.ty_list_tuple, RL.ty_list_list, RL.ty_dict_str, RL.ty_dict_int, RL.ty_dict_bool, RL.ty_dict_tuple, RL.ty_dict_list, $args,*])
local macro_rules
  | `(tactic| dsimp? [$args,*]) => `(tactic| simp only [RL.bind_ok, RL.bind_exc, RL.bind_stuck, RL.toS_ok, RL.toS_exc, RL.toS_stuck, RL.ofO_some, RL.ofB_some, RL.ofL_some, RL.ev_C, RL.ev_Var, RL.ev_Bin, RL.ev_Ix, RL.ev_Tru, RL.ev_NotT, RL.ev_AndT, RL.ev_OrT, RL.ev_AndV, RL.ev_OrV, RL.ev_NotV, RL.ev_IfE, RL.ev_Nil, RL.ev_Cons, RL.ev_Tup, RL.ev_Lst, RL.ev_Call, RL.ev_Isi, RL.ev_Isi2, RL.ev_isTy2, RL.ev_FnT, Bool.or_false, Bool.false_or, Bool.or_true, Bool.true_or, Option.some.injEq, RL.ev_IsC, RL.ev_Fld, RL.ev_FldO, RL.ev_IxO, RL.ev_Append, RL.ev_None, RL.ev_Some, RL.ev_Sl, RL.ev_Chain, RL.ev_Un, RL.ev_Make, RL.ev_aNil, RL.ev_aV, RL.ev_aOwn, RL.ev_Fn, RL.ev_Items, RL.ev_Enum, RL.ev_Range, RL.ev_ListOf, RL.ev_Comp, RL.ev_Yes, RL.ev_Seq, RL.ev_Next, RL.ev_Brk, RL.ev_Cnt, RL.ev_Expr, RL.ev_Ret, RL.ev_RetN, RL.ev_IfS, RL.ev_Asg, RL.ev_setD, RL.ev_setOwn, RL.io_un, RL.io_d, RL.io_o, Bool.false_eq_true, RL.ev_setFld, RL.ev_SetFld, RL.ev_hNil, RL.ev_hCons, RL.ev_hTup, RL.ev_hLst, RL.ev_Par, RL.ev_ParO, RL.ev_OwnL, RL.ev_SetIx, RL.ev_setIx, RL.ev_Raise0, RL.ev_Raise1, RL.ev_Try, RL.ev_For, RL.ev_runF, RL.ev_clean0, RL.ev_cleanN, RL.ev_cleanE, RL.ev_keep_un, RL.ev_keep_d, RL.ev_keep_o, RL.ev_keep_io, RL.eq_str, RL.ne_str, RL.eq_int, RL.ne_int, RL.eq_bl, RL.ne_bl, RL.gt_int, RL.ge_int, RL.lt_int, RL.le_int, RL.add_int, RL.sub_int, RL.tru_bl, RL.tru_int, RL.tru_non, RL.tru_tup, RL.tru_lst, RL.arg0, RL.argV, RL.argO, RL.ios0, RL.iosV, RL.iosO, RL.nodup0, RL.nodup1, RL.frz_l, RL.putBack, RL.backIo, RL.mapIdx_n, RL.mapIdx_c, List.getElem?_cons_zero, List.getElem?_cons_succ, List.set_cons_zero, List.set_cons_succ, List.replicate_succ, List.replicate_zero, List.cons_append, List.nil_append, List.append_nil, List.map_cons, List.map_nil, ite_true, ite_false, if_true, if_false, Bool.not_true, Bool.not_false, decide_true, decide_false, reduceIte, Nat.reduceAdd, Nat.reduceEqDiff, Nat.succ_ne_zero, Nat.zero_add, RL.add_tup, RL.add_lst, RL.fits, List.length_cons, List.length_nil, Nat.reduceLeDiff, eq_self, and_self, and_true, true_and, RL.tyD, RL.ty_NoneType_str, RL.ty_NoneType_int, RL.ty_NoneType_bool, RL.ty_NoneType_tuple, RL.ty_NoneType_list, RL.ty_bool_str, RL.ty_bool_int, RL.ty_bool_bool, RL.ty_bool_tuple, RL.ty_bool_list, RL.ty_int_str, RL.ty_int_int, RL.ty_int_bool, RL.ty_int_tuple, RL.ty_int_list, RL.ty_str_str, RL.ty_str_int, RL.ty_str_bool, RL.ty_str_tuple, RL.ty_str_list, RL.ty_tuple_str, RL.ty_tuple_int, RL.ty_tuple_bool, RL.ty_tuple_tuple, RL.ty_tuple_list, RL.ty_list_str, RL.ty_list_int, RL.ty_list_bool, RL.ty_list_tuple, RL.ty_list_list, RL.ty_dict_str, RL.ty_dict_int, RL.ty_dict_bool, RL.ty_dict_tuple, RL.ty_dict_list, $args,*])
namespace G
open PySem L2 PyProof.Rows PySem.Spec RL
def topS (i : Nat) : Stmt := PySem.Challenge.pw_readersapart_k21_errors_are_apart.main.body.getD i (.Pass ⟨0, 0, 0, 0⟩)
def c_POINTS : D := (D.tup [(D.str "."), (D.str ","), (D.str "")])
def c_COMMAS : D := (D.tup [(D.str "."), (D.str ","), (D.str "'"), (D.str " "), (D.str "")])
def c_SIGNS : D := (D.tup [(D.str "none"), (D.str "ahead"), (D.str "behind")])
def c_MOST_READERS : D := (D.int 4)
def c_SIGNS_READ : D := (D.str " ',-.0123456789e")
def c_FIGURES : D := (D.str "0123456789")
def c_BEGIN : D := (D.tup [(D.str "ahead"), (D.int 0), (D.int 0), (D.int 0)])
def c_MOST_GROUP : D := (D.int 3)
def c_MOST_LENGTH : D := (D.int 30)
def c_MOST_SIGNS : D := (D.int 100)
def c_MOST_TEXTS : D := (D.int 20)
def c_POINT_WORDS : D := (D.tup [(D.str "dot"), (D.str "comma"), (D.str "none")])
def c_COMMA_WORDS : D := (D.tup [(D.str "dot"), (D.str "comma"), (D.str "apostrophe"), (D.str "blank"), (D.str "none")])
def c_POINT_SIGNS : D := (D.tup [(D.str "."), (D.str ","), (D.str "")])
def c_COMMA_SIGNS : D := (D.tup [(D.str "."), (D.str ","), (D.str "'"), (D.str " "), (D.str "")])
def c_LOOSE : D := (D.tup [(D.str "must"), (D.str "zeros"), (D.str "blanks"), (D.str "exponent")])
def c_MOST_WHOLE : D := (D.int 1000000000000000000000000000000)
def c_MOST_EXPONENT : D := (D.int 30)
abbrev s_is_one : Stmt := topS 18
abbrev N_is_one : List Str := ["value", "some"]
theorem sc_is_one : FnScope N_is_one ["value", "some"] (defScope s_is_one) := ⟨rfl, rfl, rfl, by decide +kernel, rfl, by decide +kernel, by decide +kernel⟩
def b_is_one : SEnv → SOut := (gRet (gAndV (gIsi "str" (gVar 0)) (gBin hIn (gVar 0) (gVar 1))))
def F_is_one : List Sl → FOut := runF 2 0 b_is_one
abbrev s_is_size : Stmt := topS 19
abbrev N_is_size : List Str := ["value"]
theorem sc_is_size : FnScope N_is_size ["value"] (defScope s_is_size) := ⟨rfl, rfl, rfl, by decide +kernel, rfl, by decide +kernel, by decide +kernel⟩
def b_is_size : SEnv → SOut := (gRet (gAndV (gIsi "int" (gVar 0)) (gAndV (gNotV (gIsi "bool" (gVar 0))) (gBin hIn (gVar 0) (gTup (gCons (gC (D.int 2)) (gCons (gC (D.int 3)) gNil)))))))
def F_is_size : List Sl → FOut := runF 1 0 b_is_size
abbrev s_parts_of : Stmt := topS 21
abbrev N_parts_of : List Str := ["reader", "ahead"]
theorem sc_parts_of : FnScope N_parts_of ["reader"] (defScope s_parts_of) := ⟨rfl, rfl, rfl, by decide +kernel, rfl, by decide +kernel, by decide +kernel⟩
def b_parts_of : SEnv → SOut := (gSeq (gAsg (gTup (gCons (gFld "Reader" "dot" (gVar 0)) (gCons (gFld "Reader" "mark" (gVar 0)) (gCons (gFld "Reader" "size" (gVar 0)) (gCons (gFld "Reader" "strict" (gVar 0)) gNil))))) (setD 1)) (gRet (gBin hAdd (gVar 1) (gTup (gCons (gFld "Reader" "minus" (gVar 0)) (gCons (gFld "Reader" "naughts" (gVar 0)) (gCons (gFld "Reader" "spaces" (gVar 0)) (gCons (gFld "Reader" "power" (gVar 0)) gNil))))))))
def F_parts_of : List Sl → FOut := runF 1 1 b_parts_of
abbrev s_need_reader : Stmt := topS 22
abbrev N_need_reader : List Str := ["reader"]
theorem sc_need_reader : FnScope N_need_reader ["reader"] (defScope s_need_reader) := ⟨rfl, rfl, rfl, by decide +kernel, rfl, by decide +kernel, by decide +kernel⟩
def b_need_reader : SEnv → SOut := (gIfS (gNotT (gTru (gIsC "Reader" (gVar 0)))) (gRaise0 "BadReader") gNext)
def F_need_reader : List Sl → FOut := runF 1 0 b_need_reader
abbrev s_need_readers : Stmt := topS 23
abbrev N_need_readers : List Str := ["readers", "index", "reader"]
theorem sc_need_readers : FnScope N_need_readers ["readers"] (defScope s_need_readers) := ⟨rfl, rfl, rfl, by decide +kernel, rfl, by decide +kernel, by decide +kernel⟩
def b_need_readers : SEnv → SOut := (gSeq (gIfS (gOrT (gNotT (gTru (gIsi2 "list" "tuple" (gVar 0)))) (gNotT (gTru (gChain hLe hLe (gC (D.int 1)) (gCall hLen (gCons (gVar 0) gNil)) (gC c_MOST_READERS))))) (gRaise1 "BadReaders" "index" (gC D.non)) gNext) (gFor (gEnum (gVar 0)) (hTup (hCons (setD 1) (hCons (setD 2) hNil))) (gIfS (gNotT (gTru (gIsC "Reader" (gVar 2)))) (gRaise1 "BadReaders" "index" (gVar 1)) gNext)))
def F_need_readers : List Sl → FOut := runF 1 2 b_need_readers
abbrev s_parts : Stmt := topS 24
abbrev N_parts : List Str := ["reader"]
theorem sc_parts : FnScope N_parts ["reader"] (defScope s_parts) := ⟨rfl, rfl, rfl, by decide +kernel, rfl, by decide +kernel, by decide +kernel⟩
def b_parts : SEnv → SOut := (gSeq (gExpr (gFn F_need_reader (aV (gVar 0) aNil))) (gRet (gFn F_parts_of (aV (gVar 0) aNil))))
def F_parts : List Sl → FOut := runF 1 0 b_parts
abbrev s_is_whole : Stmt := topS 31
abbrev N_is_whole : List Str := ["reader", "state", "phase", "many", "groups", "nought"]
theorem sc_is_whole : FnScope N_is_whole ["reader", "state"] (defScope s_is_whole) := ⟨rfl, rfl, rfl, by decide +kernel, rfl, by decide +kernel, by decide +kernel⟩
def b_is_whole : SEnv → SOut := (gSeq (gAsg (gVar 1) (hTup (hCons (setD 2) (hCons (setD 3) (hCons (setD 4) (hCons (setD 5) hNil)))))) (gRet (gOrV (gBin hEq (gVar 4) (gC (D.int 0))) (gBin hEq (gVar 3) (gC c_MOST_GROUP)))))
def F_is_whole : List Sl → FOut := runF 2 4 b_is_whole
abbrev s_can_end : Stmt := topS 32
abbrev N_can_end : List Str := ["reader", "state"]
theorem sc_can_end : FnScope N_can_end ["reader", "state"] (defScope s_can_end) := ⟨rfl, rfl, rfl, by decide +kernel, rfl, by decide +kernel, by decide +kernel⟩
def b_can_end : SEnv → SOut := (gSeq (gIfS (gTru (gBin hEq (gIx (gVar 1) (gC (D.int 0))) (gC (D.str "figures")))) (gRet (gFn F_is_whole (aV (gVar 0) (aV (gVar 1) aNil)))) gNext) (gRet (gBin hIn (gIx (gVar 1) (gC (D.int 0))) (gTup (gCons (gC (D.str "fraction")) (gCons (gC (D.str "power")) (gCons (gC (D.str "powers")) (gCons (gC (D.str "behind")) (gCons (gC (D.str "blanks")) gNil)))))))))
def F_can_end : List Sl → FOut := runF 2 0 b_can_end
abbrev s_next_figure : Stmt := topS 33
abbrev N_next_figure : List Str := ["reader", "state", "sign", "phase", "many", "groups", "nought"]
theorem sc_next_figure : FnScope N_next_figure ["reader", "state", "sign"] (defScope s_next_figure) := ⟨rfl, rfl, rfl, by decide +kernel, rfl, by decide +kernel, by decide +kernel⟩
def b_next_figure : SEnv → SOut := (gSeq (gAsg (gVar 1) (hTup (hCons (setD 3) (hCons (setD 4) (hCons (setD 5) (hCons (setD 6) hNil)))))) (gSeq (gIfS (gTru (gBin hIn (gVar 3) (gTup (gCons (gC (D.str "ahead")) (gCons (gC (D.str "minus")) gNil))))) (gRet (gTup (gCons (gC (D.str "figures")) (gCons (gC (D.int 1)) (gCons (gC (D.int 0)) (gCons (gIfE (gAndT (gTru (gBin hEq (gVar 2) (gC (D.str "0")))) (gNotT (gTru (gFld "Reader" "naughts" (gVar 0))))) (gC (D.int 1)) (gC (D.int 0))) gNil)))))) gNext) (gSeq (gIfS (gTru (gBin hEq (gVar 3) (gC (D.str "figures")))) (gSeq (gIfS (gOrT (gTru (gBin hEq (gVar 6) (gC (D.int 1)))) (gAndT (gTru (gBin hEq (gVar 4) (gC c_MOST_GROUP))) (gOrT (gTru (gBin hEq (gVar 5) (gC (D.int 1)))) (gAndT (gTru (gFld "Reader" "strict" (gVar 0))) (gTru (gBin hNe (gFld "Reader" "mark" (gVar 0)) (gC (D.str "")))))))) (gRet (gC D.non)) gNext) (gRet (gTup (gCons (gC (D.str "figures")) (gCons (gCall hMin (gCons (gBin hAdd (gVar 4) (gC (D.int 1))) (gCons (gBin hAdd (gC c_MOST_GROUP) (gC (D.int 1))) gNil))) (gCons (gVar 5) (gCons (gC (D.int 0)) gNil))))))) gNext) (gSeq (gIfS (gTru (gBin hIn (gVar 3) (gTup (gCons (gC (D.str "point")) (gCons (gC (D.str "fraction")) gNil))))) (gRet (gTup (gCons (gC (D.str "fraction")) (gCons (gC (D.int 0)) (gCons (gC (D.int 0)) (gCons (gC (D.int 0)) gNil)))))) gNext) (gSeq (gIfS (gTru (gBin hIn (gVar 3) (gTup (gCons (gC (D.str "e")) (gCons (gC (D.str "e-")) gNil))))) (gRet (gTup (gCons (gC (D.str "power")) (gCons (gC (D.int 0)) (gCons (gC (D.int 0)) (gCons (gIfE (gAndT (gTru (gBin hEq (gVar 2) (gC (D.str "0")))) (gNotT (gTru (gFld "Reader" "naughts" (gVar 0))))) (gC (D.int 1)) (gC (D.int 0))) gNil)))))) gNext) (gRet (gIfE (gAndT (gTru (gBin hEq (gVar 3) (gC (D.str "power")))) (gTru (gBin hEq (gVar 6) (gC (D.int 0))))) (gTup (gCons (gC (D.str "powers")) (gCons (gC (D.int 0)) (gCons (gC (D.int 0)) (gCons (gC (D.int 0)) gNil))))) (gC D.non))))))))
def F_next_figure : List Sl → FOut := runF 3 4 b_next_figure
abbrev s_next_mark : Stmt := topS 34
abbrev N_next_mark : List Str := ["reader", "state", "phase", "many", "groups", "nought", "good"]
theorem sc_next_mark : FnScope N_next_mark ["reader", "state"] (defScope s_next_mark) := ⟨rfl, rfl, rfl, by decide +kernel, rfl, by decide +kernel, by decide +kernel⟩
def b_next_mark : SEnv → SOut := (gSeq (gAsg (gVar 1) (hTup (hCons (setD 2) (hCons (setD 3) (hCons (setD 4) (hCons (setD 5) hNil)))))) (gSeq (gIfS (gOrT (gTru (gBin hNe (gVar 2) (gC (D.str "figures")))) (gOrT (gTru (gBin hEq (gVar 5) (gC (D.int 1)))) (gTru (gBin hGt (gVar 3) (gC c_MOST_GROUP))))) (gRet (gC D.non)) gNext) (gSeq (gAsg (gIfE (gTru (gBin hEq (gVar 4) (gC (D.int 1)))) (gBin hEq (gVar 3) (gFld "Reader" "size" (gVar 0))) (gBin hLe (gVar 3) (gFld "Reader" "size" (gVar 0)))) (setD 6)) (gRet (gIfE (gTru (gVar 6)) (gTup (gCons (gC (D.str "figures")) (gCons (gC (D.int 0)) (gCons (gC (D.int 1)) (gCons (gC (D.int 0)) gNil))))) (gC D.non))))))
def F_next_mark : List Sl → FOut := runF 2 5 b_next_mark
abbrev s_next_minus : Stmt := topS 35
abbrev N_next_minus : List Str := ["reader", "state", "good"]
theorem sc_next_minus : FnScope N_next_minus ["reader", "state"] (defScope s_next_minus) := ⟨rfl, rfl, rfl, by decide +kernel, rfl, by decide +kernel, by decide +kernel⟩
def b_next_minus : SEnv → SOut := (gSeq (gIfS (gTru (gBin hEq (gIx (gVar 1) (gC (D.int 0))) (gC (D.str "e")))) (gRet (gTup (gCons (gC (D.str "e-")) (gCons (gC (D.int 0)) (gCons (gC (D.int 0)) (gCons (gC (D.int 0)) gNil)))))) gNext) (gSeq (gIfS (gTru (gBin hEq (gIx (gVar 1) (gC (D.int 0))) (gC (D.str "ahead")))) (gRet (gIfE (gTru (gBin hEq (gFld "Reader" "minus" (gVar 0)) (gC (D.str "ahead")))) (gTup (gCons (gC (D.str "minus")) (gCons (gC (D.int 0)) (gCons (gC (D.int 0)) (gCons (gC (D.int 0)) gNil))))) (gC D.non))) gNext) (gSeq (gAsg (gAndV (gBin hEq (gFld "Reader" "minus" (gVar 0)) (gC (D.str "behind"))) (gAndV (gBin hNotIn (gIx (gVar 1) (gC (D.int 0))) (gTup (gCons (gC (D.str "behind")) (gCons (gC (D.str "blanks")) gNil)))) (gFn F_can_end (aV (gVar 0) (aV (gVar 1) aNil))))) (setD 2)) (gRet (gIfE (gTru (gVar 2)) (gTup (gCons (gC (D.str "behind")) (gCons (gC (D.int 0)) (gCons (gC (D.int 0)) (gCons (gC (D.int 0)) gNil))))) (gC D.non))))))
def F_next_minus : List Sl → FOut := runF 2 1 b_next_minus
abbrev s_next_state : Stmt := topS 36
abbrev N_next_state : List Str := ["reader", "state", "sign", "good"]
theorem sc_next_state : FnScope N_next_state ["reader", "state", "sign"] (defScope s_next_state) := ⟨rfl, rfl, rfl, by decide +kernel, rfl, by decide +kernel, by decide +kernel⟩
def b_next_state : SEnv → SOut := (gSeq (gIfS (gTru (gBin hIn (gVar 2) (gC c_FIGURES))) (gRet (gFn F_next_figure (aV (gVar 0) (aV (gVar 1) (aV (gVar 2) aNil))))) gNext) (gSeq (gIfS (gTru (gBin hEq (gVar 2) (gC (D.str "-")))) (gRet (gFn F_next_minus (aV (gVar 0) (aV (gVar 1) aNil)))) gNext) (gSeq (gIfS (gTru (gBin hEq (gVar 2) (gC (D.str "e")))) (gSeq (gAsg (gAndV (gFld "Reader" "power" (gVar 0)) (gOrV (gBin hEq (gIx (gVar 1) (gC (D.int 0))) (gC (D.str "fraction"))) (gAndV (gBin hEq (gIx (gVar 1) (gC (D.int 0))) (gC (D.str "figures"))) (gFn F_is_whole (aV (gVar 0) (aV (gVar 1) aNil)))))) (setD 3)) (gRet (gIfE (gTru (gVar 3)) (gTup (gCons (gC (D.str "e")) (gCons (gC (D.int 0)) (gCons (gC (D.int 0)) (gCons (gC (D.int 0)) gNil))))) (gC D.non)))) gNext) (gSeq (gIfS (gTru (gBin hEq (gVar 2) (gFld "Reader" "mark" (gVar 0)))) (gRet (gFn F_next_mark (aV (gVar 0) (aV (gVar 1) aNil)))) gNext) (gSeq (gIfS (gTru (gBin hEq (gVar 2) (gFld "Reader" "dot" (gVar 0)))) (gRet (gIfE (gAndT (gTru (gBin hEq (gIx (gVar 1) (gC (D.int 0))) (gC (D.str "figures")))) (gTru (gFn F_is_whole (aV (gVar 0) (aV (gVar 1) aNil))))) (gTup (gCons (gC (D.str "point")) (gCons (gC (D.int 0)) (gCons (gC (D.int 0)) (gCons (gC (D.int 0)) gNil))))) (gC D.non))) gNext) (gSeq (gIfS (gAndT (gTru (gBin hEq (gVar 2) (gC (D.str " ")))) (gTru (gFld "Reader" "spaces" (gVar 0)))) (gSeq (gIfS (gTru (gBin hEq (gIx (gVar 1) (gC (D.int 0))) (gC (D.str "ahead")))) (gRet (gVar 1)) gNext) (gRet (gIfE (gTru (gFn F_can_end (aV (gVar 0) (aV (gVar 1) aNil)))) (gTup (gCons (gC (D.str "blanks")) (gCons (gC (D.int 0)) (gCons (gC (D.int 0)) (gCons (gC (D.int 0)) gNil))))) (gC D.non)))) gNext) (gRet (gC D.non))))))))
def F_next_state : List Sl → FOut := runF 3 1 b_next_state
abbrev s_need_length : Stmt := topS 46
abbrev N_need_length : List Str := ["length"]
theorem sc_need_length : FnScope N_need_length ["length"] (defScope s_need_length) := ⟨rfl, rfl, rfl, by decide +kernel, rfl, by decide +kernel, by decide +kernel⟩
def b_need_length : SEnv → SOut := (gIfS (gOrT (gNotT (gTru (gIsi "int" (gVar 0)))) (gOrT (gTru (gIsi "bool" (gVar 0))) (gNotT (gTru (gChain hLe hLe (gC (D.int 0)) (gVar 0) (gC c_MOST_LENGTH)))))) (gRaise0 "BadLength") gNext)
def F_need_length : List Sl → FOut := runF 1 0 b_need_length
abbrev s_count : Stmt := topS 47
abbrev N_count : List Str := ["reader", "length", "place", "many"]
theorem sc_count : FnScope N_count ["reader", "length"] (defScope s_count) := ⟨rfl, rfl, rfl, by decide +kernel, rfl, by decide +kernel, by decide +kernel⟩
def b_count : SEnv → SOut := (gSeq (gExpr (gFn F_need_reader (aV (gVar 0) aNil))) (gSeq (gExpr (gFn F_need_length (aV (gVar 1) aNil))) gStuck))
def F_count : List Sl → FOut := runF 2 2 b_count
abbrev s_need_text : Stmt := topS 50
abbrev N_need_text : List Str := ["text"]
theorem sc_need_text : FnScope N_need_text ["text"] (defScope s_need_text) := ⟨rfl, rfl, rfl, by decide +kernel, rfl, by decide +kernel, by decide +kernel⟩
def b_need_text : SEnv → SOut := (gIfS (gOrT (gNotT (gTru (gIsi "str" (gVar 0)))) (gTru (gBin hGt (gCall hLen (gCons (gVar 0) gNil)) (gC c_MOST_SIGNS)))) (gRaise0 "BadText") gNext)
def F_need_text : List Sl → FOut := runF 1 0 b_need_text
abbrev s_stop_of : Stmt := topS 51
abbrev N_stop_of : List Str := ["reader", "text", "state", "at", "sign"]
theorem sc_stop_of : FnScope N_stop_of ["reader", "text"] (defScope s_stop_of) := ⟨rfl, rfl, rfl, by decide +kernel, rfl, by decide +kernel, by decide +kernel⟩
def b_stop_of : SEnv → SOut := (gSeq (gAsg (gC c_BEGIN) (setD 2)) (gSeq (gFor (gEnum (gVar 1)) (hTup (hCons (setD 3) (hCons (setD 4) hNil))) (gSeq (gAsg (gIfE (gTru (gBin hIn (gVar 4) (gC c_SIGNS_READ))) (gFn F_next_state (aV (gVar 0) (aV (gVar 2) (aV (gVar 4) aNil)))) (gC D.non)) (setD 2)) (gIfS (gTru (gBin hIsN (gVar 2) (gC D.non))) (gRet (gVar 3)) gNext))) (gRet (gIfE (gTru (gFn F_can_end (aV (gVar 0) (aV (gVar 2) aNil)))) (gC D.non) (gCall hLen (gCons (gVar 1) gNil))))))
def F_stop_of : List Sl → FOut := runF 2 3 b_stop_of
abbrev s_takes : Stmt := topS 52
abbrev N_takes : List Str := ["reader", "text"]
theorem sc_takes : FnScope N_takes ["reader", "text"] (defScope s_takes) := ⟨rfl, rfl, rfl, by decide +kernel, rfl, by decide +kernel, by decide +kernel⟩
def b_takes : SEnv → SOut := (gSeq (gExpr (gFn F_need_reader (aV (gVar 0) aNil))) (gSeq (gExpr (gFn F_need_text (aV (gVar 1) aNil))) (gRet (gBin hIsN (gFn F_stop_of (aV (gVar 0) (aV (gVar 1) aNil))) (gC D.non)))))
def F_takes : List Sl → FOut := runF 2 0 b_takes
abbrev s_tens : Stmt := topS 53
abbrev N_tens : List Str := ["many", "found", "turn"]
theorem sc_tens : FnScope N_tens ["many"] (defScope s_tens) := ⟨rfl, rfl, rfl, by decide +kernel, rfl, by decide +kernel, by decide +kernel⟩
def b_tens : SEnv → SOut := (gSeq (gAsg (gC (D.int 1)) (setD 1)) (gSeq (gFor (gRange (gCons (gVar 0) gNil)) (setD 2) (gAsg (gBin hMulA (gVar 1) (gC (D.int 10))) (setD 1))) (gRet (gVar 1))))
def F_tens : List Sl → FOut := runF 1 2 b_tens
abbrev s_normal : Stmt := topS 54
abbrev N_normal : List Str := ["whole", "exponent"]
theorem sc_normal : FnScope N_normal ["whole", "exponent"] (defScope s_normal) := ⟨rfl, rfl, rfl, by decide +kernel, rfl, by decide +kernel, by decide +kernel⟩
def b_normal : SEnv → SOut := (gSeq (gIfS (gTru (gBin hEq (gVar 0) (gC (D.int 0)))) (gRet (gTup (gCons (gC (D.int 0)) (gCons (gC (D.int 0)) gNil)))) gNext) (gSeq (loopW (gTru (gBin hEq (gBin hMod (gVar 0) (gC (D.int 10))) (gC (D.int 0)))) (gPar 0 1 (gCons (gBin hFdivA (gVar 0) (gC (D.int 10))) (gCons (gBin hAdd (gVar 1) (gC (D.int 1))) gNil))) 1000000000) (gRet (gTup (gCons (gVar 0) (gCons (gVar 1) gNil))))))
def F_normal : List Sl → FOut := runF 2 0 b_normal
abbrev s_number_of : Stmt := topS 55
abbrev N_number_of : List Str := ["reader", "text", "body", "below", "parts", "cut", "behind", "whole", "exponent", "sign"]
theorem sc_number_of : FnScope N_number_of ["reader", "text"] (defScope s_number_of) := ⟨rfl, rfl, rfl, by decide +kernel, rfl, by decide +kernel, by decide +kernel⟩
def b_number_of : SEnv → SOut := (gSeq (gAsg (gRepl " " "" (gVar 1)) (setD 2)) (gSeq (gAsg (gOrV (gBin hEq (gIx (gVar 2) (gC (D.int 0))) (gC (D.str "-"))) (gBin hEq (gIx (gVar 2) (gUn hNeg (gC (D.int 1)))) (gC (D.str "-")))) (setD 3)) (gSeq (gAsg (gM1 hSplit (gRepl "E" "e-" (gRepl "-" "" (gRepl "e-" "E" (gVar 2)))) (gC (D.str "e"))) (setD 4)) (gSeq (gAsg (gIfE (gTru (gBin hNe (gFld "Reader" "dot" (gVar 0)) (gC (D.str "")))) (gM1 hFind (gIx (gVar 4) (gC (D.int 0))) (gFld "Reader" "dot" (gVar 0))) (gUn hNeg (gC (D.int 1)))) (setD 5)) (gSeq (gAsg (gIfE (gTru (gBin hGe (gVar 5) (gC (D.int 0)))) (gSl (gIx (gVar 4) (gC (D.int 0))) (gSome (gBin hAdd (gVar 5) (gC (D.int 1)))) gNone) (gC (D.str ""))) (setD 6)) (gSeq (gAsg (gCall hIntOf2 (gCons (gM1 hJoin (gC (D.str "")) (gLst (gComp (gItems (gIx (gVar 4) (gC (D.int 0)))) (setD 9) (gTru (gBin hIn (gVar 9) (gC c_FIGURES))) (gVar 9) [9]))) gNil)) (setD 7)) (gSeq (gAsg (gIfE (gTru (gBin hGt (gCall hLen (gCons (gVar 4) gNil)) (gC (D.int 1)))) (gCall hIntOf2 (gCons (gIx (gVar 4) (gC (D.int 1))) gNil)) (gC (D.int 0))) (setD 8)) (gRet (gFn F_normal (aV (gIfE (gTru (gVar 3)) (gUn hNeg (gVar 7)) (gVar 7)) (aV (gBin hSub (gVar 8) (gCall hLen (gCons (gVar 6) gNil))) aNil)))))))))))
def F_number_of : List Sl → FOut := runF 2 8 b_number_of
abbrev s_means : Stmt := topS 56
abbrev N_means : List Str := ["reader", "text", "stop"]
theorem sc_means : FnScope N_means ["reader", "text"] (defScope s_means) := ⟨rfl, rfl, rfl, by decide +kernel, rfl, by decide +kernel, by decide +kernel⟩
def b_means : SEnv → SOut := (gSeq (gExpr (gFn F_need_reader (aV (gVar 0) aNil))) (gSeq (gExpr (gFn F_need_text (aV (gVar 1) aNil))) (gSeq (gAsg (gFn F_stop_of (aV (gVar 0) (aV (gVar 1) aNil))) (setD 2)) (gSeq (gIfS (gTru (gBin hNotN (gVar 2) (gC D.non))) (gRaise1 "NotTaken" "at" (gVar 2)) gNext) (gRet (gFn F_number_of (aV (gVar 0) (aV (gVar 1) aNil))))))))
def F_means : List Sl → FOut := runF 2 1 b_means
abbrev s_parting : Stmt := topS 59
abbrev N_parting : List Str := ["readers"]
theorem sc_parting : FnScope N_parting ["readers"] (defScope s_parting) := ⟨rfl, rfl, rfl, by decide +kernel, rfl, by decide +kernel, by decide +kernel⟩
def b_parting : SEnv → SOut := (gSeq (gExpr (gFn F_need_readers (aV (gVar 0) aNil))) gStuck)
def F_parting : List Sl → FOut := runF 1 0 b_parting
abbrev s_need_texts : Stmt := topS 60
abbrev N_need_texts : List Str := ["texts", "index", "text"]
theorem sc_need_texts : FnScope N_need_texts ["texts"] (defScope s_need_texts) := ⟨rfl, rfl, rfl, by decide +kernel, rfl, by decide +kernel, by decide +kernel⟩
def b_need_texts : SEnv → SOut := (gSeq (gIfS (gOrT (gNotT (gTru (gIsi2 "list" "tuple" (gVar 0)))) (gNotT (gTru (gChain hLe hLe (gC (D.int 1)) (gCall hLen (gCons (gVar 0) gNil)) (gC c_MOST_TEXTS))))) (gRaise1 "BadTexts" "index" (gC D.non)) gNext) (gFor (gEnum (gVar 0)) (hTup (hCons (setD 1) (hCons (setD 2) hNil))) (gIfS (gOrT (gNotT (gTru (gIsi "str" (gVar 2)))) (gTru (gBin hGt (gCall hLen (gCons (gVar 2) gNil)) (gC c_MOST_SIGNS)))) (gRaise1 "BadTexts" "index" (gVar 1)) gNext)))
def F_need_texts : List Sl → FOut := runF 1 2 b_need_texts
abbrev s_takers : Stmt := topS 61
abbrev N_takers : List Str := ["readers", "texts", "found", "at", "reader", "text"]
theorem sc_takers : FnScope N_takers ["readers", "texts"] (defScope s_takers) := ⟨rfl, rfl, rfl, by decide +kernel, rfl, by decide +kernel, by decide +kernel⟩
def b_takers : SEnv → SOut := (gSeq (gExpr (gFn F_need_readers (aV (gVar 0) aNil))) (gSeq (gExpr (gFn F_need_texts (aV (gVar 1) aNil))) gStuck))
def F_takers : List Sl → FOut := runF 2 4 b_takers
abbrev s_word_at : Stmt := topS 70
abbrev N_word_at : List Str := ["words", "at", "some"]
theorem sc_word_at : FnScope N_word_at ["words", "at", "some"] (defScope s_word_at) := ⟨rfl, rfl, rfl, by decide +kernel, rfl, by decide +kernel, by decide +kernel⟩
def b_word_at : SEnv → SOut := (gSeq (gIfS (gOrT (gTru (gBin hGe (gVar 1) (gCall hLen (gCons (gVar 0) gNil)))) (gTru (gBin hNotIn (gIx (gVar 0) (gVar 1)) (gVar 2)))) (gRaise1 "InvalidText" "word" (gBin hAdd (gVar 1) (gC (D.int 1)))) gNext) gStuck)
def F_word_at : List Sl → FOut := runF 3 0 b_word_at
abbrev s_read : Stmt := topS 71
abbrev N_read : List Str := ["text", "words", "point", "comma", "rest", "sign", "loose", "ahead", "at", "place", "must", "zeros", "blanks", "exponent", "word"]
theorem sc_read : FnScope N_read ["text"] (defScope s_read) := ⟨rfl, rfl, rfl, by decide +kernel, rfl, by decide +kernel, by decide +kernel⟩
def b_read : SEnv → SOut := (gSeq (gAsg (gLst (gComp (gItems (gM1 hSplit (gVar 0) (gC (D.str " ")))) (setD 14) (gTru (gBin hNe (gVar 14) (gC (D.str "")))) (gVar 14) [14])) (setD 1)) (gSeq (gAsg (gIx (gC c_POINT_SIGNS) (gFn F_word_at (aV (gVar 1) (aV (gC (D.int 0)) (aV (gC c_POINT_WORDS) aNil))))) (setD 2)) gStuck))
def F_read : List Sl → FOut := runF 1 14 b_read
abbrev s_is_integer : Stmt := topS 75
abbrev N_is_integer : List Str := ["value"]
theorem sc_is_integer : FnScope N_is_integer ["value"] (defScope s_is_integer) := ⟨rfl, rfl, rfl, by decide +kernel, rfl, by decide +kernel, by decide +kernel⟩
def b_is_integer : SEnv → SOut := (gRet (gAndV (gIsi "int" (gVar 0)) (gNotV (gIsi "bool" (gVar 0)))))
def F_is_integer : List Sl → FOut := runF 1 0 b_is_integer
abbrev s_is_number : Stmt := topS 76
abbrev N_is_number : List Str := ["value", "one"]
theorem sc_is_number : FnScope N_is_number ["value"] (defScope s_is_number) := ⟨rfl, rfl, rfl, by decide +kernel, rfl, by decide +kernel, by decide +kernel⟩
def b_is_number : SEnv → SOut := (gSeq (gIfS (gOrT (gNotT (gTru (gIsi "tuple" (gVar 0)))) (gOrT (gTru (gBin hNe (gCall hLen (gCons (gVar 0) gNil)) (gC (D.int 2)))) (gNotT (gTru (gCall hAll (gCons (gLst (gComp (gItems (gVar 0)) (setD 1) gYes (gFn F_is_integer (aV (gVar 1) aNil)) [1])) gNil)))))) (gRet (gC (D.bl false))) gNext) (gSeq (gIfS (gOrT (gTru (gBin hGt (gCall hAbs (gCons (gIx (gVar 0) (gC (D.int 0))) gNil)) (gC c_MOST_WHOLE))) (gTru (gBin hGt (gCall hAbs (gCons (gIx (gVar 0) (gC (D.int 1))) gNil)) (gC c_MOST_EXPONENT)))) (gRet (gC (D.bl false))) gNext) (gRet (gOrV (gBin hEq (gVar 0) (gTup (gCons (gC (D.int 0)) (gCons (gC (D.int 0)) gNil)))) (gBin hNe (gBin hMod (gIx (gVar 0) (gC (D.int 0))) (gC (D.int 10))) (gC (D.int 0)))))))
def F_is_number : List Sl → FOut := runF 1 1 b_is_number
abbrev s_need_number : Stmt := topS 77
abbrev N_need_number : List Str := ["number"]
theorem sc_need_number : FnScope N_need_number ["number"] (defScope s_need_number) := ⟨rfl, rfl, rfl, by decide +kernel, rfl, by decide +kernel, by decide +kernel⟩
def b_need_number : SEnv → SOut := (gIfS (gNotT (gTru (gFn F_is_number (aV (gVar 0) aNil)))) (gRaise0 "BadNumber") gNext)
def F_need_number : List Sl → FOut := runF 1 0 b_need_number
abbrev s_grouped : Stmt := topS 78
abbrev N_grouped : List Str := ["figures", "mark", "size", "found", "rest"]
theorem sc_grouped : FnScope N_grouped ["figures", "mark", "size"] (defScope s_grouped) := ⟨rfl, rfl, rfl, by decide +kernel, rfl, by decide +kernel, by decide +kernel⟩
def b_grouped : SEnv → SOut := (gSeq (gPar 3 4 (gCons (gSl (gVar 0) (gSome (gUn hNeg (gC (D.int 3)))) gNone) (gCons (gSl (gVar 0) gNone (gSome (gUn hNeg (gC (D.int 3))))) gNil))) (gSeq (loopW (gTru (gBin hNe (gVar 4) (gC (D.str "")))) (gPar 3 4 (gCons (gBin hAdd (gBin hAdd (gSl (gVar 4) (gSome (gUn hNeg (gVar 2))) gNone) (gVar 1)) (gVar 3)) (gCons (gSl (gVar 4) gNone (gSome (gUn hNeg (gVar 2)))) gNil))) 1000000000) (gRet (gVar 3))))
def F_grouped : List Sl → FOut := runF 3 2 b_grouped
abbrev s_plain_of : Stmt := topS 79
abbrev N_plain_of : List Str := ["number", "whole", "exponent", "figures"]
theorem sc_plain_of : FnScope N_plain_of ["number"] (defScope s_plain_of) := ⟨rfl, rfl, rfl, by decide +kernel, rfl, by decide +kernel, by decide +kernel⟩
def b_plain_of : SEnv → SOut := (gSeq (gPar 1 2 (gCons (gCall hAbs (gCons (gIx (gVar 0) (gC (D.int 0))) gNil)) (gCons (gIx (gVar 0) (gC (D.int 1))) gNil))) (gSeq (gIfS (gTru (gBin hGe (gVar 2) (gC (D.int 0)))) (gRet (gTup (gCons (gCall hStrOf (gCons (gBin hMulA (gVar 1) (gFn F_tens (aV (gVar 2) aNil))) gNil)) (gCons (gC (D.str "")) gNil)))) gNext) (gSeq (gAsg (gCall hStrOf (gCons (gVar 1) gNil)) (setD 3)) (gSeq (gAsg (gBin hAdd (gBin hMulA (gC (D.str "0")) (gBin hSub (gBin hSub (gC (D.int 1)) (gVar 2)) (gCall hLen (gCons (gVar 3) gNil)))) (gVar 3)) (setD 3)) (gRet (gTup (gCons (gSl (gVar 3) gNone (gSome (gVar 2))) (gCons (gSl (gVar 3) (gSome (gVar 2)) gNone) gNil))))))))
def F_plain_of : List Sl → FOut := runF 1 3 b_plain_of
abbrev s_written_of : Stmt := topS 80
abbrev N_written_of : List Str := ["reader", "number", "whole", "behind", "text"]
theorem sc_written_of : FnScope N_written_of ["reader", "number"] (defScope s_written_of) := ⟨rfl, rfl, rfl, by decide +kernel, rfl, by decide +kernel, by decide +kernel⟩
def b_written_of : SEnv → SOut := (gSeq (gAsg (gFn F_plain_of (aV (gVar 1) aNil)) (hTup (hCons (setD 2) (hCons (setD 3) hNil)))) (gSeq (gIfS (gOrT (gAndT (gTru (gBin hNe (gVar 3) (gC (D.str "")))) (gTru (gBin hEq (gFld "Reader" "dot" (gVar 0)) (gC (D.str ""))))) (gAndT (gTru (gBin hLt (gIx (gVar 1) (gC (D.int 0))) (gC (D.int 0)))) (gTru (gBin hEq (gFld "Reader" "minus" (gVar 0)) (gC (D.str "none")))))) (gRet (gC D.non)) gNext) (gSeq (gIfS (gTru (gBin hNe (gFld "Reader" "mark" (gVar 0)) (gC (D.str "")))) (gAsg (gFn F_grouped (aV (gVar 2) (aV (gFld "Reader" "mark" (gVar 0)) (aV (gFld "Reader" "size" (gVar 0)) aNil)))) (setD 2)) gNext) (gSeq (gAsg (gIfE (gTru (gBin hNe (gVar 3) (gC (D.str "")))) (gBin hAdd (gBin hAdd (gVar 2) (gFld "Reader" "dot" (gVar 0))) (gVar 3)) (gVar 2)) (setD 4)) (gSeq (gIfS (gTru (gBin hGe (gIx (gVar 1) (gC (D.int 0))) (gC (D.int 0)))) (gRet (gVar 4)) gNext) (gRet (gIfE (gTru (gBin hEq (gFld "Reader" "minus" (gVar 0)) (gC (D.str "ahead")))) (gBin hAdd (gC (D.str "-")) (gVar 4)) (gBin hAdd (gVar 4) (gC (D.str "-"))))))))))
def F_written_of : List Sl → FOut := runF 2 3 b_written_of
abbrev s_written : Stmt := topS 81
abbrev N_written : List Str := ["reader", "number"]
theorem sc_written : FnScope N_written ["reader", "number"] (defScope s_written) := ⟨rfl, rfl, rfl, by decide +kernel, rfl, by decide +kernel, by decide +kernel⟩
def b_written : SEnv → SOut := (gSeq (gExpr (gFn F_need_reader (aV (gVar 0) aNil))) (gSeq (gExpr (gFn F_need_number (aV (gVar 1) aNil))) (gRet (gFn F_written_of (aV (gVar 0) (aV (gVar 1) aNil))))))
def F_written : List Sl → FOut := runF 2 0 b_written
abbrev s_need_numbers : Stmt := topS 83
abbrev N_need_numbers : List Str := ["texts", "numbers", "index", "number"]
theorem sc_need_numbers : FnScope N_need_numbers ["texts", "numbers"] (defScope s_need_numbers) := ⟨rfl, rfl, rfl, by decide +kernel, rfl, by decide +kernel, by decide +kernel⟩
def b_need_numbers : SEnv → SOut := (gSeq (gExpr (gFn F_need_texts (aV (gVar 0) aNil))) (gSeq (gIfS (gOrT (gNotT (gTru (gIsi2 "list" "tuple" (gVar 1)))) (gTru (gBin hNe (gCall hLen (gCons (gVar 1) gNil)) (gCall hLen (gCons (gVar 0) gNil))))) (gRaise1 "BadNumbers" "index" (gC D.non)) gNext) (gFor (gEnum (gVar 1)) (hTup (hCons (setD 2) (hCons (setD 3) hNil))) (gIfS (gAndT (gTru (gBin hNotN (gVar 3) (gC D.non))) (gNotT (gTru (gFn F_is_number (aV (gVar 3) aNil))))) (gRaise1 "BadNumbers" "index" (gVar 2)) gNext))))
def F_need_numbers : List Sl → FOut := runF 2 2 b_need_numbers
abbrev s_fitting : Stmt := topS 85
abbrev N_fitting : List Str := ["texts", "numbers", "found", "parts", "point", "comma", "rest", "must", "sign", "zeros", "blanks", "exponent", "reader", "text", "number"]
theorem sc_fitting : FnScope N_fitting ["texts", "numbers"] (defScope s_fitting) := ⟨rfl, rfl, rfl, by decide +kernel, rfl, by decide +kernel, by decide +kernel⟩
def b_fitting : SEnv → SOut := (gSeq (gExpr (gFn F_need_numbers (aV (gVar 0) (aV (gVar 1) aNil)))) gStuck)
def F_fitting : List Sl → FOut := runF 2 13 b_fitting
abbrev s__law_taken : Stmt := topS 87
abbrev N__law_taken : List Str := ["_law_row", "_law_many", "_law_found", "_law_cell"]
theorem sc__law_taken : FnScope N__law_taken ["_law_row", "_law_many"] (defScope s__law_taken) := ⟨rfl, rfl, rfl, by decide +kernel, rfl, by decide +kernel, by decide +kernel⟩
def b__law_taken : SEnv → SOut := (gSeq (gIfS (gTru (gBin hGt (gIxO 0 (gC (D.int 3))) (gC (D.int 0)))) (gSeq (gAsg (gBin hMod (gCall hIntOf2 (gCons (gIxO 0 (gC (D.int 3))) gNil)) (gVar 1)) (setD 2)) (gSeq (gSetIx 0 (gC (D.int 3)) (gBin hFdivA (gIxO 0 (gC (D.int 3))) (gVar 1))) (gRet (gVar 2)))) gNext) (gSeq (gSetIx 0 (gC (D.int 1)) (gBin hAdd (gIxO 0 (gC (D.int 1))) (gC (D.int 1)))) (gSeq (gIfS (gTru (gBin hGt (gIxO 0 (gC (D.int 1))) (gCall hLen (gCons (gIxO 0 (gC (D.int 0))) gNil)))) (gSeq (gSetIx 0 (gC (D.int 2)) (gBin hMod (gCall hIntOf2 (gCons (gBin hAdd (gBin hMulA (gIxO 0 (gC (D.int 2))) (gC (D.int 48271))) (gC (D.int 11))) gNil)) (gC (D.int 2147483647)))) (gRet (gBin hMod (gCall hIntOf2 (gCons (gBin hFdivA (gIxO 0 (gC (D.int 2))) (gC (D.int 7))) gNil)) (gVar 1)))) gNext) (gSeq (gAsg (gIx (gIxO 0 (gC (D.int 0))) (gBin hSub (gIxO 0 (gC (D.int 1))) (gC (D.int 1)))) (setD 3)) (gSeq (gSetIx 0 (gC (D.int 2)) (gBin hMod (gCall hIntOf2 (gCons (gBin hAdd (gBin hAdd (gBin hMulA (gIxO 0 (gC (D.int 2))) (gC (D.int 48271))) (gVar 3)) (gC (D.int 11))) gNil)) (gC (D.int 2147483647)))) (gSeq (gIfS (gTru (gBin hGe (gVar 3) (gBin hPow (gC (D.int 10)) (gC (D.int 18))))) (gSetIx 0 (gC (D.int 3)) (gBin hFdivA (gVar 3) (gVar 1))) gNext) (gRet (gBin hMod (gCall hIntOf2 (gCons (gVar 3) gNil)) (gVar 1)))))))))
def F__law_taken : List Sl → FOut := runF 2 2 b__law_taken
abbrev s_Reader___init__ : Stmt := inClass (topS 20) 0
abbrev N_Reader___init__ : List Str := ["self", "point", "comma", "rest", "must", "sign", "zeros", "blanks", "exponent"]
theorem sc_Reader___init__ : FnScope N_Reader___init__ ["self", "point", "comma", "rest", "must", "sign", "zeros", "blanks", "exponent"] (defScope s_Reader___init__) := ⟨rfl, rfl, rfl, by decide +kernel, rfl, by decide +kernel, by decide +kernel⟩
def b_Reader___init__ : SEnv → SOut := (gSeq (gIfS (gNotT (gTru (gFn F_is_one (aV (gVar 1) (aV (gC c_POINTS) aNil))))) (gRaise1 "BadPart" "part" (gC (D.str "point"))) gNext) (gSeq (gIfS (gOrT (gNotT (gTru (gFn F_is_one (aV (gVar 2) (aV (gC c_COMMAS) aNil))))) (gAndT (gTru (gBin hNe (gVar 2) (gC (D.str "")))) (gTru (gBin hEq (gVar 2) (gVar 1))))) (gRaise1 "BadPart" "part" (gC (D.str "comma"))) gNext) (gSeq (gIfS (gNotT (gTru (gFn F_is_size (aV (gVar 3) aNil)))) (gRaise1 "BadPart" "part" (gC (D.str "rest"))) gNext) (gSeq (gIfS (gNotT (gTru (gIsi "bool" (gVar 4)))) (gRaise1 "BadPart" "part" (gC (D.str "must"))) gNext) (gSeq (gIfS (gNotT (gTru (gFn F_is_one (aV (gVar 5) (aV (gC c_SIGNS) aNil))))) (gRaise1 "BadPart" "part" (gC (D.str "sign"))) gNext) (gSeq (gIfS (gNotT (gTru (gIsi "bool" (gVar 6)))) (gRaise1 "BadPart" "part" (gC (D.str "zeros"))) gNext) (gSeq (gIfS (gOrT (gNotT (gTru (gIsi "bool" (gVar 7)))) (gAndT (gTru (gVar 7)) (gTru (gBin hEq (gVar 2) (gC (D.str " ")))))) (gRaise1 "BadPart" "part" (gC (D.str "blanks"))) gNext) (gSeq (gIfS (gNotT (gTru (gIsi "bool" (gVar 8)))) (gRaise1 "BadPart" "part" (gC (D.str "exponent"))) gNext) (gSeq (gAsg (gTup (gCons (gVar 1) (gCons (gVar 2) gNil))) (hTup (hCons (setFld 0 "Reader" "dot") (hCons (setFld 0 "Reader" "mark") hNil)))) (gSeq (gAsg (gTup (gCons (gVar 3) (gCons (gVar 4) gNil))) (hTup (hCons (setFld 0 "Reader" "size") (hCons (setFld 0 "Reader" "strict") hNil)))) (gSeq (gAsg (gTup (gCons (gVar 5) (gCons (gVar 6) gNil))) (hTup (hCons (setFld 0 "Reader" "minus") (hCons (setFld 0 "Reader" "naughts") hNil)))) (gAsg (gTup (gCons (gVar 7) (gCons (gVar 8) gNil))) (hTup (hCons (setFld 0 "Reader" "spaces") (hCons (setFld 0 "Reader" "power") hNil)))))))))))))))
def F_Reader___init__ : List Sl → FOut := runF 9 0 b_Reader___init__
abbrev s_Column___init__ : Stmt := inClass (topS 63) 0
abbrev N_Column___init__ : List Str := ["self", "readers"]
theorem sc_Column___init__ : FnScope N_Column___init__ ["self", "readers"] (defScope s_Column___init__) := ⟨rfl, rfl, rfl, by decide +kernel, rfl, by decide +kernel, by decide +kernel⟩
def b_Column___init__ : SEnv → SOut := (gSeq (gExpr (gFn F_need_readers (aV (gVar 1) aNil))) (gSeq (gSetFld 0 "Column" "eyes" (gCall hTupOf (gCons (gVar 1) gNil))) (gSeq (gSetFld 0 "Column" "lines" (gTup gNil)) (gSetFld 0 "Column" "seen" (gTup gNil)))))
def F_Column___init__ : List Sl → FOut := runF 2 0 b_Column___init__
abbrev s_Column___len__ : Stmt := inClass (topS 63) 8
abbrev N_Column___len__ : List Str := ["self"]
theorem sc_Column___len__ : FnScope N_Column___len__ ["self"] (defScope s_Column___len__) := ⟨rfl, rfl, rfl, by decide +kernel, rfl, by decide +kernel, by decide +kernel⟩
def b_Column___len__ : SEnv → SOut := (gRet (gCall hLen (gCons (gFldO 0 "Column" "lines") gNil)))
def F_Column___len__ : List Sl → FOut := runF 1 0 b_Column___len__
abbrev s__law_call : Stmt := topS 88
abbrev N__law_call : List Str := ["_law_kind", "_law_reader"]
theorem sc__law_call : FnScope N__law_call ["_law_kind"] (defScope s__law_call) := ⟨rfl, rfl, rfl, by decide +kernel, rfl, by decide +kernel, by decide +kernel⟩
def b__law_call : SEnv → SOut := (gSeq (gAsg (gMake "Reader" F_Reader___init__ (gCons (gC (D.str ".")) (gCons (gC (D.str ",")) (gCons (gC (D.int 3)) (gCons (gC (D.bl false)) (gCons (gC (D.str "none")) (gCons (gC (D.bl false)) (gCons (gC (D.bl false)) (gCons (gC (D.bl false)) gNil))))))))) (setD 1)) (gIfS (gTru (gBin hEq (gVar 0) (gC (D.int 0)))) (gExpr (gMake "Reader" F_Reader___init__ (gCons (gC (D.str ".")) (gCons (gC (D.str ".")) (gCons (gC (D.int 3)) (gCons (gC (D.bl false)) (gCons (gC (D.str "none")) (gCons (gC (D.bl false)) (gCons (gC (D.bl false)) (gCons (gC (D.bl false)) gNil)))))))))) (gIfS (gTru (gBin hEq (gVar 0) (gC (D.int 1)))) (gExpr (gFn F_parts (aV (gC (D.str ".")) aNil))) (gIfS (gTru (gBin hEq (gVar 0) (gC (D.int 2)))) (gExpr (gFn F_parting (aV (gLst gNil) aNil))) (gIfS (gTru (gBin hEq (gVar 0) (gC (D.int 3)))) (gExpr (gFn F_takes (aV (gVar 1) (aV (gC (D.int 7)) aNil)))) (gIfS (gTru (gBin hEq (gVar 0) (gC (D.int 4)))) (gExpr (gFn F_takers (aV (gLst (gCons (gVar 1) gNil)) (aV (gLst gNil) aNil)))) (gIfS (gTru (gBin hEq (gVar 0) (gC (D.int 5)))) (gExpr (gFn F_means (aV (gVar 1) (aV (gC (D.str "x")) aNil)))) (gIfS (gTru (gBin hEq (gVar 0) (gC (D.int 6)))) (gExpr (gFn F_written (aV (gVar 1) (aV (gC (D.int 7)) aNil)))) (gIfS (gTru (gBin hEq (gVar 0) (gC (D.int 7)))) (gExpr (gFn F_fitting (aV (gLst (gCons (gC (D.str "1")) gNil)) (aV (gLst gNil) aNil)))) (gIfS (gTru (gBin hEq (gVar 0) (gC (D.int 8)))) (gExpr (gFn F_count (aV (gVar 1) (aV (gC (D.int 31)) aNil)))) (gExpr (gFn F_read (aV (gC (D.str "")) aNil)))))))))))))
def F__law_call : List Sl → FOut := runF 1 1 b__law_call
abbrev s__law_first : Stmt := topS 89
abbrev N__law_first : List Str := ["_law_kind", "_law_raised"]
theorem sc__law_first : FnScope N__law_first ["_law_kind"] (defScope s__law_first) := ⟨rfl, rfl, rfl, by decide +kernel, rfl, by decide +kernel, by decide +kernel⟩
def b__law_first : SEnv → SOut := (gSeq (gAsg (gLst gNil) (setD 1)) (gSeq (gTry (gExpr (gFn F__law_call (aV (gVar 0) aNil))) [⟨"BadPart", none, 1, (fun _ => some (D.int 0))⟩, ⟨"BadReader", none, 1, (fun _ => some (D.int 1))⟩, ⟨"BadReaders", none, 1, (fun _ => some (D.int 2))⟩, ⟨"BadText", none, 1, (fun _ => some (D.int 3))⟩, ⟨"BadTexts", none, 1, (fun _ => some (D.int 4))⟩, ⟨"NotTaken", none, 1, (fun _ => some (D.int 5))⟩, ⟨"BadNumber", none, 1, (fun _ => some (D.int 6))⟩, ⟨"BadNumbers", none, 1, (fun _ => some (D.int 7))⟩, ⟨"BadLength", none, 1, (fun _ => some (D.int 8))⟩, ⟨"InvalidText", none, 1, (fun _ => some (D.int 9))⟩]) (gRet (gVar 1))))
def F__law_first : List Sl → FOut := runF 1 1 b__law_first
abbrev s__law_base : Stmt := topS 90
abbrev N__law_base : List Str := ["_law_kind", "_law_raised"]
theorem sc__law_base : FnScope N__law_base ["_law_kind"] (defScope s__law_base) := ⟨rfl, rfl, rfl, by decide +kernel, rfl, by decide +kernel, by decide +kernel⟩
def b__law_base : SEnv → SOut := (gSeq (gAsg (gC (D.bl false)) (setD 1)) (gSeq (gTry (gExpr (gFn F__law_call (aV (gVar 0) aNil))) [⟨"ReaderError", none, 1, (fun _ => some (D.bl true))⟩]) (gRet (gVar 1))))
def F__law_base : List Sl → FOut := runF 1 1 b__law_base
abbrev s_law : Stmt := topS 91
abbrev N_law : List Str := ["_law_script", "_law_row", "_law_turn", "_law_kind"]
theorem sc_law : FnScope N_law ["_law_script"] (defScope s_law) := ⟨rfl, rfl, rfl, by decide +kernel, rfl, by decide +kernel, by decide +kernel⟩
def b_law : SEnv → SOut := (gSeq (gOwnL 1 (gCons (gVar 0) (gCons (gC (D.int 0)) (gCons (gC (D.int 121)) (gCons (gC (D.int 0)) gNil))))) (gSeq (gFor (gRange (gCons (gC (D.int 9)) gNil)) (setD 2) (gSeq (gAsg (gFn F__law_taken (aOwn 1 (aV (gC (D.int 10)) aNil))) (setD 3)) (gIfS (gOrT (gTru (gBin hNe (gFn F__law_first (aV (gVar 3) aNil)) (gVar 3))) (gNotT (gTru (gFn F__law_base (aV (gVar 3) aNil))))) (gRet (gC (D.bl false))) gNext))) (gRet (gBin hEq (gLenMk "Column" F_Column___init__ F_Column___len__ (gCons (gLst (gCons (gMake "Reader" F_Reader___init__ (gCons (gC (D.str ".")) (gCons (gC (D.str ",")) (gCons (gC (D.int 3)) (gCons (gC (D.bl false)) (gCons (gC (D.str "none")) (gCons (gC (D.bl false)) (gCons (gC (D.bl false)) (gCons (gC (D.bl false)) gNil))))))))) gNil)) gNil)) (gC (D.int 0))))))
def F_law : List Sl → FOut := runF 1 3 b_law
abbrev s_BadPart___init__ : Stmt := inClass (topS 3) 0
theorem sc_BadPart___init__ : FnScope ["self", "part"] ["self", "part"] (defScope s_BadPart___init__) := ⟨rfl, rfl, rfl, by decide +kernel, rfl, by decide +kernel, by decide +kernel⟩
abbrev s_BadReader___init__ : Stmt := inClass (topS 4) 0
theorem sc_BadReader___init__ : FnScope ["self"] ["self"] (defScope s_BadReader___init__) := ⟨rfl, rfl, rfl, by decide +kernel, rfl, by decide +kernel, by decide +kernel⟩
abbrev s_BadReaders___init__ : Stmt := inClass (topS 5) 0
theorem sc_BadReaders___init__ : FnScope ["self", "index"] ["self", "index"] (defScope s_BadReaders___init__) := ⟨rfl, rfl, rfl, by decide +kernel, rfl, by decide +kernel, by decide +kernel⟩
abbrev s_BadText___init__ : Stmt := inClass (topS 6) 0
theorem sc_BadText___init__ : FnScope ["self"] ["self"] (defScope s_BadText___init__) := ⟨rfl, rfl, rfl, by decide +kernel, rfl, by decide +kernel, by decide +kernel⟩
abbrev s_BadTexts___init__ : Stmt := inClass (topS 7) 0
theorem sc_BadTexts___init__ : FnScope ["self", "index"] ["self", "index"] (defScope s_BadTexts___init__) := ⟨rfl, rfl, rfl, by decide +kernel, rfl, by decide +kernel, by decide +kernel⟩
abbrev s_NotTaken___init__ : Stmt := inClass (topS 8) 0
theorem sc_NotTaken___init__ : FnScope ["self", "at"] ["self", "at"] (defScope s_NotTaken___init__) := ⟨rfl, rfl, rfl, by decide +kernel, rfl, by decide +kernel, by decide +kernel⟩
abbrev s_BadNumber___init__ : Stmt := inClass (topS 9) 0
theorem sc_BadNumber___init__ : FnScope ["self"] ["self"] (defScope s_BadNumber___init__) := ⟨rfl, rfl, rfl, by decide +kernel, rfl, by decide +kernel, by decide +kernel⟩
abbrev s_BadNumbers___init__ : Stmt := inClass (topS 10) 0
theorem sc_BadNumbers___init__ : FnScope ["self", "index"] ["self", "index"] (defScope s_BadNumbers___init__) := ⟨rfl, rfl, rfl, by decide +kernel, rfl, by decide +kernel, by decide +kernel⟩
abbrev s_BadLength___init__ : Stmt := inClass (topS 11) 0
theorem sc_BadLength___init__ : FnScope ["self"] ["self"] (defScope s_BadLength___init__) := ⟨rfl, rfl, rfl, by decide +kernel, rfl, by decide +kernel, by decide +kernel⟩
abbrev s_InvalidText___init__ : Stmt := inClass (topS 12) 0
theorem sc_InvalidText___init__ : FnScope ["self", "word"] ["self", "word"] (defScope s_InvalidText___init__) := ⟨rfl, rfl, rfl, by decide +kernel, rfl, by decide +kernel, by decide +kernel⟩
structure TX (K : PySem.W.Frag) (mg : Str → Option Value) : Type where
  f_is_one : Addr
  fd_is_one : FuncData
  F_is_one : Fun K "is_one" "is_one" s_is_one f_is_one fd_is_one
  b_is_one : Binds K fd_is_one ["value", "some"] []
  m_is_one : mg "is_one" = some (.ref f_is_one)
  f_is_size : Addr
  fd_is_size : FuncData
  F_is_size : Fun K "is_size" "is_size" s_is_size f_is_size fd_is_size
  b_is_size : Binds K fd_is_size ["value"] []
  m_is_size : mg "is_size" = some (.ref f_is_size)
  f_parts_of : Addr
  fd_parts_of : FuncData
  F_parts_of : Fun K "parts_of" "parts_of" s_parts_of f_parts_of fd_parts_of
  b_parts_of : Binds K fd_parts_of ["reader"] []
  m_parts_of : mg "parts_of" = some (.ref f_parts_of)
  f_need_reader : Addr
  fd_need_reader : FuncData
  F_need_reader : Fun K "need_reader" "need_reader" s_need_reader f_need_reader fd_need_reader
  b_need_reader : Binds K fd_need_reader ["reader"] []
  m_need_reader : mg "need_reader" = some (.ref f_need_reader)
  f_need_readers : Addr
  fd_need_readers : FuncData
  F_need_readers : Fun K "need_readers" "need_readers" s_need_readers f_need_readers fd_need_readers
  b_need_readers : Binds K fd_need_readers ["readers"] []
  m_need_readers : mg "need_readers" = some (.ref f_need_readers)
  f_parts : Addr
  fd_parts : FuncData
  F_parts : Fun K "parts" "parts" s_parts f_parts fd_parts
  b_parts : Binds K fd_parts ["reader"] []
  m_parts : mg "parts" = some (.ref f_parts)
  f_is_whole : Addr
  fd_is_whole : FuncData
  F_is_whole : Fun K "is_whole" "is_whole" s_is_whole f_is_whole fd_is_whole
  b_is_whole : Binds K fd_is_whole ["reader", "state"] []
  m_is_whole : mg "is_whole" = some (.ref f_is_whole)
  f_can_end : Addr
  fd_can_end : FuncData
  F_can_end : Fun K "can_end" "can_end" s_can_end f_can_end fd_can_end
  b_can_end : Binds K fd_can_end ["reader", "state"] []
  m_can_end : mg "can_end" = some (.ref f_can_end)
  f_next_figure : Addr
  fd_next_figure : FuncData
  F_next_figure : Fun K "next_figure" "next_figure" s_next_figure f_next_figure fd_next_figure
  b_next_figure : Binds K fd_next_figure ["reader", "state", "sign"] []
  m_next_figure : mg "next_figure" = some (.ref f_next_figure)
  f_next_mark : Addr
  fd_next_mark : FuncData
  F_next_mark : Fun K "next_mark" "next_mark" s_next_mark f_next_mark fd_next_mark
  b_next_mark : Binds K fd_next_mark ["reader", "state"] []
  m_next_mark : mg "next_mark" = some (.ref f_next_mark)
  f_next_minus : Addr
  fd_next_minus : FuncData
  F_next_minus : Fun K "next_minus" "next_minus" s_next_minus f_next_minus fd_next_minus
  b_next_minus : Binds K fd_next_minus ["reader", "state"] []
  m_next_minus : mg "next_minus" = some (.ref f_next_minus)
  f_next_state : Addr
  fd_next_state : FuncData
  F_next_state : Fun K "next_state" "next_state" s_next_state f_next_state fd_next_state
  b_next_state : Binds K fd_next_state ["reader", "state", "sign"] []
  m_next_state : mg "next_state" = some (.ref f_next_state)
  f_need_length : Addr
  fd_need_length : FuncData
  F_need_length : Fun K "need_length" "need_length" s_need_length f_need_length fd_need_length
  b_need_length : Binds K fd_need_length ["length"] []
  m_need_length : mg "need_length" = some (.ref f_need_length)
  f_count : Addr
  fd_count : FuncData
  F_count : Fun K "count" "count" s_count f_count fd_count
  b_count : Binds K fd_count ["reader", "length"] []
  m_count : mg "count" = some (.ref f_count)
  f_need_text : Addr
  fd_need_text : FuncData
  F_need_text : Fun K "need_text" "need_text" s_need_text f_need_text fd_need_text
  b_need_text : Binds K fd_need_text ["text"] []
  m_need_text : mg "need_text" = some (.ref f_need_text)
  f_stop_of : Addr
  fd_stop_of : FuncData
  F_stop_of : Fun K "stop_of" "stop_of" s_stop_of f_stop_of fd_stop_of
  b_stop_of : Binds K fd_stop_of ["reader", "text"] []
  m_stop_of : mg "stop_of" = some (.ref f_stop_of)
  f_takes : Addr
  fd_takes : FuncData
  F_takes : Fun K "takes" "takes" s_takes f_takes fd_takes
  b_takes : Binds K fd_takes ["reader", "text"] []
  m_takes : mg "takes" = some (.ref f_takes)
  f_tens : Addr
  fd_tens : FuncData
  F_tens : Fun K "tens" "tens" s_tens f_tens fd_tens
  b_tens : Binds K fd_tens ["many"] []
  m_tens : mg "tens" = some (.ref f_tens)
  f_normal : Addr
  fd_normal : FuncData
  F_normal : Fun K "normal" "normal" s_normal f_normal fd_normal
  b_normal : Binds K fd_normal ["whole", "exponent"] []
  m_normal : mg "normal" = some (.ref f_normal)
  f_number_of : Addr
  fd_number_of : FuncData
  F_number_of : Fun K "number_of" "number_of" s_number_of f_number_of fd_number_of
  b_number_of : Binds K fd_number_of ["reader", "text"] []
  m_number_of : mg "number_of" = some (.ref f_number_of)
  f_means : Addr
  fd_means : FuncData
  F_means : Fun K "means" "means" s_means f_means fd_means
  b_means : Binds K fd_means ["reader", "text"] []
  m_means : mg "means" = some (.ref f_means)
  f_parting : Addr
  fd_parting : FuncData
  F_parting : Fun K "parting" "parting" s_parting f_parting fd_parting
  b_parting : Binds K fd_parting ["readers"] []
  m_parting : mg "parting" = some (.ref f_parting)
  f_need_texts : Addr
  fd_need_texts : FuncData
  F_need_texts : Fun K "need_texts" "need_texts" s_need_texts f_need_texts fd_need_texts
  b_need_texts : Binds K fd_need_texts ["texts"] []
  m_need_texts : mg "need_texts" = some (.ref f_need_texts)
  f_takers : Addr
  fd_takers : FuncData
  F_takers : Fun K "takers" "takers" s_takers f_takers fd_takers
  b_takers : Binds K fd_takers ["readers", "texts"] []
  m_takers : mg "takers" = some (.ref f_takers)
  f_word_at : Addr
  fd_word_at : FuncData
  F_word_at : Fun K "word_at" "word_at" s_word_at f_word_at fd_word_at
  b_word_at : Binds K fd_word_at ["words", "at", "some"] []
  m_word_at : mg "word_at" = some (.ref f_word_at)
  f_read : Addr
  fd_read : FuncData
  F_read : Fun K "read" "read" s_read f_read fd_read
  b_read : Binds K fd_read ["text"] []
  m_read : mg "read" = some (.ref f_read)
  f_is_integer : Addr
  fd_is_integer : FuncData
  F_is_integer : Fun K "is_integer" "is_integer" s_is_integer f_is_integer fd_is_integer
  b_is_integer : Binds K fd_is_integer ["value"] []
  m_is_integer : mg "is_integer" = some (.ref f_is_integer)
  f_is_number : Addr
  fd_is_number : FuncData
  F_is_number : Fun K "is_number" "is_number" s_is_number f_is_number fd_is_number
  b_is_number : Binds K fd_is_number ["value"] []
  m_is_number : mg "is_number" = some (.ref f_is_number)
  f_need_number : Addr
  fd_need_number : FuncData
  F_need_number : Fun K "need_number" "need_number" s_need_number f_need_number fd_need_number
  b_need_number : Binds K fd_need_number ["number"] []
  m_need_number : mg "need_number" = some (.ref f_need_number)
  f_grouped : Addr
  fd_grouped : FuncData
  F_grouped : Fun K "grouped" "grouped" s_grouped f_grouped fd_grouped
  b_grouped : Binds K fd_grouped ["figures", "mark", "size"] []
  m_grouped : mg "grouped" = some (.ref f_grouped)
  f_plain_of : Addr
  fd_plain_of : FuncData
  F_plain_of : Fun K "plain_of" "plain_of" s_plain_of f_plain_of fd_plain_of
  b_plain_of : Binds K fd_plain_of ["number"] []
  m_plain_of : mg "plain_of" = some (.ref f_plain_of)
  f_written_of : Addr
  fd_written_of : FuncData
  F_written_of : Fun K "written_of" "written_of" s_written_of f_written_of fd_written_of
  b_written_of : Binds K fd_written_of ["reader", "number"] []
  m_written_of : mg "written_of" = some (.ref f_written_of)
  f_written : Addr
  fd_written : FuncData
  F_written : Fun K "written" "written" s_written f_written fd_written
  b_written : Binds K fd_written ["reader", "number"] []
  m_written : mg "written" = some (.ref f_written)
  f_need_numbers : Addr
  fd_need_numbers : FuncData
  F_need_numbers : Fun K "need_numbers" "need_numbers" s_need_numbers f_need_numbers fd_need_numbers
  b_need_numbers : Binds K fd_need_numbers ["texts", "numbers"] []
  m_need_numbers : mg "need_numbers" = some (.ref f_need_numbers)
  f_fitting : Addr
  fd_fitting : FuncData
  F_fitting : Fun K "fitting" "fitting" s_fitting f_fitting fd_fitting
  b_fitting : Binds K fd_fitting ["texts", "numbers"] []
  m_fitting : mg "fitting" = some (.ref f_fitting)
  f__law_taken : Addr
  fd__law_taken : FuncData
  F__law_taken : Fun K "_law_taken" "_law_taken" s__law_taken f__law_taken fd__law_taken
  b__law_taken : Binds K fd__law_taken ["_law_row", "_law_many"] []
  m__law_taken : mg "_law_taken" = some (.ref f__law_taken)
  f__law_call : Addr
  fd__law_call : FuncData
  F__law_call : Fun K "_law_call" "_law_call" s__law_call f__law_call fd__law_call
  b__law_call : Binds K fd__law_call ["_law_kind"] []
  m__law_call : mg "_law_call" = some (.ref f__law_call)
  f__law_first : Addr
  fd__law_first : FuncData
  F__law_first : Fun K "_law_first" "_law_first" s__law_first f__law_first fd__law_first
  b__law_first : Binds K fd__law_first ["_law_kind"] []
  m__law_first : mg "_law_first" = some (.ref f__law_first)
  f__law_base : Addr
  fd__law_base : FuncData
  F__law_base : Fun K "_law_base" "_law_base" s__law_base f__law_base fd__law_base
  b__law_base : Binds K fd__law_base ["_law_kind"] []
  m__law_base : mg "_law_base" = some (.ref f__law_base)
  f_law : Addr
  fd_law : FuncData
  F_law : Fun K "law" "law" s_law f_law fd_law
  b_law : Binds K fd_law ["_law_script"] []
  m_law : mg "law" = some (.ref f_law)
  c_Reader : Addr
  m_Reader : mg "Reader" = some (.ref c_Reader)
  cl_Reader : Cls K c_Reader
  f_Reader___init__ : Addr
  fd_Reader___init__ : FuncData
  F_Reader___init__ : Fun K "__init__" "Reader.__init__" s_Reader___init__ f_Reader___init__ fd_Reader___init__
  b_Reader___init__ : Binds K fd_Reader___init__ ["self", "point", "comma", "rest", "must", "sign", "zeros", "blanks", "exponent"] []
  k_Reader : Mk K c_Reader f_Reader___init__
  c_Column : Addr
  m_Column : mg "Column" = some (.ref c_Column)
  cl_Column : Cls K c_Column
  f_Column___init__ : Addr
  fd_Column___init__ : FuncData
  F_Column___init__ : Fun K "__init__" "Column.__init__" s_Column___init__ f_Column___init__ fd_Column___init__
  b_Column___init__ : Binds K fd_Column___init__ ["self", "readers"] []
  f_Column___len__ : Addr
  fd_Column___len__ : FuncData
  F_Column___len__ : Fun K "__len__" "Column.__len__" s_Column___len__ f_Column___len__ fd_Column___len__
  b_Column___len__ : Binds K fd_Column___len__ ["self"] []
  k_Column : Mk K c_Column f_Column___init__
  n_Column_eyes : NoAttr K c_Column "eyes"
  n_Column_lines : NoAttr K c_Column "lines"
  n_Column_seen : NoAttr K c_Column "seen"
  n_Reader_dot : NoAttr K c_Reader "dot"
  n_Reader_mark : NoAttr K c_Reader "mark"
  n_Reader_minus : NoAttr K c_Reader "minus"
  n_Reader_naughts : NoAttr K c_Reader "naughts"
  n_Reader_power : NoAttr K c_Reader "power"
  n_Reader_size : NoAttr K c_Reader "size"
  n_Reader_spaces : NoAttr K c_Reader "spaces"
  n_Reader_strict : NoAttr K c_Reader "strict"
  ln_Column : PySem.W.findIn K (.ref c_Column) "__len__" = some (some (.ref f_Column___len__))
  lf_Column : PySem.W.isFn K (.ref f_Column___len__) = true
  c_ReaderError : Addr
  m_ReaderError : mg "ReaderError" = some (.ref c_ReaderError)
  c_BadPart : Addr
  m_BadPart : mg "BadPart" = some (.ref c_BadPart)
  c_BadReader : Addr
  m_BadReader : mg "BadReader" = some (.ref c_BadReader)
  c_BadReaders : Addr
  m_BadReaders : mg "BadReaders" = some (.ref c_BadReaders)
  c_BadText : Addr
  m_BadText : mg "BadText" = some (.ref c_BadText)
  c_BadTexts : Addr
  m_BadTexts : mg "BadTexts" = some (.ref c_BadTexts)
  c_NotTaken : Addr
  m_NotTaken : mg "NotTaken" = some (.ref c_NotTaken)
  c_BadNumber : Addr
  m_BadNumber : mg "BadNumber" = some (.ref c_BadNumber)
  c_BadNumbers : Addr
  m_BadNumbers : mg "BadNumbers" = some (.ref c_BadNumbers)
  c_BadLength : Addr
  m_BadLength : mg "BadLength" = some (.ref c_BadLength)
  c_InvalidText : Addr
  m_InvalidText : mg "InvalidText" = some (.ref c_InvalidText)
  f_BadPart___init__ : Addr
  fd_BadPart___init__ : FuncData
  F_BadPart___init__ : Fun K "__init__" "BadPart.__init__" s_BadPart___init__ f_BadPart___init__ fd_BadPart___init__
  b_BadPart___init__ : Binds K fd_BadPart___init__ ["self", "part"] []
  o_BadPart : OexC K c_BadPart
  i_BadPart : PySem.W.findIn K (.ref c_BadPart) "__init__" = some (some (.ref f_BadPart___init__))
  t_BadPart : PySem.W.typeIn K (.ref f_BadPart___init__) = some (.type "function")
  nf_BadPart : PySem.W.findIn K (.ref c_BadPart) "part" = some none
  f_BadReader___init__ : Addr
  fd_BadReader___init__ : FuncData
  F_BadReader___init__ : Fun K "__init__" "BadReader.__init__" s_BadReader___init__ f_BadReader___init__ fd_BadReader___init__
  b_BadReader___init__ : Binds K fd_BadReader___init__ ["self"] []
  o_BadReader : OexC K c_BadReader
  i_BadReader : PySem.W.findIn K (.ref c_BadReader) "__init__" = some (some (.ref f_BadReader___init__))
  t_BadReader : PySem.W.typeIn K (.ref f_BadReader___init__) = some (.type "function")
  f_BadReaders___init__ : Addr
  fd_BadReaders___init__ : FuncData
  F_BadReaders___init__ : Fun K "__init__" "BadReaders.__init__" s_BadReaders___init__ f_BadReaders___init__ fd_BadReaders___init__
  b_BadReaders___init__ : Binds K fd_BadReaders___init__ ["self", "index"] []
  o_BadReaders : OexC K c_BadReaders
  i_BadReaders : PySem.W.findIn K (.ref c_BadReaders) "__init__" = some (some (.ref f_BadReaders___init__))
  t_BadReaders : PySem.W.typeIn K (.ref f_BadReaders___init__) = some (.type "function")
  nf_BadReaders : PySem.W.findIn K (.ref c_BadReaders) "index" = some none
  f_BadText___init__ : Addr
  fd_BadText___init__ : FuncData
  F_BadText___init__ : Fun K "__init__" "BadText.__init__" s_BadText___init__ f_BadText___init__ fd_BadText___init__
  b_BadText___init__ : Binds K fd_BadText___init__ ["self"] []
  o_BadText : OexC K c_BadText
  i_BadText : PySem.W.findIn K (.ref c_BadText) "__init__" = some (some (.ref f_BadText___init__))
  t_BadText : PySem.W.typeIn K (.ref f_BadText___init__) = some (.type "function")
  f_BadTexts___init__ : Addr
  fd_BadTexts___init__ : FuncData
  F_BadTexts___init__ : Fun K "__init__" "BadTexts.__init__" s_BadTexts___init__ f_BadTexts___init__ fd_BadTexts___init__
  b_BadTexts___init__ : Binds K fd_BadTexts___init__ ["self", "index"] []
  o_BadTexts : OexC K c_BadTexts
  i_BadTexts : PySem.W.findIn K (.ref c_BadTexts) "__init__" = some (some (.ref f_BadTexts___init__))
  t_BadTexts : PySem.W.typeIn K (.ref f_BadTexts___init__) = some (.type "function")
  nf_BadTexts : PySem.W.findIn K (.ref c_BadTexts) "index" = some none
  f_NotTaken___init__ : Addr
  fd_NotTaken___init__ : FuncData
  F_NotTaken___init__ : Fun K "__init__" "NotTaken.__init__" s_NotTaken___init__ f_NotTaken___init__ fd_NotTaken___init__
  b_NotTaken___init__ : Binds K fd_NotTaken___init__ ["self", "at"] []
  o_NotTaken : OexC K c_NotTaken
  i_NotTaken : PySem.W.findIn K (.ref c_NotTaken) "__init__" = some (some (.ref f_NotTaken___init__))
  t_NotTaken : PySem.W.typeIn K (.ref f_NotTaken___init__) = some (.type "function")
  nf_NotTaken : PySem.W.findIn K (.ref c_NotTaken) "at" = some none
  f_BadNumber___init__ : Addr
  fd_BadNumber___init__ : FuncData
  F_BadNumber___init__ : Fun K "__init__" "BadNumber.__init__" s_BadNumber___init__ f_BadNumber___init__ fd_BadNumber___init__
  b_BadNumber___init__ : Binds K fd_BadNumber___init__ ["self"] []
  o_BadNumber : OexC K c_BadNumber
  i_BadNumber : PySem.W.findIn K (.ref c_BadNumber) "__init__" = some (some (.ref f_BadNumber___init__))
  t_BadNumber : PySem.W.typeIn K (.ref f_BadNumber___init__) = some (.type "function")
  f_BadNumbers___init__ : Addr
  fd_BadNumbers___init__ : FuncData
  F_BadNumbers___init__ : Fun K "__init__" "BadNumbers.__init__" s_BadNumbers___init__ f_BadNumbers___init__ fd_BadNumbers___init__
  b_BadNumbers___init__ : Binds K fd_BadNumbers___init__ ["self", "index"] []
  o_BadNumbers : OexC K c_BadNumbers
  i_BadNumbers : PySem.W.findIn K (.ref c_BadNumbers) "__init__" = some (some (.ref f_BadNumbers___init__))
  t_BadNumbers : PySem.W.typeIn K (.ref f_BadNumbers___init__) = some (.type "function")
  nf_BadNumbers : PySem.W.findIn K (.ref c_BadNumbers) "index" = some none
  f_BadLength___init__ : Addr
  fd_BadLength___init__ : FuncData
  F_BadLength___init__ : Fun K "__init__" "BadLength.__init__" s_BadLength___init__ f_BadLength___init__ fd_BadLength___init__
  b_BadLength___init__ : Binds K fd_BadLength___init__ ["self"] []
  o_BadLength : OexC K c_BadLength
  i_BadLength : PySem.W.findIn K (.ref c_BadLength) "__init__" = some (some (.ref f_BadLength___init__))
  t_BadLength : PySem.W.typeIn K (.ref f_BadLength___init__) = some (.type "function")
  f_InvalidText___init__ : Addr
  fd_InvalidText___init__ : FuncData
  F_InvalidText___init__ : Fun K "__init__" "InvalidText.__init__" s_InvalidText___init__ f_InvalidText___init__ fd_InvalidText___init__
  b_InvalidText___init__ : Binds K fd_InvalidText___init__ ["self", "word"] []
  o_InvalidText : OexC K c_InvalidText
  i_InvalidText : PySem.W.findIn K (.ref c_InvalidText) "__init__" = some (some (.ref f_InvalidText___init__))
  t_InvalidText : PySem.W.typeIn K (.ref f_InvalidText___init__) = some (.type "function")
  nf_InvalidText : PySem.W.findIn K (.ref c_InvalidText) "word" = some none
  re1 : PySem.W.readsIn K c_ReaderError (.type "type") = true
  re2 : PySem.W.specialIn K (.ref c_ReaderError) "__getattribute__" = some (some (.builtin "type.__getattribute__"))
  re3 : PySem.W.findCls K (.ref c_ReaderError) (.type "type") "__init__" = some (.val (.builtin "ValueError.__init__"))
  ex : ExOk K mg
  cf : ClsFacts K mg
  c_BEGIN : GC K mg "BEGIN" c_BEGIN
  c_COMMAS : GC K mg "COMMAS" c_COMMAS
  c_FIGURES : GC K mg "FIGURES" c_FIGURES
  c_MOST_EXPONENT : GC K mg "MOST_EXPONENT" c_MOST_EXPONENT
  c_MOST_GROUP : GC K mg "MOST_GROUP" c_MOST_GROUP
  c_MOST_LENGTH : GC K mg "MOST_LENGTH" c_MOST_LENGTH
  c_MOST_READERS : GC K mg "MOST_READERS" c_MOST_READERS
  c_MOST_SIGNS : GC K mg "MOST_SIGNS" c_MOST_SIGNS
  c_MOST_TEXTS : GC K mg "MOST_TEXTS" c_MOST_TEXTS
  c_MOST_WHOLE : GC K mg "MOST_WHOLE" c_MOST_WHOLE
  c_POINTS : GC K mg "POINTS" c_POINTS
  c_POINT_SIGNS : GC K mg "POINT_SIGNS" c_POINT_SIGNS
  c_POINT_WORDS : GC K mg "POINT_WORDS" c_POINT_WORDS
  c_SIGNS : GC K mg "SIGNS" c_SIGNS
  c_SIGNS_READ : GC K mg "SIGNS_READ" c_SIGNS_READ
  z_abs : mg "abs" = none
  z_all : mg "all" = none
  z_bool : mg "bool" = none
  z_enumerate : mg "enumerate" = none
  z_int : mg "int" = none
  z_isinstance : mg "isinstance" = none
  z_len : mg "len" = none
  z_list : mg "list" = none
  z_min : mg "min" = none
  z_range : mg "range" = none
  z_str : mg "str" = none
  z_tuple : mg "tuple" = none
section
variable {P : Program} {w : World} {K : PySem.W.Frag} {mg : Str → Option Value} {base : Heap}
theorem ok_BadPart___init__ (T : TX K mg) : FnOk P w K mg base (L2.CX P w) 1 T.f_BadPart___init__ T.fd_BadPart___init__ ["self", "part"] (spX1 T.c_BadPart "part") := by
  refine T.F_BadPart___init__.okX sc_BadPart___init__ (fun vs H Q E h => ?_) (fun cdv A outer s H vs Q E hr h => ⟨_, pss_cons (ps_expr (pe_baseinit T.m_ReaderError T.re1 T.re2 T.re3 (pa_cons (pv 0) (pa_cons pe_str pa_nil)))) (pss_one (ps_ost (pv 0) (pv 1))), ?_⟩)
  · obtain ⟨a, v, rfl, _⟩ := h; rfl
  · obtain ⟨a, v, rfl, ha, q⟩ := h
    exact ⟨.ref a, rfl, a, T.c_BadPart, _, rfl, (by decide : 1 ≤ 1000), T.o_BadPart, ha, v, rfl, .ref a, rfl, a, T.c_BadPart, rfl, T.o_BadPart, T.nf_BadPart, .inl ⟨ha, fun dx n ne => q dx n ne⟩⟩
theorem ok_BadReader___init__ (T : TX K mg) : FnOk P w K mg base (L2.CX P w) 1 T.f_BadReader___init__ T.fd_BadReader___init__ ["self"] (spX0 T.c_BadReader) := by
  refine T.F_BadReader___init__.okX sc_BadReader___init__ (fun vs H Q E h => ?_) (fun cdv A outer s H vs Q E hr h => ⟨_, pss_one (ps_expr (pe_baseinit T.m_ReaderError T.re1 T.re2 T.re3 (pa_cons (pv 0) (pa_cons pe_str pa_nil)))), ?_⟩)
  · obtain ⟨a, rfl, _⟩ := h; rfl
  · obtain ⟨a, rfl, ha, q⟩ := h
    exact ⟨.ref a, rfl, a, T.c_BadReader, _, rfl, (by decide : 1 ≤ 1000), T.o_BadReader, ha, q⟩
theorem ok_BadReaders___init__ (T : TX K mg) : FnOk P w K mg base (L2.CX P w) 1 T.f_BadReaders___init__ T.fd_BadReaders___init__ ["self", "index"] (spX1 T.c_BadReaders "index") := by
  refine T.F_BadReaders___init__.okX sc_BadReaders___init__ (fun vs H Q E h => ?_) (fun cdv A outer s H vs Q E hr h => ⟨_, pss_cons (ps_expr (pe_baseinit T.m_ReaderError T.re1 T.re2 T.re3 (pa_cons (pv 0) (pa_cons pe_str pa_nil)))) (pss_one (ps_ost (pv 0) (pv 1))), ?_⟩)
  · obtain ⟨a, v, rfl, _⟩ := h; rfl
  · obtain ⟨a, v, rfl, ha, q⟩ := h
    exact ⟨.ref a, rfl, a, T.c_BadReaders, _, rfl, (by decide : 1 ≤ 1000), T.o_BadReaders, ha, v, rfl, .ref a, rfl, a, T.c_BadReaders, rfl, T.o_BadReaders, T.nf_BadReaders, .inl ⟨ha, fun dx n ne => q dx n ne⟩⟩
theorem ok_BadText___init__ (T : TX K mg) : FnOk P w K mg base (L2.CX P w) 1 T.f_BadText___init__ T.fd_BadText___init__ ["self"] (spX0 T.c_BadText) := by
  refine T.F_BadText___init__.okX sc_BadText___init__ (fun vs H Q E h => ?_) (fun cdv A outer s H vs Q E hr h => ⟨_, pss_one (ps_expr (pe_baseinit T.m_ReaderError T.re1 T.re2 T.re3 (pa_cons (pv 0) (pa_cons pe_str pa_nil)))), ?_⟩)
  · obtain ⟨a, rfl, _⟩ := h; rfl
  · obtain ⟨a, rfl, ha, q⟩ := h
    exact ⟨.ref a, rfl, a, T.c_BadText, _, rfl, (by decide : 1 ≤ 1000), T.o_BadText, ha, q⟩
theorem ok_BadTexts___init__ (T : TX K mg) : FnOk P w K mg base (L2.CX P w) 1 T.f_BadTexts___init__ T.fd_BadTexts___init__ ["self", "index"] (spX1 T.c_BadTexts "index") := by
  refine T.F_BadTexts___init__.okX sc_BadTexts___init__ (fun vs H Q E h => ?_) (fun cdv A outer s H vs Q E hr h => ⟨_, pss_cons (ps_expr (pe_baseinit T.m_ReaderError T.re1 T.re2 T.re3 (pa_cons (pv 0) (pa_cons pe_str pa_nil)))) (pss_one (ps_ost (pv 0) (pv 1))), ?_⟩)
  · obtain ⟨a, v, rfl, _⟩ := h; rfl
  · obtain ⟨a, v, rfl, ha, q⟩ := h
    exact ⟨.ref a, rfl, a, T.c_BadTexts, _, rfl, (by decide : 1 ≤ 1000), T.o_BadTexts, ha, v, rfl, .ref a, rfl, a, T.c_BadTexts, rfl, T.o_BadTexts, T.nf_BadTexts, .inl ⟨ha, fun dx n ne => q dx n ne⟩⟩
theorem ok_NotTaken___init__ (T : TX K mg) : FnOk P w K mg base (L2.CX P w) 1 T.f_NotTaken___init__ T.fd_NotTaken___init__ ["self", "at"] (spX1 T.c_NotTaken "at") := by
  refine T.F_NotTaken___init__.okX sc_NotTaken___init__ (fun vs H Q E h => ?_) (fun cdv A outer s H vs Q E hr h => ⟨_, pss_cons (ps_expr (pe_baseinit T.m_ReaderError T.re1 T.re2 T.re3 (pa_cons (pv 0) (pa_cons pe_str pa_nil)))) (pss_one (ps_ost (pv 0) (pv 1))), ?_⟩)
  · obtain ⟨a, v, rfl, _⟩ := h; rfl
  · obtain ⟨a, v, rfl, ha, q⟩ := h
    exact ⟨.ref a, rfl, a, T.c_NotTaken, _, rfl, (by decide : 1 ≤ 1000), T.o_NotTaken, ha, v, rfl, .ref a, rfl, a, T.c_NotTaken, rfl, T.o_NotTaken, T.nf_NotTaken, .inl ⟨ha, fun dx n ne => q dx n ne⟩⟩
theorem ok_BadNumber___init__ (T : TX K mg) : FnOk P w K mg base (L2.CX P w) 1 T.f_BadNumber___init__ T.fd_BadNumber___init__ ["self"] (spX0 T.c_BadNumber) := by
  refine T.F_BadNumber___init__.okX sc_BadNumber___init__ (fun vs H Q E h => ?_) (fun cdv A outer s H vs Q E hr h => ⟨_, pss_one (ps_expr (pe_baseinit T.m_ReaderError T.re1 T.re2 T.re3 (pa_cons (pv 0) (pa_cons pe_str pa_nil)))), ?_⟩)
  · obtain ⟨a, rfl, _⟩ := h; rfl
  · obtain ⟨a, rfl, ha, q⟩ := h
    exact ⟨.ref a, rfl, a, T.c_BadNumber, _, rfl, (by decide : 1 ≤ 1000), T.o_BadNumber, ha, q⟩
theorem ok_BadNumbers___init__ (T : TX K mg) : FnOk P w K mg base (L2.CX P w) 1 T.f_BadNumbers___init__ T.fd_BadNumbers___init__ ["self", "index"] (spX1 T.c_BadNumbers "index") := by
  refine T.F_BadNumbers___init__.okX sc_BadNumbers___init__ (fun vs H Q E h => ?_) (fun cdv A outer s H vs Q E hr h => ⟨_, pss_cons (ps_expr (pe_baseinit T.m_ReaderError T.re1 T.re2 T.re3 (pa_cons (pv 0) (pa_cons pe_str pa_nil)))) (pss_one (ps_ost (pv 0) (pv 1))), ?_⟩)
  · obtain ⟨a, v, rfl, _⟩ := h; rfl
  · obtain ⟨a, v, rfl, ha, q⟩ := h
    exact ⟨.ref a, rfl, a, T.c_BadNumbers, _, rfl, (by decide : 1 ≤ 1000), T.o_BadNumbers, ha, v, rfl, .ref a, rfl, a, T.c_BadNumbers, rfl, T.o_BadNumbers, T.nf_BadNumbers, .inl ⟨ha, fun dx n ne => q dx n ne⟩⟩
theorem ok_BadLength___init__ (T : TX K mg) : FnOk P w K mg base (L2.CX P w) 1 T.f_BadLength___init__ T.fd_BadLength___init__ ["self"] (spX0 T.c_BadLength) := by
  refine T.F_BadLength___init__.okX sc_BadLength___init__ (fun vs H Q E h => ?_) (fun cdv A outer s H vs Q E hr h => ⟨_, pss_one (ps_expr (pe_baseinit T.m_ReaderError T.re1 T.re2 T.re3 (pa_cons (pv 0) (pa_cons pe_str pa_nil)))), ?_⟩)
  · obtain ⟨a, rfl, _⟩ := h; rfl
  · obtain ⟨a, rfl, ha, q⟩ := h
    exact ⟨.ref a, rfl, a, T.c_BadLength, _, rfl, (by decide : 1 ≤ 1000), T.o_BadLength, ha, q⟩
theorem ok_InvalidText___init__ (T : TX K mg) : FnOk P w K mg base (L2.CX P w) 1 T.f_InvalidText___init__ T.fd_InvalidText___init__ ["self", "word"] (spX1 T.c_InvalidText "word") := by
  refine T.F_InvalidText___init__.okX sc_InvalidText___init__ (fun vs H Q E h => ?_) (fun cdv A outer s H vs Q E hr h => ⟨_, pss_cons (ps_expr (pe_baseinit T.m_ReaderError T.re1 T.re2 T.re3 (pa_cons (pv 0) (pa_cons pe_str pa_nil)))) (pss_one (ps_ost (pv 0) (pv 1))), ?_⟩)
  · obtain ⟨a, v, rfl, _⟩ := h; rfl
  · obtain ⟨a, v, rfl, ha, q⟩ := h
    exact ⟨.ref a, rfl, a, T.c_InvalidText, _, rfl, (by decide : 1 ≤ 1000), T.o_InvalidText, ha, v, rfl, .ref a, rfl, a, T.c_InvalidText, rfl, T.o_InvalidText, T.nf_InvalidText, .inl ⟨ha, fun dx n ne => q dx n ne⟩⟩
theorem ok_is_one (T : TX K mg) : FnOk P w K mg base (L2.CX P w) 1 T.f_is_one T.fd_is_one ["value", "some"] (spF K mg 2 F_is_one) :=
  fn_ok T.F_is_one sc_is_one rfl rfl fun cdv A outer s H E hr tk hp => (by exact (sb_one (ss_ret (se_and (se_isi T.cf T.z_isinstance T.z_str (by decide +kernel) (by decide) (se_var 0)) (se_one (se_cmp os_in (se_var 0) (se_var 1) rfl))))))
theorem ok_is_size (T : TX K mg) : FnOk P w K mg base (L2.CX P w) 1 T.f_is_size T.fd_is_size ["value"] (spF K mg 1 F_is_size) :=
  fn_ok T.F_is_size sc_is_size rfl rfl fun cdv A outer s H E hr tk hp => (by exact (sb_one (ss_ret (se_and (se_isi T.cf T.z_isinstance T.z_int (by decide +kernel) (by decide) (se_var 0)) (se_and (se_not (se_isi T.cf T.z_isinstance T.z_bool (by decide +kernel) (by decide) (se_var 0))) (se_one (se_cmp os_in (se_var 0) (se_tup (sa_cons se_int (sa_cons se_int sa_nil))) rfl)))))))
theorem ok_parts_of (T : TX K mg) : FnOk P w K mg base (L2.CX P w) 1 T.f_parts_of T.fd_parts_of ["reader"] (spF K mg 1 F_parts_of) :=
  fn_ok T.F_parts_of sc_parts_of rfl rfl fun cdv A outer s H E hr tk hp => (by exact (sb_cons (ss_set 1 sc_parts_of.nd (se_tup (sa_cons (se_fld T.cf T.m_Reader T.n_Reader_dot (se_var 0)) (sa_cons (se_fld T.cf T.m_Reader T.n_Reader_mark (se_var 0)) (sa_cons (se_fld T.cf T.m_Reader T.n_Reader_size (se_var 0)) (sa_cons (se_fld T.cf T.m_Reader T.n_Reader_strict (se_var 0)) sa_nil)))))) (sb_one (ss_ret (se_bin os_add (se_var 1) (se_tup (sa_cons (se_fld T.cf T.m_Reader T.n_Reader_minus (se_var 0)) (sa_cons (se_fld T.cf T.m_Reader T.n_Reader_naughts (se_var 0)) (sa_cons (se_fld T.cf T.m_Reader T.n_Reader_spaces (se_var 0)) (sa_cons (se_fld T.cf T.m_Reader T.n_Reader_power (se_var 0)) sa_nil))))))))))
theorem ok_need_reader (T : TX K mg) : FnOk P w K mg base (L2.CX P w) 3 T.f_need_reader T.fd_need_reader ["reader"] (spF K mg 1 F_need_reader) :=
  fn_ok T.F_need_reader sc_need_reader rfl rfl fun cdv A outer s H E hr tk hp => (by exact (sb_one (ss_if (st_not (st_val (se_isC T.cf T.z_isinstance rfl T.m_Reader (se_var 0)))) (sb_one (ss_raise0 rfl tk T.o_BadReader T.i_BadReader T.t_BadReader (ok_BadReader___init__ T) (hr.mono (by decide)) T.b_BadReader___init__ T.m_BadReader)) sb_nil)))
theorem ok_need_readers (T : TX K mg) : FnOk P w K mg base (L2.CX P w) 3 T.f_need_readers T.fd_need_readers ["readers"] (spF K mg 1 F_need_readers) :=
  fn_ok T.F_need_readers sc_need_readers rfl rfl fun cdv A outer s H E hr tk hp => (by exact (sb_cons (ss_if (SW.st (sw_or (st_not (st_val (se_isi2 T.cf T.z_isinstance T.z_list (by decide +kernel) (by decide) T.z_tuple (by decide +kernel) (by decide) (se_var 0)))) (sw_or1 (st_not (st_chain os_le os_le se_int (se_callB cs_len T.z_len (by decide +kernel) (sa_cons (se_var 0) sa_nil)) (se_gc T.c_MOST_READERS) bl_le))))) (sb_one (ss_raise1 rfl tk T.o_BadReaders T.i_BadReaders T.t_BadReaders (ok_BadReaders___init__ T) (hr.mono (by decide)) T.b_BadReaders___init__ T.m_BadReaders se_non)) sb_nil) (sb_one (ss_for hp rfl (si_enum T.z_enumerate (se_var 0)) (sg_tup rfl (sgs_cons (sg_name 1 sc_need_readers.nd) (sgs_cons (sg_name 2 sc_need_readers.nd) sgs_nil))) (sb_one (ss_if (st_not (st_val (se_isC T.cf T.z_isinstance rfl T.m_Reader (se_var 2)))) (sb_one (ss_raise1 rfl tk T.o_BadReaders T.i_BadReaders T.t_BadReaders (ok_BadReaders___init__ T) (hr.mono (by decide)) T.b_BadReaders___init__ T.m_BadReaders (se_var 1))) sb_nil))))))
theorem ok_parts (T : TX K mg) : FnOk P w K mg base (L2.CX P w) 4 T.f_parts T.fd_parts ["reader"] (spF K mg 1 F_parts) :=
  fn_ok T.F_parts sc_parts rfl rfl fun cdv A outer s H E hr tk hp => (by exact (sb_cons (ss_expr (se_call (ok_need_reader T) (hr.mono (by decide)) T.m_need_reader T.F_need_reader.kp T.b_need_reader tk (ae_v (se_var 0) ae_nil) (len_v len_nil))) (sb_one (ss_ret (se_call (ok_parts_of T) (hr.mono (by decide)) T.m_parts_of T.F_parts_of.kp T.b_parts_of tk (ae_v (se_var 0) ae_nil) (len_v len_nil))))))
theorem ok_is_whole (T : TX K mg) : FnOk P w K mg base (L2.CX P w) 1 T.f_is_whole T.fd_is_whole ["reader", "state"] (spF K mg 2 F_is_whole) :=
  fn_ok T.F_is_whole sc_is_whole rfl rfl fun cdv A outer s H E hr tk hp => (by exact (sb_cons (ss_asg (se_var 1) (sg_tup rfl (sgs_cons (sg_name 2 sc_is_whole.nd) (sgs_cons (sg_name 3 sc_is_whole.nd) (sgs_cons (sg_name 4 sc_is_whole.nd) (sgs_cons (sg_name 5 sc_is_whole.nd) sgs_nil)))))) (sb_one (ss_ret (se_or (se_cmp (os_eq hr.units) (se_var 4) se_int (nomark _)) (se_one (se_cmp (os_eq hr.units) (se_var 3) (se_gc T.c_MOST_GROUP) (nomark _))))))))
theorem ok_can_end (T : TX K mg) : FnOk P w K mg base (L2.CX P w) 2 T.f_can_end T.fd_can_end ["reader", "state"] (spF K mg 2 F_can_end) :=
  fn_ok T.F_can_end sc_can_end rfl rfl fun cdv A outer s H E hr tk hp => (by exact (sb_cons (ss_if (st_cmp (os_eq hr.units) (se_ix (se_var 1) se_int) se_str (nomark _) bl_eq) (sb_one (ss_ret (se_call (ok_is_whole T) (hr.mono (by decide)) T.m_is_whole T.F_is_whole.kp T.b_is_whole tk (ae_v (se_var 0) (ae_v (se_var 1) ae_nil)) (len_v (len_v len_nil))))) sb_nil) (sb_one (ss_ret (se_cmp os_in (se_ix (se_var 1) se_int) (se_tup (sa_cons se_str (sa_cons se_str (sa_cons se_str (sa_cons se_str (sa_cons se_str sa_nil)))))) rfl)))))
theorem ok_next_figure (T : TX K mg) : FnOk P w K mg base (L2.CX P w) 1 T.f_next_figure T.fd_next_figure ["reader", "state", "sign"] (spF K mg 3 F_next_figure) :=
  fn_ok T.F_next_figure sc_next_figure rfl rfl fun cdv A outer s H E hr tk hp => (by exact (sb_cons (ss_asg (se_var 1) (sg_tup rfl (sgs_cons (sg_name 3 sc_next_figure.nd) (sgs_cons (sg_name 4 sc_next_figure.nd) (sgs_cons (sg_name 5 sc_next_figure.nd) (sgs_cons (sg_name 6 sc_next_figure.nd) sgs_nil)))))) (sb_cons (ss_if (st_cmp os_in (se_var 3) (se_tup (sa_cons se_str (sa_cons se_str sa_nil))) rfl bl_in) (sb_one (ss_ret (se_tup (sa_cons se_str (sa_cons se_int (sa_cons se_int (sa_cons (se_if (SW.st (sw_and (st_cmp (os_eq hr.units) (se_var 2) se_str (nomark _) bl_eq) (sw_and1 (st_not (st_val (se_fld T.cf T.m_Reader T.n_Reader_naughts (se_var 0))))))) se_int se_int) sa_nil))))))) sb_nil) (sb_cons (ss_if (st_cmp (os_eq hr.units) (se_var 3) se_str (nomark _) bl_eq) (sb_cons (ss_if (SW.st (sw_or (st_cmp (os_eq hr.units) (se_var 6) se_int (nomark _) bl_eq) (sw_or1 (SW.st (sw_and (st_cmp (os_eq hr.units) (se_var 4) (se_gc T.c_MOST_GROUP) (nomark _) bl_eq) (sw_and1 (SW.st (sw_or (st_cmp (os_eq hr.units) (se_var 5) se_int (nomark _) bl_eq) (sw_or1 (SW.st (sw_and (st_val (se_fld T.cf T.m_Reader T.n_Reader_strict (se_var 0))) (sw_and1 (st_cmp (os_ne hr.units) (se_fld T.cf T.m_Reader T.n_Reader_mark (se_var 0)) se_str (nomark _) bl_ne))))))))))))) (sb_one (ss_ret se_non)) sb_nil) (sb_one (ss_ret (se_tup (sa_cons se_str (sa_cons (se_callB (cs_min rfl) T.z_min (by decide +kernel) (sa_cons (se_bin os_add (se_var 4) se_int) (sa_cons (se_bin os_add (se_gc T.c_MOST_GROUP) se_int) sa_nil))) (sa_cons (se_var 5) (sa_cons se_int sa_nil)))))))) sb_nil) (sb_cons (ss_if (st_cmp os_in (se_var 3) (se_tup (sa_cons se_str (sa_cons se_str sa_nil))) rfl bl_in) (sb_one (ss_ret (se_tup (sa_cons se_str (sa_cons se_int (sa_cons se_int (sa_cons se_int sa_nil))))))) sb_nil) (sb_cons (ss_if (st_cmp os_in (se_var 3) (se_tup (sa_cons se_str (sa_cons se_str sa_nil))) rfl bl_in) (sb_one (ss_ret (se_tup (sa_cons se_str (sa_cons se_int (sa_cons se_int (sa_cons (se_if (SW.st (sw_and (st_cmp (os_eq hr.units) (se_var 2) se_str (nomark _) bl_eq) (sw_and1 (st_not (st_val (se_fld T.cf T.m_Reader T.n_Reader_naughts (se_var 0))))))) se_int se_int) sa_nil))))))) sb_nil) (sb_one (ss_ret (se_if (SW.st (sw_and (st_cmp (os_eq hr.units) (se_var 3) se_str (nomark _) bl_eq) (sw_and1 (st_cmp (os_eq hr.units) (se_var 6) se_int (nomark _) bl_eq)))) (se_tup (sa_cons se_str (sa_cons se_int (sa_cons se_int (sa_cons se_int sa_nil))))) se_non)))))))))
theorem ok_next_mark (T : TX K mg) : FnOk P w K mg base (L2.CX P w) 1 T.f_next_mark T.fd_next_mark ["reader", "state"] (spF K mg 2 F_next_mark) :=
  fn_ok T.F_next_mark sc_next_mark rfl rfl fun cdv A outer s H E hr tk hp => (by exact (sb_cons (ss_asg (se_var 1) (sg_tup rfl (sgs_cons (sg_name 2 sc_next_mark.nd) (sgs_cons (sg_name 3 sc_next_mark.nd) (sgs_cons (sg_name 4 sc_next_mark.nd) (sgs_cons (sg_name 5 sc_next_mark.nd) sgs_nil)))))) (sb_cons (ss_if (SW.st (sw_or (st_cmp (os_ne hr.units) (se_var 2) se_str (nomark _) bl_ne) (sw_or (st_cmp (os_eq hr.units) (se_var 5) se_int (nomark _) bl_eq) (sw_or1 (st_cmp os_gt (se_var 3) (se_gc T.c_MOST_GROUP) (nomark _) bl_gt))))) (sb_one (ss_ret se_non)) sb_nil) (sb_cons (ss_set 6 sc_next_mark.nd (se_if (st_cmp (os_eq hr.units) (se_var 4) se_int (nomark _) bl_eq) (se_cmp (os_eq hr.units) (se_var 3) (se_fld T.cf T.m_Reader T.n_Reader_size (se_var 0)) (nomark _)) (se_cmp os_le (se_var 3) (se_fld T.cf T.m_Reader T.n_Reader_size (se_var 0)) (nomark _)))) (sb_one (ss_ret (se_if (st_val (se_var 6)) (se_tup (sa_cons se_str (sa_cons se_int (sa_cons se_int (sa_cons se_int sa_nil))))) se_non)))))))
theorem ok_next_minus (T : TX K mg) : FnOk P w K mg base (L2.CX P w) 3 T.f_next_minus T.fd_next_minus ["reader", "state"] (spF K mg 2 F_next_minus) :=
  fn_ok T.F_next_minus sc_next_minus rfl rfl fun cdv A outer s H E hr tk hp => (by exact (sb_cons (ss_if (st_cmp (os_eq hr.units) (se_ix (se_var 1) se_int) se_str (nomark _) bl_eq) (sb_one (ss_ret (se_tup (sa_cons se_str (sa_cons se_int (sa_cons se_int (sa_cons se_int sa_nil))))))) sb_nil) (sb_cons (ss_if (st_cmp (os_eq hr.units) (se_ix (se_var 1) se_int) se_str (nomark _) bl_eq) (sb_one (ss_ret (se_if (st_cmp (os_eq hr.units) (se_fld T.cf T.m_Reader T.n_Reader_minus (se_var 0)) se_str (nomark _) bl_eq) (se_tup (sa_cons se_str (sa_cons se_int (sa_cons se_int (sa_cons se_int sa_nil))))) se_non))) sb_nil) (sb_cons (ss_set 2 sc_next_minus.nd (se_and (se_cmp (os_eq hr.units) (se_fld T.cf T.m_Reader T.n_Reader_minus (se_var 0)) se_str (nomark _)) (se_and (se_cmp os_notIn (se_ix (se_var 1) se_int) (se_tup (sa_cons se_str (sa_cons se_str sa_nil))) rfl) (se_one (se_call (ok_can_end T) (hr.mono (by decide)) T.m_can_end T.F_can_end.kp T.b_can_end tk (ae_v (se_var 0) (ae_v (se_var 1) ae_nil)) (len_v (len_v len_nil))))))) (sb_one (ss_ret (se_if (st_val (se_var 2)) (se_tup (sa_cons se_str (sa_cons se_int (sa_cons se_int (sa_cons se_int sa_nil))))) se_non)))))))
theorem ok_next_state (T : TX K mg) : FnOk P w K mg base (L2.CX P w) 4 T.f_next_state T.fd_next_state ["reader", "state", "sign"] (spF K mg 3 F_next_state) :=
  fn_ok T.F_next_state sc_next_state rfl rfl fun cdv A outer s H E hr tk hp => (by exact (sb_cons (ss_if (st_cmp os_in (se_var 2) (se_gc T.c_FIGURES) rfl bl_in) (sb_one (ss_ret (se_call (ok_next_figure T) (hr.mono (by decide)) T.m_next_figure T.F_next_figure.kp T.b_next_figure tk (ae_v (se_var 0) (ae_v (se_var 1) (ae_v (se_var 2) ae_nil))) (len_v (len_v (len_v len_nil)))))) sb_nil) (sb_cons (ss_if (st_cmp (os_eq hr.units) (se_var 2) se_str (nomark _) bl_eq) (sb_one (ss_ret (se_call (ok_next_minus T) (hr.mono (by decide)) T.m_next_minus T.F_next_minus.kp T.b_next_minus tk (ae_v (se_var 0) (ae_v (se_var 1) ae_nil)) (len_v (len_v len_nil))))) sb_nil) (sb_cons (ss_if (st_cmp (os_eq hr.units) (se_var 2) se_str (nomark _) bl_eq) (sb_cons (ss_set 3 sc_next_state.nd (se_and (se_fld T.cf T.m_Reader T.n_Reader_power (se_var 0)) (se_one (se_or (se_cmp (os_eq hr.units) (se_ix (se_var 1) se_int) se_str (nomark _)) (se_one (se_and (se_cmp (os_eq hr.units) (se_ix (se_var 1) se_int) se_str (nomark _)) (se_one (se_call (ok_is_whole T) (hr.mono (by decide)) T.m_is_whole T.F_is_whole.kp T.b_is_whole tk (ae_v (se_var 0) (ae_v (se_var 1) ae_nil)) (len_v (len_v len_nil)))))))))) (sb_one (ss_ret (se_if (st_val (se_var 3)) (se_tup (sa_cons se_str (sa_cons se_int (sa_cons se_int (sa_cons se_int sa_nil))))) se_non)))) sb_nil) (sb_cons (ss_if (st_cmp (os_eq hr.units) (se_var 2) (se_fld T.cf T.m_Reader T.n_Reader_mark (se_var 0)) (nomark _) bl_eq) (sb_one (ss_ret (se_call (ok_next_mark T) (hr.mono (by decide)) T.m_next_mark T.F_next_mark.kp T.b_next_mark tk (ae_v (se_var 0) (ae_v (se_var 1) ae_nil)) (len_v (len_v len_nil))))) sb_nil) (sb_cons (ss_if (st_cmp (os_eq hr.units) (se_var 2) (se_fld T.cf T.m_Reader T.n_Reader_dot (se_var 0)) (nomark _) bl_eq) (sb_one (ss_ret (se_if (SW.st (sw_and (st_cmp (os_eq hr.units) (se_ix (se_var 1) se_int) se_str (nomark _) bl_eq) (sw_and1 (st_val (se_call (ok_is_whole T) (hr.mono (by decide)) T.m_is_whole T.F_is_whole.kp T.b_is_whole tk (ae_v (se_var 0) (ae_v (se_var 1) ae_nil)) (len_v (len_v len_nil))))))) (se_tup (sa_cons se_str (sa_cons se_int (sa_cons se_int (sa_cons se_int sa_nil))))) se_non))) sb_nil) (sb_cons (ss_if (SW.st (sw_and (st_cmp (os_eq hr.units) (se_var 2) se_str (nomark _) bl_eq) (sw_and1 (st_val (se_fld T.cf T.m_Reader T.n_Reader_spaces (se_var 0)))))) (sb_cons (ss_if (st_cmp (os_eq hr.units) (se_ix (se_var 1) se_int) se_str (nomark _) bl_eq) (sb_one (ss_ret (se_var 1))) sb_nil) (sb_one (ss_ret (se_if (st_val (se_call (ok_can_end T) (hr.mono (by decide)) T.m_can_end T.F_can_end.kp T.b_can_end tk (ae_v (se_var 0) (ae_v (se_var 1) ae_nil)) (len_v (len_v len_nil)))) (se_tup (sa_cons se_str (sa_cons se_int (sa_cons se_int (sa_cons se_int sa_nil))))) se_non)))) sb_nil) (sb_one (ss_ret se_non)))))))))
theorem ok_need_length (T : TX K mg) : FnOk P w K mg base (L2.CX P w) 3 T.f_need_length T.fd_need_length ["length"] (spF K mg 1 F_need_length) :=
  fn_ok T.F_need_length sc_need_length rfl rfl fun cdv A outer s H E hr tk hp => (by exact (sb_one (ss_if (SW.st (sw_or (st_not (st_val (se_isi T.cf T.z_isinstance T.z_int (by decide +kernel) (by decide) (se_var 0)))) (sw_or (st_val (se_isi T.cf T.z_isinstance T.z_bool (by decide +kernel) (by decide) (se_var 0))) (sw_or1 (st_not (st_chain os_le os_le se_int (se_var 0) (se_gc T.c_MOST_LENGTH) bl_le)))))) (sb_one (ss_raise0 rfl tk T.o_BadLength T.i_BadLength T.t_BadLength (ok_BadLength___init__ T) (hr.mono (by decide)) T.b_BadLength___init__ T.m_BadLength)) sb_nil)))
theorem ok_count (T : TX K mg) : FnOk P w K mg base (L2.CX P w) 4 T.f_count T.fd_count ["reader", "length"] (spF K mg 2 F_count) :=
  fn_ok T.F_count sc_count rfl rfl fun cdv A outer s H E hr tk hp => (by exact (sb_cons (ss_expr (se_call (ok_need_reader T) (hr.mono (by decide)) T.m_need_reader T.F_need_reader.kp T.b_need_reader tk (ae_v (se_var 0) ae_nil) (len_v len_nil))) (sb_cons (ss_expr (se_call (ok_need_length T) (hr.mono (by decide)) T.m_need_length T.F_need_length.kp T.b_need_length tk (ae_v (se_var 1) ae_nil) (len_v len_nil))) sb_never)))
theorem ok_need_text (T : TX K mg) : FnOk P w K mg base (L2.CX P w) 3 T.f_need_text T.fd_need_text ["text"] (spF K mg 1 F_need_text) :=
  fn_ok T.F_need_text sc_need_text rfl rfl fun cdv A outer s H E hr tk hp => (by exact (sb_one (ss_if (SW.st (sw_or (st_not (st_val (se_isi T.cf T.z_isinstance T.z_str (by decide +kernel) (by decide) (se_var 0)))) (sw_or1 (st_cmp os_gt (se_callB cs_len T.z_len (by decide +kernel) (sa_cons (se_var 0) sa_nil)) (se_gc T.c_MOST_SIGNS) (nomark _) bl_gt)))) (sb_one (ss_raise0 rfl tk T.o_BadText T.i_BadText T.t_BadText (ok_BadText___init__ T) (hr.mono (by decide)) T.b_BadText___init__ T.m_BadText)) sb_nil)))
theorem ok_stop_of (T : TX K mg) : FnOk P w K mg base (L2.CX P w) 5 T.f_stop_of T.fd_stop_of ["reader", "text"] (spF K mg 2 F_stop_of) :=
  fn_ok T.F_stop_of sc_stop_of rfl rfl fun cdv A outer s H E hr tk hp => (by exact (sb_cons (ss_set 2 sc_stop_of.nd (se_gc T.c_BEGIN)) (sb_cons (ss_for hp rfl (si_enum T.z_enumerate (se_var 1)) (sg_tup rfl (sgs_cons (sg_name 3 sc_stop_of.nd) (sgs_cons (sg_name 4 sc_stop_of.nd) sgs_nil))) (sb_cons (ss_set 2 sc_stop_of.nd (se_if (st_cmp os_in (se_var 4) (se_gc T.c_SIGNS_READ) rfl bl_in) (se_call (ok_next_state T) (hr.mono (by decide)) T.m_next_state T.F_next_state.kp T.b_next_state tk (ae_v (se_var 0) (ae_v (se_var 2) (ae_v (se_var 4) ae_nil))) (len_v (len_v (len_v len_nil)))) se_non)) (sb_one (ss_if (st_cmp os_isN (se_var 2) se_non (nomark _) bl_isN) (sb_one (ss_ret (se_var 3))) sb_nil)))) (sb_one (ss_ret (se_if (st_val (se_call (ok_can_end T) (hr.mono (by decide)) T.m_can_end T.F_can_end.kp T.b_can_end tk (ae_v (se_var 0) (ae_v (se_var 2) ae_nil)) (len_v (len_v len_nil)))) se_non (se_callB cs_len T.z_len (by decide +kernel) (sa_cons (se_var 1) sa_nil))))))))
theorem ok_takes (T : TX K mg) : FnOk P w K mg base (L2.CX P w) 6 T.f_takes T.fd_takes ["reader", "text"] (spF K mg 2 F_takes) :=
  fn_ok T.F_takes sc_takes rfl rfl fun cdv A outer s H E hr tk hp => (by exact (sb_cons (ss_expr (se_call (ok_need_reader T) (hr.mono (by decide)) T.m_need_reader T.F_need_reader.kp T.b_need_reader tk (ae_v (se_var 0) ae_nil) (len_v len_nil))) (sb_cons (ss_expr (se_call (ok_need_text T) (hr.mono (by decide)) T.m_need_text T.F_need_text.kp T.b_need_text tk (ae_v (se_var 1) ae_nil) (len_v len_nil))) (sb_one (ss_ret (se_cmp os_isN (se_call (ok_stop_of T) (hr.mono (by decide)) T.m_stop_of T.F_stop_of.kp T.b_stop_of tk (ae_v (se_var 0) (ae_v (se_var 1) ae_nil)) (len_v (len_v len_nil))) se_non (nomark _)))))))
theorem ok_tens (T : TX K mg) : FnOk P w K mg base (L2.CX P w) 1 T.f_tens T.fd_tens ["many"] (spF K mg 1 F_tens) :=
  fn_ok T.F_tens sc_tens rfl rfl fun cdv A outer s H E hr tk hp => (by exact (sb_cons (ss_set 1 sc_tens.nd se_int) (sb_cons (ss_for hp rfl (si_range1 T.z_range (sa_cons (se_var 0) sa_nil)) (sg_name 2 sc_tens.nd) (sb_one (ss_set 1 sc_tens.nd (se_bin os_mulA (se_var 1) se_int)))) (sb_one (ss_ret (se_var 1))))))
theorem ok_normal (T : TX K mg) : FnOk P w K mg base (L2.CX P w) 1 T.f_normal T.fd_normal ["whole", "exponent"] (spF K mg 2 F_normal) :=
  fn_ok T.F_normal sc_normal rfl rfl fun cdv A outer s H E hr tk hp => (by exact (sb_cons (ss_if (st_cmp (os_eq hr.units) (se_var 0) se_int (nomark _) bl_eq) (sb_one (ss_ret (se_tup (sa_cons se_int (sa_cons se_int sa_nil))))) sb_nil) (sb_cons (ss_while 1000000000 hp (st_cmp (os_eq hr.units) (se_bin os_mod (se_var 0) se_int) se_int (nomark _) bl_eq) (sb_one (let ha := (sa_cons (se_bin os_fdivA (se_var 0) se_int) (sa_cons (se_bin os_add (se_var 1) se_int) sa_nil)); ss_par 0 1 rfl sc_normal.nd ha (ps_par rfl sc_normal.nd rfl rfl (by decide) rfl rfl ha.pa (by rfl))))) (sb_one (ss_ret (se_tup (sa_cons (se_var 0) (sa_cons (se_var 1) sa_nil))))))))
theorem ok_number_of (T : TX K mg) : FnOk P w K mg base (L2.CX P w) 2 T.f_number_of T.fd_number_of ["reader", "text"] (spF K mg 2 F_number_of) :=
  fn_okT T.F_number_of sc_number_of (by decide +kernel) (by decide) rfl rfl fun cdv A outer s H E hr tk hp => (by exact (sbt_cons (sst_set 2 sc_number_of.nd (set_repl (se_var 1))) (sbt_cons (SST.of (ss_set 3 sc_number_of.nd (se_or (se_cmp (os_eq hr.units) (se_ix (se_var 2) se_int) se_str (nomark _)) (se_one (se_cmp (os_eq hr.units) (se_ix (se_var 2) (se_neg se_int)) se_str (nomark _)))))) (sbt_cons (sst_set 4 sc_number_of.nd (set_split (set_replT (set_replT (set_repl (se_var 2)))) se_str)) (SBT.of (sb_cons (ss_set 5 sc_number_of.nd (se_if (st_cmp (os_ne hr.units) (se_fld T.cf T.m_Reader T.n_Reader_dot (se_var 0)) se_str (nomark _) bl_ne) (se_find (se_ix (se_var 4) se_int) (se_fld T.cf T.m_Reader T.n_Reader_dot (se_var 0))) (se_neg se_int))) (sb_cons (ss_set 6 sc_number_of.nd (se_if (st_cmp os_ge (se_var 5) se_int (nomark _) bl_ge) (se_slice (se_ix (se_var 4) se_int) (so_some (se_bin os_add (se_var 5) se_int)) so_none) se_str)) (sb_cons (ss_set 7 sc_number_of.nd (se_callTy cs_int2 T.z_int (by decide +kernel) (sa_cons (se_join se_str (SF.se (sf_comp rfl sc_number_of.nd (si_seq (se_ix (se_var 4) se_int)) (own := [("sign", 9)]) (blkOk_by (own := [("sign", 9)]) (N := N_number_of) (sc := defScope s_number_of) (by decide +kernel)) (by decide) (fun _ _ _ _ _ => (sg_name 9 sc_number_of.nd)) (fun _ _ _ _ _ => (sts_one (st_cmp os_in (se_var 9) (se_gc T.c_FIGURES) rfl bl_in))) (fun _ _ _ _ _ => (se_var 9))))) sa_nil))) (sb_cons (ss_set 8 sc_number_of.nd (se_if (st_cmp os_gt (se_callB cs_len T.z_len (by decide +kernel) (sa_cons (se_var 4) sa_nil)) se_int (nomark _) bl_gt) (se_callTy cs_int2 T.z_int (by decide +kernel) (sa_cons (se_ix (se_var 4) se_int) sa_nil)) se_int)) (sb_one (ss_ret (se_call (ok_normal T) (hr.mono (by decide)) T.m_normal T.F_normal.kp T.b_normal tk (ae_v (se_if (st_val (se_var 3)) (se_neg (se_var 7)) (se_var 7)) (ae_v (se_bin os_sub (se_var 8) (se_callB cs_len T.z_len (by decide +kernel) (sa_cons (se_var 6) sa_nil))) ae_nil)) (len_v (len_v len_nil))))))))))))))
theorem ok_means (T : TX K mg) : FnOk P w K mg base (L2.CX P w) 6 T.f_means T.fd_means ["reader", "text"] (spF K mg 2 F_means) :=
  fn_ok T.F_means sc_means rfl rfl fun cdv A outer s H E hr tk hp => (by exact (sb_cons (ss_expr (se_call (ok_need_reader T) (hr.mono (by decide)) T.m_need_reader T.F_need_reader.kp T.b_need_reader tk (ae_v (se_var 0) ae_nil) (len_v len_nil))) (sb_cons (ss_expr (se_call (ok_need_text T) (hr.mono (by decide)) T.m_need_text T.F_need_text.kp T.b_need_text tk (ae_v (se_var 1) ae_nil) (len_v len_nil))) (sb_cons (ss_set 2 sc_means.nd (se_call (ok_stop_of T) (hr.mono (by decide)) T.m_stop_of T.F_stop_of.kp T.b_stop_of tk (ae_v (se_var 0) (ae_v (se_var 1) ae_nil)) (len_v (len_v len_nil)))) (sb_cons (ss_if (st_cmp os_notN (se_var 2) se_non (nomark _) bl_notN) (sb_one (ss_raise1 rfl tk T.o_NotTaken T.i_NotTaken T.t_NotTaken (ok_NotTaken___init__ T) (hr.mono (by decide)) T.b_NotTaken___init__ T.m_NotTaken (se_var 2))) sb_nil) (sb_one (ss_ret (se_call (ok_number_of T) (hr.mono (by decide)) T.m_number_of T.F_number_of.kp T.b_number_of tk (ae_v (se_var 0) (ae_v (se_var 1) ae_nil)) (len_v (len_v len_nil))))))))))
theorem ok_parting (T : TX K mg) : FnOk P w K mg base (L2.CX P w) 4 T.f_parting T.fd_parting ["readers"] (spF K mg 1 F_parting) :=
  fn_ok T.F_parting sc_parting rfl rfl fun cdv A outer s H E hr tk hp => (by exact (sb_cons (ss_expr (se_call (ok_need_readers T) (hr.mono (by decide)) T.m_need_readers T.F_need_readers.kp T.b_need_readers tk (ae_v (se_var 0) ae_nil) (len_v len_nil))) sb_never))
theorem ok_need_texts (T : TX K mg) : FnOk P w K mg base (L2.CX P w) 3 T.f_need_texts T.fd_need_texts ["texts"] (spF K mg 1 F_need_texts) :=
  fn_ok T.F_need_texts sc_need_texts rfl rfl fun cdv A outer s H E hr tk hp => (by exact (sb_cons (ss_if (SW.st (sw_or (st_not (st_val (se_isi2 T.cf T.z_isinstance T.z_list (by decide +kernel) (by decide) T.z_tuple (by decide +kernel) (by decide) (se_var 0)))) (sw_or1 (st_not (st_chain os_le os_le se_int (se_callB cs_len T.z_len (by decide +kernel) (sa_cons (se_var 0) sa_nil)) (se_gc T.c_MOST_TEXTS) bl_le))))) (sb_one (ss_raise1 rfl tk T.o_BadTexts T.i_BadTexts T.t_BadTexts (ok_BadTexts___init__ T) (hr.mono (by decide)) T.b_BadTexts___init__ T.m_BadTexts se_non)) sb_nil) (sb_one (ss_for hp rfl (si_enum T.z_enumerate (se_var 0)) (sg_tup rfl (sgs_cons (sg_name 1 sc_need_texts.nd) (sgs_cons (sg_name 2 sc_need_texts.nd) sgs_nil))) (sb_one (ss_if (SW.st (sw_or (st_not (st_val (se_isi T.cf T.z_isinstance T.z_str (by decide +kernel) (by decide) (se_var 2)))) (sw_or1 (st_cmp os_gt (se_callB cs_len T.z_len (by decide +kernel) (sa_cons (se_var 2) sa_nil)) (se_gc T.c_MOST_SIGNS) (nomark _) bl_gt)))) (sb_one (ss_raise1 rfl tk T.o_BadTexts T.i_BadTexts T.t_BadTexts (ok_BadTexts___init__ T) (hr.mono (by decide)) T.b_BadTexts___init__ T.m_BadTexts (se_var 1))) sb_nil))))))
theorem ok_takers (T : TX K mg) : FnOk P w K mg base (L2.CX P w) 4 T.f_takers T.fd_takers ["readers", "texts"] (spF K mg 2 F_takers) :=
  fn_ok T.F_takers sc_takers rfl rfl fun cdv A outer s H E hr tk hp => (by exact (sb_cons (ss_expr (se_call (ok_need_readers T) (hr.mono (by decide)) T.m_need_readers T.F_need_readers.kp T.b_need_readers tk (ae_v (se_var 0) ae_nil) (len_v len_nil))) (sb_cons (ss_expr (se_call (ok_need_texts T) (hr.mono (by decide)) T.m_need_texts T.F_need_texts.kp T.b_need_texts tk (ae_v (se_var 1) ae_nil) (len_v len_nil))) sb_never)))
theorem ok_word_at (T : TX K mg) : FnOk P w K mg base (L2.CX P w) 3 T.f_word_at T.fd_word_at ["words", "at", "some"] (spF K mg 3 F_word_at) :=
  fn_ok T.F_word_at sc_word_at rfl rfl fun cdv A outer s H E hr tk hp => (by exact (sb_cons (ss_if (SW.st (sw_or (st_cmp os_ge (se_var 1) (se_callB cs_len T.z_len (by decide +kernel) (sa_cons (se_var 0) sa_nil)) (nomark _) bl_ge) (sw_or1 (st_cmp os_notIn (se_ix (se_var 0) (se_var 1)) (se_var 2) rfl bl_notIn)))) (sb_one (ss_raise1 rfl tk T.o_InvalidText T.i_InvalidText T.t_InvalidText (ok_InvalidText___init__ T) (hr.mono (by decide)) T.b_InvalidText___init__ T.m_InvalidText (se_bin os_add (se_var 1) se_int))) sb_nil) sb_never))
theorem ok_read (T : TX K mg) : FnOk P w K mg base (L2.CX P w) 4 T.f_read T.fd_read ["text"] (spF K mg 1 F_read) :=
  fn_ok T.F_read sc_read rfl rfl fun cdv A outer s H E hr tk hp => (by exact (sb_cons (ss_setT (ps_comp (i := 1) rfl sc_read.nd rfl rfl (sw_true rfl rfl rfl (by decide +kernel)) (si_seq (se_split (se_var 0) se_str)) (own := [("word", 14)]) (blkOk_by (own := [("word", 14)]) (N := N_read) (sc := defScope s_read) (by decide +kernel)) (by decide) (fun _ _ _ _ _ => (sg_name 14 sc_read.nd)) (fun _ _ _ _ _ => (sts_one (st_cmp (os_ne hr.units) (se_var 14) se_str (nomark _) bl_ne))) (fun _ _ _ _ _ => (se_var 14)))) (sb_cons (ss_set 2 sc_read.nd (se_ix (se_gc T.c_POINT_SIGNS) (se_call (ok_word_at T) (hr.mono (by decide)) T.m_word_at T.F_word_at.kp T.b_word_at tk (ae_v (se_var 1) (ae_v se_int (ae_v (se_gc T.c_POINT_WORDS) ae_nil))) (len_v (len_v (len_v len_nil)))))) sb_never)))
theorem ok_is_integer (T : TX K mg) : FnOk P w K mg base (L2.CX P w) 1 T.f_is_integer T.fd_is_integer ["value"] (spF K mg 1 F_is_integer) :=
  fn_ok T.F_is_integer sc_is_integer rfl rfl fun cdv A outer s H E hr tk hp => (by exact (sb_one (ss_ret (se_and (se_isi T.cf T.z_isinstance T.z_int (by decide +kernel) (by decide) (se_var 0)) (se_one (se_not (se_isi T.cf T.z_isinstance T.z_bool (by decide +kernel) (by decide) (se_var 0))))))))
theorem ok_is_number (T : TX K mg) : FnOk P w K mg base (L2.CX P w) 2 T.f_is_number T.fd_is_number ["value"] (spF K mg 1 F_is_number) :=
  fn_ok T.F_is_number sc_is_number rfl rfl fun cdv A outer s H E hr tk hp => (by exact (sb_cons (ss_if (SW.st (sw_or (st_not (st_val (se_isi T.cf T.z_isinstance T.z_tuple (by decide +kernel) (by decide) (se_var 0)))) (sw_or (st_cmp (os_ne hr.units) (se_callB cs_len T.z_len (by decide +kernel) (sa_cons (se_var 0) sa_nil)) se_int (nomark _) bl_ne) (sw_or1 (st_not (st_val (se_callB (cs_all rfl) T.z_all (by decide +kernel) (sa_cons (SF.se (sf_comp rfl sc_is_number.nd (si_seq (se_var 0)) (own := [("one", 1)]) (blkOk_by (own := [("one", 1)]) (N := N_is_number) (sc := defScope s_is_number) (by decide +kernel)) (by decide) (fun _ _ _ _ _ => (sg_name 1 sc_is_number.nd)) (fun _ _ _ _ _ => sts_nil) (fun _ _ _ _ _ => (se_call (ok_is_integer T) (hr.mono (by decide)) T.m_is_integer T.F_is_integer.kp T.b_is_integer takes0 (ae_v (se_var 1) ae_nil) (len_v len_nil))))) sa_nil)))))))) (sb_one (ss_ret se_bl)) sb_nil) (sb_cons (ss_if (SW.st (sw_or (st_cmp os_gt (se_callB cs_abs T.z_abs (by decide +kernel) (sa_cons (se_ix (se_var 0) se_int) sa_nil)) (se_gc T.c_MOST_WHOLE) (nomark _) bl_gt) (sw_or1 (st_cmp os_gt (se_callB cs_abs T.z_abs (by decide +kernel) (sa_cons (se_ix (se_var 0) se_int) sa_nil)) (se_gc T.c_MOST_EXPONENT) (nomark _) bl_gt)))) (sb_one (ss_ret se_bl)) sb_nil) (sb_one (ss_ret (se_or (se_cmp (os_eq hr.units) (se_var 0) (se_tup (sa_cons se_int (sa_cons se_int sa_nil))) (nomark _)) (se_one (se_cmp (os_ne hr.units) (se_bin os_mod (se_ix (se_var 0) se_int) se_int) se_int (nomark _)))))))))
theorem ok_need_number (T : TX K mg) : FnOk P w K mg base (L2.CX P w) 3 T.f_need_number T.fd_need_number ["number"] (spF K mg 1 F_need_number) :=
  fn_ok T.F_need_number sc_need_number rfl rfl fun cdv A outer s H E hr tk hp => (by exact (sb_one (ss_if (st_not (st_val (se_call (ok_is_number T) (hr.mono (by decide)) T.m_is_number T.F_is_number.kp T.b_is_number tk (ae_v (se_var 0) ae_nil) (len_v len_nil)))) (sb_one (ss_raise0 rfl tk T.o_BadNumber T.i_BadNumber T.t_BadNumber (ok_BadNumber___init__ T) (hr.mono (by decide)) T.b_BadNumber___init__ T.m_BadNumber)) sb_nil)))
theorem ok_grouped (T : TX K mg) : FnOk P w K mg base (L2.CX P w) 1 T.f_grouped T.fd_grouped ["figures", "mark", "size"] (spF K mg 3 F_grouped) :=
  fn_ok T.F_grouped sc_grouped rfl rfl fun cdv A outer s H E hr tk hp => (by exact (sb_cons (let ha := (sa_cons (se_slice (se_var 0) (so_some (se_neg se_int)) so_none) (sa_cons (se_slice (se_var 0) so_none (so_some (se_neg se_int))) sa_nil)); ss_par 3 4 rfl sc_grouped.nd ha (ps_par rfl sc_grouped.nd rfl rfl (by decide) rfl rfl ha.pa (by rfl))) (sb_cons (ss_while 1000000000 hp (st_cmp (os_ne hr.units) (se_var 4) se_str (nomark _) bl_ne) (sb_one (let ha := (sa_cons (se_bin os_add (se_bin os_add (se_slice (se_var 4) (so_some (se_neg (se_var 2))) so_none) (se_var 1)) (se_var 3)) (sa_cons (se_slice (se_var 4) so_none (so_some (se_neg (se_var 2)))) sa_nil)); ss_par 3 4 rfl sc_grouped.nd ha (ps_par rfl sc_grouped.nd rfl rfl (by decide) rfl rfl ha.pa (by rfl))))) (sb_one (ss_ret (se_var 3))))))
theorem ok_plain_of (T : TX K mg) : FnOk P w K mg base (L2.CX P w) 2 T.f_plain_of T.fd_plain_of ["number"] (spF K mg 1 F_plain_of) :=
  fn_ok T.F_plain_of sc_plain_of rfl rfl fun cdv A outer s H E hr tk hp => (by exact (sb_cons (let ha := (sa_cons (se_callB cs_abs T.z_abs (by decide +kernel) (sa_cons (se_ix (se_var 0) se_int) sa_nil)) (sa_cons (se_ix (se_var 0) se_int) sa_nil)); ss_par 1 2 rfl sc_plain_of.nd ha (ps_par rfl sc_plain_of.nd rfl rfl (by decide) rfl rfl ha.pa (by rfl))) (sb_cons (ss_if (st_cmp os_ge (se_var 2) se_int (nomark _) bl_ge) (sb_one (ss_ret (se_tup (sa_cons (se_callTy cs_str T.z_str (by decide +kernel) (sa_cons (se_bin os_mulA (se_var 1) (se_call (ok_tens T) (hr.mono (by decide)) T.m_tens T.F_tens.kp T.b_tens tk (ae_v (se_var 2) ae_nil) (len_v len_nil))) sa_nil)) (sa_cons se_str sa_nil))))) sb_nil) (sb_cons (ss_set 3 sc_plain_of.nd (se_callTy cs_str T.z_str (by decide +kernel) (sa_cons (se_var 1) sa_nil))) (sb_cons (ss_set 3 sc_plain_of.nd (se_bin os_add (se_bin os_mulA se_str (se_bin os_sub (se_bin os_sub se_int (se_var 2)) (se_callB cs_len T.z_len (by decide +kernel) (sa_cons (se_var 3) sa_nil)))) (se_var 3))) (sb_one (ss_ret (se_tup (sa_cons (se_slice (se_var 3) so_none (so_some (se_var 2))) (sa_cons (se_slice (se_var 3) (so_some (se_var 2)) so_none) sa_nil))))))))))
theorem ok_written_of (T : TX K mg) : FnOk P w K mg base (L2.CX P w) 3 T.f_written_of T.fd_written_of ["reader", "number"] (spF K mg 2 F_written_of) :=
  fn_ok T.F_written_of sc_written_of rfl rfl fun cdv A outer s H E hr tk hp => (by exact (sb_cons (ss_asg (se_call (ok_plain_of T) (hr.mono (by decide)) T.m_plain_of T.F_plain_of.kp T.b_plain_of tk (ae_v (se_var 1) ae_nil) (len_v len_nil)) (sg_tup rfl (sgs_cons (sg_name 2 sc_written_of.nd) (sgs_cons (sg_name 3 sc_written_of.nd) sgs_nil)))) (sb_cons (ss_if (SW.st (sw_or (SW.st (sw_and (st_cmp (os_ne hr.units) (se_var 3) se_str (nomark _) bl_ne) (sw_and1 (st_cmp (os_eq hr.units) (se_fld T.cf T.m_Reader T.n_Reader_dot (se_var 0)) se_str (nomark _) bl_eq)))) (sw_or1 (SW.st (sw_and (st_cmp os_lt (se_ix (se_var 1) se_int) se_int (nomark _) bl_lt) (sw_and1 (st_cmp (os_eq hr.units) (se_fld T.cf T.m_Reader T.n_Reader_minus (se_var 0)) se_str (nomark _) bl_eq))))))) (sb_one (ss_ret se_non)) sb_nil) (sb_cons (ss_if (st_cmp (os_ne hr.units) (se_fld T.cf T.m_Reader T.n_Reader_mark (se_var 0)) se_str (nomark _) bl_ne) (sb_one (ss_set 2 sc_written_of.nd (se_call (ok_grouped T) (hr.mono (by decide)) T.m_grouped T.F_grouped.kp T.b_grouped tk (ae_v (se_var 2) (ae_v (se_fld T.cf T.m_Reader T.n_Reader_mark (se_var 0)) (ae_v (se_fld T.cf T.m_Reader T.n_Reader_size (se_var 0)) ae_nil))) (len_v (len_v (len_v len_nil)))))) sb_nil) (sb_cons (ss_set 4 sc_written_of.nd (se_if (st_cmp (os_ne hr.units) (se_var 3) se_str (nomark _) bl_ne) (se_bin os_add (se_bin os_add (se_var 2) (se_fld T.cf T.m_Reader T.n_Reader_dot (se_var 0))) (se_var 3)) (se_var 2))) (sb_cons (ss_if (st_cmp os_ge (se_ix (se_var 1) se_int) se_int (nomark _) bl_ge) (sb_one (ss_ret (se_var 4))) sb_nil) (sb_one (ss_ret (se_if (st_cmp (os_eq hr.units) (se_fld T.cf T.m_Reader T.n_Reader_minus (se_var 0)) se_str (nomark _) bl_eq) (se_bin os_add se_str (se_var 4)) (se_bin os_add (se_var 4) se_str))))))))))
theorem ok_written (T : TX K mg) : FnOk P w K mg base (L2.CX P w) 4 T.f_written T.fd_written ["reader", "number"] (spF K mg 2 F_written) :=
  fn_ok T.F_written sc_written rfl rfl fun cdv A outer s H E hr tk hp => (by exact (sb_cons (ss_expr (se_call (ok_need_reader T) (hr.mono (by decide)) T.m_need_reader T.F_need_reader.kp T.b_need_reader tk (ae_v (se_var 0) ae_nil) (len_v len_nil))) (sb_cons (ss_expr (se_call (ok_need_number T) (hr.mono (by decide)) T.m_need_number T.F_need_number.kp T.b_need_number tk (ae_v (se_var 1) ae_nil) (len_v len_nil))) (sb_one (ss_ret (se_call (ok_written_of T) (hr.mono (by decide)) T.m_written_of T.F_written_of.kp T.b_written_of tk (ae_v (se_var 0) (ae_v (se_var 1) ae_nil)) (len_v (len_v len_nil))))))))
theorem ok_need_numbers (T : TX K mg) : FnOk P w K mg base (L2.CX P w) 4 T.f_need_numbers T.fd_need_numbers ["texts", "numbers"] (spF K mg 2 F_need_numbers) :=
  fn_ok T.F_need_numbers sc_need_numbers rfl rfl fun cdv A outer s H E hr tk hp => (by exact (sb_cons (ss_expr (se_call (ok_need_texts T) (hr.mono (by decide)) T.m_need_texts T.F_need_texts.kp T.b_need_texts tk (ae_v (se_var 0) ae_nil) (len_v len_nil))) (sb_cons (ss_if (SW.st (sw_or (st_not (st_val (se_isi2 T.cf T.z_isinstance T.z_list (by decide +kernel) (by decide) T.z_tuple (by decide +kernel) (by decide) (se_var 1)))) (sw_or1 (st_cmp (os_ne hr.units) (se_callB cs_len T.z_len (by decide +kernel) (sa_cons (se_var 1) sa_nil)) (se_callB cs_len T.z_len (by decide +kernel) (sa_cons (se_var 0) sa_nil)) (nomark _) bl_ne)))) (sb_one (ss_raise1 rfl tk T.o_BadNumbers T.i_BadNumbers T.t_BadNumbers (ok_BadNumbers___init__ T) (hr.mono (by decide)) T.b_BadNumbers___init__ T.m_BadNumbers se_non)) sb_nil) (sb_one (ss_for hp rfl (si_enum T.z_enumerate (se_var 1)) (sg_tup rfl (sgs_cons (sg_name 2 sc_need_numbers.nd) (sgs_cons (sg_name 3 sc_need_numbers.nd) sgs_nil))) (sb_one (ss_if (SW.st (sw_and (st_cmp os_notN (se_var 3) se_non (nomark _) bl_notN) (sw_and1 (st_not (st_val (se_call (ok_is_number T) (hr.mono (by decide)) T.m_is_number T.F_is_number.kp T.b_is_number tk (ae_v (se_var 3) ae_nil) (len_v len_nil))))))) (sb_one (ss_raise1 rfl tk T.o_BadNumbers T.i_BadNumbers T.t_BadNumbers (ok_BadNumbers___init__ T) (hr.mono (by decide)) T.b_BadNumbers___init__ T.m_BadNumbers (se_var 2))) sb_nil)))))))
theorem ok_fitting (T : TX K mg) : FnOk P w K mg base (L2.CX P w) 5 T.f_fitting T.fd_fitting ["texts", "numbers"] (spF K mg 2 F_fitting) :=
  fn_ok T.F_fitting sc_fitting rfl rfl fun cdv A outer s H E hr tk hp => (by exact (sb_cons (ss_expr (se_call (ok_need_numbers T) (hr.mono (by decide)) T.m_need_numbers T.F_need_numbers.kp T.b_need_numbers tk (ae_v (se_var 0) (ae_v (se_var 1) ae_nil)) (len_v (len_v len_nil)))) sb_never))
theorem ok__law_taken (T : TX K mg) : FnOk P w K mg base (L2.CX P w) 1 T.f__law_taken T.fd__law_taken ["_law_row", "_law_many"] (spF K mg 2 F__law_taken) :=
  fn_ok T.F__law_taken sc__law_taken rfl rfl fun cdv A outer s H E hr tk hp => (by exact (sb_cons (ss_if (st_cmp os_gt (se_ixO 0 se_int) se_int (nomark _) bl_gt) (sb_cons (ss_set 2 sc__law_taken.nd (se_bin os_mod (se_callTy cs_int2 T.z_int (by decide +kernel) (sa_cons (se_ixO 0 se_int) sa_nil)) (se_var 1))) (sb_cons (ss_setIx 0 (se_bin os_fdivA (se_ixO 0 se_int) (se_var 1)) se_int) (sb_one (ss_ret (se_var 2))))) sb_nil) (sb_cons (ss_setIx 0 (se_bin os_add (se_ixO 0 se_int) se_int) se_int) (sb_cons (ss_if (st_cmp os_gt (se_ixO 0 se_int) (se_callB cs_len T.z_len (by decide +kernel) (sa_cons (se_ixO 0 se_int) sa_nil)) (nomark _) bl_gt) (sb_cons (ss_setIx 0 (se_bin os_mod (se_callTy cs_int2 T.z_int (by decide +kernel) (sa_cons (se_bin os_add (se_bin os_mulA (se_ixO 0 se_int) se_int) se_int) sa_nil)) se_int) se_int) (sb_one (ss_ret (se_bin os_mod (se_callTy cs_int2 T.z_int (by decide +kernel) (sa_cons (se_bin os_fdivA (se_ixO 0 se_int) se_int) sa_nil)) (se_var 1))))) sb_nil) (sb_cons (ss_set 3 sc__law_taken.nd (se_ix (se_ixO 0 se_int) (se_bin os_sub (se_ixO 0 se_int) se_int))) (sb_cons (ss_setIx 0 (se_bin os_mod (se_callTy cs_int2 T.z_int (by decide +kernel) (sa_cons (se_bin os_add (se_bin os_add (se_bin os_mulA (se_ixO 0 se_int) se_int) (se_var 3)) se_int) sa_nil)) se_int) se_int) (sb_cons (ss_if (st_cmp os_ge (se_var 3) (se_bin os_pow se_int se_int) (nomark _) bl_ge) (sb_one (ss_setIx 0 (se_bin os_fdivA (se_var 3) (se_var 1)) se_int)) sb_nil) (sb_one (ss_ret (se_bin os_mod (se_callTy cs_int2 T.z_int (by decide +kernel) (sa_cons (se_var 3) sa_nil)) (se_var 1)))))))))))
theorem ok_Reader___init__ (T : TX K mg) : FnOk P w K mg base (L2.CX P w) 3 T.f_Reader___init__ T.fd_Reader___init__ ["self", "point", "comma", "rest", "must", "sign", "zeros", "blanks", "exponent"] (spF K mg 9 F_Reader___init__) :=
  fn_ok T.F_Reader___init__ sc_Reader___init__ rfl rfl fun cdv A outer s H E hr tk hp => (by exact (sb_cons (ss_if (st_not (st_val (se_call (ok_is_one T) (hr.mono (by decide)) T.m_is_one T.F_is_one.kp T.b_is_one tk (ae_v (se_var 1) (ae_v (se_gc T.c_POINTS) ae_nil)) (len_v (len_v len_nil))))) (sb_one (ss_raise1 rfl tk T.o_BadPart T.i_BadPart T.t_BadPart (ok_BadPart___init__ T) (hr.mono (by decide)) T.b_BadPart___init__ T.m_BadPart se_str)) sb_nil) (sb_cons (ss_if (SW.st (sw_or (st_not (st_val (se_call (ok_is_one T) (hr.mono (by decide)) T.m_is_one T.F_is_one.kp T.b_is_one tk (ae_v (se_var 2) (ae_v (se_gc T.c_COMMAS) ae_nil)) (len_v (len_v len_nil))))) (sw_or1 (SW.st (sw_and (st_cmp (os_ne hr.units) (se_var 2) se_str (nomark _) bl_ne) (sw_and1 (st_cmp (os_eq hr.units) (se_var 2) (se_var 1) (nomark _) bl_eq))))))) (sb_one (ss_raise1 rfl tk T.o_BadPart T.i_BadPart T.t_BadPart (ok_BadPart___init__ T) (hr.mono (by decide)) T.b_BadPart___init__ T.m_BadPart se_str)) sb_nil) (sb_cons (ss_if (st_not (st_val (se_call (ok_is_size T) (hr.mono (by decide)) T.m_is_size T.F_is_size.kp T.b_is_size tk (ae_v (se_var 3) ae_nil) (len_v len_nil)))) (sb_one (ss_raise1 rfl tk T.o_BadPart T.i_BadPart T.t_BadPart (ok_BadPart___init__ T) (hr.mono (by decide)) T.b_BadPart___init__ T.m_BadPart se_str)) sb_nil) (sb_cons (ss_if (st_not (st_val (se_isi T.cf T.z_isinstance T.z_bool (by decide +kernel) (by decide) (se_var 4)))) (sb_one (ss_raise1 rfl tk T.o_BadPart T.i_BadPart T.t_BadPart (ok_BadPart___init__ T) (hr.mono (by decide)) T.b_BadPart___init__ T.m_BadPart se_str)) sb_nil) (sb_cons (ss_if (st_not (st_val (se_call (ok_is_one T) (hr.mono (by decide)) T.m_is_one T.F_is_one.kp T.b_is_one tk (ae_v (se_var 5) (ae_v (se_gc T.c_SIGNS) ae_nil)) (len_v (len_v len_nil))))) (sb_one (ss_raise1 rfl tk T.o_BadPart T.i_BadPart T.t_BadPart (ok_BadPart___init__ T) (hr.mono (by decide)) T.b_BadPart___init__ T.m_BadPart se_str)) sb_nil) (sb_cons (ss_if (st_not (st_val (se_isi T.cf T.z_isinstance T.z_bool (by decide +kernel) (by decide) (se_var 6)))) (sb_one (ss_raise1 rfl tk T.o_BadPart T.i_BadPart T.t_BadPart (ok_BadPart___init__ T) (hr.mono (by decide)) T.b_BadPart___init__ T.m_BadPart se_str)) sb_nil) (sb_cons (ss_if (SW.st (sw_or (st_not (st_val (se_isi T.cf T.z_isinstance T.z_bool (by decide +kernel) (by decide) (se_var 7)))) (sw_or1 (SW.st (sw_and (st_val (se_var 7)) (sw_and1 (st_cmp (os_eq hr.units) (se_var 2) se_str (nomark _) bl_eq))))))) (sb_one (ss_raise1 rfl tk T.o_BadPart T.i_BadPart T.t_BadPart (ok_BadPart___init__ T) (hr.mono (by decide)) T.b_BadPart___init__ T.m_BadPart se_str)) sb_nil) (sb_cons (ss_if (st_not (st_val (se_isi T.cf T.z_isinstance T.z_bool (by decide +kernel) (by decide) (se_var 8)))) (sb_one (ss_raise1 rfl tk T.o_BadPart T.i_BadPart T.t_BadPart (ok_BadPart___init__ T) (hr.mono (by decide)) T.b_BadPart___init__ T.m_BadPart se_str)) sb_nil) (sb_cons (ss_asg (se_tup (sa_cons (se_var 1) (sa_cons (se_var 2) sa_nil))) (sg_tup rfl (sgs_cons (sg_attr 0 T.m_Reader T.cl_Reader T.n_Reader_dot) (sgs_cons (sg_attr 0 T.m_Reader T.cl_Reader T.n_Reader_mark) sgs_nil)))) (sb_cons (ss_asg (se_tup (sa_cons (se_var 3) (sa_cons (se_var 4) sa_nil))) (sg_tup rfl (sgs_cons (sg_attr 0 T.m_Reader T.cl_Reader T.n_Reader_size) (sgs_cons (sg_attr 0 T.m_Reader T.cl_Reader T.n_Reader_strict) sgs_nil)))) (sb_cons (ss_asg (se_tup (sa_cons (se_var 5) (sa_cons (se_var 6) sa_nil))) (sg_tup rfl (sgs_cons (sg_attr 0 T.m_Reader T.cl_Reader T.n_Reader_minus) (sgs_cons (sg_attr 0 T.m_Reader T.cl_Reader T.n_Reader_naughts) sgs_nil)))) (sb_one (ss_asg (se_tup (sa_cons (se_var 7) (sa_cons (se_var 8) sa_nil))) (sg_tup rfl (sgs_cons (sg_attr 0 T.m_Reader T.cl_Reader T.n_Reader_spaces) (sgs_cons (sg_attr 0 T.m_Reader T.cl_Reader T.n_Reader_power) sgs_nil)))))))))))))))))
theorem ok_Column___init__ (T : TX K mg) : FnOk P w K mg base (L2.CX P w) 4 T.f_Column___init__ T.fd_Column___init__ ["self", "readers"] (spF K mg 2 F_Column___init__) :=
  fn_ok T.F_Column___init__ sc_Column___init__ rfl rfl fun cdv A outer s H E hr tk hp => (by exact (sb_cons (ss_expr (se_call (ok_need_readers T) (hr.mono (by decide)) T.m_need_readers T.F_need_readers.kp T.b_need_readers tk (ae_v (se_var 1) ae_nil) (len_v len_nil))) (sb_cons (ss_fldO 0 T.m_Column T.cl_Column T.n_Column_eyes (se_callTy cs_tuple T.z_tuple (by decide +kernel) (sa_cons (se_var 1) sa_nil))) (sb_cons (ss_fldO 0 T.m_Column T.cl_Column T.n_Column_lines (se_tup sa_nil)) (sb_one (ss_fldO 0 T.m_Column T.cl_Column T.n_Column_seen (se_tup sa_nil)))))))
theorem ok_Column___len__ (T : TX K mg) : FnOk P w K mg base (L2.CX P w) 1 T.f_Column___len__ T.fd_Column___len__ ["self"] (spF K mg 1 F_Column___len__) :=
  fn_ok T.F_Column___len__ sc_Column___len__ rfl rfl fun cdv A outer s H E hr tk hp => (by exact (sb_one (ss_ret (se_callB cs_len T.z_len (by decide +kernel) (sa_cons (se_fldO 0 T.m_Column T.cl_Column T.n_Column_lines) sa_nil)))))
theorem ok__law_call (T : TX K mg) : FnOk P w K mg base (L2.CX P w) 7 T.f__law_call T.fd__law_call ["_law_kind"] (spF K mg 1 F__law_call) :=
  fn_ok T.F__law_call sc__law_call rfl rfl fun cdv A outer s H E hr tk hp => (by exact (sb_cons (ss_set 1 sc__law_call.nd (se_make T.k_Reader (ok_Reader___init__ T) (hr.mono (by decide)) T.m_Reader T.b_Reader___init__ tk (sa_cons se_str (sa_cons se_str (sa_cons se_int (sa_cons se_bl (sa_cons se_str (sa_cons se_bl (sa_cons se_bl (sa_cons se_bl sa_nil)))))))) rfl)) (sb_one (ss_if (st_cmp (os_eq hr.units) (se_var 0) se_int (nomark _) bl_eq) (sb_one (ss_expr (se_make T.k_Reader (ok_Reader___init__ T) (hr.mono (by decide)) T.m_Reader T.b_Reader___init__ tk (sa_cons se_str (sa_cons se_str (sa_cons se_int (sa_cons se_bl (sa_cons se_str (sa_cons se_bl (sa_cons se_bl (sa_cons se_bl sa_nil)))))))) rfl))) (sb_one (ss_if (st_cmp (os_eq hr.units) (se_var 0) se_int (nomark _) bl_eq) (sb_one (ss_expr (se_call (ok_parts T) (hr.mono (by decide)) T.m_parts T.F_parts.kp T.b_parts tk (ae_v se_str ae_nil) (len_v len_nil)))) (sb_one (ss_if (st_cmp (os_eq hr.units) (se_var 0) se_int (nomark _) bl_eq) (sb_one (ss_expr (se_call (ok_parting T) (hr.mono (by decide)) T.m_parting T.F_parting.kp T.b_parting tk (ae_v (se_lst sa_nil) ae_nil) (len_v len_nil)))) (sb_one (ss_if (st_cmp (os_eq hr.units) (se_var 0) se_int (nomark _) bl_eq) (sb_one (ss_expr (se_call (ok_takes T) (hr.mono (by decide)) T.m_takes T.F_takes.kp T.b_takes tk (ae_v (se_var 1) (ae_v se_int ae_nil)) (len_v (len_v len_nil))))) (sb_one (ss_if (st_cmp (os_eq hr.units) (se_var 0) se_int (nomark _) bl_eq) (sb_one (ss_expr (se_call (ok_takers T) (hr.mono (by decide)) T.m_takers T.F_takers.kp T.b_takers tk (ae_v (se_lst (sa_cons (se_var 1) sa_nil)) (ae_v (se_lst sa_nil) ae_nil)) (len_v (len_v len_nil))))) (sb_one (ss_if (st_cmp (os_eq hr.units) (se_var 0) se_int (nomark _) bl_eq) (sb_one (ss_expr (se_call (ok_means T) (hr.mono (by decide)) T.m_means T.F_means.kp T.b_means tk (ae_v (se_var 1) (ae_v se_str ae_nil)) (len_v (len_v len_nil))))) (sb_one (ss_if (st_cmp (os_eq hr.units) (se_var 0) se_int (nomark _) bl_eq) (sb_one (ss_expr (se_call (ok_written T) (hr.mono (by decide)) T.m_written T.F_written.kp T.b_written tk (ae_v (se_var 1) (ae_v se_int ae_nil)) (len_v (len_v len_nil))))) (sb_one (ss_if (st_cmp (os_eq hr.units) (se_var 0) se_int (nomark _) bl_eq) (sb_one (ss_expr (se_call (ok_fitting T) (hr.mono (by decide)) T.m_fitting T.F_fitting.kp T.b_fitting tk (ae_v (se_lst (sa_cons se_str sa_nil)) (ae_v (se_lst sa_nil) ae_nil)) (len_v (len_v len_nil))))) (sb_one (ss_if (st_cmp (os_eq hr.units) (se_var 0) se_int (nomark _) bl_eq) (sb_one (ss_expr (se_call (ok_count T) (hr.mono (by decide)) T.m_count T.F_count.kp T.b_count tk (ae_v (se_var 1) (ae_v se_int ae_nil)) (len_v (len_v len_nil))))) (sb_one (ss_expr (se_call (ok_read T) (hr.mono (by decide)) T.m_read T.F_read.kp T.b_read tk (ae_v se_str ae_nil) (len_v len_nil))))))))))))))))))))))))
theorem ok__law_first (T : TX K mg) : FnOk P w K mg base (L2.CX P w) 8 T.f__law_first T.fd__law_first ["_law_kind"] (spF K mg 1 F__law_first) :=
  fn_ok T.F__law_first sc__law_first rfl rfl fun cdv A outer s H E hr tk hp => (by exact (sb_cons (ss_set 1 sc__law_first.nd (se_lst sa_nil)) (sb_cons (ss_try rfl rfl tk T.ex (fun W pn xe tk hp => (sb_one (ss_expr (se_call (ok__law_call T) (hr.mono (by decide)) T.m__law_call T.F__law_call.kp T.b__law_call tk (ae_v (se_var 0) ae_nil) (len_v len_nil))))) (HdOk.plain sc__law_first.nd (by decide) rfl (by decide) T.m_BadPart rfl rfl (fun _ h => by rw [h]; rfl) (sx_c (fun _ => pe_int) (fun _ => .int)) (HdOk.plain sc__law_first.nd (by decide) rfl (by decide) T.m_BadReader rfl rfl (fun _ h => by rw [h]; rfl) (sx_c (fun _ => pe_int) (fun _ => .int)) (HdOk.plain sc__law_first.nd (by decide) rfl (by decide) T.m_BadReaders rfl rfl (fun _ h => by rw [h]; rfl) (sx_c (fun _ => pe_int) (fun _ => .int)) (HdOk.plain sc__law_first.nd (by decide) rfl (by decide) T.m_BadText rfl rfl (fun _ h => by rw [h]; rfl) (sx_c (fun _ => pe_int) (fun _ => .int)) (HdOk.plain sc__law_first.nd (by decide) rfl (by decide) T.m_BadTexts rfl rfl (fun _ h => by rw [h]; rfl) (sx_c (fun _ => pe_int) (fun _ => .int)) (HdOk.plain sc__law_first.nd (by decide) rfl (by decide) T.m_NotTaken rfl rfl (fun _ h => by rw [h]; rfl) (sx_c (fun _ => pe_int) (fun _ => .int)) (HdOk.plain sc__law_first.nd (by decide) rfl (by decide) T.m_BadNumber rfl rfl (fun _ h => by rw [h]; rfl) (sx_c (fun _ => pe_int) (fun _ => .int)) (HdOk.plain sc__law_first.nd (by decide) rfl (by decide) T.m_BadNumbers rfl rfl (fun _ h => by rw [h]; rfl) (sx_c (fun _ => pe_int) (fun _ => .int)) (HdOk.plain sc__law_first.nd (by decide) rfl (by decide) T.m_BadLength rfl rfl (fun _ h => by rw [h]; rfl) (sx_c (fun _ => pe_int) (fun _ => .int)) (HdOk.plain sc__law_first.nd (by decide) rfl (by decide) T.m_InvalidText rfl rfl (fun _ h => by rw [h]; rfl) (sx_c (fun _ => pe_int) (fun _ => .int)) HdOk.nil))))))))))) (sb_one (ss_ret (se_var 1))))))
theorem ok__law_base (T : TX K mg) : FnOk P w K mg base (L2.CX P w) 8 T.f__law_base T.fd__law_base ["_law_kind"] (spF K mg 1 F__law_base) :=
  fn_ok T.F__law_base sc__law_base rfl rfl fun cdv A outer s H E hr tk hp => (by exact (sb_cons (ss_set 1 sc__law_base.nd se_bl) (sb_cons (ss_try rfl rfl tk T.ex (fun W pn xe tk hp => (sb_one (ss_expr (se_call (ok__law_call T) (hr.mono (by decide)) T.m__law_call T.F__law_call.kp T.b__law_call tk (ae_v (se_var 0) ae_nil) (len_v len_nil))))) (HdOk.plain sc__law_base.nd (by decide) rfl (by decide) T.m_ReaderError rfl rfl (fun _ h => by rw [h]; rfl) (sx_c (fun _ => pe_bl) (fun _ => .bl)) HdOk.nil)) (sb_one (ss_ret (se_var 1))))))
theorem ok_law (T : TX K mg) : FnOk P w K mg base (L2.CX P w) 9 T.f_law T.fd_law ["_law_script"] (spF K mg 1 F_law) :=
  fn_ok T.F_law sc_law rfl rfl fun cdv A outer s H E hr tk hp => (by exact (sb_cons (ss_own 1 sc_law.nd (sf_lst (sa_cons (se_var 0) (sa_cons se_int (sa_cons se_int (sa_cons se_int sa_nil)))))) (sb_cons (ss_for hp rfl (si_range1 T.z_range (sa_cons se_int sa_nil)) (sg_name 2 sc_law.nd) (sb_cons (ss_set 3 sc_law.nd (se_call (ok__law_taken T) (hr.mono (by decide)) T.m__law_taken T.F__law_taken.kp T.b__law_taken tk (ae_io 1 (ae_v se_int ae_nil)) (len_io (len_v len_nil)))) (sb_one (ss_if (SW.st (sw_or (st_cmp (os_ne hr.units) (se_call (ok__law_first T) (hr.mono (by decide)) T.m__law_first T.F__law_first.kp T.b__law_first tk (ae_v (se_var 3) ae_nil) (len_v len_nil)) (se_var 3) (nomark _) bl_ne) (sw_or1 (st_not (st_val (se_call (ok__law_base T) (hr.mono (by decide)) T.m__law_base T.F__law_base.kp T.b__law_base tk (ae_v (se_var 3) ae_nil) (len_v len_nil))))))) (sb_one (ss_ret se_bl)) sb_nil)))) (sb_one (ss_ret (se_cmp (os_eq hr.units) (se_lenMk T.k_Column (ok_Column___init__ T) (hr.mono (by decide)) T.m_Column T.b_Column___init__ tk (sa_cons (se_lst (sa_cons (se_make T.k_Reader (ok_Reader___init__ T) (hr.mono (by decide)) T.m_Reader T.b_Reader___init__ tk (sa_cons se_str (sa_cons se_str (sa_cons se_int (sa_cons se_bl (sa_cons se_str (sa_cons se_bl (sa_cons se_bl (sa_cons se_bl sa_nil)))))))) rfl) sa_nil)) sa_nil) rfl (ok_Column___len__ T) (hr.mono (by decide)) T.ln_Column T.lf_Column T.b_Column___len__ T.z_len) se_int (nomark _)))))))
end
def mkTX {K : PySem.W.Frag} {mg : Str → Option Value} {h : Heap} (X : K.In h) (NS : h.Ns mainGlobals mg)
    {f_is_one : Addr} {od_is_one an_is_one : Option Addr} {sl_is_one : Array (Option Value)} {oc_is_one kV_is_one dc_is_one pm_is_one cd_is_one ct_is_one : Value}
    {f_is_size : Addr} {od_is_size an_is_size : Option Addr} {sl_is_size : Array (Option Value)} {oc_is_size kV_is_size dc_is_size pm_is_size cd_is_size ct_is_size : Value}
    {f_parts_of : Addr} {od_parts_of an_parts_of : Option Addr} {sl_parts_of : Array (Option Value)} {oc_parts_of kV_parts_of dc_parts_of pm_parts_of cd_parts_of ct_parts_of : Value}
    {f_need_reader : Addr} {od_need_reader an_need_reader : Option Addr} {sl_need_reader : Array (Option Value)} {oc_need_reader kV_need_reader dc_need_reader pm_need_reader cd_need_reader ct_need_reader : Value}
    {f_need_readers : Addr} {od_need_readers an_need_readers : Option Addr} {sl_need_readers : Array (Option Value)} {oc_need_readers kV_need_readers dc_need_readers pm_need_readers cd_need_readers ct_need_readers : Value}
    {f_parts : Addr} {od_parts an_parts : Option Addr} {sl_parts : Array (Option Value)} {oc_parts kV_parts dc_parts pm_parts cd_parts ct_parts : Value}
    {f_is_whole : Addr} {od_is_whole an_is_whole : Option Addr} {sl_is_whole : Array (Option Value)} {oc_is_whole kV_is_whole dc_is_whole pm_is_whole cd_is_whole ct_is_whole : Value}
    {f_can_end : Addr} {od_can_end an_can_end : Option Addr} {sl_can_end : Array (Option Value)} {oc_can_end kV_can_end dc_can_end pm_can_end cd_can_end ct_can_end : Value}
    {f_next_figure : Addr} {od_next_figure an_next_figure : Option Addr} {sl_next_figure : Array (Option Value)} {oc_next_figure kV_next_figure dc_next_figure pm_next_figure cd_next_figure ct_next_figure : Value}
    {f_next_mark : Addr} {od_next_mark an_next_mark : Option Addr} {sl_next_mark : Array (Option Value)} {oc_next_mark kV_next_mark dc_next_mark pm_next_mark cd_next_mark ct_next_mark : Value}
    {f_next_minus : Addr} {od_next_minus an_next_minus : Option Addr} {sl_next_minus : Array (Option Value)} {oc_next_minus kV_next_minus dc_next_minus pm_next_minus cd_next_minus ct_next_minus : Value}
    {f_next_state : Addr} {od_next_state an_next_state : Option Addr} {sl_next_state : Array (Option Value)} {oc_next_state kV_next_state dc_next_state pm_next_state cd_next_state ct_next_state : Value}
    {f_need_length : Addr} {od_need_length an_need_length : Option Addr} {sl_need_length : Array (Option Value)} {oc_need_length kV_need_length dc_need_length pm_need_length cd_need_length ct_need_length : Value}
    {f_count : Addr} {od_count an_count : Option Addr} {sl_count : Array (Option Value)} {oc_count kV_count dc_count pm_count cd_count ct_count : Value}
    {f_need_text : Addr} {od_need_text an_need_text : Option Addr} {sl_need_text : Array (Option Value)} {oc_need_text kV_need_text dc_need_text pm_need_text cd_need_text ct_need_text : Value}
    {f_stop_of : Addr} {od_stop_of an_stop_of : Option Addr} {sl_stop_of : Array (Option Value)} {oc_stop_of kV_stop_of dc_stop_of pm_stop_of cd_stop_of ct_stop_of : Value}
    {f_takes : Addr} {od_takes an_takes : Option Addr} {sl_takes : Array (Option Value)} {oc_takes kV_takes dc_takes pm_takes cd_takes ct_takes : Value}
    {f_tens : Addr} {od_tens an_tens : Option Addr} {sl_tens : Array (Option Value)} {oc_tens kV_tens dc_tens pm_tens cd_tens ct_tens : Value}
    {f_normal : Addr} {od_normal an_normal : Option Addr} {sl_normal : Array (Option Value)} {oc_normal kV_normal dc_normal pm_normal cd_normal ct_normal : Value}
    {f_number_of : Addr} {od_number_of an_number_of : Option Addr} {sl_number_of : Array (Option Value)} {oc_number_of kV_number_of dc_number_of pm_number_of cd_number_of ct_number_of : Value}
    {f_means : Addr} {od_means an_means : Option Addr} {sl_means : Array (Option Value)} {oc_means kV_means dc_means pm_means cd_means ct_means : Value}
    {f_parting : Addr} {od_parting an_parting : Option Addr} {sl_parting : Array (Option Value)} {oc_parting kV_parting dc_parting pm_parting cd_parting ct_parting : Value}
    {f_need_texts : Addr} {od_need_texts an_need_texts : Option Addr} {sl_need_texts : Array (Option Value)} {oc_need_texts kV_need_texts dc_need_texts pm_need_texts cd_need_texts ct_need_texts : Value}
    {f_takers : Addr} {od_takers an_takers : Option Addr} {sl_takers : Array (Option Value)} {oc_takers kV_takers dc_takers pm_takers cd_takers ct_takers : Value}
    {f_word_at : Addr} {od_word_at an_word_at : Option Addr} {sl_word_at : Array (Option Value)} {oc_word_at kV_word_at dc_word_at pm_word_at cd_word_at ct_word_at : Value}
    {f_read : Addr} {od_read an_read : Option Addr} {sl_read : Array (Option Value)} {oc_read kV_read dc_read pm_read cd_read ct_read : Value}
    {f_is_integer : Addr} {od_is_integer an_is_integer : Option Addr} {sl_is_integer : Array (Option Value)} {oc_is_integer kV_is_integer dc_is_integer pm_is_integer cd_is_integer ct_is_integer : Value}
    {f_is_number : Addr} {od_is_number an_is_number : Option Addr} {sl_is_number : Array (Option Value)} {oc_is_number kV_is_number dc_is_number pm_is_number cd_is_number ct_is_number : Value}
    {f_need_number : Addr} {od_need_number an_need_number : Option Addr} {sl_need_number : Array (Option Value)} {oc_need_number kV_need_number dc_need_number pm_need_number cd_need_number ct_need_number : Value}
    {f_grouped : Addr} {od_grouped an_grouped : Option Addr} {sl_grouped : Array (Option Value)} {oc_grouped kV_grouped dc_grouped pm_grouped cd_grouped ct_grouped : Value}
    {f_plain_of : Addr} {od_plain_of an_plain_of : Option Addr} {sl_plain_of : Array (Option Value)} {oc_plain_of kV_plain_of dc_plain_of pm_plain_of cd_plain_of ct_plain_of : Value}
    {f_written_of : Addr} {od_written_of an_written_of : Option Addr} {sl_written_of : Array (Option Value)} {oc_written_of kV_written_of dc_written_of pm_written_of cd_written_of ct_written_of : Value}
    {f_written : Addr} {od_written an_written : Option Addr} {sl_written : Array (Option Value)} {oc_written kV_written dc_written pm_written cd_written ct_written : Value}
    {f_need_numbers : Addr} {od_need_numbers an_need_numbers : Option Addr} {sl_need_numbers : Array (Option Value)} {oc_need_numbers kV_need_numbers dc_need_numbers pm_need_numbers cd_need_numbers ct_need_numbers : Value}
    {f_fitting : Addr} {od_fitting an_fitting : Option Addr} {sl_fitting : Array (Option Value)} {oc_fitting kV_fitting dc_fitting pm_fitting cd_fitting ct_fitting : Value}
    {f__law_taken : Addr} {od__law_taken an__law_taken : Option Addr} {sl__law_taken : Array (Option Value)} {oc__law_taken kV__law_taken dc__law_taken pm__law_taken cd__law_taken ct__law_taken : Value}
    {f__law_call : Addr} {od__law_call an__law_call : Option Addr} {sl__law_call : Array (Option Value)} {oc__law_call kV__law_call dc__law_call pm__law_call cd__law_call ct__law_call : Value}
    {f__law_first : Addr} {od__law_first an__law_first : Option Addr} {sl__law_first : Array (Option Value)} {oc__law_first kV__law_first dc__law_first pm__law_first cd__law_first ct__law_first : Value}
    {f__law_base : Addr} {od__law_base an__law_base : Option Addr} {sl__law_base : Array (Option Value)} {oc__law_base kV__law_base dc__law_base pm__law_base cd__law_base ct__law_base : Value}
    {f_law : Addr} {od_law an_law : Option Addr} {sl_law : Array (Option Value)} {oc_law kV_law dc_law pm_law cd_law ct_law : Value}
    {c_Reader : Addr}
    {f_Reader___init__ : Addr} {od_Reader___init__ an_Reader___init__ : Option Addr} {sl_Reader___init__ : Array (Option Value)} {oc_Reader___init__ kV_Reader___init__ dc_Reader___init__ pm_Reader___init__ cd_Reader___init__ ct_Reader___init__ : Value}
    {c_Column : Addr}
    {f_Column___init__ : Addr} {od_Column___init__ an_Column___init__ : Option Addr} {sl_Column___init__ : Array (Option Value)} {oc_Column___init__ kV_Column___init__ dc_Column___init__ pm_Column___init__ cd_Column___init__ ct_Column___init__ : Value}
    {f_Column___len__ : Addr} {od_Column___len__ an_Column___len__ : Option Addr} {sl_Column___len__ : Array (Option Value)} {oc_Column___len__ kV_Column___len__ dc_Column___len__ pm_Column___len__ cd_Column___len__ ct_Column___len__ : Value}
    {c_ReaderError : Addr}
    {c_BadPart : Addr}
    {c_BadReader : Addr}
    {c_BadReaders : Addr}
    {c_BadText : Addr}
    {c_BadTexts : Addr}
    {c_NotTaken : Addr}
    {c_BadNumber : Addr}
    {c_BadNumbers : Addr}
    {c_BadLength : Addr}
    {c_InvalidText : Addr}
    {f_BadPart___init__ : Addr} {od_BadPart___init__ an_BadPart___init__ : Option Addr} {sl_BadPart___init__ : Array (Option Value)} {oc_BadPart___init__ kV_BadPart___init__ dc_BadPart___init__ pm_BadPart___init__ cd_BadPart___init__ ct_BadPart___init__ : Value}
    {nm_BadPart qn_BadPart : Str} {ns_BadPart : Addr} {bs_BadPart bm_BadPart : List Value} {sn_BadPart : List Str} {su_BadPart : List Value} {ab_BadPart : Bool} {co_BadPart : Option Bool} {dd_BadPart : Option Addr} {x0_BadPart x1_BadPart x2_BadPart x3_BadPart x5_BadPart : Option Value}
    {f_BadReader___init__ : Addr} {od_BadReader___init__ an_BadReader___init__ : Option Addr} {sl_BadReader___init__ : Array (Option Value)} {oc_BadReader___init__ kV_BadReader___init__ dc_BadReader___init__ pm_BadReader___init__ cd_BadReader___init__ ct_BadReader___init__ : Value}
    {nm_BadReader qn_BadReader : Str} {ns_BadReader : Addr} {bs_BadReader bm_BadReader : List Value} {sn_BadReader : List Str} {su_BadReader : List Value} {ab_BadReader : Bool} {co_BadReader : Option Bool} {dd_BadReader : Option Addr} {x0_BadReader x1_BadReader x2_BadReader x3_BadReader x5_BadReader : Option Value}
    {f_BadReaders___init__ : Addr} {od_BadReaders___init__ an_BadReaders___init__ : Option Addr} {sl_BadReaders___init__ : Array (Option Value)} {oc_BadReaders___init__ kV_BadReaders___init__ dc_BadReaders___init__ pm_BadReaders___init__ cd_BadReaders___init__ ct_BadReaders___init__ : Value}
    {nm_BadReaders qn_BadReaders : Str} {ns_BadReaders : Addr} {bs_BadReaders bm_BadReaders : List Value} {sn_BadReaders : List Str} {su_BadReaders : List Value} {ab_BadReaders : Bool} {co_BadReaders : Option Bool} {dd_BadReaders : Option Addr} {x0_BadReaders x1_BadReaders x2_BadReaders x3_BadReaders x5_BadReaders : Option Value}
    {f_BadText___init__ : Addr} {od_BadText___init__ an_BadText___init__ : Option Addr} {sl_BadText___init__ : Array (Option Value)} {oc_BadText___init__ kV_BadText___init__ dc_BadText___init__ pm_BadText___init__ cd_BadText___init__ ct_BadText___init__ : Value}
    {nm_BadText qn_BadText : Str} {ns_BadText : Addr} {bs_BadText bm_BadText : List Value} {sn_BadText : List Str} {su_BadText : List Value} {ab_BadText : Bool} {co_BadText : Option Bool} {dd_BadText : Option Addr} {x0_BadText x1_BadText x2_BadText x3_BadText x5_BadText : Option Value}
    {f_BadTexts___init__ : Addr} {od_BadTexts___init__ an_BadTexts___init__ : Option Addr} {sl_BadTexts___init__ : Array (Option Value)} {oc_BadTexts___init__ kV_BadTexts___init__ dc_BadTexts___init__ pm_BadTexts___init__ cd_BadTexts___init__ ct_BadTexts___init__ : Value}
    {nm_BadTexts qn_BadTexts : Str} {ns_BadTexts : Addr} {bs_BadTexts bm_BadTexts : List Value} {sn_BadTexts : List Str} {su_BadTexts : List Value} {ab_BadTexts : Bool} {co_BadTexts : Option Bool} {dd_BadTexts : Option Addr} {x0_BadTexts x1_BadTexts x2_BadTexts x3_BadTexts x5_BadTexts : Option Value}
    {f_NotTaken___init__ : Addr} {od_NotTaken___init__ an_NotTaken___init__ : Option Addr} {sl_NotTaken___init__ : Array (Option Value)} {oc_NotTaken___init__ kV_NotTaken___init__ dc_NotTaken___init__ pm_NotTaken___init__ cd_NotTaken___init__ ct_NotTaken___init__ : Value}
    {nm_NotTaken qn_NotTaken : Str} {ns_NotTaken : Addr} {bs_NotTaken bm_NotTaken : List Value} {sn_NotTaken : List Str} {su_NotTaken : List Value} {ab_NotTaken : Bool} {co_NotTaken : Option Bool} {dd_NotTaken : Option Addr} {x0_NotTaken x1_NotTaken x2_NotTaken x3_NotTaken x5_NotTaken : Option Value}
    {f_BadNumber___init__ : Addr} {od_BadNumber___init__ an_BadNumber___init__ : Option Addr} {sl_BadNumber___init__ : Array (Option Value)} {oc_BadNumber___init__ kV_BadNumber___init__ dc_BadNumber___init__ pm_BadNumber___init__ cd_BadNumber___init__ ct_BadNumber___init__ : Value}
    {nm_BadNumber qn_BadNumber : Str} {ns_BadNumber : Addr} {bs_BadNumber bm_BadNumber : List Value} {sn_BadNumber : List Str} {su_BadNumber : List Value} {ab_BadNumber : Bool} {co_BadNumber : Option Bool} {dd_BadNumber : Option Addr} {x0_BadNumber x1_BadNumber x2_BadNumber x3_BadNumber x5_BadNumber : Option Value}
    {f_BadNumbers___init__ : Addr} {od_BadNumbers___init__ an_BadNumbers___init__ : Option Addr} {sl_BadNumbers___init__ : Array (Option Value)} {oc_BadNumbers___init__ kV_BadNumbers___init__ dc_BadNumbers___init__ pm_BadNumbers___init__ cd_BadNumbers___init__ ct_BadNumbers___init__ : Value}
    {nm_BadNumbers qn_BadNumbers : Str} {ns_BadNumbers : Addr} {bs_BadNumbers bm_BadNumbers : List Value} {sn_BadNumbers : List Str} {su_BadNumbers : List Value} {ab_BadNumbers : Bool} {co_BadNumbers : Option Bool} {dd_BadNumbers : Option Addr} {x0_BadNumbers x1_BadNumbers x2_BadNumbers x3_BadNumbers x5_BadNumbers : Option Value}
    {f_BadLength___init__ : Addr} {od_BadLength___init__ an_BadLength___init__ : Option Addr} {sl_BadLength___init__ : Array (Option Value)} {oc_BadLength___init__ kV_BadLength___init__ dc_BadLength___init__ pm_BadLength___init__ cd_BadLength___init__ ct_BadLength___init__ : Value}
    {nm_BadLength qn_BadLength : Str} {ns_BadLength : Addr} {bs_BadLength bm_BadLength : List Value} {sn_BadLength : List Str} {su_BadLength : List Value} {ab_BadLength : Bool} {co_BadLength : Option Bool} {dd_BadLength : Option Addr} {x0_BadLength x1_BadLength x2_BadLength x3_BadLength x5_BadLength : Option Value}
    {f_InvalidText___init__ : Addr} {od_InvalidText___init__ an_InvalidText___init__ : Option Addr} {sl_InvalidText___init__ : Array (Option Value)} {oc_InvalidText___init__ kV_InvalidText___init__ dc_InvalidText___init__ pm_InvalidText___init__ cd_InvalidText___init__ ct_InvalidText___init__ : Value}
    {nm_InvalidText qn_InvalidText : Str} {ns_InvalidText : Addr} {bs_InvalidText bm_InvalidText : List Value} {sn_InvalidText : List Str} {su_InvalidText : List Value} {ab_InvalidText : Bool} {co_InvalidText : Option Bool} {dd_InvalidText : Option Addr} {x0_InvalidText x1_InvalidText x2_InvalidText x3_InvalidText x5_InvalidText : Option Value}
    {t_BEGIN_2 : Tok}
    {t_BEGIN_3 : Tok}
    {t_BEGIN_4 : Tok}
    {t_BEGIN_5 : Tok}
    {p_BEGIN_1 : Addr} {pd_BEGIN_1 : Option Addr} {pn_BEGIN_1 : Nat} {ps_BEGIN_1 : Array (Option Value)}
    {t_COMMAS_2 : Tok}
    {t_COMMAS_3 : Tok}
    {t_COMMAS_4 : Tok}
    {t_COMMAS_5 : Tok}
    {t_COMMAS_6 : Tok}
    {p_COMMAS_1 : Addr} {pd_COMMAS_1 : Option Addr} {pn_COMMAS_1 : Nat} {ps_COMMAS_1 : Array (Option Value)}
    {t_FIGURES_1 : Tok}
    {t_MOST_EXPONENT_1 : Tok}
    {t_MOST_GROUP_1 : Tok}
    {t_MOST_LENGTH_1 : Tok}
    {t_MOST_READERS_1 : Tok}
    {t_MOST_SIGNS_1 : Tok}
    {t_MOST_TEXTS_1 : Tok}
    {t_MOST_WHOLE_1 : Tok}
    {t_POINTS_2 : Tok}
    {t_POINTS_3 : Tok}
    {t_POINTS_4 : Tok}
    {p_POINTS_1 : Addr} {pd_POINTS_1 : Option Addr} {pn_POINTS_1 : Nat} {ps_POINTS_1 : Array (Option Value)}
    {t_POINT_SIGNS_2 : Tok}
    {t_POINT_SIGNS_3 : Tok}
    {t_POINT_SIGNS_4 : Tok}
    {p_POINT_SIGNS_1 : Addr} {pd_POINT_SIGNS_1 : Option Addr} {pn_POINT_SIGNS_1 : Nat} {ps_POINT_SIGNS_1 : Array (Option Value)}
    {t_POINT_WORDS_2 : Tok}
    {t_POINT_WORDS_3 : Tok}
    {t_POINT_WORDS_4 : Tok}
    {p_POINT_WORDS_1 : Addr} {pd_POINT_WORDS_1 : Option Addr} {pn_POINT_WORDS_1 : Nat} {ps_POINT_WORDS_1 : Array (Option Value)}
    {t_SIGNS_2 : Tok}
    {t_SIGNS_3 : Tok}
    {t_SIGNS_4 : Tok}
    {p_SIGNS_1 : Addr} {pd_SIGNS_1 : Option Addr} {pn_SIGNS_1 : Nat} {ps_SIGNS_1 : Array (Option Value)}
    {t_SIGNS_READ_1 : Tok}
    (a_is_one : PySem.W.nsIn K mainGlobals "is_one" = some (some (.ref f_is_one)))
    (a_is_size : PySem.W.nsIn K mainGlobals "is_size" = some (some (.ref f_is_size)))
    (a_parts_of : PySem.W.nsIn K mainGlobals "parts_of" = some (some (.ref f_parts_of)))
    (a_need_reader : PySem.W.nsIn K mainGlobals "need_reader" = some (some (.ref f_need_reader)))
    (a_need_readers : PySem.W.nsIn K mainGlobals "need_readers" = some (some (.ref f_need_readers)))
    (a_parts : PySem.W.nsIn K mainGlobals "parts" = some (some (.ref f_parts)))
    (a_is_whole : PySem.W.nsIn K mainGlobals "is_whole" = some (some (.ref f_is_whole)))
    (a_can_end : PySem.W.nsIn K mainGlobals "can_end" = some (some (.ref f_can_end)))
    (a_next_figure : PySem.W.nsIn K mainGlobals "next_figure" = some (some (.ref f_next_figure)))
    (a_next_mark : PySem.W.nsIn K mainGlobals "next_mark" = some (some (.ref f_next_mark)))
    (a_next_minus : PySem.W.nsIn K mainGlobals "next_minus" = some (some (.ref f_next_minus)))
    (a_next_state : PySem.W.nsIn K mainGlobals "next_state" = some (some (.ref f_next_state)))
    (a_need_length : PySem.W.nsIn K mainGlobals "need_length" = some (some (.ref f_need_length)))
    (a_count : PySem.W.nsIn K mainGlobals "count" = some (some (.ref f_count)))
    (a_need_text : PySem.W.nsIn K mainGlobals "need_text" = some (some (.ref f_need_text)))
    (a_stop_of : PySem.W.nsIn K mainGlobals "stop_of" = some (some (.ref f_stop_of)))
    (a_takes : PySem.W.nsIn K mainGlobals "takes" = some (some (.ref f_takes)))
    (a_tens : PySem.W.nsIn K mainGlobals "tens" = some (some (.ref f_tens)))
    (a_normal : PySem.W.nsIn K mainGlobals "normal" = some (some (.ref f_normal)))
    (a_number_of : PySem.W.nsIn K mainGlobals "number_of" = some (some (.ref f_number_of)))
    (a_means : PySem.W.nsIn K mainGlobals "means" = some (some (.ref f_means)))
    (a_parting : PySem.W.nsIn K mainGlobals "parting" = some (some (.ref f_parting)))
    (a_need_texts : PySem.W.nsIn K mainGlobals "need_texts" = some (some (.ref f_need_texts)))
    (a_takers : PySem.W.nsIn K mainGlobals "takers" = some (some (.ref f_takers)))
    (a_word_at : PySem.W.nsIn K mainGlobals "word_at" = some (some (.ref f_word_at)))
    (a_read : PySem.W.nsIn K mainGlobals "read" = some (some (.ref f_read)))
    (a_is_integer : PySem.W.nsIn K mainGlobals "is_integer" = some (some (.ref f_is_integer)))
    (a_is_number : PySem.W.nsIn K mainGlobals "is_number" = some (some (.ref f_is_number)))
    (a_need_number : PySem.W.nsIn K mainGlobals "need_number" = some (some (.ref f_need_number)))
    (a_grouped : PySem.W.nsIn K mainGlobals "grouped" = some (some (.ref f_grouped)))
    (a_plain_of : PySem.W.nsIn K mainGlobals "plain_of" = some (some (.ref f_plain_of)))
    (a_written_of : PySem.W.nsIn K mainGlobals "written_of" = some (some (.ref f_written_of)))
    (a_written : PySem.W.nsIn K mainGlobals "written" = some (some (.ref f_written)))
    (a_need_numbers : PySem.W.nsIn K mainGlobals "need_numbers" = some (some (.ref f_need_numbers)))
    (a_fitting : PySem.W.nsIn K mainGlobals "fitting" = some (some (.ref f_fitting)))
    (a__law_taken : PySem.W.nsIn K mainGlobals "_law_taken" = some (some (.ref f__law_taken)))
    (a__law_call : PySem.W.nsIn K mainGlobals "_law_call" = some (some (.ref f__law_call)))
    (a__law_first : PySem.W.nsIn K mainGlobals "_law_first" = some (some (.ref f__law_first)))
    (a__law_base : PySem.W.nsIn K mainGlobals "_law_base" = some (some (.ref f__law_base)))
    (a_law : PySem.W.nsIn K mainGlobals "law" = some (some (.ref f_law)))
    (a_Reader : PySem.W.nsIn K mainGlobals "Reader" = some (some (.ref c_Reader)))
    (a_Column : PySem.W.nsIn K mainGlobals "Column" = some (some (.ref c_Column)))
    (a_ReaderError : PySem.W.nsIn K mainGlobals "ReaderError" = some (some (.ref c_ReaderError)))
    (a_BadPart : PySem.W.nsIn K mainGlobals "BadPart" = some (some (.ref c_BadPart)))
    (a_BadReader : PySem.W.nsIn K mainGlobals "BadReader" = some (some (.ref c_BadReader)))
    (a_BadReaders : PySem.W.nsIn K mainGlobals "BadReaders" = some (some (.ref c_BadReaders)))
    (a_BadText : PySem.W.nsIn K mainGlobals "BadText" = some (some (.ref c_BadText)))
    (a_BadTexts : PySem.W.nsIn K mainGlobals "BadTexts" = some (some (.ref c_BadTexts)))
    (a_NotTaken : PySem.W.nsIn K mainGlobals "NotTaken" = some (some (.ref c_NotTaken)))
    (a_BadNumber : PySem.W.nsIn K mainGlobals "BadNumber" = some (some (.ref c_BadNumber)))
    (a_BadNumbers : PySem.W.nsIn K mainGlobals "BadNumbers" = some (some (.ref c_BadNumbers)))
    (a_BadLength : PySem.W.nsIn K mainGlobals "BadLength" = some (some (.ref c_BadLength)))
    (a_InvalidText : PySem.W.nsIn K mainGlobals "InvalidText" = some (some (.ref c_InvalidText)))
    (ac_BEGIN : PySem.W.nsIn K mainGlobals "BEGIN" = some (some (.ref p_BEGIN_1)))
    (ac_COMMAS : PySem.W.nsIn K mainGlobals "COMMAS" = some (some (.ref p_COMMAS_1)))
    (ac_FIGURES : PySem.W.nsIn K mainGlobals "FIGURES" = some (some (.str "0123456789" t_FIGURES_1)))
    (ac_MOST_EXPONENT : PySem.W.nsIn K mainGlobals "MOST_EXPONENT" = some (some (.int 30 t_MOST_EXPONENT_1)))
    (ac_MOST_GROUP : PySem.W.nsIn K mainGlobals "MOST_GROUP" = some (some (.int 3 t_MOST_GROUP_1)))
    (ac_MOST_LENGTH : PySem.W.nsIn K mainGlobals "MOST_LENGTH" = some (some (.int 30 t_MOST_LENGTH_1)))
    (ac_MOST_READERS : PySem.W.nsIn K mainGlobals "MOST_READERS" = some (some (.int 4 t_MOST_READERS_1)))
    (ac_MOST_SIGNS : PySem.W.nsIn K mainGlobals "MOST_SIGNS" = some (some (.int 100 t_MOST_SIGNS_1)))
    (ac_MOST_TEXTS : PySem.W.nsIn K mainGlobals "MOST_TEXTS" = some (some (.int 20 t_MOST_TEXTS_1)))
    (ac_MOST_WHOLE : PySem.W.nsIn K mainGlobals "MOST_WHOLE" = some (some (.int 1000000000000000000000000000000 t_MOST_WHOLE_1)))
    (ac_POINTS : PySem.W.nsIn K mainGlobals "POINTS" = some (some (.ref p_POINTS_1)))
    (ac_POINT_SIGNS : PySem.W.nsIn K mainGlobals "POINT_SIGNS" = some (some (.ref p_POINT_SIGNS_1)))
    (ac_POINT_WORDS : PySem.W.nsIn K mainGlobals "POINT_WORDS" = some (some (.ref p_POINT_WORDS_1)))
    (ac_SIGNS : PySem.W.nsIn K mainGlobals "SIGNS" = some (some (.ref p_SIGNS_1)))
    (ac_SIGNS_READ : PySem.W.nsIn K mainGlobals "SIGNS_READ" = some (some (.str " ',-.0123456789e" t_SIGNS_READ_1)))
    (in_Reader : PySem.W.findIn K (.ref c_Reader) "__init__" = some (some (.ref f_Reader___init__)))
    (in_Column : PySem.W.findIn K (.ref c_Column) "__init__" = some (some (.ref f_Column___init__)))
    (in_len_Column : PySem.W.findIn K (.ref c_Column) "__len__" = some (some (.ref f_Column___len__)))
    (xi_BadPart : PySem.W.findIn K (.ref c_BadPart) "__init__" = some (some (.ref f_BadPart___init__)))
    (xi_BadReader : PySem.W.findIn K (.ref c_BadReader) "__init__" = some (some (.ref f_BadReader___init__)))
    (xi_BadReaders : PySem.W.findIn K (.ref c_BadReaders) "__init__" = some (some (.ref f_BadReaders___init__)))
    (xi_BadText : PySem.W.findIn K (.ref c_BadText) "__init__" = some (some (.ref f_BadText___init__)))
    (xi_BadTexts : PySem.W.findIn K (.ref c_BadTexts) "__init__" = some (some (.ref f_BadTexts___init__)))
    (xi_NotTaken : PySem.W.findIn K (.ref c_NotTaken) "__init__" = some (some (.ref f_NotTaken___init__)))
    (xi_BadNumber : PySem.W.findIn K (.ref c_BadNumber) "__init__" = some (some (.ref f_BadNumber___init__)))
    (xi_BadNumbers : PySem.W.findIn K (.ref c_BadNumbers) "__init__" = some (some (.ref f_BadNumbers___init__)))
    (xi_BadLength : PySem.W.findIn K (.ref c_BadLength) "__init__" = some (some (.ref f_BadLength___init__)))
    (xi_InvalidText : PySem.W.findIn K (.ref c_InvalidText) "__init__" = some (some (.ref f_InvalidText___init__)))
    (lc_SIGNS_1 : K.lookup p_SIGNS_1 = some ⟨.type "tuple", pd_SIGNS_1, .seq #[(.str "none" t_SIGNS_2), (.str "ahead" t_SIGNS_3), (.str "behind" t_SIGNS_4)] pn_SIGNS_1, ps_SIGNS_1⟩)
    (lc_POINT_WORDS_1 : K.lookup p_POINT_WORDS_1 = some ⟨.type "tuple", pd_POINT_WORDS_1, .seq #[(.str "dot" t_POINT_WORDS_2), (.str "comma" t_POINT_WORDS_3), (.str "none" t_POINT_WORDS_4)] pn_POINT_WORDS_1, ps_POINT_WORDS_1⟩)
    (lc_POINT_SIGNS_1 : K.lookup p_POINT_SIGNS_1 = some ⟨.type "tuple", pd_POINT_SIGNS_1, .seq #[(.str "." t_POINT_SIGNS_2), (.str "," t_POINT_SIGNS_3), (.str "" t_POINT_SIGNS_4)] pn_POINT_SIGNS_1, ps_POINT_SIGNS_1⟩)
    (lc_POINTS_1 : K.lookup p_POINTS_1 = some ⟨.type "tuple", pd_POINTS_1, .seq #[(.str "." t_POINTS_2), (.str "," t_POINTS_3), (.str "" t_POINTS_4)] pn_POINTS_1, ps_POINTS_1⟩)
    (lc_COMMAS_1 : K.lookup p_COMMAS_1 = some ⟨.type "tuple", pd_COMMAS_1, .seq #[(.str "." t_COMMAS_2), (.str "," t_COMMAS_3), (.str "'" t_COMMAS_4), (.str " " t_COMMAS_5), (.str "" t_COMMAS_6)] pn_COMMAS_1, ps_COMMAS_1⟩)
    (lc_BEGIN_1 : K.lookup p_BEGIN_1 = some ⟨.type "tuple", pd_BEGIN_1, .seq #[(.str "ahead" t_BEGIN_2), (.int 0 t_BEGIN_3), (.int 0 t_BEGIN_4), (.int 0 t_BEGIN_5)] pn_BEGIN_1, ps_BEGIN_1⟩)
    (l_is_one : K.lookup f_is_one = some ⟨oc_is_one, od_is_one, .func (PySem.W.fnOf "is_one" "is_one" (defArgs (s_is_one)) (defBody (s_is_one)) (defScope (s_is_one)) .none kV_is_one dc_is_one pm_is_one an_is_one cd_is_one ct_is_one), sl_is_one⟩)
    (cc_is_one : PySem.W.codeIn K cd_is_one "is_one" = true)
    (kp_is_one : PySem.W.keepIn K (.ref f_is_one) = true)
    (l_is_size : K.lookup f_is_size = some ⟨oc_is_size, od_is_size, .func (PySem.W.fnOf "is_size" "is_size" (defArgs (s_is_size)) (defBody (s_is_size)) (defScope (s_is_size)) .none kV_is_size dc_is_size pm_is_size an_is_size cd_is_size ct_is_size), sl_is_size⟩)
    (cc_is_size : PySem.W.codeIn K cd_is_size "is_size" = true)
    (kp_is_size : PySem.W.keepIn K (.ref f_is_size) = true)
    (l_parts_of : K.lookup f_parts_of = some ⟨oc_parts_of, od_parts_of, .func (PySem.W.fnOf "parts_of" "parts_of" (defArgs (s_parts_of)) (defBody (s_parts_of)) (defScope (s_parts_of)) .none kV_parts_of dc_parts_of pm_parts_of an_parts_of cd_parts_of ct_parts_of), sl_parts_of⟩)
    (cc_parts_of : PySem.W.codeIn K cd_parts_of "parts_of" = true)
    (kp_parts_of : PySem.W.keepIn K (.ref f_parts_of) = true)
    (l_need_reader : K.lookup f_need_reader = some ⟨oc_need_reader, od_need_reader, .func (PySem.W.fnOf "need_reader" "need_reader" (defArgs (s_need_reader)) (defBody (s_need_reader)) (defScope (s_need_reader)) .none kV_need_reader dc_need_reader pm_need_reader an_need_reader cd_need_reader ct_need_reader), sl_need_reader⟩)
    (cc_need_reader : PySem.W.codeIn K cd_need_reader "need_reader" = true)
    (kp_need_reader : PySem.W.keepIn K (.ref f_need_reader) = true)
    (l_need_readers : K.lookup f_need_readers = some ⟨oc_need_readers, od_need_readers, .func (PySem.W.fnOf "need_readers" "need_readers" (defArgs (s_need_readers)) (defBody (s_need_readers)) (defScope (s_need_readers)) .none kV_need_readers dc_need_readers pm_need_readers an_need_readers cd_need_readers ct_need_readers), sl_need_readers⟩)
    (cc_need_readers : PySem.W.codeIn K cd_need_readers "need_readers" = true)
    (kp_need_readers : PySem.W.keepIn K (.ref f_need_readers) = true)
    (l_parts : K.lookup f_parts = some ⟨oc_parts, od_parts, .func (PySem.W.fnOf "parts" "parts" (defArgs (s_parts)) (defBody (s_parts)) (defScope (s_parts)) .none kV_parts dc_parts pm_parts an_parts cd_parts ct_parts), sl_parts⟩)
    (cc_parts : PySem.W.codeIn K cd_parts "parts" = true)
    (kp_parts : PySem.W.keepIn K (.ref f_parts) = true)
    (l_is_whole : K.lookup f_is_whole = some ⟨oc_is_whole, od_is_whole, .func (PySem.W.fnOf "is_whole" "is_whole" (defArgs (s_is_whole)) (defBody (s_is_whole)) (defScope (s_is_whole)) .none kV_is_whole dc_is_whole pm_is_whole an_is_whole cd_is_whole ct_is_whole), sl_is_whole⟩)
    (cc_is_whole : PySem.W.codeIn K cd_is_whole "is_whole" = true)
    (kp_is_whole : PySem.W.keepIn K (.ref f_is_whole) = true)
    (l_can_end : K.lookup f_can_end = some ⟨oc_can_end, od_can_end, .func (PySem.W.fnOf "can_end" "can_end" (defArgs (s_can_end)) (defBody (s_can_end)) (defScope (s_can_end)) .none kV_can_end dc_can_end pm_can_end an_can_end cd_can_end ct_can_end), sl_can_end⟩)
    (cc_can_end : PySem.W.codeIn K cd_can_end "can_end" = true)
    (kp_can_end : PySem.W.keepIn K (.ref f_can_end) = true)
    (l_next_figure : K.lookup f_next_figure = some ⟨oc_next_figure, od_next_figure, .func (PySem.W.fnOf "next_figure" "next_figure" (defArgs (s_next_figure)) (defBody (s_next_figure)) (defScope (s_next_figure)) .none kV_next_figure dc_next_figure pm_next_figure an_next_figure cd_next_figure ct_next_figure), sl_next_figure⟩)
    (cc_next_figure : PySem.W.codeIn K cd_next_figure "next_figure" = true)
    (kp_next_figure : PySem.W.keepIn K (.ref f_next_figure) = true)
    (l_next_mark : K.lookup f_next_mark = some ⟨oc_next_mark, od_next_mark, .func (PySem.W.fnOf "next_mark" "next_mark" (defArgs (s_next_mark)) (defBody (s_next_mark)) (defScope (s_next_mark)) .none kV_next_mark dc_next_mark pm_next_mark an_next_mark cd_next_mark ct_next_mark), sl_next_mark⟩)
    (cc_next_mark : PySem.W.codeIn K cd_next_mark "next_mark" = true)
    (kp_next_mark : PySem.W.keepIn K (.ref f_next_mark) = true)
    (l_next_minus : K.lookup f_next_minus = some ⟨oc_next_minus, od_next_minus, .func (PySem.W.fnOf "next_minus" "next_minus" (defArgs (s_next_minus)) (defBody (s_next_minus)) (defScope (s_next_minus)) .none kV_next_minus dc_next_minus pm_next_minus an_next_minus cd_next_minus ct_next_minus), sl_next_minus⟩)
    (cc_next_minus : PySem.W.codeIn K cd_next_minus "next_minus" = true)
    (kp_next_minus : PySem.W.keepIn K (.ref f_next_minus) = true)
    (l_next_state : K.lookup f_next_state = some ⟨oc_next_state, od_next_state, .func (PySem.W.fnOf "next_state" "next_state" (defArgs (s_next_state)) (defBody (s_next_state)) (defScope (s_next_state)) .none kV_next_state dc_next_state pm_next_state an_next_state cd_next_state ct_next_state), sl_next_state⟩)
    (cc_next_state : PySem.W.codeIn K cd_next_state "next_state" = true)
    (kp_next_state : PySem.W.keepIn K (.ref f_next_state) = true)
    (l_need_length : K.lookup f_need_length = some ⟨oc_need_length, od_need_length, .func (PySem.W.fnOf "need_length" "need_length" (defArgs (s_need_length)) (defBody (s_need_length)) (defScope (s_need_length)) .none kV_need_length dc_need_length pm_need_length an_need_length cd_need_length ct_need_length), sl_need_length⟩)
    (cc_need_length : PySem.W.codeIn K cd_need_length "need_length" = true)
    (kp_need_length : PySem.W.keepIn K (.ref f_need_length) = true)
    (l_count : K.lookup f_count = some ⟨oc_count, od_count, .func (PySem.W.fnOf "count" "count" (defArgs (s_count)) (defBody (s_count)) (defScope (s_count)) .none kV_count dc_count pm_count an_count cd_count ct_count), sl_count⟩)
    (cc_count : PySem.W.codeIn K cd_count "count" = true)
    (kp_count : PySem.W.keepIn K (.ref f_count) = true)
    (l_need_text : K.lookup f_need_text = some ⟨oc_need_text, od_need_text, .func (PySem.W.fnOf "need_text" "need_text" (defArgs (s_need_text)) (defBody (s_need_text)) (defScope (s_need_text)) .none kV_need_text dc_need_text pm_need_text an_need_text cd_need_text ct_need_text), sl_need_text⟩)
    (cc_need_text : PySem.W.codeIn K cd_need_text "need_text" = true)
    (kp_need_text : PySem.W.keepIn K (.ref f_need_text) = true)
    (l_stop_of : K.lookup f_stop_of = some ⟨oc_stop_of, od_stop_of, .func (PySem.W.fnOf "stop_of" "stop_of" (defArgs (s_stop_of)) (defBody (s_stop_of)) (defScope (s_stop_of)) .none kV_stop_of dc_stop_of pm_stop_of an_stop_of cd_stop_of ct_stop_of), sl_stop_of⟩)
    (cc_stop_of : PySem.W.codeIn K cd_stop_of "stop_of" = true)
    (kp_stop_of : PySem.W.keepIn K (.ref f_stop_of) = true)
    (l_takes : K.lookup f_takes = some ⟨oc_takes, od_takes, .func (PySem.W.fnOf "takes" "takes" (defArgs (s_takes)) (defBody (s_takes)) (defScope (s_takes)) .none kV_takes dc_takes pm_takes an_takes cd_takes ct_takes), sl_takes⟩)
    (cc_takes : PySem.W.codeIn K cd_takes "takes" = true)
    (kp_takes : PySem.W.keepIn K (.ref f_takes) = true)
    (l_tens : K.lookup f_tens = some ⟨oc_tens, od_tens, .func (PySem.W.fnOf "tens" "tens" (defArgs (s_tens)) (defBody (s_tens)) (defScope (s_tens)) .none kV_tens dc_tens pm_tens an_tens cd_tens ct_tens), sl_tens⟩)
    (cc_tens : PySem.W.codeIn K cd_tens "tens" = true)
    (kp_tens : PySem.W.keepIn K (.ref f_tens) = true)
    (l_normal : K.lookup f_normal = some ⟨oc_normal, od_normal, .func (PySem.W.fnOf "normal" "normal" (defArgs (s_normal)) (defBody (s_normal)) (defScope (s_normal)) .none kV_normal dc_normal pm_normal an_normal cd_normal ct_normal), sl_normal⟩)
    (cc_normal : PySem.W.codeIn K cd_normal "normal" = true)
    (kp_normal : PySem.W.keepIn K (.ref f_normal) = true)
    (l_number_of : K.lookup f_number_of = some ⟨oc_number_of, od_number_of, .func (PySem.W.fnOf "number_of" "number_of" (defArgs (s_number_of)) (defBody (s_number_of)) (defScope (s_number_of)) .none kV_number_of dc_number_of pm_number_of an_number_of cd_number_of ct_number_of), sl_number_of⟩)
    (cc_number_of : PySem.W.codeIn K cd_number_of "number_of" = true)
    (kp_number_of : PySem.W.keepIn K (.ref f_number_of) = true)
    (l_means : K.lookup f_means = some ⟨oc_means, od_means, .func (PySem.W.fnOf "means" "means" (defArgs (s_means)) (defBody (s_means)) (defScope (s_means)) .none kV_means dc_means pm_means an_means cd_means ct_means), sl_means⟩)
    (cc_means : PySem.W.codeIn K cd_means "means" = true)
    (kp_means : PySem.W.keepIn K (.ref f_means) = true)
    (l_parting : K.lookup f_parting = some ⟨oc_parting, od_parting, .func (PySem.W.fnOf "parting" "parting" (defArgs (s_parting)) (defBody (s_parting)) (defScope (s_parting)) .none kV_parting dc_parting pm_parting an_parting cd_parting ct_parting), sl_parting⟩)
    (cc_parting : PySem.W.codeIn K cd_parting "parting" = true)
    (kp_parting : PySem.W.keepIn K (.ref f_parting) = true)
    (l_need_texts : K.lookup f_need_texts = some ⟨oc_need_texts, od_need_texts, .func (PySem.W.fnOf "need_texts" "need_texts" (defArgs (s_need_texts)) (defBody (s_need_texts)) (defScope (s_need_texts)) .none kV_need_texts dc_need_texts pm_need_texts an_need_texts cd_need_texts ct_need_texts), sl_need_texts⟩)
    (cc_need_texts : PySem.W.codeIn K cd_need_texts "need_texts" = true)
    (kp_need_texts : PySem.W.keepIn K (.ref f_need_texts) = true)
    (l_takers : K.lookup f_takers = some ⟨oc_takers, od_takers, .func (PySem.W.fnOf "takers" "takers" (defArgs (s_takers)) (defBody (s_takers)) (defScope (s_takers)) .none kV_takers dc_takers pm_takers an_takers cd_takers ct_takers), sl_takers⟩)
    (cc_takers : PySem.W.codeIn K cd_takers "takers" = true)
    (kp_takers : PySem.W.keepIn K (.ref f_takers) = true)
    (l_word_at : K.lookup f_word_at = some ⟨oc_word_at, od_word_at, .func (PySem.W.fnOf "word_at" "word_at" (defArgs (s_word_at)) (defBody (s_word_at)) (defScope (s_word_at)) .none kV_word_at dc_word_at pm_word_at an_word_at cd_word_at ct_word_at), sl_word_at⟩)
    (cc_word_at : PySem.W.codeIn K cd_word_at "word_at" = true)
    (kp_word_at : PySem.W.keepIn K (.ref f_word_at) = true)
    (l_read : K.lookup f_read = some ⟨oc_read, od_read, .func (PySem.W.fnOf "read" "read" (defArgs (s_read)) (defBody (s_read)) (defScope (s_read)) .none kV_read dc_read pm_read an_read cd_read ct_read), sl_read⟩)
    (cc_read : PySem.W.codeIn K cd_read "read" = true)
    (kp_read : PySem.W.keepIn K (.ref f_read) = true)
    (l_is_integer : K.lookup f_is_integer = some ⟨oc_is_integer, od_is_integer, .func (PySem.W.fnOf "is_integer" "is_integer" (defArgs (s_is_integer)) (defBody (s_is_integer)) (defScope (s_is_integer)) .none kV_is_integer dc_is_integer pm_is_integer an_is_integer cd_is_integer ct_is_integer), sl_is_integer⟩)
    (cc_is_integer : PySem.W.codeIn K cd_is_integer "is_integer" = true)
    (kp_is_integer : PySem.W.keepIn K (.ref f_is_integer) = true)
    (l_is_number : K.lookup f_is_number = some ⟨oc_is_number, od_is_number, .func (PySem.W.fnOf "is_number" "is_number" (defArgs (s_is_number)) (defBody (s_is_number)) (defScope (s_is_number)) .none kV_is_number dc_is_number pm_is_number an_is_number cd_is_number ct_is_number), sl_is_number⟩)
    (cc_is_number : PySem.W.codeIn K cd_is_number "is_number" = true)
    (kp_is_number : PySem.W.keepIn K (.ref f_is_number) = true)
    (l_need_number : K.lookup f_need_number = some ⟨oc_need_number, od_need_number, .func (PySem.W.fnOf "need_number" "need_number" (defArgs (s_need_number)) (defBody (s_need_number)) (defScope (s_need_number)) .none kV_need_number dc_need_number pm_need_number an_need_number cd_need_number ct_need_number), sl_need_number⟩)
    (cc_need_number : PySem.W.codeIn K cd_need_number "need_number" = true)
    (kp_need_number : PySem.W.keepIn K (.ref f_need_number) = true)
    (l_grouped : K.lookup f_grouped = some ⟨oc_grouped, od_grouped, .func (PySem.W.fnOf "grouped" "grouped" (defArgs (s_grouped)) (defBody (s_grouped)) (defScope (s_grouped)) .none kV_grouped dc_grouped pm_grouped an_grouped cd_grouped ct_grouped), sl_grouped⟩)
    (cc_grouped : PySem.W.codeIn K cd_grouped "grouped" = true)
    (kp_grouped : PySem.W.keepIn K (.ref f_grouped) = true)
    (l_plain_of : K.lookup f_plain_of = some ⟨oc_plain_of, od_plain_of, .func (PySem.W.fnOf "plain_of" "plain_of" (defArgs (s_plain_of)) (defBody (s_plain_of)) (defScope (s_plain_of)) .none kV_plain_of dc_plain_of pm_plain_of an_plain_of cd_plain_of ct_plain_of), sl_plain_of⟩)
    (cc_plain_of : PySem.W.codeIn K cd_plain_of "plain_of" = true)
    (kp_plain_of : PySem.W.keepIn K (.ref f_plain_of) = true)
    (l_written_of : K.lookup f_written_of = some ⟨oc_written_of, od_written_of, .func (PySem.W.fnOf "written_of" "written_of" (defArgs (s_written_of)) (defBody (s_written_of)) (defScope (s_written_of)) .none kV_written_of dc_written_of pm_written_of an_written_of cd_written_of ct_written_of), sl_written_of⟩)
    (cc_written_of : PySem.W.codeIn K cd_written_of "written_of" = true)
    (kp_written_of : PySem.W.keepIn K (.ref f_written_of) = true)
    (l_written : K.lookup f_written = some ⟨oc_written, od_written, .func (PySem.W.fnOf "written" "written" (defArgs (s_written)) (defBody (s_written)) (defScope (s_written)) .none kV_written dc_written pm_written an_written cd_written ct_written), sl_written⟩)
    (cc_written : PySem.W.codeIn K cd_written "written" = true)
    (kp_written : PySem.W.keepIn K (.ref f_written) = true)
    (l_need_numbers : K.lookup f_need_numbers = some ⟨oc_need_numbers, od_need_numbers, .func (PySem.W.fnOf "need_numbers" "need_numbers" (defArgs (s_need_numbers)) (defBody (s_need_numbers)) (defScope (s_need_numbers)) .none kV_need_numbers dc_need_numbers pm_need_numbers an_need_numbers cd_need_numbers ct_need_numbers), sl_need_numbers⟩)
    (cc_need_numbers : PySem.W.codeIn K cd_need_numbers "need_numbers" = true)
    (kp_need_numbers : PySem.W.keepIn K (.ref f_need_numbers) = true)
    (l_fitting : K.lookup f_fitting = some ⟨oc_fitting, od_fitting, .func (PySem.W.fnOf "fitting" "fitting" (defArgs (s_fitting)) (defBody (s_fitting)) (defScope (s_fitting)) .none kV_fitting dc_fitting pm_fitting an_fitting cd_fitting ct_fitting), sl_fitting⟩)
    (cc_fitting : PySem.W.codeIn K cd_fitting "fitting" = true)
    (kp_fitting : PySem.W.keepIn K (.ref f_fitting) = true)
    (l__law_taken : K.lookup f__law_taken = some ⟨oc__law_taken, od__law_taken, .func (PySem.W.fnOf "_law_taken" "_law_taken" (defArgs (s__law_taken)) (defBody (s__law_taken)) (defScope (s__law_taken)) .none kV__law_taken dc__law_taken pm__law_taken an__law_taken cd__law_taken ct__law_taken), sl__law_taken⟩)
    (cc__law_taken : PySem.W.codeIn K cd__law_taken "_law_taken" = true)
    (kp__law_taken : PySem.W.keepIn K (.ref f__law_taken) = true)
    (l__law_call : K.lookup f__law_call = some ⟨oc__law_call, od__law_call, .func (PySem.W.fnOf "_law_call" "_law_call" (defArgs (s__law_call)) (defBody (s__law_call)) (defScope (s__law_call)) .none kV__law_call dc__law_call pm__law_call an__law_call cd__law_call ct__law_call), sl__law_call⟩)
    (cc__law_call : PySem.W.codeIn K cd__law_call "_law_call" = true)
    (kp__law_call : PySem.W.keepIn K (.ref f__law_call) = true)
    (l__law_first : K.lookup f__law_first = some ⟨oc__law_first, od__law_first, .func (PySem.W.fnOf "_law_first" "_law_first" (defArgs (s__law_first)) (defBody (s__law_first)) (defScope (s__law_first)) .none kV__law_first dc__law_first pm__law_first an__law_first cd__law_first ct__law_first), sl__law_first⟩)
    (cc__law_first : PySem.W.codeIn K cd__law_first "_law_first" = true)
    (kp__law_first : PySem.W.keepIn K (.ref f__law_first) = true)
    (l__law_base : K.lookup f__law_base = some ⟨oc__law_base, od__law_base, .func (PySem.W.fnOf "_law_base" "_law_base" (defArgs (s__law_base)) (defBody (s__law_base)) (defScope (s__law_base)) .none kV__law_base dc__law_base pm__law_base an__law_base cd__law_base ct__law_base), sl__law_base⟩)
    (cc__law_base : PySem.W.codeIn K cd__law_base "_law_base" = true)
    (kp__law_base : PySem.W.keepIn K (.ref f__law_base) = true)
    (l_law : K.lookup f_law = some ⟨oc_law, od_law, .func (PySem.W.fnOf "law" "law" (defArgs (s_law)) (defBody (s_law)) (defScope (s_law)) .none kV_law dc_law pm_law an_law cd_law ct_law), sl_law⟩)
    (cc_law : PySem.W.codeIn K cd_law "law" = true)
    (kp_law : PySem.W.keepIn K (.ref f_law) = true)
    (pg_Reader : PySem.W.plainGet K c_Reader Str.empty = true)
    (hd_Reader : PySem.W.hasDictIn K c_Reader = true)
    (po_Reader : PySem.W.plainOver K c_Reader = true)
    (sa_Reader : PySem.W.findIn K (.ref c_Reader) "__setattr__" = some (some (.builtin "object.__setattr__")))
    (l_Reader___init__ : K.lookup f_Reader___init__ = some ⟨oc_Reader___init__, od_Reader___init__, .func (PySem.W.fnOf "__init__" "Reader.__init__" (defArgs (s_Reader___init__)) (defBody (s_Reader___init__)) (defScope (s_Reader___init__)) .none kV_Reader___init__ dc_Reader___init__ pm_Reader___init__ an_Reader___init__ cd_Reader___init__ ct_Reader___init__), sl_Reader___init__⟩)
    (cc_Reader___init__ : PySem.W.codeIn K cd_Reader___init__ "Reader.__init__" = true)
    (kp_Reader___init__ : PySem.W.keepIn K (.ref f_Reader___init__) = true)
    (mk_Reader : PySem.W.makesIn K c_Reader = true)
    (if_Reader : PySem.W.isFn K (.ref f_Reader___init__) = true)
    (kc_Reader : PySem.W.keepIn K (.ref c_Reader) = true)
    (pg_Column : PySem.W.plainGet K c_Column Str.empty = true)
    (hd_Column : PySem.W.hasDictIn K c_Column = true)
    (po_Column : PySem.W.plainOver K c_Column = true)
    (sa_Column : PySem.W.findIn K (.ref c_Column) "__setattr__" = some (some (.builtin "object.__setattr__")))
    (l_Column___init__ : K.lookup f_Column___init__ = some ⟨oc_Column___init__, od_Column___init__, .func (PySem.W.fnOf "__init__" "Column.__init__" (defArgs (s_Column___init__)) (defBody (s_Column___init__)) (defScope (s_Column___init__)) .none kV_Column___init__ dc_Column___init__ pm_Column___init__ an_Column___init__ cd_Column___init__ ct_Column___init__), sl_Column___init__⟩)
    (cc_Column___init__ : PySem.W.codeIn K cd_Column___init__ "Column.__init__" = true)
    (kp_Column___init__ : PySem.W.keepIn K (.ref f_Column___init__) = true)
    (l_Column___len__ : K.lookup f_Column___len__ = some ⟨oc_Column___len__, od_Column___len__, .func (PySem.W.fnOf "__len__" "Column.__len__" (defArgs (s_Column___len__)) (defBody (s_Column___len__)) (defScope (s_Column___len__)) .none kV_Column___len__ dc_Column___len__ pm_Column___len__ an_Column___len__ cd_Column___len__ ct_Column___len__), sl_Column___len__⟩)
    (cc_Column___len__ : PySem.W.codeIn K cd_Column___len__ "Column.__len__" = true)
    (kp_Column___len__ : PySem.W.keepIn K (.ref f_Column___len__) = true)
    (mk_Column : PySem.W.makesIn K c_Column = true)
    (if_Column : PySem.W.isFn K (.ref f_Column___init__) = true)
    (kc_Column : PySem.W.keepIn K (.ref c_Column) = true)
    (na_Column_eyes : PySem.W.findIn K (.ref c_Column) "eyes" = some none)
    (na_Column_lines : PySem.W.findIn K (.ref c_Column) "lines" = some none)
    (na_Column_seen : PySem.W.findIn K (.ref c_Column) "seen" = some none)
    (na_Reader_dot : PySem.W.findIn K (.ref c_Reader) "dot" = some none)
    (na_Reader_mark : PySem.W.findIn K (.ref c_Reader) "mark" = some none)
    (na_Reader_minus : PySem.W.findIn K (.ref c_Reader) "minus" = some none)
    (na_Reader_naughts : PySem.W.findIn K (.ref c_Reader) "naughts" = some none)
    (na_Reader_power : PySem.W.findIn K (.ref c_Reader) "power" = some none)
    (na_Reader_size : PySem.W.findIn K (.ref c_Reader) "size" = some none)
    (na_Reader_spaces : PySem.W.findIn K (.ref c_Reader) "spaces" = some none)
    (na_Reader_strict : PySem.W.findIn K (.ref c_Reader) "strict" = some none)
    (lnf_Column : PySem.W.isFn K (.ref f_Column___len__) = true)
    (l_BadPart___init__ : K.lookup f_BadPart___init__ = some ⟨oc_BadPart___init__, od_BadPart___init__, .func (PySem.W.fnOf "__init__" "BadPart.__init__" (defArgs (s_BadPart___init__)) (defBody (s_BadPart___init__)) (defScope (s_BadPart___init__)) .none kV_BadPart___init__ dc_BadPart___init__ pm_BadPart___init__ an_BadPart___init__ cd_BadPart___init__ ct_BadPart___init__), sl_BadPart___init__⟩)
    (cc_BadPart___init__ : PySem.W.codeIn K cd_BadPart___init__ "BadPart.__init__" = true)
    (kp_BadPart___init__ : PySem.W.keepIn K (.ref f_BadPart___init__) = true)
    (xc_BadPart : K.lookup c_BadPart = some (excClassObj nm_BadPart qn_BadPart c_BadPart ns_BadPart bs_BadPart bm_BadPart true sn_BadPart su_BadPart ab_BadPart co_BadPart dd_BadPart x0_BadPart x1_BadPart x2_BadPart x3_BadPart x5_BadPart "ValueError.__new__"))
    (xr_BadPart : PySem.HandSPX.refsVE bm_BadPart = true)
    (xs_BadPart : PySem.W.findIn K (.ref c_BadPart) "__setattr__" = some (some (.builtin "object.__setattr__")))
    (xb_BadPart : PySem.W.subIn K (.ref c_BadPart) (.type "BaseException") = some true)
    (xt_BadPart : PySem.W.typeIn K (.ref c_BadPart) = some (.type "type"))
    (xk_BadPart : PySem.W.keepIn K (.ref c_BadPart) = true)
    (xf_BadPart : PySem.W.typeIn K (.ref f_BadPart___init__) = some (.type "function"))
    (xn_BadPart : PySem.W.findIn K (.ref c_BadPart) "part" = some none)
    (l_BadReader___init__ : K.lookup f_BadReader___init__ = some ⟨oc_BadReader___init__, od_BadReader___init__, .func (PySem.W.fnOf "__init__" "BadReader.__init__" (defArgs (s_BadReader___init__)) (defBody (s_BadReader___init__)) (defScope (s_BadReader___init__)) .none kV_BadReader___init__ dc_BadReader___init__ pm_BadReader___init__ an_BadReader___init__ cd_BadReader___init__ ct_BadReader___init__), sl_BadReader___init__⟩)
    (cc_BadReader___init__ : PySem.W.codeIn K cd_BadReader___init__ "BadReader.__init__" = true)
    (kp_BadReader___init__ : PySem.W.keepIn K (.ref f_BadReader___init__) = true)
    (xc_BadReader : K.lookup c_BadReader = some (excClassObj nm_BadReader qn_BadReader c_BadReader ns_BadReader bs_BadReader bm_BadReader true sn_BadReader su_BadReader ab_BadReader co_BadReader dd_BadReader x0_BadReader x1_BadReader x2_BadReader x3_BadReader x5_BadReader "ValueError.__new__"))
    (xr_BadReader : PySem.HandSPX.refsVE bm_BadReader = true)
    (xs_BadReader : PySem.W.findIn K (.ref c_BadReader) "__setattr__" = some (some (.builtin "object.__setattr__")))
    (xb_BadReader : PySem.W.subIn K (.ref c_BadReader) (.type "BaseException") = some true)
    (xt_BadReader : PySem.W.typeIn K (.ref c_BadReader) = some (.type "type"))
    (xk_BadReader : PySem.W.keepIn K (.ref c_BadReader) = true)
    (xf_BadReader : PySem.W.typeIn K (.ref f_BadReader___init__) = some (.type "function"))
    (l_BadReaders___init__ : K.lookup f_BadReaders___init__ = some ⟨oc_BadReaders___init__, od_BadReaders___init__, .func (PySem.W.fnOf "__init__" "BadReaders.__init__" (defArgs (s_BadReaders___init__)) (defBody (s_BadReaders___init__)) (defScope (s_BadReaders___init__)) .none kV_BadReaders___init__ dc_BadReaders___init__ pm_BadReaders___init__ an_BadReaders___init__ cd_BadReaders___init__ ct_BadReaders___init__), sl_BadReaders___init__⟩)
    (cc_BadReaders___init__ : PySem.W.codeIn K cd_BadReaders___init__ "BadReaders.__init__" = true)
    (kp_BadReaders___init__ : PySem.W.keepIn K (.ref f_BadReaders___init__) = true)
    (xc_BadReaders : K.lookup c_BadReaders = some (excClassObj nm_BadReaders qn_BadReaders c_BadReaders ns_BadReaders bs_BadReaders bm_BadReaders true sn_BadReaders su_BadReaders ab_BadReaders co_BadReaders dd_BadReaders x0_BadReaders x1_BadReaders x2_BadReaders x3_BadReaders x5_BadReaders "ValueError.__new__"))
    (xr_BadReaders : PySem.HandSPX.refsVE bm_BadReaders = true)
    (xs_BadReaders : PySem.W.findIn K (.ref c_BadReaders) "__setattr__" = some (some (.builtin "object.__setattr__")))
    (xb_BadReaders : PySem.W.subIn K (.ref c_BadReaders) (.type "BaseException") = some true)
    (xt_BadReaders : PySem.W.typeIn K (.ref c_BadReaders) = some (.type "type"))
    (xk_BadReaders : PySem.W.keepIn K (.ref c_BadReaders) = true)
    (xf_BadReaders : PySem.W.typeIn K (.ref f_BadReaders___init__) = some (.type "function"))
    (xn_BadReaders : PySem.W.findIn K (.ref c_BadReaders) "index" = some none)
    (l_BadText___init__ : K.lookup f_BadText___init__ = some ⟨oc_BadText___init__, od_BadText___init__, .func (PySem.W.fnOf "__init__" "BadText.__init__" (defArgs (s_BadText___init__)) (defBody (s_BadText___init__)) (defScope (s_BadText___init__)) .none kV_BadText___init__ dc_BadText___init__ pm_BadText___init__ an_BadText___init__ cd_BadText___init__ ct_BadText___init__), sl_BadText___init__⟩)
    (cc_BadText___init__ : PySem.W.codeIn K cd_BadText___init__ "BadText.__init__" = true)
    (kp_BadText___init__ : PySem.W.keepIn K (.ref f_BadText___init__) = true)
    (xc_BadText : K.lookup c_BadText = some (excClassObj nm_BadText qn_BadText c_BadText ns_BadText bs_BadText bm_BadText true sn_BadText su_BadText ab_BadText co_BadText dd_BadText x0_BadText x1_BadText x2_BadText x3_BadText x5_BadText "ValueError.__new__"))
    (xr_BadText : PySem.HandSPX.refsVE bm_BadText = true)
    (xs_BadText : PySem.W.findIn K (.ref c_BadText) "__setattr__" = some (some (.builtin "object.__setattr__")))
    (xb_BadText : PySem.W.subIn K (.ref c_BadText) (.type "BaseException") = some true)
    (xt_BadText : PySem.W.typeIn K (.ref c_BadText) = some (.type "type"))
    (xk_BadText : PySem.W.keepIn K (.ref c_BadText) = true)
    (xf_BadText : PySem.W.typeIn K (.ref f_BadText___init__) = some (.type "function"))
    (l_BadTexts___init__ : K.lookup f_BadTexts___init__ = some ⟨oc_BadTexts___init__, od_BadTexts___init__, .func (PySem.W.fnOf "__init__" "BadTexts.__init__" (defArgs (s_BadTexts___init__)) (defBody (s_BadTexts___init__)) (defScope (s_BadTexts___init__)) .none kV_BadTexts___init__ dc_BadTexts___init__ pm_BadTexts___init__ an_BadTexts___init__ cd_BadTexts___init__ ct_BadTexts___init__), sl_BadTexts___init__⟩)
    (cc_BadTexts___init__ : PySem.W.codeIn K cd_BadTexts___init__ "BadTexts.__init__" = true)
    (kp_BadTexts___init__ : PySem.W.keepIn K (.ref f_BadTexts___init__) = true)
    (xc_BadTexts : K.lookup c_BadTexts = some (excClassObj nm_BadTexts qn_BadTexts c_BadTexts ns_BadTexts bs_BadTexts bm_BadTexts true sn_BadTexts su_BadTexts ab_BadTexts co_BadTexts dd_BadTexts x0_BadTexts x1_BadTexts x2_BadTexts x3_BadTexts x5_BadTexts "ValueError.__new__"))
    (xr_BadTexts : PySem.HandSPX.refsVE bm_BadTexts = true)
    (xs_BadTexts : PySem.W.findIn K (.ref c_BadTexts) "__setattr__" = some (some (.builtin "object.__setattr__")))
    (xb_BadTexts : PySem.W.subIn K (.ref c_BadTexts) (.type "BaseException") = some true)
    (xt_BadTexts : PySem.W.typeIn K (.ref c_BadTexts) = some (.type "type"))
    (xk_BadTexts : PySem.W.keepIn K (.ref c_BadTexts) = true)
    (xf_BadTexts : PySem.W.typeIn K (.ref f_BadTexts___init__) = some (.type "function"))
    (xn_BadTexts : PySem.W.findIn K (.ref c_BadTexts) "index" = some none)
    (l_NotTaken___init__ : K.lookup f_NotTaken___init__ = some ⟨oc_NotTaken___init__, od_NotTaken___init__, .func (PySem.W.fnOf "__init__" "NotTaken.__init__" (defArgs (s_NotTaken___init__)) (defBody (s_NotTaken___init__)) (defScope (s_NotTaken___init__)) .none kV_NotTaken___init__ dc_NotTaken___init__ pm_NotTaken___init__ an_NotTaken___init__ cd_NotTaken___init__ ct_NotTaken___init__), sl_NotTaken___init__⟩)
    (cc_NotTaken___init__ : PySem.W.codeIn K cd_NotTaken___init__ "NotTaken.__init__" = true)
    (kp_NotTaken___init__ : PySem.W.keepIn K (.ref f_NotTaken___init__) = true)
    (xc_NotTaken : K.lookup c_NotTaken = some (excClassObj nm_NotTaken qn_NotTaken c_NotTaken ns_NotTaken bs_NotTaken bm_NotTaken true sn_NotTaken su_NotTaken ab_NotTaken co_NotTaken dd_NotTaken x0_NotTaken x1_NotTaken x2_NotTaken x3_NotTaken x5_NotTaken "ValueError.__new__"))
    (xr_NotTaken : PySem.HandSPX.refsVE bm_NotTaken = true)
    (xs_NotTaken : PySem.W.findIn K (.ref c_NotTaken) "__setattr__" = some (some (.builtin "object.__setattr__")))
    (xb_NotTaken : PySem.W.subIn K (.ref c_NotTaken) (.type "BaseException") = some true)
    (xt_NotTaken : PySem.W.typeIn K (.ref c_NotTaken) = some (.type "type"))
    (xk_NotTaken : PySem.W.keepIn K (.ref c_NotTaken) = true)
    (xf_NotTaken : PySem.W.typeIn K (.ref f_NotTaken___init__) = some (.type "function"))
    (xn_NotTaken : PySem.W.findIn K (.ref c_NotTaken) "at" = some none)
    (l_BadNumber___init__ : K.lookup f_BadNumber___init__ = some ⟨oc_BadNumber___init__, od_BadNumber___init__, .func (PySem.W.fnOf "__init__" "BadNumber.__init__" (defArgs (s_BadNumber___init__)) (defBody (s_BadNumber___init__)) (defScope (s_BadNumber___init__)) .none kV_BadNumber___init__ dc_BadNumber___init__ pm_BadNumber___init__ an_BadNumber___init__ cd_BadNumber___init__ ct_BadNumber___init__), sl_BadNumber___init__⟩)
    (cc_BadNumber___init__ : PySem.W.codeIn K cd_BadNumber___init__ "BadNumber.__init__" = true)
    (kp_BadNumber___init__ : PySem.W.keepIn K (.ref f_BadNumber___init__) = true)
    (xc_BadNumber : K.lookup c_BadNumber = some (excClassObj nm_BadNumber qn_BadNumber c_BadNumber ns_BadNumber bs_BadNumber bm_BadNumber true sn_BadNumber su_BadNumber ab_BadNumber co_BadNumber dd_BadNumber x0_BadNumber x1_BadNumber x2_BadNumber x3_BadNumber x5_BadNumber "ValueError.__new__"))
    (xr_BadNumber : PySem.HandSPX.refsVE bm_BadNumber = true)
    (xs_BadNumber : PySem.W.findIn K (.ref c_BadNumber) "__setattr__" = some (some (.builtin "object.__setattr__")))
    (xb_BadNumber : PySem.W.subIn K (.ref c_BadNumber) (.type "BaseException") = some true)
    (xt_BadNumber : PySem.W.typeIn K (.ref c_BadNumber) = some (.type "type"))
    (xk_BadNumber : PySem.W.keepIn K (.ref c_BadNumber) = true)
    (xf_BadNumber : PySem.W.typeIn K (.ref f_BadNumber___init__) = some (.type "function"))
    (l_BadNumbers___init__ : K.lookup f_BadNumbers___init__ = some ⟨oc_BadNumbers___init__, od_BadNumbers___init__, .func (PySem.W.fnOf "__init__" "BadNumbers.__init__" (defArgs (s_BadNumbers___init__)) (defBody (s_BadNumbers___init__)) (defScope (s_BadNumbers___init__)) .none kV_BadNumbers___init__ dc_BadNumbers___init__ pm_BadNumbers___init__ an_BadNumbers___init__ cd_BadNumbers___init__ ct_BadNumbers___init__), sl_BadNumbers___init__⟩)
    (cc_BadNumbers___init__ : PySem.W.codeIn K cd_BadNumbers___init__ "BadNumbers.__init__" = true)
    (kp_BadNumbers___init__ : PySem.W.keepIn K (.ref f_BadNumbers___init__) = true)
    (xc_BadNumbers : K.lookup c_BadNumbers = some (excClassObj nm_BadNumbers qn_BadNumbers c_BadNumbers ns_BadNumbers bs_BadNumbers bm_BadNumbers true sn_BadNumbers su_BadNumbers ab_BadNumbers co_BadNumbers dd_BadNumbers x0_BadNumbers x1_BadNumbers x2_BadNumbers x3_BadNumbers x5_BadNumbers "ValueError.__new__"))
    (xr_BadNumbers : PySem.HandSPX.refsVE bm_BadNumbers = true)
    (xs_BadNumbers : PySem.W.findIn K (.ref c_BadNumbers) "__setattr__" = some (some (.builtin "object.__setattr__")))
    (xb_BadNumbers : PySem.W.subIn K (.ref c_BadNumbers) (.type "BaseException") = some true)
    (xt_BadNumbers : PySem.W.typeIn K (.ref c_BadNumbers) = some (.type "type"))
    (xk_BadNumbers : PySem.W.keepIn K (.ref c_BadNumbers) = true)
    (xf_BadNumbers : PySem.W.typeIn K (.ref f_BadNumbers___init__) = some (.type "function"))
    (xn_BadNumbers : PySem.W.findIn K (.ref c_BadNumbers) "index" = some none)
    (l_BadLength___init__ : K.lookup f_BadLength___init__ = some ⟨oc_BadLength___init__, od_BadLength___init__, .func (PySem.W.fnOf "__init__" "BadLength.__init__" (defArgs (s_BadLength___init__)) (defBody (s_BadLength___init__)) (defScope (s_BadLength___init__)) .none kV_BadLength___init__ dc_BadLength___init__ pm_BadLength___init__ an_BadLength___init__ cd_BadLength___init__ ct_BadLength___init__), sl_BadLength___init__⟩)
    (cc_BadLength___init__ : PySem.W.codeIn K cd_BadLength___init__ "BadLength.__init__" = true)
    (kp_BadLength___init__ : PySem.W.keepIn K (.ref f_BadLength___init__) = true)
    (xc_BadLength : K.lookup c_BadLength = some (excClassObj nm_BadLength qn_BadLength c_BadLength ns_BadLength bs_BadLength bm_BadLength true sn_BadLength su_BadLength ab_BadLength co_BadLength dd_BadLength x0_BadLength x1_BadLength x2_BadLength x3_BadLength x5_BadLength "ValueError.__new__"))
    (xr_BadLength : PySem.HandSPX.refsVE bm_BadLength = true)
    (xs_BadLength : PySem.W.findIn K (.ref c_BadLength) "__setattr__" = some (some (.builtin "object.__setattr__")))
    (xb_BadLength : PySem.W.subIn K (.ref c_BadLength) (.type "BaseException") = some true)
    (xt_BadLength : PySem.W.typeIn K (.ref c_BadLength) = some (.type "type"))
    (xk_BadLength : PySem.W.keepIn K (.ref c_BadLength) = true)
    (xf_BadLength : PySem.W.typeIn K (.ref f_BadLength___init__) = some (.type "function"))
    (l_InvalidText___init__ : K.lookup f_InvalidText___init__ = some ⟨oc_InvalidText___init__, od_InvalidText___init__, .func (PySem.W.fnOf "__init__" "InvalidText.__init__" (defArgs (s_InvalidText___init__)) (defBody (s_InvalidText___init__)) (defScope (s_InvalidText___init__)) .none kV_InvalidText___init__ dc_InvalidText___init__ pm_InvalidText___init__ an_InvalidText___init__ cd_InvalidText___init__ ct_InvalidText___init__), sl_InvalidText___init__⟩)
    (cc_InvalidText___init__ : PySem.W.codeIn K cd_InvalidText___init__ "InvalidText.__init__" = true)
    (kp_InvalidText___init__ : PySem.W.keepIn K (.ref f_InvalidText___init__) = true)
    (xc_InvalidText : K.lookup c_InvalidText = some (excClassObj nm_InvalidText qn_InvalidText c_InvalidText ns_InvalidText bs_InvalidText bm_InvalidText true sn_InvalidText su_InvalidText ab_InvalidText co_InvalidText dd_InvalidText x0_InvalidText x1_InvalidText x2_InvalidText x3_InvalidText x5_InvalidText "ValueError.__new__"))
    (xr_InvalidText : PySem.HandSPX.refsVE bm_InvalidText = true)
    (xs_InvalidText : PySem.W.findIn K (.ref c_InvalidText) "__setattr__" = some (some (.builtin "object.__setattr__")))
    (xb_InvalidText : PySem.W.subIn K (.ref c_InvalidText) (.type "BaseException") = some true)
    (xt_InvalidText : PySem.W.typeIn K (.ref c_InvalidText) = some (.type "type"))
    (xk_InvalidText : PySem.W.keepIn K (.ref c_InvalidText) = true)
    (xf_InvalidText : PySem.W.typeIn K (.ref f_InvalidText___init__) = some (.type "function"))
    (xn_InvalidText : PySem.W.findIn K (.ref c_InvalidText) "word" = some none)
    (re1 : PySem.W.readsIn K c_ReaderError (.type "type") = true)
    (re2 : PySem.W.specialIn K (.ref c_ReaderError) "__getattribute__" = some (some (.builtin "type.__getattribute__")))
    (re3 : PySem.W.findCls K (.ref c_ReaderError) (.type "type") "__init__" = some (.val (.builtin "ValueError.__init__")))
    (xb_ReaderError : PySem.W.subIn K (.ref c_ReaderError) (.type "BaseException") = some true)
    (xt_ReaderError : PySem.W.typeIn K (.ref c_ReaderError) = some (.type "type"))
    (xq_ReaderError : PySem.W.isClsIn K c_ReaderError = true)
    (xq_BadPart : PySem.W.isClsIn K c_BadPart = true)
    (xq_BadReader : PySem.W.isClsIn K c_BadReader = true)
    (xq_BadReaders : PySem.W.isClsIn K c_BadReaders = true)
    (xq_BadText : PySem.W.isClsIn K c_BadText = true)
    (xq_BadTexts : PySem.W.isClsIn K c_BadTexts = true)
    (xq_NotTaken : PySem.W.isClsIn K c_NotTaken = true)
    (xq_BadNumber : PySem.W.isClsIn K c_BadNumber = true)
    (xq_BadNumbers : PySem.W.isClsIn K c_BadNumbers = true)
    (xq_BadLength : PySem.W.isClsIn K c_BadLength = true)
    (xq_InvalidText : PySem.W.isClsIn K c_InvalidText = true)
    (ss_ReaderError_ReaderError : PySem.W.subIn K (.ref c_ReaderError) (.ref c_ReaderError) = some true)
    (ss_ReaderError_BadPart : PySem.W.subIn K (.ref c_ReaderError) (.ref c_BadPart) = some false)
    (ss_ReaderError_BadReader : PySem.W.subIn K (.ref c_ReaderError) (.ref c_BadReader) = some false)
    (ss_ReaderError_BadReaders : PySem.W.subIn K (.ref c_ReaderError) (.ref c_BadReaders) = some false)
    (ss_ReaderError_BadText : PySem.W.subIn K (.ref c_ReaderError) (.ref c_BadText) = some false)
    (ss_ReaderError_BadTexts : PySem.W.subIn K (.ref c_ReaderError) (.ref c_BadTexts) = some false)
    (ss_ReaderError_NotTaken : PySem.W.subIn K (.ref c_ReaderError) (.ref c_NotTaken) = some false)
    (ss_ReaderError_BadNumber : PySem.W.subIn K (.ref c_ReaderError) (.ref c_BadNumber) = some false)
    (ss_ReaderError_BadNumbers : PySem.W.subIn K (.ref c_ReaderError) (.ref c_BadNumbers) = some false)
    (ss_ReaderError_BadLength : PySem.W.subIn K (.ref c_ReaderError) (.ref c_BadLength) = some false)
    (ss_ReaderError_InvalidText : PySem.W.subIn K (.ref c_ReaderError) (.ref c_InvalidText) = some false)
    (ss_BadPart_ReaderError : PySem.W.subIn K (.ref c_BadPart) (.ref c_ReaderError) = some true)
    (ss_BadPart_BadPart : PySem.W.subIn K (.ref c_BadPart) (.ref c_BadPart) = some true)
    (ss_BadPart_BadReader : PySem.W.subIn K (.ref c_BadPart) (.ref c_BadReader) = some false)
    (ss_BadPart_BadReaders : PySem.W.subIn K (.ref c_BadPart) (.ref c_BadReaders) = some false)
    (ss_BadPart_BadText : PySem.W.subIn K (.ref c_BadPart) (.ref c_BadText) = some false)
    (ss_BadPart_BadTexts : PySem.W.subIn K (.ref c_BadPart) (.ref c_BadTexts) = some false)
    (ss_BadPart_NotTaken : PySem.W.subIn K (.ref c_BadPart) (.ref c_NotTaken) = some false)
    (ss_BadPart_BadNumber : PySem.W.subIn K (.ref c_BadPart) (.ref c_BadNumber) = some false)
    (ss_BadPart_BadNumbers : PySem.W.subIn K (.ref c_BadPart) (.ref c_BadNumbers) = some false)
    (ss_BadPart_BadLength : PySem.W.subIn K (.ref c_BadPart) (.ref c_BadLength) = some false)
    (ss_BadPart_InvalidText : PySem.W.subIn K (.ref c_BadPart) (.ref c_InvalidText) = some false)
    (ss_BadReader_ReaderError : PySem.W.subIn K (.ref c_BadReader) (.ref c_ReaderError) = some true)
    (ss_BadReader_BadPart : PySem.W.subIn K (.ref c_BadReader) (.ref c_BadPart) = some false)
    (ss_BadReader_BadReader : PySem.W.subIn K (.ref c_BadReader) (.ref c_BadReader) = some true)
    (ss_BadReader_BadReaders : PySem.W.subIn K (.ref c_BadReader) (.ref c_BadReaders) = some false)
    (ss_BadReader_BadText : PySem.W.subIn K (.ref c_BadReader) (.ref c_BadText) = some false)
    (ss_BadReader_BadTexts : PySem.W.subIn K (.ref c_BadReader) (.ref c_BadTexts) = some false)
    (ss_BadReader_NotTaken : PySem.W.subIn K (.ref c_BadReader) (.ref c_NotTaken) = some false)
    (ss_BadReader_BadNumber : PySem.W.subIn K (.ref c_BadReader) (.ref c_BadNumber) = some false)
    (ss_BadReader_BadNumbers : PySem.W.subIn K (.ref c_BadReader) (.ref c_BadNumbers) = some false)
    (ss_BadReader_BadLength : PySem.W.subIn K (.ref c_BadReader) (.ref c_BadLength) = some false)
    (ss_BadReader_InvalidText : PySem.W.subIn K (.ref c_BadReader) (.ref c_InvalidText) = some false)
    (ss_BadReaders_ReaderError : PySem.W.subIn K (.ref c_BadReaders) (.ref c_ReaderError) = some true)
    (ss_BadReaders_BadPart : PySem.W.subIn K (.ref c_BadReaders) (.ref c_BadPart) = some false)
    (ss_BadReaders_BadReader : PySem.W.subIn K (.ref c_BadReaders) (.ref c_BadReader) = some false)
    (ss_BadReaders_BadReaders : PySem.W.subIn K (.ref c_BadReaders) (.ref c_BadReaders) = some true)
    (ss_BadReaders_BadText : PySem.W.subIn K (.ref c_BadReaders) (.ref c_BadText) = some false)
    (ss_BadReaders_BadTexts : PySem.W.subIn K (.ref c_BadReaders) (.ref c_BadTexts) = some false)
    (ss_BadReaders_NotTaken : PySem.W.subIn K (.ref c_BadReaders) (.ref c_NotTaken) = some false)
    (ss_BadReaders_BadNumber : PySem.W.subIn K (.ref c_BadReaders) (.ref c_BadNumber) = some false)
    (ss_BadReaders_BadNumbers : PySem.W.subIn K (.ref c_BadReaders) (.ref c_BadNumbers) = some false)
    (ss_BadReaders_BadLength : PySem.W.subIn K (.ref c_BadReaders) (.ref c_BadLength) = some false)
    (ss_BadReaders_InvalidText : PySem.W.subIn K (.ref c_BadReaders) (.ref c_InvalidText) = some false)
    (ss_BadText_ReaderError : PySem.W.subIn K (.ref c_BadText) (.ref c_ReaderError) = some true)
    (ss_BadText_BadPart : PySem.W.subIn K (.ref c_BadText) (.ref c_BadPart) = some false)
    (ss_BadText_BadReader : PySem.W.subIn K (.ref c_BadText) (.ref c_BadReader) = some false)
    (ss_BadText_BadReaders : PySem.W.subIn K (.ref c_BadText) (.ref c_BadReaders) = some false)
    (ss_BadText_BadText : PySem.W.subIn K (.ref c_BadText) (.ref c_BadText) = some true)
    (ss_BadText_BadTexts : PySem.W.subIn K (.ref c_BadText) (.ref c_BadTexts) = some false)
    (ss_BadText_NotTaken : PySem.W.subIn K (.ref c_BadText) (.ref c_NotTaken) = some false)
    (ss_BadText_BadNumber : PySem.W.subIn K (.ref c_BadText) (.ref c_BadNumber) = some false)
    (ss_BadText_BadNumbers : PySem.W.subIn K (.ref c_BadText) (.ref c_BadNumbers) = some false)
    (ss_BadText_BadLength : PySem.W.subIn K (.ref c_BadText) (.ref c_BadLength) = some false)
    (ss_BadText_InvalidText : PySem.W.subIn K (.ref c_BadText) (.ref c_InvalidText) = some false)
    (ss_BadTexts_ReaderError : PySem.W.subIn K (.ref c_BadTexts) (.ref c_ReaderError) = some true)
    (ss_BadTexts_BadPart : PySem.W.subIn K (.ref c_BadTexts) (.ref c_BadPart) = some false)
    (ss_BadTexts_BadReader : PySem.W.subIn K (.ref c_BadTexts) (.ref c_BadReader) = some false)
    (ss_BadTexts_BadReaders : PySem.W.subIn K (.ref c_BadTexts) (.ref c_BadReaders) = some false)
    (ss_BadTexts_BadText : PySem.W.subIn K (.ref c_BadTexts) (.ref c_BadText) = some false)
    (ss_BadTexts_BadTexts : PySem.W.subIn K (.ref c_BadTexts) (.ref c_BadTexts) = some true)
    (ss_BadTexts_NotTaken : PySem.W.subIn K (.ref c_BadTexts) (.ref c_NotTaken) = some false)
    (ss_BadTexts_BadNumber : PySem.W.subIn K (.ref c_BadTexts) (.ref c_BadNumber) = some false)
    (ss_BadTexts_BadNumbers : PySem.W.subIn K (.ref c_BadTexts) (.ref c_BadNumbers) = some false)
    (ss_BadTexts_BadLength : PySem.W.subIn K (.ref c_BadTexts) (.ref c_BadLength) = some false)
    (ss_BadTexts_InvalidText : PySem.W.subIn K (.ref c_BadTexts) (.ref c_InvalidText) = some false)
    (ss_NotTaken_ReaderError : PySem.W.subIn K (.ref c_NotTaken) (.ref c_ReaderError) = some true)
    (ss_NotTaken_BadPart : PySem.W.subIn K (.ref c_NotTaken) (.ref c_BadPart) = some false)
    (ss_NotTaken_BadReader : PySem.W.subIn K (.ref c_NotTaken) (.ref c_BadReader) = some false)
    (ss_NotTaken_BadReaders : PySem.W.subIn K (.ref c_NotTaken) (.ref c_BadReaders) = some false)
    (ss_NotTaken_BadText : PySem.W.subIn K (.ref c_NotTaken) (.ref c_BadText) = some false)
    (ss_NotTaken_BadTexts : PySem.W.subIn K (.ref c_NotTaken) (.ref c_BadTexts) = some false)
    (ss_NotTaken_NotTaken : PySem.W.subIn K (.ref c_NotTaken) (.ref c_NotTaken) = some true)
    (ss_NotTaken_BadNumber : PySem.W.subIn K (.ref c_NotTaken) (.ref c_BadNumber) = some false)
    (ss_NotTaken_BadNumbers : PySem.W.subIn K (.ref c_NotTaken) (.ref c_BadNumbers) = some false)
    (ss_NotTaken_BadLength : PySem.W.subIn K (.ref c_NotTaken) (.ref c_BadLength) = some false)
    (ss_NotTaken_InvalidText : PySem.W.subIn K (.ref c_NotTaken) (.ref c_InvalidText) = some false)
    (ss_BadNumber_ReaderError : PySem.W.subIn K (.ref c_BadNumber) (.ref c_ReaderError) = some true)
    (ss_BadNumber_BadPart : PySem.W.subIn K (.ref c_BadNumber) (.ref c_BadPart) = some false)
    (ss_BadNumber_BadReader : PySem.W.subIn K (.ref c_BadNumber) (.ref c_BadReader) = some false)
    (ss_BadNumber_BadReaders : PySem.W.subIn K (.ref c_BadNumber) (.ref c_BadReaders) = some false)
    (ss_BadNumber_BadText : PySem.W.subIn K (.ref c_BadNumber) (.ref c_BadText) = some false)
    (ss_BadNumber_BadTexts : PySem.W.subIn K (.ref c_BadNumber) (.ref c_BadTexts) = some false)
    (ss_BadNumber_NotTaken : PySem.W.subIn K (.ref c_BadNumber) (.ref c_NotTaken) = some false)
    (ss_BadNumber_BadNumber : PySem.W.subIn K (.ref c_BadNumber) (.ref c_BadNumber) = some true)
    (ss_BadNumber_BadNumbers : PySem.W.subIn K (.ref c_BadNumber) (.ref c_BadNumbers) = some false)
    (ss_BadNumber_BadLength : PySem.W.subIn K (.ref c_BadNumber) (.ref c_BadLength) = some false)
    (ss_BadNumber_InvalidText : PySem.W.subIn K (.ref c_BadNumber) (.ref c_InvalidText) = some false)
    (ss_BadNumbers_ReaderError : PySem.W.subIn K (.ref c_BadNumbers) (.ref c_ReaderError) = some true)
    (ss_BadNumbers_BadPart : PySem.W.subIn K (.ref c_BadNumbers) (.ref c_BadPart) = some false)
    (ss_BadNumbers_BadReader : PySem.W.subIn K (.ref c_BadNumbers) (.ref c_BadReader) = some false)
    (ss_BadNumbers_BadReaders : PySem.W.subIn K (.ref c_BadNumbers) (.ref c_BadReaders) = some false)
    (ss_BadNumbers_BadText : PySem.W.subIn K (.ref c_BadNumbers) (.ref c_BadText) = some false)
    (ss_BadNumbers_BadTexts : PySem.W.subIn K (.ref c_BadNumbers) (.ref c_BadTexts) = some false)
    (ss_BadNumbers_NotTaken : PySem.W.subIn K (.ref c_BadNumbers) (.ref c_NotTaken) = some false)
    (ss_BadNumbers_BadNumber : PySem.W.subIn K (.ref c_BadNumbers) (.ref c_BadNumber) = some false)
    (ss_BadNumbers_BadNumbers : PySem.W.subIn K (.ref c_BadNumbers) (.ref c_BadNumbers) = some true)
    (ss_BadNumbers_BadLength : PySem.W.subIn K (.ref c_BadNumbers) (.ref c_BadLength) = some false)
    (ss_BadNumbers_InvalidText : PySem.W.subIn K (.ref c_BadNumbers) (.ref c_InvalidText) = some false)
    (ss_BadLength_ReaderError : PySem.W.subIn K (.ref c_BadLength) (.ref c_ReaderError) = some true)
    (ss_BadLength_BadPart : PySem.W.subIn K (.ref c_BadLength) (.ref c_BadPart) = some false)
    (ss_BadLength_BadReader : PySem.W.subIn K (.ref c_BadLength) (.ref c_BadReader) = some false)
    (ss_BadLength_BadReaders : PySem.W.subIn K (.ref c_BadLength) (.ref c_BadReaders) = some false)
    (ss_BadLength_BadText : PySem.W.subIn K (.ref c_BadLength) (.ref c_BadText) = some false)
    (ss_BadLength_BadTexts : PySem.W.subIn K (.ref c_BadLength) (.ref c_BadTexts) = some false)
    (ss_BadLength_NotTaken : PySem.W.subIn K (.ref c_BadLength) (.ref c_NotTaken) = some false)
    (ss_BadLength_BadNumber : PySem.W.subIn K (.ref c_BadLength) (.ref c_BadNumber) = some false)
    (ss_BadLength_BadNumbers : PySem.W.subIn K (.ref c_BadLength) (.ref c_BadNumbers) = some false)
    (ss_BadLength_BadLength : PySem.W.subIn K (.ref c_BadLength) (.ref c_BadLength) = some true)
    (ss_BadLength_InvalidText : PySem.W.subIn K (.ref c_BadLength) (.ref c_InvalidText) = some false)
    (ss_InvalidText_ReaderError : PySem.W.subIn K (.ref c_InvalidText) (.ref c_ReaderError) = some true)
    (ss_InvalidText_BadPart : PySem.W.subIn K (.ref c_InvalidText) (.ref c_BadPart) = some false)
    (ss_InvalidText_BadReader : PySem.W.subIn K (.ref c_InvalidText) (.ref c_BadReader) = some false)
    (ss_InvalidText_BadReaders : PySem.W.subIn K (.ref c_InvalidText) (.ref c_BadReaders) = some false)
    (ss_InvalidText_BadText : PySem.W.subIn K (.ref c_InvalidText) (.ref c_BadText) = some false)
    (ss_InvalidText_BadTexts : PySem.W.subIn K (.ref c_InvalidText) (.ref c_BadTexts) = some false)
    (ss_InvalidText_NotTaken : PySem.W.subIn K (.ref c_InvalidText) (.ref c_NotTaken) = some false)
    (ss_InvalidText_BadNumber : PySem.W.subIn K (.ref c_InvalidText) (.ref c_BadNumber) = some false)
    (ss_InvalidText_BadNumbers : PySem.W.subIn K (.ref c_InvalidText) (.ref c_BadNumbers) = some false)
    (ss_InvalidText_BadLength : PySem.W.subIn K (.ref c_InvalidText) (.ref c_BadLength) = some false)
    (ss_InvalidText_InvalidText : PySem.W.subIn K (.ref c_InvalidText) (.ref c_InvalidText) = some true)
    (zx_BadIndex : PySem.W.nsIn K mainGlobals "BadIndex" = some none)
    (zx_BadChain : PySem.W.nsIn K mainGlobals "BadChain" = some none)
    (k1 : PySem.W.findIn K (.ref c_Reader) "__class__" = some (some (.builtin "object.__class__")))
    (k2 : PySem.W.specialIn K (.builtin "object.__class__") "__get__" = some (some (.builtin "getset_descriptor.__get__")))
    (k3 : PySem.W.takesIn K (.builtin "object.__class__") = some true)
    (k4 : PySem.W.mroIn K c_Reader (.type "object") = some true)
    (k5 : PySem.W.kitOne K (.ref c_Reader) (.ref c_Reader) = some true)
    (kb_str : PySem.W.kitOne K (.ref c_Reader) (.type "str") = some false)
    (kb_int : PySem.W.kitOne K (.ref c_Reader) (.type "int") = some false)
    (kb_bool : PySem.W.kitOne K (.ref c_Reader) (.type "bool") = some false)
    (kb_tuple : PySem.W.kitOne K (.ref c_Reader) (.type "tuple") = some false)
    (kb_list : PySem.W.kitOne K (.ref c_Reader) (.type "list") = some false)
    (kc_NoneType : PySem.W.kitOne K (.type "NoneType") (.ref c_Reader) = some false)
    (kc_bool : PySem.W.kitOne K (.type "bool") (.ref c_Reader) = some false)
    (kc_int : PySem.W.kitOne K (.type "int") (.ref c_Reader) = some false)
    (kc_str : PySem.W.kitOne K (.type "str") (.ref c_Reader) = some false)
    (kc_tuple : PySem.W.kitOne K (.type "tuple") (.ref c_Reader) = some false)
    (kc_list : PySem.W.kitOne K (.type "list") (.ref c_Reader) = some false)
    (kc_dict : PySem.W.kitOne K (.type "dict") (.ref c_Reader) = some false)
    (zb_abs : PySem.W.nsIn K mainGlobals "abs" = some none)
    (zb_all : PySem.W.nsIn K mainGlobals "all" = some none)
    (zb_bool : PySem.W.nsIn K mainGlobals "bool" = some none)
    (zb_enumerate : PySem.W.nsIn K mainGlobals "enumerate" = some none)
    (zb_int : PySem.W.nsIn K mainGlobals "int" = some none)
    (zb_isinstance : PySem.W.nsIn K mainGlobals "isinstance" = some none)
    (zb_len : PySem.W.nsIn K mainGlobals "len" = some none)
    (zb_list : PySem.W.nsIn K mainGlobals "list" = some none)
    (zb_min : PySem.W.nsIn K mainGlobals "min" = some none)
    (zb_range : PySem.W.nsIn K mainGlobals "range" = some none)
    (zb_str : PySem.W.nsIn K mainGlobals "str" = some none)
    (zb_tuple : PySem.W.nsIn K mainGlobals "tuple" = some none)
    : TX K mg where
  f_is_one := f_is_one
  fd_is_one := _
  F_is_one := (fun_mk (st := s_is_one) l_is_one cc_is_one kp_is_one)
  b_is_one := (fun_mk (st := s_is_one) l_is_one cc_is_one kp_is_one).binds (ps := ["value", "some"]) fun _ _ _ _ _ _ us hl => match us, hl with | [_, _], _ => rfl
  m_is_one := PySem.W.mg_of X NS a_is_one
  f_is_size := f_is_size
  fd_is_size := _
  F_is_size := (fun_mk (st := s_is_size) l_is_size cc_is_size kp_is_size)
  b_is_size := (fun_mk (st := s_is_size) l_is_size cc_is_size kp_is_size).binds (ps := ["value"]) fun _ _ _ _ _ _ us hl => match us, hl with | [_], _ => rfl
  m_is_size := PySem.W.mg_of X NS a_is_size
  f_parts_of := f_parts_of
  fd_parts_of := _
  F_parts_of := (fun_mk (st := s_parts_of) l_parts_of cc_parts_of kp_parts_of)
  b_parts_of := (fun_mk (st := s_parts_of) l_parts_of cc_parts_of kp_parts_of).binds (ps := ["reader"]) fun _ _ _ _ _ _ us hl => match us, hl with | [_], _ => rfl
  m_parts_of := PySem.W.mg_of X NS a_parts_of
  f_need_reader := f_need_reader
  fd_need_reader := _
  F_need_reader := (fun_mk (st := s_need_reader) l_need_reader cc_need_reader kp_need_reader)
  b_need_reader := (fun_mk (st := s_need_reader) l_need_reader cc_need_reader kp_need_reader).binds (ps := ["reader"]) fun _ _ _ _ _ _ us hl => match us, hl with | [_], _ => rfl
  m_need_reader := PySem.W.mg_of X NS a_need_reader
  f_need_readers := f_need_readers
  fd_need_readers := _
  F_need_readers := (fun_mk (st := s_need_readers) l_need_readers cc_need_readers kp_need_readers)
  b_need_readers := (fun_mk (st := s_need_readers) l_need_readers cc_need_readers kp_need_readers).binds (ps := ["readers"]) fun _ _ _ _ _ _ us hl => match us, hl with | [_], _ => rfl
  m_need_readers := PySem.W.mg_of X NS a_need_readers
  f_parts := f_parts
  fd_parts := _
  F_parts := (fun_mk (st := s_parts) l_parts cc_parts kp_parts)
  b_parts := (fun_mk (st := s_parts) l_parts cc_parts kp_parts).binds (ps := ["reader"]) fun _ _ _ _ _ _ us hl => match us, hl with | [_], _ => rfl
  m_parts := PySem.W.mg_of X NS a_parts
  f_is_whole := f_is_whole
  fd_is_whole := _
  F_is_whole := (fun_mk (st := s_is_whole) l_is_whole cc_is_whole kp_is_whole)
  b_is_whole := (fun_mk (st := s_is_whole) l_is_whole cc_is_whole kp_is_whole).binds (ps := ["reader", "state"]) fun _ _ _ _ _ _ us hl => match us, hl with | [_, _], _ => rfl
  m_is_whole := PySem.W.mg_of X NS a_is_whole
  f_can_end := f_can_end
  fd_can_end := _
  F_can_end := (fun_mk (st := s_can_end) l_can_end cc_can_end kp_can_end)
  b_can_end := (fun_mk (st := s_can_end) l_can_end cc_can_end kp_can_end).binds (ps := ["reader", "state"]) fun _ _ _ _ _ _ us hl => match us, hl with | [_, _], _ => rfl
  m_can_end := PySem.W.mg_of X NS a_can_end
  f_next_figure := f_next_figure
  fd_next_figure := _
  F_next_figure := (fun_mk (st := s_next_figure) l_next_figure cc_next_figure kp_next_figure)
  b_next_figure := (fun_mk (st := s_next_figure) l_next_figure cc_next_figure kp_next_figure).binds (ps := ["reader", "state", "sign"]) fun _ _ _ _ _ _ us hl => match us, hl with | [_, _, _], _ => rfl
  m_next_figure := PySem.W.mg_of X NS a_next_figure
  f_next_mark := f_next_mark
  fd_next_mark := _
  F_next_mark := (fun_mk (st := s_next_mark) l_next_mark cc_next_mark kp_next_mark)
  b_next_mark := (fun_mk (st := s_next_mark) l_next_mark cc_next_mark kp_next_mark).binds (ps := ["reader", "state"]) fun _ _ _ _ _ _ us hl => match us, hl with | [_, _], _ => rfl
  m_next_mark := PySem.W.mg_of X NS a_next_mark
  f_next_minus := f_next_minus
  fd_next_minus := _
  F_next_minus := (fun_mk (st := s_next_minus) l_next_minus cc_next_minus kp_next_minus)
  b_next_minus := (fun_mk (st := s_next_minus) l_next_minus cc_next_minus kp_next_minus).binds (ps := ["reader", "state"]) fun _ _ _ _ _ _ us hl => match us, hl with | [_, _], _ => rfl
  m_next_minus := PySem.W.mg_of X NS a_next_minus
  f_next_state := f_next_state
  fd_next_state := _
  F_next_state := (fun_mk (st := s_next_state) l_next_state cc_next_state kp_next_state)
  b_next_state := (fun_mk (st := s_next_state) l_next_state cc_next_state kp_next_state).binds (ps := ["reader", "state", "sign"]) fun _ _ _ _ _ _ us hl => match us, hl with | [_, _, _], _ => rfl
  m_next_state := PySem.W.mg_of X NS a_next_state
  f_need_length := f_need_length
  fd_need_length := _
  F_need_length := (fun_mk (st := s_need_length) l_need_length cc_need_length kp_need_length)
  b_need_length := (fun_mk (st := s_need_length) l_need_length cc_need_length kp_need_length).binds (ps := ["length"]) fun _ _ _ _ _ _ us hl => match us, hl with | [_], _ => rfl
  m_need_length := PySem.W.mg_of X NS a_need_length
  f_count := f_count
  fd_count := _
  F_count := (fun_mk (st := s_count) l_count cc_count kp_count)
  b_count := (fun_mk (st := s_count) l_count cc_count kp_count).binds (ps := ["reader", "length"]) fun _ _ _ _ _ _ us hl => match us, hl with | [_, _], _ => rfl
  m_count := PySem.W.mg_of X NS a_count
  f_need_text := f_need_text
  fd_need_text := _
  F_need_text := (fun_mk (st := s_need_text) l_need_text cc_need_text kp_need_text)
  b_need_text := (fun_mk (st := s_need_text) l_need_text cc_need_text kp_need_text).binds (ps := ["text"]) fun _ _ _ _ _ _ us hl => match us, hl with | [_], _ => rfl
  m_need_text := PySem.W.mg_of X NS a_need_text
  f_stop_of := f_stop_of
  fd_stop_of := _
  F_stop_of := (fun_mk (st := s_stop_of) l_stop_of cc_stop_of kp_stop_of)
  b_stop_of := (fun_mk (st := s_stop_of) l_stop_of cc_stop_of kp_stop_of).binds (ps := ["reader", "text"]) fun _ _ _ _ _ _ us hl => match us, hl with | [_, _], _ => rfl
  m_stop_of := PySem.W.mg_of X NS a_stop_of
  f_takes := f_takes
  fd_takes := _
  F_takes := (fun_mk (st := s_takes) l_takes cc_takes kp_takes)
  b_takes := (fun_mk (st := s_takes) l_takes cc_takes kp_takes).binds (ps := ["reader", "text"]) fun _ _ _ _ _ _ us hl => match us, hl with | [_, _], _ => rfl
  m_takes := PySem.W.mg_of X NS a_takes
  f_tens := f_tens
  fd_tens := _
  F_tens := (fun_mk (st := s_tens) l_tens cc_tens kp_tens)
  b_tens := (fun_mk (st := s_tens) l_tens cc_tens kp_tens).binds (ps := ["many"]) fun _ _ _ _ _ _ us hl => match us, hl with | [_], _ => rfl
  m_tens := PySem.W.mg_of X NS a_tens
  f_normal := f_normal
  fd_normal := _
  F_normal := (fun_mk (st := s_normal) l_normal cc_normal kp_normal)
  b_normal := (fun_mk (st := s_normal) l_normal cc_normal kp_normal).binds (ps := ["whole", "exponent"]) fun _ _ _ _ _ _ us hl => match us, hl with | [_, _], _ => rfl
  m_normal := PySem.W.mg_of X NS a_normal
  f_number_of := f_number_of
  fd_number_of := _
  F_number_of := (fun_mk (st := s_number_of) l_number_of cc_number_of kp_number_of)
  b_number_of := (fun_mk (st := s_number_of) l_number_of cc_number_of kp_number_of).binds (ps := ["reader", "text"]) fun _ _ _ _ _ _ us hl => match us, hl with | [_, _], _ => rfl
  m_number_of := PySem.W.mg_of X NS a_number_of
  f_means := f_means
  fd_means := _
  F_means := (fun_mk (st := s_means) l_means cc_means kp_means)
  b_means := (fun_mk (st := s_means) l_means cc_means kp_means).binds (ps := ["reader", "text"]) fun _ _ _ _ _ _ us hl => match us, hl with | [_, _], _ => rfl
  m_means := PySem.W.mg_of X NS a_means
  f_parting := f_parting
  fd_parting := _
  F_parting := (fun_mk (st := s_parting) l_parting cc_parting kp_parting)
  b_parting := (fun_mk (st := s_parting) l_parting cc_parting kp_parting).binds (ps := ["readers"]) fun _ _ _ _ _ _ us hl => match us, hl with | [_], _ => rfl
  m_parting := PySem.W.mg_of X NS a_parting
  f_need_texts := f_need_texts
  fd_need_texts := _
  F_need_texts := (fun_mk (st := s_need_texts) l_need_texts cc_need_texts kp_need_texts)
  b_need_texts := (fun_mk (st := s_need_texts) l_need_texts cc_need_texts kp_need_texts).binds (ps := ["texts"]) fun _ _ _ _ _ _ us hl => match us, hl with | [_], _ => rfl
  m_need_texts := PySem.W.mg_of X NS a_need_texts
  f_takers := f_takers
  fd_takers := _
  F_takers := (fun_mk (st := s_takers) l_takers cc_takers kp_takers)
  b_takers := (fun_mk (st := s_takers) l_takers cc_takers kp_takers).binds (ps := ["readers", "texts"]) fun _ _ _ _ _ _ us hl => match us, hl with | [_, _], _ => rfl
  m_takers := PySem.W.mg_of X NS a_takers
  f_word_at := f_word_at
  fd_word_at := _
  F_word_at := (fun_mk (st := s_word_at) l_word_at cc_word_at kp_word_at)
  b_word_at := (fun_mk (st := s_word_at) l_word_at cc_word_at kp_word_at).binds (ps := ["words", "at", "some"]) fun _ _ _ _ _ _ us hl => match us, hl with | [_, _, _], _ => rfl
  m_word_at := PySem.W.mg_of X NS a_word_at
  f_read := f_read
  fd_read := _
  F_read := (fun_mk (st := s_read) l_read cc_read kp_read)
  b_read := (fun_mk (st := s_read) l_read cc_read kp_read).binds (ps := ["text"]) fun _ _ _ _ _ _ us hl => match us, hl with | [_], _ => rfl
  m_read := PySem.W.mg_of X NS a_read
  f_is_integer := f_is_integer
  fd_is_integer := _
  F_is_integer := (fun_mk (st := s_is_integer) l_is_integer cc_is_integer kp_is_integer)
  b_is_integer := (fun_mk (st := s_is_integer) l_is_integer cc_is_integer kp_is_integer).binds (ps := ["value"]) fun _ _ _ _ _ _ us hl => match us, hl with | [_], _ => rfl
  m_is_integer := PySem.W.mg_of X NS a_is_integer
  f_is_number := f_is_number
  fd_is_number := _
  F_is_number := (fun_mk (st := s_is_number) l_is_number cc_is_number kp_is_number)
  b_is_number := (fun_mk (st := s_is_number) l_is_number cc_is_number kp_is_number).binds (ps := ["value"]) fun _ _ _ _ _ _ us hl => match us, hl with | [_], _ => rfl
  m_is_number := PySem.W.mg_of X NS a_is_number
  f_need_number := f_need_number
  fd_need_number := _
  F_need_number := (fun_mk (st := s_need_number) l_need_number cc_need_number kp_need_number)
  b_need_number := (fun_mk (st := s_need_number) l_need_number cc_need_number kp_need_number).binds (ps := ["number"]) fun _ _ _ _ _ _ us hl => match us, hl with | [_], _ => rfl
  m_need_number := PySem.W.mg_of X NS a_need_number
  f_grouped := f_grouped
  fd_grouped := _
  F_grouped := (fun_mk (st := s_grouped) l_grouped cc_grouped kp_grouped)
  b_grouped := (fun_mk (st := s_grouped) l_grouped cc_grouped kp_grouped).binds (ps := ["figures", "mark", "size"]) fun _ _ _ _ _ _ us hl => match us, hl with | [_, _, _], _ => rfl
  m_grouped := PySem.W.mg_of X NS a_grouped
  f_plain_of := f_plain_of
  fd_plain_of := _
  F_plain_of := (fun_mk (st := s_plain_of) l_plain_of cc_plain_of kp_plain_of)
  b_plain_of := (fun_mk (st := s_plain_of) l_plain_of cc_plain_of kp_plain_of).binds (ps := ["number"]) fun _ _ _ _ _ _ us hl => match us, hl with | [_], _ => rfl
  m_plain_of := PySem.W.mg_of X NS a_plain_of
  f_written_of := f_written_of
  fd_written_of := _
  F_written_of := (fun_mk (st := s_written_of) l_written_of cc_written_of kp_written_of)
  b_written_of := (fun_mk (st := s_written_of) l_written_of cc_written_of kp_written_of).binds (ps := ["reader", "number"]) fun _ _ _ _ _ _ us hl => match us, hl with | [_, _], _ => rfl
  m_written_of := PySem.W.mg_of X NS a_written_of
  f_written := f_written
  fd_written := _
  F_written := (fun_mk (st := s_written) l_written cc_written kp_written)
  b_written := (fun_mk (st := s_written) l_written cc_written kp_written).binds (ps := ["reader", "number"]) fun _ _ _ _ _ _ us hl => match us, hl with | [_, _], _ => rfl
  m_written := PySem.W.mg_of X NS a_written
  f_need_numbers := f_need_numbers
  fd_need_numbers := _
  F_need_numbers := (fun_mk (st := s_need_numbers) l_need_numbers cc_need_numbers kp_need_numbers)
  b_need_numbers := (fun_mk (st := s_need_numbers) l_need_numbers cc_need_numbers kp_need_numbers).binds (ps := ["texts", "numbers"]) fun _ _ _ _ _ _ us hl => match us, hl with | [_, _], _ => rfl
  m_need_numbers := PySem.W.mg_of X NS a_need_numbers
  f_fitting := f_fitting
  fd_fitting := _
  F_fitting := (fun_mk (st := s_fitting) l_fitting cc_fitting kp_fitting)
  b_fitting := (fun_mk (st := s_fitting) l_fitting cc_fitting kp_fitting).binds (ps := ["texts", "numbers"]) fun _ _ _ _ _ _ us hl => match us, hl with | [_, _], _ => rfl
  m_fitting := PySem.W.mg_of X NS a_fitting
  f__law_taken := f__law_taken
  fd__law_taken := _
  F__law_taken := (fun_mk (st := s__law_taken) l__law_taken cc__law_taken kp__law_taken)
  b__law_taken := (fun_mk (st := s__law_taken) l__law_taken cc__law_taken kp__law_taken).binds (ps := ["_law_row", "_law_many"]) fun _ _ _ _ _ _ us hl => match us, hl with | [_, _], _ => rfl
  m__law_taken := PySem.W.mg_of X NS a__law_taken
  f__law_call := f__law_call
  fd__law_call := _
  F__law_call := (fun_mk (st := s__law_call) l__law_call cc__law_call kp__law_call)
  b__law_call := (fun_mk (st := s__law_call) l__law_call cc__law_call kp__law_call).binds (ps := ["_law_kind"]) fun _ _ _ _ _ _ us hl => match us, hl with | [_], _ => rfl
  m__law_call := PySem.W.mg_of X NS a__law_call
  f__law_first := f__law_first
  fd__law_first := _
  F__law_first := (fun_mk (st := s__law_first) l__law_first cc__law_first kp__law_first)
  b__law_first := (fun_mk (st := s__law_first) l__law_first cc__law_first kp__law_first).binds (ps := ["_law_kind"]) fun _ _ _ _ _ _ us hl => match us, hl with | [_], _ => rfl
  m__law_first := PySem.W.mg_of X NS a__law_first
  f__law_base := f__law_base
  fd__law_base := _
  F__law_base := (fun_mk (st := s__law_base) l__law_base cc__law_base kp__law_base)
  b__law_base := (fun_mk (st := s__law_base) l__law_base cc__law_base kp__law_base).binds (ps := ["_law_kind"]) fun _ _ _ _ _ _ us hl => match us, hl with | [_], _ => rfl
  m__law_base := PySem.W.mg_of X NS a__law_base
  f_law := f_law
  fd_law := _
  F_law := (fun_mk (st := s_law) l_law cc_law kp_law)
  b_law := (fun_mk (st := s_law) l_law cc_law kp_law).binds (ps := ["_law_script"]) fun _ _ _ _ _ _ us hl => match us, hl with | [_], _ => rfl
  m_law := PySem.W.mg_of X NS a_law
  c_Reader := c_Reader
  m_Reader := PySem.W.mg_of X NS a_Reader
  cl_Reader := ⟨pg_Reader, hd_Reader, po_Reader, sa_Reader⟩
  f_Reader___init__ := f_Reader___init__
  fd_Reader___init__ := _
  F_Reader___init__ := (fun_mk (st := s_Reader___init__) l_Reader___init__ cc_Reader___init__ kp_Reader___init__)
  b_Reader___init__ := (fun_mk (st := s_Reader___init__) l_Reader___init__ cc_Reader___init__ kp_Reader___init__).binds (ps := ["self", "point", "comma", "rest", "must", "sign", "zeros", "blanks", "exponent"]) fun _ _ _ _ _ _ us hl => match us, hl with | [_, _, _, _, _, _, _, _, _], _ => rfl
  k_Reader := ⟨mk_Reader, in_Reader, if_Reader, kc_Reader⟩
  c_Column := c_Column
  m_Column := PySem.W.mg_of X NS a_Column
  cl_Column := ⟨pg_Column, hd_Column, po_Column, sa_Column⟩
  f_Column___init__ := f_Column___init__
  fd_Column___init__ := _
  F_Column___init__ := (fun_mk (st := s_Column___init__) l_Column___init__ cc_Column___init__ kp_Column___init__)
  b_Column___init__ := (fun_mk (st := s_Column___init__) l_Column___init__ cc_Column___init__ kp_Column___init__).binds (ps := ["self", "readers"]) fun _ _ _ _ _ _ us hl => match us, hl with | [_, _], _ => rfl
  f_Column___len__ := f_Column___len__
  fd_Column___len__ := _
  F_Column___len__ := (fun_mk (st := s_Column___len__) l_Column___len__ cc_Column___len__ kp_Column___len__)
  b_Column___len__ := (fun_mk (st := s_Column___len__) l_Column___len__ cc_Column___len__ kp_Column___len__).binds (ps := ["self"]) fun _ _ _ _ _ _ us hl => match us, hl with | [_], _ => rfl
  k_Column := ⟨mk_Column, in_Column, if_Column, kc_Column⟩
  n_Column_eyes := na_Column_eyes
  n_Column_lines := na_Column_lines
  n_Column_seen := na_Column_seen
  n_Reader_dot := na_Reader_dot
  n_Reader_mark := na_Reader_mark
  n_Reader_minus := na_Reader_minus
  n_Reader_naughts := na_Reader_naughts
  n_Reader_power := na_Reader_power
  n_Reader_size := na_Reader_size
  n_Reader_spaces := na_Reader_spaces
  n_Reader_strict := na_Reader_strict
  ln_Column := in_len_Column
  lf_Column := lnf_Column
  c_ReaderError := c_ReaderError
  m_ReaderError := PySem.W.mg_of X NS a_ReaderError
  c_BadPart := c_BadPart
  m_BadPart := PySem.W.mg_of X NS a_BadPart
  c_BadReader := c_BadReader
  m_BadReader := PySem.W.mg_of X NS a_BadReader
  c_BadReaders := c_BadReaders
  m_BadReaders := PySem.W.mg_of X NS a_BadReaders
  c_BadText := c_BadText
  m_BadText := PySem.W.mg_of X NS a_BadText
  c_BadTexts := c_BadTexts
  m_BadTexts := PySem.W.mg_of X NS a_BadTexts
  c_NotTaken := c_NotTaken
  m_NotTaken := PySem.W.mg_of X NS a_NotTaken
  c_BadNumber := c_BadNumber
  m_BadNumber := PySem.W.mg_of X NS a_BadNumber
  c_BadNumbers := c_BadNumbers
  m_BadNumbers := PySem.W.mg_of X NS a_BadNumbers
  c_BadLength := c_BadLength
  m_BadLength := PySem.W.mg_of X NS a_BadLength
  c_InvalidText := c_InvalidText
  m_InvalidText := PySem.W.mg_of X NS a_InvalidText
  f_BadPart___init__ := f_BadPart___init__
  fd_BadPart___init__ := _
  F_BadPart___init__ := (fun_mk (st := s_BadPart___init__) l_BadPart___init__ cc_BadPart___init__ kp_BadPart___init__)
  b_BadPart___init__ := (fun_mk (st := s_BadPart___init__) l_BadPart___init__ cc_BadPart___init__ kp_BadPart___init__).binds (ps := ["self", "part"]) fun _ _ _ _ _ _ us hl => match us, hl with | [_, _], _ => rfl
  o_BadPart := ⟨⟨_, _, _, _, _, _, _, _, _, _, _, _, _, _, _, xc_BadPart, xr_BadPart⟩, xs_BadPart, xb_BadPart, xt_BadPart, xk_BadPart⟩
  i_BadPart := xi_BadPart
  t_BadPart := xf_BadPart
  nf_BadPart := xn_BadPart
  f_BadReader___init__ := f_BadReader___init__
  fd_BadReader___init__ := _
  F_BadReader___init__ := (fun_mk (st := s_BadReader___init__) l_BadReader___init__ cc_BadReader___init__ kp_BadReader___init__)
  b_BadReader___init__ := (fun_mk (st := s_BadReader___init__) l_BadReader___init__ cc_BadReader___init__ kp_BadReader___init__).binds (ps := ["self"]) fun _ _ _ _ _ _ us hl => match us, hl with | [_], _ => rfl
  o_BadReader := ⟨⟨_, _, _, _, _, _, _, _, _, _, _, _, _, _, _, xc_BadReader, xr_BadReader⟩, xs_BadReader, xb_BadReader, xt_BadReader, xk_BadReader⟩
  i_BadReader := xi_BadReader
  t_BadReader := xf_BadReader
  f_BadReaders___init__ := f_BadReaders___init__
  fd_BadReaders___init__ := _
  F_BadReaders___init__ := (fun_mk (st := s_BadReaders___init__) l_BadReaders___init__ cc_BadReaders___init__ kp_BadReaders___init__)
  b_BadReaders___init__ := (fun_mk (st := s_BadReaders___init__) l_BadReaders___init__ cc_BadReaders___init__ kp_BadReaders___init__).binds (ps := ["self", "index"]) fun _ _ _ _ _ _ us hl => match us, hl with | [_, _], _ => rfl
  o_BadReaders := ⟨⟨_, _, _, _, _, _, _, _, _, _, _, _, _, _, _, xc_BadReaders, xr_BadReaders⟩, xs_BadReaders, xb_BadReaders, xt_BadReaders, xk_BadReaders⟩
  i_BadReaders := xi_BadReaders
  t_BadReaders := xf_BadReaders
  nf_BadReaders := xn_BadReaders
  f_BadText___init__ := f_BadText___init__
  fd_BadText___init__ := _
  F_BadText___init__ := (fun_mk (st := s_BadText___init__) l_BadText___init__ cc_BadText___init__ kp_BadText___init__)
  b_BadText___init__ := (fun_mk (st := s_BadText___init__) l_BadText___init__ cc_BadText___init__ kp_BadText___init__).binds (ps := ["self"]) fun _ _ _ _ _ _ us hl => match us, hl with | [_], _ => rfl
  o_BadText := ⟨⟨_, _, _, _, _, _, _, _, _, _, _, _, _, _, _, xc_BadText, xr_BadText⟩, xs_BadText, xb_BadText, xt_BadText, xk_BadText⟩
  i_BadText := xi_BadText
  t_BadText := xf_BadText
  f_BadTexts___init__ := f_BadTexts___init__
  fd_BadTexts___init__ := _
  F_BadTexts___init__ := (fun_mk (st := s_BadTexts___init__) l_BadTexts___init__ cc_BadTexts___init__ kp_BadTexts___init__)
  b_BadTexts___init__ := (fun_mk (st := s_BadTexts___init__) l_BadTexts___init__ cc_BadTexts___init__ kp_BadTexts___init__).binds (ps := ["self", "index"]) fun _ _ _ _ _ _ us hl => match us, hl with | [_, _], _ => rfl
  o_BadTexts := ⟨⟨_, _, _, _, _, _, _, _, _, _, _, _, _, _, _, xc_BadTexts, xr_BadTexts⟩, xs_BadTexts, xb_BadTexts, xt_BadTexts, xk_BadTexts⟩
  i_BadTexts := xi_BadTexts
  t_BadTexts := xf_BadTexts
  nf_BadTexts := xn_BadTexts
  f_NotTaken___init__ := f_NotTaken___init__
  fd_NotTaken___init__ := _
  F_NotTaken___init__ := (fun_mk (st := s_NotTaken___init__) l_NotTaken___init__ cc_NotTaken___init__ kp_NotTaken___init__)
  b_NotTaken___init__ := (fun_mk (st := s_NotTaken___init__) l_NotTaken___init__ cc_NotTaken___init__ kp_NotTaken___init__).binds (ps := ["self", "at"]) fun _ _ _ _ _ _ us hl => match us, hl with | [_, _], _ => rfl
  o_NotTaken := ⟨⟨_, _, _, _, _, _, _, _, _, _, _, _, _, _, _, xc_NotTaken, xr_NotTaken⟩, xs_NotTaken, xb_NotTaken, xt_NotTaken, xk_NotTaken⟩
  i_NotTaken := xi_NotTaken
  t_NotTaken := xf_NotTaken
  nf_NotTaken := xn_NotTaken
  f_BadNumber___init__ := f_BadNumber___init__
  fd_BadNumber___init__ := _
  F_BadNumber___init__ := (fun_mk (st := s_BadNumber___init__) l_BadNumber___init__ cc_BadNumber___init__ kp_BadNumber___init__)
  b_BadNumber___init__ := (fun_mk (st := s_BadNumber___init__) l_BadNumber___init__ cc_BadNumber___init__ kp_BadNumber___init__).binds (ps := ["self"]) fun _ _ _ _ _ _ us hl => match us, hl with | [_], _ => rfl
  o_BadNumber := ⟨⟨_, _, _, _, _, _, _, _, _, _, _, _, _, _, _, xc_BadNumber, xr_BadNumber⟩, xs_BadNumber, xb_BadNumber, xt_BadNumber, xk_BadNumber⟩
  i_BadNumber := xi_BadNumber
  t_BadNumber := xf_BadNumber
  f_BadNumbers___init__ := f_BadNumbers___init__
  fd_BadNumbers___init__ := _
  F_BadNumbers___init__ := (fun_mk (st := s_BadNumbers___init__) l_BadNumbers___init__ cc_BadNumbers___init__ kp_BadNumbers___init__)
  b_BadNumbers___init__ := (fun_mk (st := s_BadNumbers___init__) l_BadNumbers___init__ cc_BadNumbers___init__ kp_BadNumbers___init__).binds (ps := ["self", "index"]) fun _ _ _ _ _ _ us hl => match us, hl with | [_, _], _ => rfl
  o_BadNumbers := ⟨⟨_, _, _, _, _, _, _, _, _, _, _, _, _, _, _, xc_BadNumbers, xr_BadNumbers⟩, xs_BadNumbers, xb_BadNumbers, xt_BadNumbers, xk_BadNumbers⟩
  i_BadNumbers := xi_BadNumbers
  t_BadNumbers := xf_BadNumbers
  nf_BadNumbers := xn_BadNumbers
  f_BadLength___init__ := f_BadLength___init__
  fd_BadLength___init__ := _
  F_BadLength___init__ := (fun_mk (st := s_BadLength___init__) l_BadLength___init__ cc_BadLength___init__ kp_BadLength___init__)
  b_BadLength___init__ := (fun_mk (st := s_BadLength___init__) l_BadLength___init__ cc_BadLength___init__ kp_BadLength___init__).binds (ps := ["self"]) fun _ _ _ _ _ _ us hl => match us, hl with | [_], _ => rfl
  o_BadLength := ⟨⟨_, _, _, _, _, _, _, _, _, _, _, _, _, _, _, xc_BadLength, xr_BadLength⟩, xs_BadLength, xb_BadLength, xt_BadLength, xk_BadLength⟩
  i_BadLength := xi_BadLength
  t_BadLength := xf_BadLength
  f_InvalidText___init__ := f_InvalidText___init__
  fd_InvalidText___init__ := _
  F_InvalidText___init__ := (fun_mk (st := s_InvalidText___init__) l_InvalidText___init__ cc_InvalidText___init__ kp_InvalidText___init__)
  b_InvalidText___init__ := (fun_mk (st := s_InvalidText___init__) l_InvalidText___init__ cc_InvalidText___init__ kp_InvalidText___init__).binds (ps := ["self", "word"]) fun _ _ _ _ _ _ us hl => match us, hl with | [_, _], _ => rfl
  o_InvalidText := ⟨⟨_, _, _, _, _, _, _, _, _, _, _, _, _, _, _, xc_InvalidText, xr_InvalidText⟩, xs_InvalidText, xb_InvalidText, xt_InvalidText, xk_InvalidText⟩
  i_InvalidText := xi_InvalidText
  t_InvalidText := xf_InvalidText
  nf_InvalidText := xn_InvalidText
  re1 := re1
  re2 := re2
  re3 := re3
  ex := by
    intro p q Cp Cq hp hq h1 h2
    have tab : ∀ r C, r ∈ exns → mg r = some (.ref C) → (r = "ReaderError" ∧ C = c_ReaderError) ∨ (r = "BadPart" ∧ C = c_BadPart) ∨ (r = "BadReader" ∧ C = c_BadReader) ∨ (r = "BadReaders" ∧ C = c_BadReaders) ∨ (r = "BadText" ∧ C = c_BadText) ∨ (r = "BadTexts" ∧ C = c_BadTexts) ∨ (r = "NotTaken" ∧ C = c_NotTaken) ∨ (r = "BadNumber" ∧ C = c_BadNumber) ∨ (r = "BadNumbers" ∧ C = c_BadNumbers) ∨ (r = "BadLength" ∧ C = c_BadLength) ∨ (r = "InvalidText" ∧ C = c_InvalidText) := by
      intro r C hr h
      simp only [exns, List.mem_cons, List.not_mem_nil, or_false] at hr
      rcases hr with rfl | rfl | rfl | rfl | rfl | rfl | rfl | rfl | rfl | rfl | rfl | rfl | rfl
      · have e := h.symm.trans (PySem.W.mg_of X NS a_ReaderError); cases e; simp
      · have e := h.symm.trans (PySem.W.mg_of X NS a_BadPart); cases e; simp
      · have e := h.symm.trans (PySem.W.mg_of X NS a_BadReader); cases e; simp
      · have e := h.symm.trans (PySem.W.mg_of X NS a_BadReaders); cases e; simp
      · have e := h.symm.trans (PySem.W.mg_of X NS a_BadText); cases e; simp
      · have e := h.symm.trans (PySem.W.mg_of X NS a_BadTexts); cases e; simp
      · have e := h.symm.trans (PySem.W.mg_of X NS a_NotTaken); cases e; simp
      · have e := h.symm.trans (PySem.W.mg_of X NS a_BadNumber); cases e; simp
      · have e := h.symm.trans (PySem.W.mg_of X NS a_BadNumbers); cases e; simp
      · have e := h.symm.trans (PySem.W.mg_of X NS a_BadLength); cases e; simp
      · have e := h.symm.trans (PySem.W.mg_none_of X NS zx_BadIndex); cases e
      · have e := h.symm.trans (PySem.W.mg_none_of X NS zx_BadChain); cases e
      · have e := h.symm.trans (PySem.W.mg_of X NS a_InvalidText); cases e; simp
    rcases tab p Cp hp h1 with ⟨rfl, rfl⟩ | ⟨rfl, rfl⟩ | ⟨rfl, rfl⟩ | ⟨rfl, rfl⟩ | ⟨rfl, rfl⟩ | ⟨rfl, rfl⟩ | ⟨rfl, rfl⟩ | ⟨rfl, rfl⟩ | ⟨rfl, rfl⟩ | ⟨rfl, rfl⟩ | ⟨rfl, rfl⟩ <;> rcases tab q Cq hq h2 with ⟨rfl, rfl⟩ | ⟨rfl, rfl⟩ | ⟨rfl, rfl⟩ | ⟨rfl, rfl⟩ | ⟨rfl, rfl⟩ | ⟨rfl, rfl⟩ | ⟨rfl, rfl⟩ | ⟨rfl, rfl⟩ | ⟨rfl, rfl⟩ | ⟨rfl, rfl⟩ | ⟨rfl, rfl⟩
    · exact exm_at xb_ReaderError xq_ReaderError xt_ReaderError ss_ReaderError_ReaderError
    · exact exm_at xb_BadPart xq_BadPart xt_BadPart ss_ReaderError_BadPart
    · exact exm_at xb_BadReader xq_BadReader xt_BadReader ss_ReaderError_BadReader
    · exact exm_at xb_BadReaders xq_BadReaders xt_BadReaders ss_ReaderError_BadReaders
    · exact exm_at xb_BadText xq_BadText xt_BadText ss_ReaderError_BadText
    · exact exm_at xb_BadTexts xq_BadTexts xt_BadTexts ss_ReaderError_BadTexts
    · exact exm_at xb_NotTaken xq_NotTaken xt_NotTaken ss_ReaderError_NotTaken
    · exact exm_at xb_BadNumber xq_BadNumber xt_BadNumber ss_ReaderError_BadNumber
    · exact exm_at xb_BadNumbers xq_BadNumbers xt_BadNumbers ss_ReaderError_BadNumbers
    · exact exm_at xb_BadLength xq_BadLength xt_BadLength ss_ReaderError_BadLength
    · exact exm_at xb_InvalidText xq_InvalidText xt_InvalidText ss_ReaderError_InvalidText
    · exact exm_at xb_ReaderError xq_ReaderError xt_ReaderError ss_BadPart_ReaderError
    · exact exm_at xb_BadPart xq_BadPart xt_BadPart ss_BadPart_BadPart
    · exact exm_at xb_BadReader xq_BadReader xt_BadReader ss_BadPart_BadReader
    · exact exm_at xb_BadReaders xq_BadReaders xt_BadReaders ss_BadPart_BadReaders
    · exact exm_at xb_BadText xq_BadText xt_BadText ss_BadPart_BadText
    · exact exm_at xb_BadTexts xq_BadTexts xt_BadTexts ss_BadPart_BadTexts
    · exact exm_at xb_NotTaken xq_NotTaken xt_NotTaken ss_BadPart_NotTaken
    · exact exm_at xb_BadNumber xq_BadNumber xt_BadNumber ss_BadPart_BadNumber
    · exact exm_at xb_BadNumbers xq_BadNumbers xt_BadNumbers ss_BadPart_BadNumbers
    · exact exm_at xb_BadLength xq_BadLength xt_BadLength ss_BadPart_BadLength
    · exact exm_at xb_InvalidText xq_InvalidText xt_InvalidText ss_BadPart_InvalidText
    · exact exm_at xb_ReaderError xq_ReaderError xt_ReaderError ss_BadReader_ReaderError
    · exact exm_at xb_BadPart xq_BadPart xt_BadPart ss_BadReader_BadPart
    · exact exm_at xb_BadReader xq_BadReader xt_BadReader ss_BadReader_BadReader
    · exact exm_at xb_BadReaders xq_BadReaders xt_BadReaders ss_BadReader_BadReaders
    · exact exm_at xb_BadText xq_BadText xt_BadText ss_BadReader_BadText
    · exact exm_at xb_BadTexts xq_BadTexts xt_BadTexts ss_BadReader_BadTexts
    · exact exm_at xb_NotTaken xq_NotTaken xt_NotTaken ss_BadReader_NotTaken
    · exact exm_at xb_BadNumber xq_BadNumber xt_BadNumber ss_BadReader_BadNumber
    · exact exm_at xb_BadNumbers xq_BadNumbers xt_BadNumbers ss_BadReader_BadNumbers
    · exact exm_at xb_BadLength xq_BadLength xt_BadLength ss_BadReader_BadLength
    · exact exm_at xb_InvalidText xq_InvalidText xt_InvalidText ss_BadReader_InvalidText
    · exact exm_at xb_ReaderError xq_ReaderError xt_ReaderError ss_BadReaders_ReaderError
    · exact exm_at xb_BadPart xq_BadPart xt_BadPart ss_BadReaders_BadPart
    · exact exm_at xb_BadReader xq_BadReader xt_BadReader ss_BadReaders_BadReader
    · exact exm_at xb_BadReaders xq_BadReaders xt_BadReaders ss_BadReaders_BadReaders
    · exact exm_at xb_BadText xq_BadText xt_BadText ss_BadReaders_BadText
    · exact exm_at xb_BadTexts xq_BadTexts xt_BadTexts ss_BadReaders_BadTexts
    · exact exm_at xb_NotTaken xq_NotTaken xt_NotTaken ss_BadReaders_NotTaken
    · exact exm_at xb_BadNumber xq_BadNumber xt_BadNumber ss_BadReaders_BadNumber
    · exact exm_at xb_BadNumbers xq_BadNumbers xt_BadNumbers ss_BadReaders_BadNumbers
    · exact exm_at xb_BadLength xq_BadLength xt_BadLength ss_BadReaders_BadLength
    · exact exm_at xb_InvalidText xq_InvalidText xt_InvalidText ss_BadReaders_InvalidText
    · exact exm_at xb_ReaderError xq_ReaderError xt_ReaderError ss_BadText_ReaderError
    · exact exm_at xb_BadPart xq_BadPart xt_BadPart ss_BadText_BadPart
    · exact exm_at xb_BadReader xq_BadReader xt_BadReader ss_BadText_BadReader
    · exact exm_at xb_BadReaders xq_BadReaders xt_BadReaders ss_BadText_BadReaders
    · exact exm_at xb_BadText xq_BadText xt_BadText ss_BadText_BadText
    · exact exm_at xb_BadTexts xq_BadTexts xt_BadTexts ss_BadText_BadTexts
    · exact exm_at xb_NotTaken xq_NotTaken xt_NotTaken ss_BadText_NotTaken
    · exact exm_at xb_BadNumber xq_BadNumber xt_BadNumber ss_BadText_BadNumber
    · exact exm_at xb_BadNumbers xq_BadNumbers xt_BadNumbers ss_BadText_BadNumbers
    · exact exm_at xb_BadLength xq_BadLength xt_BadLength ss_BadText_BadLength
    · exact exm_at xb_InvalidText xq_InvalidText xt_InvalidText ss_BadText_InvalidText
    · exact exm_at xb_ReaderError xq_ReaderError xt_ReaderError ss_BadTexts_ReaderError
    · exact exm_at xb_BadPart xq_BadPart xt_BadPart ss_BadTexts_BadPart
    · exact exm_at xb_BadReader xq_BadReader xt_BadReader ss_BadTexts_BadReader
    · exact exm_at xb_BadReaders xq_BadReaders xt_BadReaders ss_BadTexts_BadReaders
    · exact exm_at xb_BadText xq_BadText xt_BadText ss_BadTexts_BadText
    · exact exm_at xb_BadTexts xq_BadTexts xt_BadTexts ss_BadTexts_BadTexts
    · exact exm_at xb_NotTaken xq_NotTaken xt_NotTaken ss_BadTexts_NotTaken
    · exact exm_at xb_BadNumber xq_BadNumber xt_BadNumber ss_BadTexts_BadNumber
    · exact exm_at xb_BadNumbers xq_BadNumbers xt_BadNumbers ss_BadTexts_BadNumbers
    · exact exm_at xb_BadLength xq_BadLength xt_BadLength ss_BadTexts_BadLength
    · exact exm_at xb_InvalidText xq_InvalidText xt_InvalidText ss_BadTexts_InvalidText
    · exact exm_at xb_ReaderError xq_ReaderError xt_ReaderError ss_NotTaken_ReaderError
    · exact exm_at xb_BadPart xq_BadPart xt_BadPart ss_NotTaken_BadPart
    · exact exm_at xb_BadReader xq_BadReader xt_BadReader ss_NotTaken_BadReader
    · exact exm_at xb_BadReaders xq_BadReaders xt_BadReaders ss_NotTaken_BadReaders
    · exact exm_at xb_BadText xq_BadText xt_BadText ss_NotTaken_BadText
    · exact exm_at xb_BadTexts xq_BadTexts xt_BadTexts ss_NotTaken_BadTexts
    · exact exm_at xb_NotTaken xq_NotTaken xt_NotTaken ss_NotTaken_NotTaken
    · exact exm_at xb_BadNumber xq_BadNumber xt_BadNumber ss_NotTaken_BadNumber
    · exact exm_at xb_BadNumbers xq_BadNumbers xt_BadNumbers ss_NotTaken_BadNumbers
    · exact exm_at xb_BadLength xq_BadLength xt_BadLength ss_NotTaken_BadLength
    · exact exm_at xb_InvalidText xq_InvalidText xt_InvalidText ss_NotTaken_InvalidText
    · exact exm_at xb_ReaderError xq_ReaderError xt_ReaderError ss_BadNumber_ReaderError
    · exact exm_at xb_BadPart xq_BadPart xt_BadPart ss_BadNumber_BadPart
    · exact exm_at xb_BadReader xq_BadReader xt_BadReader ss_BadNumber_BadReader
    · exact exm_at xb_BadReaders xq_BadReaders xt_BadReaders ss_BadNumber_BadReaders
    · exact exm_at xb_BadText xq_BadText xt_BadText ss_BadNumber_BadText
    · exact exm_at xb_BadTexts xq_BadTexts xt_BadTexts ss_BadNumber_BadTexts
    · exact exm_at xb_NotTaken xq_NotTaken xt_NotTaken ss_BadNumber_NotTaken
    · exact exm_at xb_BadNumber xq_BadNumber xt_BadNumber ss_BadNumber_BadNumber
    · exact exm_at xb_BadNumbers xq_BadNumbers xt_BadNumbers ss_BadNumber_BadNumbers
    · exact exm_at xb_BadLength xq_BadLength xt_BadLength ss_BadNumber_BadLength
    · exact exm_at xb_InvalidText xq_InvalidText xt_InvalidText ss_BadNumber_InvalidText
    · exact exm_at xb_ReaderError xq_ReaderError xt_ReaderError ss_BadNumbers_ReaderError
    · exact exm_at xb_BadPart xq_BadPart xt_BadPart ss_BadNumbers_BadPart
    · exact exm_at xb_BadReader xq_BadReader xt_BadReader ss_BadNumbers_BadReader
    · exact exm_at xb_BadReaders xq_BadReaders xt_BadReaders ss_BadNumbers_BadReaders
    · exact exm_at xb_BadText xq_BadText xt_BadText ss_BadNumbers_BadText
    · exact exm_at xb_BadTexts xq_BadTexts xt_BadTexts ss_BadNumbers_BadTexts
    · exact exm_at xb_NotTaken xq_NotTaken xt_NotTaken ss_BadNumbers_NotTaken
    · exact exm_at xb_BadNumber xq_BadNumber xt_BadNumber ss_BadNumbers_BadNumber
    · exact exm_at xb_BadNumbers xq_BadNumbers xt_BadNumbers ss_BadNumbers_BadNumbers
    · exact exm_at xb_BadLength xq_BadLength xt_BadLength ss_BadNumbers_BadLength
    · exact exm_at xb_InvalidText xq_InvalidText xt_InvalidText ss_BadNumbers_InvalidText
    · exact exm_at xb_ReaderError xq_ReaderError xt_ReaderError ss_BadLength_ReaderError
    · exact exm_at xb_BadPart xq_BadPart xt_BadPart ss_BadLength_BadPart
    · exact exm_at xb_BadReader xq_BadReader xt_BadReader ss_BadLength_BadReader
    · exact exm_at xb_BadReaders xq_BadReaders xt_BadReaders ss_BadLength_BadReaders
    · exact exm_at xb_BadText xq_BadText xt_BadText ss_BadLength_BadText
    · exact exm_at xb_BadTexts xq_BadTexts xt_BadTexts ss_BadLength_BadTexts
    · exact exm_at xb_NotTaken xq_NotTaken xt_NotTaken ss_BadLength_NotTaken
    · exact exm_at xb_BadNumber xq_BadNumber xt_BadNumber ss_BadLength_BadNumber
    · exact exm_at xb_BadNumbers xq_BadNumbers xt_BadNumbers ss_BadLength_BadNumbers
    · exact exm_at xb_BadLength xq_BadLength xt_BadLength ss_BadLength_BadLength
    · exact exm_at xb_InvalidText xq_InvalidText xt_InvalidText ss_BadLength_InvalidText
    · exact exm_at xb_ReaderError xq_ReaderError xt_ReaderError ss_InvalidText_ReaderError
    · exact exm_at xb_BadPart xq_BadPart xt_BadPart ss_InvalidText_BadPart
    · exact exm_at xb_BadReader xq_BadReader xt_BadReader ss_InvalidText_BadReader
    · exact exm_at xb_BadReaders xq_BadReaders xt_BadReaders ss_InvalidText_BadReaders
    · exact exm_at xb_BadText xq_BadText xt_BadText ss_InvalidText_BadText
    · exact exm_at xb_BadTexts xq_BadTexts xt_BadTexts ss_InvalidText_BadTexts
    · exact exm_at xb_NotTaken xq_NotTaken xt_NotTaken ss_InvalidText_NotTaken
    · exact exm_at xb_BadNumber xq_BadNumber xt_BadNumber ss_InvalidText_BadNumber
    · exact exm_at xb_BadNumbers xq_BadNumbers xt_BadNumbers ss_InvalidText_BadNumbers
    · exact exm_at xb_BadLength xq_BadLength xt_BadLength ss_InvalidText_BadLength
    · exact exm_at xb_InvalidText xq_InvalidText xt_InvalidText ss_InvalidText_InvalidText
  cf := clsFacts_of (PySem.W.mg_of X NS a_Reader) ⟨⟨pg_Reader, hd_Reader, po_Reader, sa_Reader⟩, k1, k2, k3, k4⟩ kb_str kb_int kb_bool kb_tuple kb_list kc_NoneType kc_bool kc_int kc_str kc_tuple kc_list kc_dict k5
  c_BEGIN := ⟨_, (.ref p_BEGIN_1), PySem.W.mg_of X NS ac_BEGIN, rfl, fun F => (.tup (vs := [(.str "ahead"), (.int 0), (.int 0), (.int 0)]) (.inr ⟨_, _, _, lc_BEGIN_1, rfl, rfl, by rw [sizeLine_eq]; show 4 ≤ 16777216; decide, (.cons ⟨_, rfl⟩ (.cons ⟨_, rfl⟩ (.cons ⟨_, rfl⟩ (.cons ⟨_, rfl⟩ .nil))))⟩) (.cons .str (.cons .int (.cons .int (.cons .int .nil)))))⟩
  c_COMMAS := ⟨_, (.ref p_COMMAS_1), PySem.W.mg_of X NS ac_COMMAS, rfl, fun F => (.tup (vs := [(.str "."), (.str ","), (.str "'"), (.str " "), (.str "")]) (.inr ⟨_, _, _, lc_COMMAS_1, rfl, rfl, by rw [sizeLine_eq]; show 5 ≤ 16777216; decide, (.cons ⟨_, rfl⟩ (.cons ⟨_, rfl⟩ (.cons ⟨_, rfl⟩ (.cons ⟨_, rfl⟩ (.cons ⟨_, rfl⟩ .nil)))))⟩) (.cons .str (.cons .str (.cons .str (.cons .str (.cons .str .nil))))))⟩
  c_FIGURES := ⟨_, (.str "0123456789"), PySem.W.mg_of X NS ac_FIGURES, ⟨_, rfl⟩, fun F => .str⟩
  c_MOST_EXPONENT := ⟨_, (.int 30), PySem.W.mg_of X NS ac_MOST_EXPONENT, ⟨_, rfl⟩, fun F => .int⟩
  c_MOST_GROUP := ⟨_, (.int 3), PySem.W.mg_of X NS ac_MOST_GROUP, ⟨_, rfl⟩, fun F => .int⟩
  c_MOST_LENGTH := ⟨_, (.int 30), PySem.W.mg_of X NS ac_MOST_LENGTH, ⟨_, rfl⟩, fun F => .int⟩
  c_MOST_READERS := ⟨_, (.int 4), PySem.W.mg_of X NS ac_MOST_READERS, ⟨_, rfl⟩, fun F => .int⟩
  c_MOST_SIGNS := ⟨_, (.int 100), PySem.W.mg_of X NS ac_MOST_SIGNS, ⟨_, rfl⟩, fun F => .int⟩
  c_MOST_TEXTS := ⟨_, (.int 20), PySem.W.mg_of X NS ac_MOST_TEXTS, ⟨_, rfl⟩, fun F => .int⟩
  c_MOST_WHOLE := ⟨_, (.int 1000000000000000000000000000000), PySem.W.mg_of X NS ac_MOST_WHOLE, ⟨_, rfl⟩, fun F => .int⟩
  c_POINTS := ⟨_, (.ref p_POINTS_1), PySem.W.mg_of X NS ac_POINTS, rfl, fun F => (.tup (vs := [(.str "."), (.str ","), (.str "")]) (.inr ⟨_, _, _, lc_POINTS_1, rfl, rfl, by rw [sizeLine_eq]; show 3 ≤ 16777216; decide, (.cons ⟨_, rfl⟩ (.cons ⟨_, rfl⟩ (.cons ⟨_, rfl⟩ .nil)))⟩) (.cons .str (.cons .str (.cons .str .nil))))⟩
  c_POINT_SIGNS := ⟨_, (.ref p_POINT_SIGNS_1), PySem.W.mg_of X NS ac_POINT_SIGNS, rfl, fun F => (.tup (vs := [(.str "."), (.str ","), (.str "")]) (.inr ⟨_, _, _, lc_POINT_SIGNS_1, rfl, rfl, by rw [sizeLine_eq]; show 3 ≤ 16777216; decide, (.cons ⟨_, rfl⟩ (.cons ⟨_, rfl⟩ (.cons ⟨_, rfl⟩ .nil)))⟩) (.cons .str (.cons .str (.cons .str .nil))))⟩
  c_POINT_WORDS := ⟨_, (.ref p_POINT_WORDS_1), PySem.W.mg_of X NS ac_POINT_WORDS, rfl, fun F => (.tup (vs := [(.str "dot"), (.str "comma"), (.str "none")]) (.inr ⟨_, _, _, lc_POINT_WORDS_1, rfl, rfl, by rw [sizeLine_eq]; show 3 ≤ 16777216; decide, (.cons ⟨_, rfl⟩ (.cons ⟨_, rfl⟩ (.cons ⟨_, rfl⟩ .nil)))⟩) (.cons .str (.cons .str (.cons .str .nil))))⟩
  c_SIGNS := ⟨_, (.ref p_SIGNS_1), PySem.W.mg_of X NS ac_SIGNS, rfl, fun F => (.tup (vs := [(.str "none"), (.str "ahead"), (.str "behind")]) (.inr ⟨_, _, _, lc_SIGNS_1, rfl, rfl, by rw [sizeLine_eq]; show 3 ≤ 16777216; decide, (.cons ⟨_, rfl⟩ (.cons ⟨_, rfl⟩ (.cons ⟨_, rfl⟩ .nil)))⟩) (.cons .str (.cons .str (.cons .str .nil))))⟩
  c_SIGNS_READ := ⟨_, (.str " ',-.0123456789e"), PySem.W.mg_of X NS ac_SIGNS_READ, ⟨_, rfl⟩, fun F => .str⟩
  z_abs := PySem.W.mg_none_of X NS zb_abs
  z_all := PySem.W.mg_none_of X NS zb_all
  z_bool := PySem.W.mg_none_of X NS zb_bool
  z_enumerate := PySem.W.mg_none_of X NS zb_enumerate
  z_int := PySem.W.mg_none_of X NS zb_int
  z_isinstance := PySem.W.mg_none_of X NS zb_isinstance
  z_len := PySem.W.mg_none_of X NS zb_len
  z_list := PySem.W.mg_none_of X NS zb_list
  z_min := PySem.W.mg_none_of X NS zb_min
  z_range := PySem.W.mg_none_of X NS zb_range
  z_str := PySem.W.mg_none_of X NS zb_str
  z_tuple := PySem.W.mg_none_of X NS zb_tuple
def spLaw (K : PySem.W.Frag) : Sp := fun vs H Q _ => ∃ (a : Addr) (ns : List Int), vs = [.ref a] ∧ SqL K H a (ns.map V.int) ∧ ns.length ≤ 63 ∧ ∀ H', Q (.bl true) H'
theorem law_sp {K : PySem.W.Frag} {mg : Str → Option Value} (ht : ∀ ns : List Int, ns.length ≤ 63 → ∃ ps, F_law [.d (.sc ns)] = .ok (.bl true) ps) : ∀ vs H Q E, spLaw K vs H Q E → spF K mg 1 F_law vs H Q E := by
  intro vs H Q E h
  obtain ⟨a, ns, rfl, hS, hl, hQ⟩ := h
  obtain ⟨ps, e⟩ := ht ns hl
  refine ⟨rfl, H, [.d (.sc ns)], ⟨rfl, fun _ _ q => q, fun i d q => ?_, fun i io m q => ?_, fun i j io jo m n a ne q1 _ _ _ => ?_⟩, rfl, ?_⟩
  · match i with
    | 0 => cases q; exact ⟨_, rfl, .sc hS⟩
    | i + 1 => simp at q
  · match i with
    | 0 => cases q
    | i + 1 => simp at q
  · match i with
    | 0 => cases q1
    | i + 1 => simp at q1
  · rw [e]
    intro v H' F' _ _ r
    cases r
    exact hQ H'
theorem all_mk {l : PySem.W.OpenLaw} {w : World} {K : PySem.W.Frag} {mg : Str → Option Value} {fa : Addr} (ht : ∀ ns : List Int, ns.length ≤ 63 → ∃ ps, F_law [.d (.sc ns)] = .ok (.bl true) ps) (T : TX K mg) (hfa : mg "law" = some (.ref fa)) :
    ∃ fd : FuncData, (∀ (s : Shared) (u : Value), BindsTo s fd ⟨[u], []⟩ [("_law_script", u)]) ∧ ∀ base : Heap, K.In base → base.Ns mainGlobals mg → FnOk l.prog w K mg base (L2.CX l.prog w) 9 fa fd ["_law_script"] (spLaw K) := by
  have e := hfa.symm.trans T.m_law
  cases e
  refine ⟨T.fd_law, fun s u => ?_, fun base _ _ => (ok_law T).imp (law_sp ht)⟩
  obtain ⟨oc, od, kV, doc, pm, an, cdv, ct, osl, e, lk, hcd⟩ := T.F_law.ex
  rw [e]
  exact .of_eq rfl
theorem walk {l : PySem.W.OpenLaw} {q : Program} {loose : List Str} {XP : (Str → Option Value) → Heap → Prop} {YP : World → Heap → Prop} {d : DefRec} {K : Params → PySem.W.Frag} (hn : l.most = some 63) (hdf : d.params.defaults = [])
    (hY : ∀ (w : World) (h : Heap), YP w h → (K w.params).In h)
    (F : ∀ (w : World) (mg : Str → Option Value) (fa : Addr) (h : Heap), (K w.params).In h → h.Ns mainGlobals mg → mg d.name = some (.ref fa) →
      ∃ fd : FuncData, (∀ (s : Shared) (u : Value), BindsTo s fd ⟨[u], []⟩ [("_law_script", u)]) ∧ ∀ base : Heap, (K w.params).In base → base.Ns mainGlobals mg → FnOk l.prog w (K w.params) mg base (L2.CX l.prog w) 9 fa fd ["_law_script"] (spLaw (K w.params))) :
    PySem.W.WalkO q loose XP YP l.row.toRowW d [] (fun f vs => PySem.call f vs) :=
  L2.walk_of (n := 63) (k := 9) (x := "_law_script") (CX := fun w => L2.CX l.prog w) (sp := fun w => spLaw (K w.params)) hn (by decide) hdf ⟨rfl, by decide, by decide⟩ hY F (fun _ _ a ns hl _ hS => ⟨a, ns, rfl, hS, hl, fun _ => rfl⟩)
    fun _ _ _ _ _ z => by
      obtain ⟨_, _, _, _, _, _, _, _, _, _, _, _, y⟩ := z
      exact y.elim
end G

namespace G
open PySem L2 RL
def rowD (ns : List Int) (i m r : Int) : List D := [.sc ns, .int i, .int m, .int r]
def RowOk (ns : List Int) (row : List D) : Prop := ∃ i m r, row = rowD ns i m r ∧ 0 ≤ i ∧ 0 ≤ m ∧ m < 2147483647
theorem sl0 {a : Sl} {l : SEnv} : (a :: l)[0]? = some a := rfl
theorem sl1 {a b : Sl} {l : SEnv} : (a :: b :: l)[1]? = some b := rfl
theorem sl2 {a b c : Sl} {l : SEnv} : (a :: b :: c :: l)[2]? = some c := rfl
theorem taken {ns : List Int} {row : List D} (h : RowOk ns row) {many : Int} (h1 : 0 < many) (h2 : many < 340282366920938463463374607431768211456) : ∃ k row', RowOk ns row' ∧ 0 ≤ k ∧ k < many ∧ F__law_taken [.own true (.lst row), .d (.int many)] = .ok (.int k) [.own true (.lst row'), .un] := by
  obtain ⟨i, m, r, rfl, hi, hm, hm2⟩ := h
  have hs : RL.small64 m = true := by simp [RL.small64]; omega
  have hmul : hMulA (.int m) (.int 48271) = some (.int (m * 48271)) := mulA_small (by rw [hs]; rfl)
  have hw : wide many = true := decide_eq_true (Nat.lt_of_lt_of_le (show many.natAbs < 2 ^ 128 by omega) (Nat.pow_le_pow_right (by omega) (by omega)))
  have hfd : ∀ i : Int, hFdivA (.int i) (.int many) = some (.int (i / many)) := fun i => divA h1 hw
  have hf7 : ∀ i : Int, hFdivA (.int i) (.int 7) = some (.int (i / 7)) := fun i => divA (by decide) (by decide +kernel)
  by_cases hr : 0 < r
  · refine ⟨r % many, rowD ns i m (r / many), ⟨i, m, _, rfl, hi, hm, hm2⟩, Int.emod_nonneg _ (by omega), Int.emod_lt_of_pos _ h1, ?_⟩
    simp [F__law_taken, b__law_taken, ev_runF, ev_Seq, ev_IfS, ev_Tru, ev_Bin, ev_IxO, ev_C, ev_Var, ev_Ret, ev_Asg, ev_SetIx, ev_Call, ev_Cons, ev_Nil, bind_ok, toS_ok, ofO_some, ofB_some, hGt, hInt, hMod, hIntC, hfd, hf7, hIntOf2, Option.some_or, hIntOf, truD, ev_setD, io_un, io_d, ev_setIx, rowD, atI, ixN, hr, h1, h2, ev_cleanN, ev_clean0, ev_keep_io, ev_keep_d, List.replicate]
  · by_cases hl : (ns.length : Int) < i + 1
    · refine ⟨((m * 48271 + 11) % 2147483647 / 7) % many, rowD ns (i + 1) ((m * 48271 + 11) % 2147483647) r, ⟨_, _, _, rfl, by omega, Int.emod_nonneg _ (by omega), Int.emod_lt_of_pos _ (by omega)⟩, Int.emod_nonneg _ (by omega), Int.emod_lt_of_pos _ h1, ?_⟩
      simp [F__law_taken, b__law_taken, ev_runF, ev_Seq, ev_IfS, ev_Tru, ev_Bin, ev_IxO, ev_Ix, ev_C, ev_Var, ev_Ret, ev_Asg, ev_SetIx, ev_Call, ev_Cons, ev_Nil, ev_Next, bind_ok, toS_ok, ofO_some, ofB_some, hGt, hInt, hAdd, hmul, hLen, hMod, hIntC, hfd, hf7, hIntOf2, Option.some_or, hIntOf, truD, ev_setD, io_un, io_d, ev_setIx, rowD, atI, ixN, hr, hl, h1, h2, hs, ev_cleanN, ev_clean0, ev_keep_io, ev_keep_d, List.replicate]
    · have hj : i.toNat < ns.length := by omega
      have e1 : ns[i.toNat]? = some ns[i.toNat] := by simp [hj]
      have hj2 : i < (ns.length : Int) := by omega
      by_cases hc : (1000000000000000000 : Int) ≤ ns[i.toNat]
      · refine ⟨ns[i.toNat] % many, rowD ns (i + 1) ((m * 48271 + ns[i.toNat] + 11) % 2147483647) (ns[i.toNat] / many), ⟨_, _, _, rfl, by omega, Int.emod_nonneg _ (by omega), Int.emod_lt_of_pos _ (by omega)⟩, Int.emod_nonneg _ (by omega), Int.emod_lt_of_pos _ h1, ?_⟩
        simp [F__law_taken, b__law_taken, ev_runF, ev_Seq, ev_IfS, ev_Tru, ev_Bin, ev_IxO, ev_Ix, ev_C, ev_Var, ev_Ret, ev_Asg, ev_SetIx, ev_Call, ev_Cons, ev_Nil, ev_Next, bind_ok, toS_ok, ofO_some, ofB_some, hGt, hGe, hSub, hPow, hIx, hInt, hAdd, hmul, hLen, hMod, hIntC, hfd, hf7, hIntOf2, Option.some_or, hIntOf, truD, ev_setD, io_un, io_d, ev_setIx, rowD, atI, ixN, hr, hl, h1, h2, hs, hc, hi, hj2, e1, ev_cleanN, ev_clean0, ev_keep_io, ev_keep_d, List.replicate]
      · refine ⟨ns[i.toNat] % many, rowD ns (i + 1) ((m * 48271 + ns[i.toNat] + 11) % 2147483647) r, ⟨_, _, _, rfl, by omega, Int.emod_nonneg _ (by omega), Int.emod_lt_of_pos _ (by omega)⟩, Int.emod_nonneg _ (by omega), Int.emod_lt_of_pos _ h1, ?_⟩
        simp [F__law_taken, b__law_taken, ev_runF, ev_Seq, ev_IfS, ev_Tru, ev_Bin, ev_IxO, ev_Ix, ev_C, ev_Var, ev_Ret, ev_Asg, ev_SetIx, ev_Call, ev_Cons, ev_Nil, ev_Next, bind_ok, toS_ok, ofO_some, ofB_some, hGt, hGe, hSub, hPow, hIx, hInt, hAdd, hmul, hLen, hMod, hIntC, hfd, hf7, hIntOf2, Option.some_or, hIntOf, truD, ev_setD, io_un, io_d, ev_setIx, rowD, atI, ixN, hr, hl, h1, h2, hs, hc, hi, hj2, e1, ev_cleanN, ev_clean0, ev_keep_io, ev_keep_d, List.replicate]
end G

namespace G
open PySem L2 RL SX
abbrev p_law_0 : SEnv → SOut := (gOwnL 1 (RL.gCons (gVar 0) (RL.gCons (gC (D.int 0)) (RL.gCons (gC (D.int 121)) (RL.gCons (gC (D.int 0)) RL.gNil)))))
abbrev p_law_1 : SEnv → SOut := (gFor (gRange (RL.gCons (gC (D.int 9)) RL.gNil)) (setD 2) (gSeq (gAsg (gFn F__law_taken (aOwn 1 (aV (gC (D.int 10)) aNil))) (setD 3)) (gIfS (gOrT (gTru (gBin hNe (gFn F__law_first (aV (gVar 3) aNil)) (gVar 3))) (gNotT (gTru (gFn F__law_base (aV (gVar 3) aNil))))) (gRet (gC (D.bl false))) gNext)))
abbrev p_law_2 : SEnv → SOut := (gRet (gBin hEq (gLenMk "Column" F_Column___init__ F_Column___len__ (RL.gCons (RL.gLst (RL.gCons (gMake "Reader" F_Reader___init__ (RL.gCons (gC (D.str ".")) (RL.gCons (gC (D.str ",")) (RL.gCons (gC (D.int 3)) (RL.gCons (gC (D.bl false)) (RL.gCons (gC (D.str "none")) (RL.gCons (gC (D.bl false)) (RL.gCons (gC (D.bl false)) (RL.gCons (gC (D.bl false)) RL.gNil))))))))) RL.gNil)) RL.gNil)) (gC (D.int 0))))
abbrev p_law_1_3_0 : SEnv → SOut := (gAsg (gFn F__law_taken (aOwn 1 (aV (gC (D.int 10)) aNil))) (setD 3))
abbrev p_law_1_3_1 : SEnv → SOut := (gIfS (gOrT (gTru (gBin hNe (gFn F__law_first (aV (gVar 3) aNil)) (gVar 3))) (gNotT (gTru (gFn F__law_base (aV (gVar 3) aNil))))) (gRet (gC (D.bl false))) gNext)
theorem loop_inv {h : D → SEnv → Option SEnv} {gb : SEnv → SOut} {I : SEnv → Prop} (step : ∀ d e, I e → ∃ e1 e2, h d e = some e1 ∧ gb e1 = .next e2 ∧ I e2) : ∀ (ds : List D) (e : SEnv), I e → ∃ e', loopF h gb ds e = .next e' ∧ I e'
  | [], e, i => ⟨e, rfl, i⟩
  | d :: ds, e, i => by
    obtain ⟨e1, e2, h1, h2, h3⟩ := step d e i
    obtain ⟨e', h4, h5⟩ := loop_inv step ds e2 h3
    refine ⟨e', ?_, h5⟩
    rw [show loopF h gb (d :: ds) e = (match h d e with
      | none => .stuck
      | some e1 => match gb e1 with
        | .next e2 => loopF h gb ds e2
        | .cont e2 => loopF h gb ds e2
        | .brk e2 => .next e2
        | o => o) from rfl, h1]
    simp only [h2]
    exact h4
theorem first_ok {k : Int} (h0 : 0 ≤ k) (h1 : k < 10) : F__law_first [.d (.int k)] = .ok (.int k) [.un] := by
  have : k = 0 ∨ k = 1 ∨ k = 2 ∨ k = 3 ∨ k = 4 ∨ k = 5 ∨ k = 6 ∨ k = 7 ∨ k = 8 ∨ k = 9 := by omega
  rcases this with rfl | rfl | rfl | rfl | rfl | rfl | rfl | rfl | rfl | rfl <;> rfl
theorem base_ok {k : Int} (h0 : 0 ≤ k) (h1 : k < 10) : F__law_base [.d (.int k)] = .ok (.bl true) [.un] := by
  have : k = 0 ∨ k = 1 ∨ k = 2 ∨ k = 3 ∨ k = 4 ∨ k = 5 ∨ k = 6 ∨ k = 7 ∨ k = 8 ∨ k = 9 := by omega
  rcases this with rfl | rfl | rfl | rfl | rfl | rfl | rfl | rfl | rfl | rfl <;> rfl
def LI (ns : List Int) (e : SEnv) : Prop := ∃ row v2 v3, RowOk ns row ∧ ioAt (some v2) = false ∧ ioAt (some v3) = false ∧ e = [.d (.sc ns), .own false (.lst row), v2, v3]
abbrev lawB : SEnv → SOut := gSeq p_law_1_3_0 p_law_1_3_1
theorem turn {ns : List Int} (t0 : D) (e : SEnv) (i : LI ns e) : ∃ e1 e2, setD 2 t0 e = some e1 ∧ lawB e1 = .next e2 ∧ LI ns e2 := by
  obtain ⟨row, v2, v3, h, i2, i3, rfl⟩ := i
  obtain ⟨k, row1, hr1, a1, b1, e1⟩ := taken h (many := 10) (by omega) (by omega)
  have f1 := first_ok a1 b1
  have f2 := base_ok a1 b1
  have ne : hNe (.int k) (.int k) = some (.bl false) := by rw [ne_int]; simp
  refine ⟨[.d (.sc ns), .own false (.lst row), .d t0, v3], [.d (.sc ns), .own false (.lst row1), .d t0, .d (.int k)], ?_, ?_, ⟨row1, _, _, hr1, rfl, rfl, rfl⟩⟩
  · push_cast [i2]
  · push_cast [i3, e1, f1, f2, ne]
theorem end_ok {ns : List Int} {s1 v2 v3 : Sl} : ∃ e, p_law_2 [.d (.sc ns), s1, v2, v3] = .ret (.bl true) e := ⟨_, rfl⟩
theorem law_true : ∀ ns : List Int, ns.length ≤ 63 → ∃ ps, F_law [.d (.sc ns)] = .ok (.bl true) ps := by
  intro ns _
  obtain ⟨ds, hd⟩ : ∃ ds, hRange [.int 9] = some ds := ⟨_, rfl⟩
  obtain ⟨e, he, row, v2, v3, -, -, -, rfl⟩ := loop_inv (I := LI ns) (turn (ns := ns)) ds [.d (.sc ns), .own false (.lst [.sc ns, .int 0, .int 121, .int 0]), .un, .un] ⟨_, _, _, ⟨0, 121, 0, rfl, by decide, by decide, by decide⟩, rfl, rfl, rfl⟩
  have s0 : p_law_0 [.d (.sc ns), .un, .un, .un] = .next [.d (.sc ns), .own false (.lst [.sc ns, .int 0, .int 121, .int 0]), .un, .un] := by
    push_cast []
  have s1 : p_law_1 [.d (.sc ns), .own false (.lst [.sc ns, .int 0, .int 121, .int 0]), .un, .un] = .next [.d (.sc ns), .own false (.lst row), v2, v3] := by
    unfold p_law_1
    rw [ev_For]
    push_cast [hd]
    exact he
  obtain ⟨e, s2⟩ := end_ok (ns := ns) (s1 := .own false (.lst row)) (v2 := v2) (v3 := v3)
  refine ⟨clean 1 e, ?_⟩
  unfold F_law
  rw [ev_runF]
  show (match gSeq p_law_0 (gSeq p_law_1 p_law_2) [.d (.sc ns), .un, .un, .un] with
      | .next e => FOut.ok .non (clean 1 e)
      | .ret d e => .ok d (clean 1 e)
      | .exc x e => .exc x (clean 1 e)
      | _ => .stuck) = _
  rw [ev_Seq, s0]
  simp only
  rw [ev_Seq, s1]
  simp only
  rw [s2]
end G

open PySem PySem.W PyProof.Rows in
set_option maxRecDepth 100000 in
set_option maxHeartbeats 0 in
theorem PySem.Challenge.cw_readersapart_k21_errors_are_apart_holds : PySem.Challenge.rw_readersapart_k21_errors_are_apart.Holds := by
  w_on; o_law; k_head; (case hw => w_witness2)
  k_fill
  refine G.walk (l := PySem.Challenge.rw_readersapart_k21_errors_are_apart) rfl rfl (fun w h Y => PySem.W.kIn_of Y) ?F
  case F =>
    intro w mg fa h KX NS hmg
    refine' G.all_mk G.law_true (G.mkTX KX NS ?a_is_one ?a_is_size ?a_parts_of ?a_need_reader ?a_need_readers ?a_parts ?a_is_whole ?a_can_end ?a_next_figure ?a_next_mark ?a_next_minus ?a_next_state ?a_need_length ?a_count ?a_need_text ?a_stop_of ?a_takes ?a_tens ?a_normal ?a_number_of ?a_means ?a_parting ?a_need_texts ?a_takers ?a_word_at ?a_read ?a_is_integer ?a_is_number ?a_need_number ?a_grouped ?a_plain_of ?a_written_of ?a_written ?a_need_numbers ?a_fitting ?a__law_taken ?a__law_call ?a__law_first ?a__law_base ?a_law ?a_Reader ?a_Column ?a_ReaderError ?a_BadPart ?a_BadReader ?a_BadReaders ?a_BadText ?a_BadTexts ?a_NotTaken ?a_BadNumber ?a_BadNumbers ?a_BadLength ?a_InvalidText ?ac_BEGIN ?ac_COMMAS ?ac_FIGURES ?ac_MOST_EXPONENT ?ac_MOST_GROUP ?ac_MOST_LENGTH ?ac_MOST_READERS ?ac_MOST_SIGNS ?ac_MOST_TEXTS ?ac_MOST_WHOLE ?ac_POINTS ?ac_POINT_SIGNS ?ac_POINT_WORDS ?ac_SIGNS ?ac_SIGNS_READ ?in_Reader ?in_Column ?in_len_Column ?xi_BadPart ?xi_BadReader ?xi_BadReaders ?xi_BadText ?xi_BadTexts ?xi_NotTaken ?xi_BadNumber ?xi_BadNumbers ?xi_BadLength ?xi_InvalidText ?lc_SIGNS_1 ?lc_POINT_WORDS_1 ?lc_POINT_SIGNS_1 ?lc_POINTS_1 ?lc_COMMAS_1 ?lc_BEGIN_1 ?l_is_one ?cc_is_one ?kp_is_one ?l_is_size ?cc_is_size ?kp_is_size ?l_parts_of ?cc_parts_of ?kp_parts_of ?l_need_reader ?cc_need_reader ?kp_need_reader ?l_need_readers ?cc_need_readers ?kp_need_readers ?l_parts ?cc_parts ?kp_parts ?l_is_whole ?cc_is_whole ?kp_is_whole ?l_can_end ?cc_can_end ?kp_can_end ?l_next_figure ?cc_next_figure ?kp_next_figure ?l_next_mark ?cc_next_mark ?kp_next_mark ?l_next_minus ?cc_next_minus ?kp_next_minus ?l_next_state ?cc_next_state ?kp_next_state ?l_need_length ?cc_need_length ?kp_need_length ?l_count ?cc_count ?kp_count ?l_need_text ?cc_need_text ?kp_need_text ?l_stop_of ?cc_stop_of ?kp_stop_of ?l_takes ?cc_takes ?kp_takes ?l_tens ?cc_tens ?kp_tens ?l_normal ?cc_normal ?kp_normal ?l_number_of ?cc_number_of ?kp_number_of ?l_means ?cc_means ?kp_means ?l_parting ?cc_parting ?kp_parting ?l_need_texts ?cc_need_texts ?kp_need_texts ?l_takers ?cc_takers ?kp_takers ?l_word_at ?cc_word_at ?kp_word_at ?l_read ?cc_read ?kp_read ?l_is_integer ?cc_is_integer ?kp_is_integer ?l_is_number ?cc_is_number ?kp_is_number ?l_need_number ?cc_need_number ?kp_need_number ?l_grouped ?cc_grouped ?kp_grouped ?l_plain_of ?cc_plain_of ?kp_plain_of ?l_written_of ?cc_written_of ?kp_written_of ?l_written ?cc_written ?kp_written ?l_need_numbers ?cc_need_numbers ?kp_need_numbers ?l_fitting ?cc_fitting ?kp_fitting ?l__law_taken ?cc__law_taken ?kp__law_taken ?l__law_call ?cc__law_call ?kp__law_call ?l__law_first ?cc__law_first ?kp__law_first ?l__law_base ?cc__law_base ?kp__law_base ?l_law ?cc_law ?kp_law ?pg_Reader ?hd_Reader ?po_Reader ?sa_Reader ?l_Reader___init__ ?cc_Reader___init__ ?kp_Reader___init__ ?mk_Reader ?if_Reader ?kc_Reader ?pg_Column ?hd_Column ?po_Column ?sa_Column ?l_Column___init__ ?cc_Column___init__ ?kp_Column___init__ ?l_Column___len__ ?cc_Column___len__ ?kp_Column___len__ ?mk_Column ?if_Column ?kc_Column ?na_Column_eyes ?na_Column_lines ?na_Column_seen ?na_Reader_dot ?na_Reader_mark ?na_Reader_minus ?na_Reader_naughts ?na_Reader_power ?na_Reader_size ?na_Reader_spaces ?na_Reader_strict ?lnf_Column ?l_BadPart___init__ ?cc_BadPart___init__ ?kp_BadPart___init__ ?xc_BadPart ?xr_BadPart ?xs_BadPart ?xb_BadPart ?xt_BadPart ?xk_BadPart ?xf_BadPart ?xn_BadPart ?l_BadReader___init__ ?cc_BadReader___init__ ?kp_BadReader___init__ ?xc_BadReader ?xr_BadReader ?xs_BadReader ?xb_BadReader ?xt_BadReader ?xk_BadReader ?xf_BadReader ?l_BadReaders___init__ ?cc_BadReaders___init__ ?kp_BadReaders___init__ ?xc_BadReaders ?xr_BadReaders ?xs_BadReaders ?xb_BadReaders ?xt_BadReaders ?xk_BadReaders ?xf_BadReaders ?xn_BadReaders ?l_BadText___init__ ?cc_BadText___init__ ?kp_BadText___init__ ?xc_BadText ?xr_BadText ?xs_BadText ?xb_BadText ?xt_BadText ?xk_BadText ?xf_BadText ?l_BadTexts___init__ ?cc_BadTexts___init__ ?kp_BadTexts___init__ ?xc_BadTexts ?xr_BadTexts ?xs_BadTexts ?xb_BadTexts ?xt_BadTexts ?xk_BadTexts ?xf_BadTexts ?xn_BadTexts ?l_NotTaken___init__ ?cc_NotTaken___init__ ?kp_NotTaken___init__ ?xc_NotTaken ?xr_NotTaken ?xs_NotTaken ?xb_NotTaken ?xt_NotTaken ?xk_NotTaken ?xf_NotTaken ?xn_NotTaken ?l_BadNumber___init__ ?cc_BadNumber___init__ ?kp_BadNumber___init__ ?xc_BadNumber ?xr_BadNumber ?xs_BadNumber ?xb_BadNumber ?xt_BadNumber ?xk_BadNumber ?xf_BadNumber ?l_BadNumbers___init__ ?cc_BadNumbers___init__ ?kp_BadNumbers___init__ ?xc_BadNumbers ?xr_BadNumbers ?xs_BadNumbers ?xb_BadNumbers ?xt_BadNumbers ?xk_BadNumbers ?xf_BadNumbers ?xn_BadNumbers ?l_BadLength___init__ ?cc_BadLength___init__ ?kp_BadLength___init__ ?xc_BadLength ?xr_BadLength ?xs_BadLength ?xb_BadLength ?xt_BadLength ?xk_BadLength ?xf_BadLength ?l_InvalidText___init__ ?cc_InvalidText___init__ ?kp_InvalidText___init__ ?xc_InvalidText ?xr_InvalidText ?xs_InvalidText ?xb_InvalidText ?xt_InvalidText ?xk_InvalidText ?xf_InvalidText ?xn_InvalidText ?re1 ?re2 ?re3 ?xb_ReaderError ?xt_ReaderError ?xq_ReaderError ?xq_BadPart ?xq_BadReader ?xq_BadReaders ?xq_BadText ?xq_BadTexts ?xq_NotTaken ?xq_BadNumber ?xq_BadNumbers ?xq_BadLength ?xq_InvalidText ?ss_ReaderError_ReaderError ?ss_ReaderError_BadPart ?ss_ReaderError_BadReader ?ss_ReaderError_BadReaders ?ss_ReaderError_BadText ?ss_ReaderError_BadTexts ?ss_ReaderError_NotTaken ?ss_ReaderError_BadNumber ?ss_ReaderError_BadNumbers ?ss_ReaderError_BadLength ?ss_ReaderError_InvalidText ?ss_BadPart_ReaderError ?ss_BadPart_BadPart ?ss_BadPart_BadReader ?ss_BadPart_BadReaders ?ss_BadPart_BadText ?ss_BadPart_BadTexts ?ss_BadPart_NotTaken ?ss_BadPart_BadNumber ?ss_BadPart_BadNumbers ?ss_BadPart_BadLength ?ss_BadPart_InvalidText ?ss_BadReader_ReaderError ?ss_BadReader_BadPart ?ss_BadReader_BadReader ?ss_BadReader_BadReaders ?ss_BadReader_BadText ?ss_BadReader_BadTexts ?ss_BadReader_NotTaken ?ss_BadReader_BadNumber ?ss_BadReader_BadNumbers ?ss_BadReader_BadLength ?ss_BadReader_InvalidText ?ss_BadReaders_ReaderError ?ss_BadReaders_BadPart ?ss_BadReaders_BadReader ?ss_BadReaders_BadReaders ?ss_BadReaders_BadText ?ss_BadReaders_BadTexts ?ss_BadReaders_NotTaken ?ss_BadReaders_BadNumber ?ss_BadReaders_BadNumbers ?ss_BadReaders_BadLength ?ss_BadReaders_InvalidText ?ss_BadText_ReaderError ?ss_BadText_BadPart ?ss_BadText_BadReader ?ss_BadText_BadReaders ?ss_BadText_BadText ?ss_BadText_BadTexts ?ss_BadText_NotTaken ?ss_BadText_BadNumber ?ss_BadText_BadNumbers ?ss_BadText_BadLength ?ss_BadText_InvalidText ?ss_BadTexts_ReaderError ?ss_BadTexts_BadPart ?ss_BadTexts_BadReader ?ss_BadTexts_BadReaders ?ss_BadTexts_BadText ?ss_BadTexts_BadTexts ?ss_BadTexts_NotTaken ?ss_BadTexts_BadNumber ?ss_BadTexts_BadNumbers ?ss_BadTexts_BadLength ?ss_BadTexts_InvalidText ?ss_NotTaken_ReaderError ?ss_NotTaken_BadPart ?ss_NotTaken_BadReader ?ss_NotTaken_BadReaders ?ss_NotTaken_BadText ?ss_NotTaken_BadTexts ?ss_NotTaken_NotTaken ?ss_NotTaken_BadNumber ?ss_NotTaken_BadNumbers ?ss_NotTaken_BadLength ?ss_NotTaken_InvalidText ?ss_BadNumber_ReaderError ?ss_BadNumber_BadPart ?ss_BadNumber_BadReader ?ss_BadNumber_BadReaders ?ss_BadNumber_BadText ?ss_BadNumber_BadTexts ?ss_BadNumber_NotTaken ?ss_BadNumber_BadNumber ?ss_BadNumber_BadNumbers ?ss_BadNumber_BadLength ?ss_BadNumber_InvalidText ?ss_BadNumbers_ReaderError ?ss_BadNumbers_BadPart ?ss_BadNumbers_BadReader ?ss_BadNumbers_BadReaders ?ss_BadNumbers_BadText ?ss_BadNumbers_BadTexts ?ss_BadNumbers_NotTaken ?ss_BadNumbers_BadNumber ?ss_BadNumbers_BadNumbers ?ss_BadNumbers_BadLength ?ss_BadNumbers_InvalidText ?ss_BadLength_ReaderError ?ss_BadLength_BadPart ?ss_BadLength_BadReader ?ss_BadLength_BadReaders ?ss_BadLength_BadText ?ss_BadLength_BadTexts ?ss_BadLength_NotTaken ?ss_BadLength_BadNumber ?ss_BadLength_BadNumbers ?ss_BadLength_BadLength ?ss_BadLength_InvalidText ?ss_InvalidText_ReaderError ?ss_InvalidText_BadPart ?ss_InvalidText_BadReader ?ss_InvalidText_BadReaders ?ss_InvalidText_BadText ?ss_InvalidText_BadTexts ?ss_InvalidText_NotTaken ?ss_InvalidText_BadNumber ?ss_InvalidText_BadNumbers ?ss_InvalidText_BadLength ?ss_InvalidText_InvalidText ?zx_BadIndex ?zx_BadChain ?k1 ?k2 ?k3 ?k4 ?k5 ?kb_str ?kb_int ?kb_bool ?kb_tuple ?kb_list ?kc_NoneType ?kc_bool ?kc_int ?kc_str ?kc_tuple ?kc_list ?kc_dict ?zb_abs ?zb_all ?zb_bool ?zb_enumerate ?zb_int ?zb_isinstance ?zb_len ?zb_list ?zb_min ?zb_range ?zb_str ?zb_tuple) hmg
    (case a_is_one => first | k_is | rfl | decide +kernel)
    (case a_is_size => first | k_is | rfl | decide +kernel)
    (case a_parts_of => first | k_is | rfl | decide +kernel)
    (case a_need_reader => first | k_is | rfl | decide +kernel)
    (case a_need_readers => first | k_is | rfl | decide +kernel)
    (case a_parts => first | k_is | rfl | decide +kernel)
    (case a_is_whole => first | k_is | rfl | decide +kernel)
    (case a_can_end => first | k_is | rfl | decide +kernel)
    (case a_next_figure => first | k_is | rfl | decide +kernel)
    (case a_next_mark => first | k_is | rfl | decide +kernel)
    (case a_next_minus => first | k_is | rfl | decide +kernel)
    (case a_next_state => first | k_is | rfl | decide +kernel)
    (case a_need_length => first | k_is | rfl | decide +kernel)
    (case a_count => first | k_is | rfl | decide +kernel)
    (case a_need_text => first | k_is | rfl | decide +kernel)
    (case a_stop_of => first | k_is | rfl | decide +kernel)
    (case a_takes => first | k_is | rfl | decide +kernel)
    (case a_tens => first | k_is | rfl | decide +kernel)
    (case a_normal => first | k_is | rfl | decide +kernel)
    (case a_number_of => first | k_is | rfl | decide +kernel)
    (case a_means => first | k_is | rfl | decide +kernel)
    (case a_parting => first | k_is | rfl | decide +kernel)
    (case a_need_texts => first | k_is | rfl | decide +kernel)
    (case a_takers => first | k_is | rfl | decide +kernel)
    (case a_word_at => first | k_is | rfl | decide +kernel)
    (case a_read => first | k_is | rfl | decide +kernel)
    (case a_is_integer => first | k_is | rfl | decide +kernel)
    (case a_is_number => first | k_is | rfl | decide +kernel)
    (case a_need_number => first | k_is | rfl | decide +kernel)
    (case a_grouped => first | k_is | rfl | decide +kernel)
    (case a_plain_of => first | k_is | rfl | decide +kernel)
    (case a_written_of => first | k_is | rfl | decide +kernel)
    (case a_written => first | k_is | rfl | decide +kernel)
    (case a_need_numbers => first | k_is | rfl | decide +kernel)
    (case a_fitting => first | k_is | rfl | decide +kernel)
    (case a__law_taken => first | k_is | rfl | decide +kernel)
    (case a__law_call => first | k_is | rfl | decide +kernel)
    (case a__law_first => first | k_is | rfl | decide +kernel)
    (case a__law_base => first | k_is | rfl | decide +kernel)
    (case a_law => first | k_is | rfl | decide +kernel)
    (case a_Reader => first | k_is | rfl | decide +kernel)
    (case a_Column => first | k_is | rfl | decide +kernel)
    (case a_ReaderError => first | k_is | rfl | decide +kernel)
    (case a_BadPart => first | k_is | rfl | decide +kernel)
    (case a_BadReader => first | k_is | rfl | decide +kernel)
    (case a_BadReaders => first | k_is | rfl | decide +kernel)
    (case a_BadText => first | k_is | rfl | decide +kernel)
    (case a_BadTexts => first | k_is | rfl | decide +kernel)
    (case a_NotTaken => first | k_is | rfl | decide +kernel)
    (case a_BadNumber => first | k_is | rfl | decide +kernel)
    (case a_BadNumbers => first | k_is | rfl | decide +kernel)
    (case a_BadLength => first | k_is | rfl | decide +kernel)
    (case a_InvalidText => first | k_is | rfl | decide +kernel)
    (case ac_BEGIN => first | k_is | rfl | decide +kernel)
    (case ac_COMMAS => first | k_is | rfl | decide +kernel)
    (case ac_FIGURES => first | k_is | rfl | decide +kernel)
    (case ac_MOST_EXPONENT => first | k_is | rfl | decide +kernel)
    (case ac_MOST_GROUP => first | k_is | rfl | decide +kernel)
    (case ac_MOST_LENGTH => first | k_is | rfl | decide +kernel)
    (case ac_MOST_READERS => first | k_is | rfl | decide +kernel)
    (case ac_MOST_SIGNS => first | k_is | rfl | decide +kernel)
    (case ac_MOST_TEXTS => first | k_is | rfl | decide +kernel)
    (case ac_MOST_WHOLE => first | k_is | rfl | decide +kernel)
    (case ac_POINTS => first | k_is | rfl | decide +kernel)
    (case ac_POINT_SIGNS => first | k_is | rfl | decide +kernel)
    (case ac_POINT_WORDS => first | k_is | rfl | decide +kernel)
    (case ac_SIGNS => first | k_is | rfl | decide +kernel)
    (case ac_SIGNS_READ => first | k_is | rfl | decide +kernel)
    (case in_Reader => first | k_is | rfl | decide +kernel)
    (case in_Column => first | k_is | rfl | decide +kernel)
    (case in_len_Column => first | k_is | rfl | decide +kernel)
    (case xi_BadPart => first | k_is | rfl | decide +kernel)
    (case xi_BadReader => first | k_is | rfl | decide +kernel)
    (case xi_BadReaders => first | k_is | rfl | decide +kernel)
    (case xi_BadText => first | k_is | rfl | decide +kernel)
    (case xi_BadTexts => first | k_is | rfl | decide +kernel)
    (case xi_NotTaken => first | k_is | rfl | decide +kernel)
    (case xi_BadNumber => first | k_is | rfl | decide +kernel)
    (case xi_BadNumbers => first | k_is | rfl | decide +kernel)
    (case xi_BadLength => first | k_is | rfl | decide +kernel)
    (case xi_InvalidText => first | k_is | rfl | decide +kernel)
    (case lc_SIGNS_1 => first | k_is | rfl | decide +kernel)
    (case lc_POINT_WORDS_1 => first | k_is | rfl | decide +kernel)
    (case lc_POINT_SIGNS_1 => first | k_is | rfl | decide +kernel)
    (case lc_POINTS_1 => first | k_is | rfl | decide +kernel)
    (case lc_COMMAS_1 => first | k_is | rfl | decide +kernel)
    (case lc_BEGIN_1 => first | k_is | rfl | decide +kernel)
    (case l_is_one => first | k_is | rfl | decide +kernel)
    (case cc_is_one => first | k_is | rfl | decide +kernel)
    (case kp_is_one => first | k_is | rfl | decide +kernel)
    (case l_is_size => first | k_is | rfl | decide +kernel)
    (case cc_is_size => first | k_is | rfl | decide +kernel)
    (case kp_is_size => first | k_is | rfl | decide +kernel)
    (case l_parts_of => first | k_is | rfl | decide +kernel)
    (case cc_parts_of => first | k_is | rfl | decide +kernel)
    (case kp_parts_of => first | k_is | rfl | decide +kernel)
    (case l_need_reader => first | k_is | rfl | decide +kernel)
    (case cc_need_reader => first | k_is | rfl | decide +kernel)
    (case kp_need_reader => first | k_is | rfl | decide +kernel)
    (case l_need_readers => first | k_is | rfl | decide +kernel)
    (case cc_need_readers => first | k_is | rfl | decide +kernel)
    (case kp_need_readers => first | k_is | rfl | decide +kernel)
    (case l_parts => first | k_is | rfl | decide +kernel)
    (case cc_parts => first | k_is | rfl | decide +kernel)
    (case kp_parts => first | k_is | rfl | decide +kernel)
    (case l_is_whole => first | k_is | rfl | decide +kernel)
    (case cc_is_whole => first | k_is | rfl | decide +kernel)
    (case kp_is_whole => first | k_is | rfl | decide +kernel)
    (case l_can_end => first | k_is | rfl | decide +kernel)
    (case cc_can_end => first | k_is | rfl | decide +kernel)
    (case kp_can_end => first | k_is | rfl | decide +kernel)
    (case l_next_figure => first | k_is | rfl | decide +kernel)
    (case cc_next_figure => first | k_is | rfl | decide +kernel)
    (case kp_next_figure => first | k_is | rfl | decide +kernel)
    (case l_next_mark => first | k_is | rfl | decide +kernel)
    (case cc_next_mark => first | k_is | rfl | decide +kernel)
    (case kp_next_mark => first | k_is | rfl | decide +kernel)
    (case l_next_minus => first | k_is | rfl | decide +kernel)
    (case cc_next_minus => first | k_is | rfl | decide +kernel)
    (case kp_next_minus => first | k_is | rfl | decide +kernel)
    (case l_next_state => first | k_is | rfl | decide +kernel)
    (case cc_next_state => first | k_is | rfl | decide +kernel)
    (case kp_next_state => first | k_is | rfl | decide +kernel)
    (case l_need_length => first | k_is | rfl | decide +kernel)
    (case cc_need_length => first | k_is | rfl | decide +kernel)
    (case kp_need_length => first | k_is | rfl | decide +kernel)
    (case l_count => first | k_is | rfl | decide +kernel)
    (case cc_count => first | k_is | rfl | decide +kernel)
    (case kp_count => first | k_is | rfl | decide +kernel)
    (case l_need_text => first | k_is | rfl | decide +kernel)
    (case cc_need_text => first | k_is | rfl | decide +kernel)
    (case kp_need_text => first | k_is | rfl | decide +kernel)
    (case l_stop_of => first | k_is | rfl | decide +kernel)
    (case cc_stop_of => first | k_is | rfl | decide +kernel)
    (case kp_stop_of => first | k_is | rfl | decide +kernel)
    (case l_takes => first | k_is | rfl | decide +kernel)
    (case cc_takes => first | k_is | rfl | decide +kernel)
    (case kp_takes => first | k_is | rfl | decide +kernel)
    (case l_tens => first | k_is | rfl | decide +kernel)
    (case cc_tens => first | k_is | rfl | decide +kernel)
    (case kp_tens => first | k_is | rfl | decide +kernel)
    (case l_normal => first | k_is | rfl | decide +kernel)
    (case cc_normal => first | k_is | rfl | decide +kernel)
    (case kp_normal => first | k_is | rfl | decide +kernel)
    (case l_number_of => first | k_is | rfl | decide +kernel)
    (case cc_number_of => first | k_is | rfl | decide +kernel)
    (case kp_number_of => first | k_is | rfl | decide +kernel)
    (case l_means => first | k_is | rfl | decide +kernel)
    (case cc_means => first | k_is | rfl | decide +kernel)
    (case kp_means => first | k_is | rfl | decide +kernel)
    (case l_parting => first | k_is | rfl | decide +kernel)
    (case cc_parting => first | k_is | rfl | decide +kernel)
    (case kp_parting => first | k_is | rfl | decide +kernel)
    (case l_need_texts => first | k_is | rfl | decide +kernel)
    (case cc_need_texts => first | k_is | rfl | decide +kernel)
    (case kp_need_texts => first | k_is | rfl | decide +kernel)
    (case l_takers => first | k_is | rfl | decide +kernel)
    (case cc_takers => first | k_is | rfl | decide +kernel)
    (case kp_takers => first | k_is | rfl | decide +kernel)
    (case l_word_at => first | k_is | rfl | decide +kernel)
    (case cc_word_at => first | k_is | rfl | decide +kernel)
    (case kp_word_at => first | k_is | rfl | decide +kernel)
    (case l_read => first | k_is | rfl | decide +kernel)
    (case cc_read => first | k_is | rfl | decide +kernel)
    (case kp_read => first | k_is | rfl | decide +kernel)
    (case l_is_integer => first | k_is | rfl | decide +kernel)
    (case cc_is_integer => first | k_is | rfl | decide +kernel)
    (case kp_is_integer => first | k_is | rfl | decide +kernel)
    (case l_is_number => first | k_is | rfl | decide +kernel)
    (case cc_is_number => first | k_is | rfl | decide +kernel)
    (case kp_is_number => first | k_is | rfl | decide +kernel)
    (case l_need_number => first | k_is | rfl | decide +kernel)
    (case cc_need_number => first | k_is | rfl | decide +kernel)
    (case kp_need_number => first | k_is | rfl | decide +kernel)
    (case l_grouped => first | k_is | rfl | decide +kernel)
    (case cc_grouped => first | k_is | rfl | decide +kernel)
    (case kp_grouped => first | k_is | rfl | decide +kernel)
    (case l_plain_of => first | k_is | rfl | decide +kernel)
    (case cc_plain_of => first | k_is | rfl | decide +kernel)
    (case kp_plain_of => first | k_is | rfl | decide +kernel)
    (case l_written_of => first | k_is | rfl | decide +kernel)
    (case cc_written_of => first | k_is | rfl | decide +kernel)
    (case kp_written_of => first | k_is | rfl | decide +kernel)
    (case l_written => first | k_is | rfl | decide +kernel)
    (case cc_written => first | k_is | rfl | decide +kernel)
    (case kp_written => first | k_is | rfl | decide +kernel)
    (case l_need_numbers => first | k_is | rfl | decide +kernel)
    (case cc_need_numbers => first | k_is | rfl | decide +kernel)
    (case kp_need_numbers => first | k_is | rfl | decide +kernel)
    (case l_fitting => first | k_is | rfl | decide +kernel)
    (case cc_fitting => first | k_is | rfl | decide +kernel)
    (case kp_fitting => first | k_is | rfl | decide +kernel)
    (case l__law_taken => first | k_is | rfl | decide +kernel)
    (case cc__law_taken => first | k_is | rfl | decide +kernel)
    (case kp__law_taken => first | k_is | rfl | decide +kernel)
    (case l__law_call => first | k_is | rfl | decide +kernel)
    (case cc__law_call => first | k_is | rfl | decide +kernel)
    (case kp__law_call => first | k_is | rfl | decide +kernel)
    (case l__law_first => first | k_is | rfl | decide +kernel)
    (case cc__law_first => first | k_is | rfl | decide +kernel)
    (case kp__law_first => first | k_is | rfl | decide +kernel)
    (case l__law_base => first | k_is | rfl | decide +kernel)
    (case cc__law_base => first | k_is | rfl | decide +kernel)
    (case kp__law_base => first | k_is | rfl | decide +kernel)
    (case l_law => first | k_is | rfl | decide +kernel)
    (case cc_law => first | k_is | rfl | decide +kernel)
    (case kp_law => first | k_is | rfl | decide +kernel)
    (case pg_Reader => first | k_is | rfl | decide +kernel)
    (case hd_Reader => first | k_is | rfl | decide +kernel)
    (case po_Reader => first | k_is | rfl | decide +kernel)
    (case sa_Reader => first | k_is | rfl | decide +kernel)
    (case l_Reader___init__ => first | k_is | rfl | decide +kernel)
    (case cc_Reader___init__ => first | k_is | rfl | decide +kernel)
    (case kp_Reader___init__ => first | k_is | rfl | decide +kernel)
    (case mk_Reader => first | k_is | rfl | decide +kernel)
    (case if_Reader => first | k_is | rfl | decide +kernel)
    (case kc_Reader => first | k_is | rfl | decide +kernel)
    (case pg_Column => first | k_is | rfl | decide +kernel)
    (case hd_Column => first | k_is | rfl | decide +kernel)
    (case po_Column => first | k_is | rfl | decide +kernel)
    (case sa_Column => first | k_is | rfl | decide +kernel)
    (case l_Column___init__ => first | k_is | rfl | decide +kernel)
    (case cc_Column___init__ => first | k_is | rfl | decide +kernel)
    (case kp_Column___init__ => first | k_is | rfl | decide +kernel)
    (case l_Column___len__ => first | k_is | rfl | decide +kernel)
    (case cc_Column___len__ => first | k_is | rfl | decide +kernel)
    (case kp_Column___len__ => first | k_is | rfl | decide +kernel)
    (case mk_Column => first | k_is | rfl | decide +kernel)
    (case if_Column => first | k_is | rfl | decide +kernel)
    (case kc_Column => first | k_is | rfl | decide +kernel)
    (case na_Column_eyes => first | k_is | rfl | decide +kernel)
    (case na_Column_lines => first | k_is | rfl | decide +kernel)
    (case na_Column_seen => first | k_is | rfl | decide +kernel)
    (case na_Reader_dot => first | k_is | rfl | decide +kernel)
    (case na_Reader_mark => first | k_is | rfl | decide +kernel)
    (case na_Reader_minus => first | k_is | rfl | decide +kernel)
    (case na_Reader_naughts => first | k_is | rfl | decide +kernel)
    (case na_Reader_power => first | k_is | rfl | decide +kernel)
    (case na_Reader_size => first | k_is | rfl | decide +kernel)
    (case na_Reader_spaces => first | k_is | rfl | decide +kernel)
    (case na_Reader_strict => first | k_is | rfl | decide +kernel)
    (case lnf_Column => first | k_is | rfl | decide +kernel)
    (case l_BadPart___init__ => first | k_is | rfl | decide +kernel)
    (case cc_BadPart___init__ => first | k_is | rfl | decide +kernel)
    (case kp_BadPart___init__ => first | k_is | rfl | decide +kernel)
    (case xc_BadPart => first | k_is | rfl | decide +kernel)
    (case xr_BadPart => first | k_is | rfl | decide +kernel)
    (case xs_BadPart => first | k_is | rfl | decide +kernel)
    (case xb_BadPart => first | k_is | rfl | decide +kernel)
    (case xt_BadPart => first | k_is | rfl | decide +kernel)
    (case xk_BadPart => first | k_is | rfl | decide +kernel)
    (case xf_BadPart => first | k_is | rfl | decide +kernel)
    (case xn_BadPart => first | k_is | rfl | decide +kernel)
    (case l_BadReader___init__ => first | k_is | rfl | decide +kernel)
    (case cc_BadReader___init__ => first | k_is | rfl | decide +kernel)
    (case kp_BadReader___init__ => first | k_is | rfl | decide +kernel)
    (case xc_BadReader => first | k_is | rfl | decide +kernel)
    (case xr_BadReader => first | k_is | rfl | decide +kernel)
    (case xs_BadReader => first | k_is | rfl | decide +kernel)
    (case xb_BadReader => first | k_is | rfl | decide +kernel)
    (case xt_BadReader => first | k_is | rfl | decide +kernel)
    (case xk_BadReader => first | k_is | rfl | decide +kernel)
    (case xf_BadReader => first | k_is | rfl | decide +kernel)
    (case l_BadReaders___init__ => first | k_is | rfl | decide +kernel)
    (case cc_BadReaders___init__ => first | k_is | rfl | decide +kernel)
    (case kp_BadReaders___init__ => first | k_is | rfl | decide +kernel)
    (case xc_BadReaders => first | k_is | rfl | decide +kernel)
    (case xr_BadReaders => first | k_is | rfl | decide +kernel)
    (case xs_BadReaders => first | k_is | rfl | decide +kernel)
    (case xb_BadReaders => first | k_is | rfl | decide +kernel)
    (case xt_BadReaders => first | k_is | rfl | decide +kernel)
    (case xk_BadReaders => first | k_is | rfl | decide +kernel)
    (case xf_BadReaders => first | k_is | rfl | decide +kernel)
    (case xn_BadReaders => first | k_is | rfl | decide +kernel)
    (case l_BadText___init__ => first | k_is | rfl | decide +kernel)
    (case cc_BadText___init__ => first | k_is | rfl | decide +kernel)
    (case kp_BadText___init__ => first | k_is | rfl | decide +kernel)
    (case xc_BadText => first | k_is | rfl | decide +kernel)
    (case xr_BadText => first | k_is | rfl | decide +kernel)
    (case xs_BadText => first | k_is | rfl | decide +kernel)
    (case xb_BadText => first | k_is | rfl | decide +kernel)
    (case xt_BadText => first | k_is | rfl | decide +kernel)
    (case xk_BadText => first | k_is | rfl | decide +kernel)
    (case xf_BadText => first | k_is | rfl | decide +kernel)
    (case l_BadTexts___init__ => first | k_is | rfl | decide +kernel)
    (case cc_BadTexts___init__ => first | k_is | rfl | decide +kernel)
    (case kp_BadTexts___init__ => first | k_is | rfl | decide +kernel)
    (case xc_BadTexts => first | k_is | rfl | decide +kernel)
    (case xr_BadTexts => first | k_is | rfl | decide +kernel)
    (case xs_BadTexts => first | k_is | rfl | decide +kernel)
    (case xb_BadTexts => first | k_is | rfl | decide +kernel)
    (case xt_BadTexts => first | k_is | rfl | decide +kernel)
    (case xk_BadTexts => first | k_is | rfl | decide +kernel)
    (case xf_BadTexts => first | k_is | rfl | decide +kernel)
    (case xn_BadTexts => first | k_is | rfl | decide +kernel)
    (case l_NotTaken___init__ => first | k_is | rfl | decide +kernel)
    (case cc_NotTaken___init__ => first | k_is | rfl | decide +kernel)
    (case kp_NotTaken___init__ => first | k_is | rfl | decide +kernel)
    (case xc_NotTaken => first | k_is | rfl | decide +kernel)
    (case xr_NotTaken => first | k_is | rfl | decide +kernel)
    (case xs_NotTaken => first | k_is | rfl | decide +kernel)
    (case xb_NotTaken => first | k_is | rfl | decide +kernel)
    (case xt_NotTaken => first | k_is | rfl | decide +kernel)
    (case xk_NotTaken => first | k_is | rfl | decide +kernel)
    (case xf_NotTaken => first | k_is | rfl | decide +kernel)
    (case xn_NotTaken => first | k_is | rfl | decide +kernel)
    (case l_BadNumber___init__ => first | k_is | rfl | decide +kernel)
    (case cc_BadNumber___init__ => first | k_is | rfl | decide +kernel)
    (case kp_BadNumber___init__ => first | k_is | rfl | decide +kernel)
    (case xc_BadNumber => first | k_is | rfl | decide +kernel)
    (case xr_BadNumber => first | k_is | rfl | decide +kernel)
    (case xs_BadNumber => first | k_is | rfl | decide +kernel)
    (case xb_BadNumber => first | k_is | rfl | decide +kernel)
    (case xt_BadNumber => first | k_is | rfl | decide +kernel)
    (case xk_BadNumber => first | k_is | rfl | decide +kernel)
    (case xf_BadNumber => first | k_is | rfl | decide +kernel)
    (case l_BadNumbers___init__ => first | k_is | rfl | decide +kernel)
    (case cc_BadNumbers___init__ => first | k_is | rfl | decide +kernel)
    (case kp_BadNumbers___init__ => first | k_is | rfl | decide +kernel)
    (case xc_BadNumbers => first | k_is | rfl | decide +kernel)
    (case xr_BadNumbers => first | k_is | rfl | decide +kernel)
    (case xs_BadNumbers => first | k_is | rfl | decide +kernel)
    (case xb_BadNumbers => first | k_is | rfl | decide +kernel)
    (case xt_BadNumbers => first | k_is | rfl | decide +kernel)
    (case xk_BadNumbers => first | k_is | rfl | decide +kernel)
    (case xf_BadNumbers => first | k_is | rfl | decide +kernel)
    (case xn_BadNumbers => first | k_is | rfl | decide +kernel)
    (case l_BadLength___init__ => first | k_is | rfl | decide +kernel)
    (case cc_BadLength___init__ => first | k_is | rfl | decide +kernel)
    (case kp_BadLength___init__ => first | k_is | rfl | decide +kernel)
    (case xc_BadLength => first | k_is | rfl | decide +kernel)
    (case xr_BadLength => first | k_is | rfl | decide +kernel)
    (case xs_BadLength => first | k_is | rfl | decide +kernel)
    (case xb_BadLength => first | k_is | rfl | decide +kernel)
    (case xt_BadLength => first | k_is | rfl | decide +kernel)
    (case xk_BadLength => first | k_is | rfl | decide +kernel)
    (case xf_BadLength => first | k_is | rfl | decide +kernel)
    (case l_InvalidText___init__ => first | k_is | rfl | decide +kernel)
    (case cc_InvalidText___init__ => first | k_is | rfl | decide +kernel)
    (case kp_InvalidText___init__ => first | k_is | rfl | decide +kernel)
    (case xc_InvalidText => first | k_is | rfl | decide +kernel)
    (case xr_InvalidText => first | k_is | rfl | decide +kernel)
    (case xs_InvalidText => first | k_is | rfl | decide +kernel)
    (case xb_InvalidText => first | k_is | rfl | decide +kernel)
    (case xt_InvalidText => first | k_is | rfl | decide +kernel)
    (case xk_InvalidText => first | k_is | rfl | decide +kernel)
    (case xf_InvalidText => first | k_is | rfl | decide +kernel)
    (case xn_InvalidText => first | k_is | rfl | decide +kernel)
    (case re1 => first | k_is | rfl | decide +kernel)
    (case re2 => first | k_is | rfl | decide +kernel)
    (case re3 => first | k_is | rfl | decide +kernel)
    (case xb_ReaderError => first | k_is | rfl | decide +kernel)
    (case xt_ReaderError => first | k_is | rfl | decide +kernel)
    (case xq_ReaderError => first | k_is | rfl | decide +kernel)
    (case xq_BadPart => first | k_is | rfl | decide +kernel)
    (case xq_BadReader => first | k_is | rfl | decide +kernel)
    (case xq_BadReaders => first | k_is | rfl | decide +kernel)
    (case xq_BadText => first | k_is | rfl | decide +kernel)
    (case xq_BadTexts => first | k_is | rfl | decide +kernel)
    (case xq_NotTaken => first | k_is | rfl | decide +kernel)
    (case xq_BadNumber => first | k_is | rfl | decide +kernel)
    (case xq_BadNumbers => first | k_is | rfl | decide +kernel)
    (case xq_BadLength => first | k_is | rfl | decide +kernel)
    (case xq_InvalidText => first | k_is | rfl | decide +kernel)
    (case ss_ReaderError_ReaderError => first | k_is | rfl | decide +kernel)
    (case ss_ReaderError_BadPart => first | k_is | rfl | decide +kernel)
    (case ss_ReaderError_BadReader => first | k_is | rfl | decide +kernel)
    (case ss_ReaderError_BadReaders => first | k_is | rfl | decide +kernel)
    (case ss_ReaderError_BadText => first | k_is | rfl | decide +kernel)
    (case ss_ReaderError_BadTexts => first | k_is | rfl | decide +kernel)
    (case ss_ReaderError_NotTaken => first | k_is | rfl | decide +kernel)
    (case ss_ReaderError_BadNumber => first | k_is | rfl | decide +kernel)
    (case ss_ReaderError_BadNumbers => first | k_is | rfl | decide +kernel)
    (case ss_ReaderError_BadLength => first | k_is | rfl | decide +kernel)
    (case ss_ReaderError_InvalidText => first | k_is | rfl | decide +kernel)
    (case ss_BadPart_ReaderError => first | k_is | rfl | decide +kernel)
    (case ss_BadPart_BadPart => first | k_is | rfl | decide +kernel)
    (case ss_BadPart_BadReader => first | k_is | rfl | decide +kernel)
    (case ss_BadPart_BadReaders => first | k_is | rfl | decide +kernel)
    (case ss_BadPart_BadText => first | k_is | rfl | decide +kernel)
    (case ss_BadPart_BadTexts => first | k_is | rfl | decide +kernel)
    (case ss_BadPart_NotTaken => first | k_is | rfl | decide +kernel)
    (case ss_BadPart_BadNumber => first | k_is | rfl | decide +kernel)
    (case ss_BadPart_BadNumbers => first | k_is | rfl | decide +kernel)
    (case ss_BadPart_BadLength => first | k_is | rfl | decide +kernel)
    (case ss_BadPart_InvalidText => first | k_is | rfl | decide +kernel)
    (case ss_BadReader_ReaderError => first | k_is | rfl | decide +kernel)
    (case ss_BadReader_BadPart => first | k_is | rfl | decide +kernel)
    (case ss_BadReader_BadReader => first | k_is | rfl | decide +kernel)
    (case ss_BadReader_BadReaders => first | k_is | rfl | decide +kernel)
    (case ss_BadReader_BadText => first | k_is | rfl | decide +kernel)
    (case ss_BadReader_BadTexts => first | k_is | rfl | decide +kernel)
    (case ss_BadReader_NotTaken => first | k_is | rfl | decide +kernel)
    (case ss_BadReader_BadNumber => first | k_is | rfl | decide +kernel)
    (case ss_BadReader_BadNumbers => first | k_is | rfl | decide +kernel)
    (case ss_BadReader_BadLength => first | k_is | rfl | decide +kernel)
    (case ss_BadReader_InvalidText => first | k_is | rfl | decide +kernel)
    (case ss_BadReaders_ReaderError => first | k_is | rfl | decide +kernel)
    (case ss_BadReaders_BadPart => first | k_is | rfl | decide +kernel)
    (case ss_BadReaders_BadReader => first | k_is | rfl | decide +kernel)
    (case ss_BadReaders_BadReaders => first | k_is | rfl | decide +kernel)
    (case ss_BadReaders_BadText => first | k_is | rfl | decide +kernel)
    (case ss_BadReaders_BadTexts => first | k_is | rfl | decide +kernel)
    (case ss_BadReaders_NotTaken => first | k_is | rfl | decide +kernel)
    (case ss_BadReaders_BadNumber => first | k_is | rfl | decide +kernel)
    (case ss_BadReaders_BadNumbers => first | k_is | rfl | decide +kernel)
    (case ss_BadReaders_BadLength => first | k_is | rfl | decide +kernel)
    (case ss_BadReaders_InvalidText => first | k_is | rfl | decide +kernel)
    (case ss_BadText_ReaderError => first | k_is | rfl | decide +kernel)
    (case ss_BadText_BadPart => first | k_is | rfl | decide +kernel)
    (case ss_BadText_BadReader => first | k_is | rfl | decide +kernel)
    (case ss_BadText_BadReaders => first | k_is | rfl | decide +kernel)
    (case ss_BadText_BadText => first | k_is | rfl | decide +kernel)
    (case ss_BadText_BadTexts => first | k_is | rfl | decide +kernel)
    (case ss_BadText_NotTaken => first | k_is | rfl | decide +kernel)
    (case ss_BadText_BadNumber => first | k_is | rfl | decide +kernel)
    (case ss_BadText_BadNumbers => first | k_is | rfl | decide +kernel)
    (case ss_BadText_BadLength => first | k_is | rfl | decide +kernel)
    (case ss_BadText_InvalidText => first | k_is | rfl | decide +kernel)
    (case ss_BadTexts_ReaderError => first | k_is | rfl | decide +kernel)
    (case ss_BadTexts_BadPart => first | k_is | rfl | decide +kernel)
    (case ss_BadTexts_BadReader => first | k_is | rfl | decide +kernel)
    (case ss_BadTexts_BadReaders => first | k_is | rfl | decide +kernel)
    (case ss_BadTexts_BadText => first | k_is | rfl | decide +kernel)
    (case ss_BadTexts_BadTexts => first | k_is | rfl | decide +kernel)
    (case ss_BadTexts_NotTaken => first | k_is | rfl | decide +kernel)
    (case ss_BadTexts_BadNumber => first | k_is | rfl | decide +kernel)
    (case ss_BadTexts_BadNumbers => first | k_is | rfl | decide +kernel)
    (case ss_BadTexts_BadLength => first | k_is | rfl | decide +kernel)
    (case ss_BadTexts_InvalidText => first | k_is | rfl | decide +kernel)
    (case ss_NotTaken_ReaderError => first | k_is | rfl | decide +kernel)
    (case ss_NotTaken_BadPart => first | k_is | rfl | decide +kernel)
    (case ss_NotTaken_BadReader => first | k_is | rfl | decide +kernel)
    (case ss_NotTaken_BadReaders => first | k_is | rfl | decide +kernel)
    (case ss_NotTaken_BadText => first | k_is | rfl | decide +kernel)
    (case ss_NotTaken_BadTexts => first | k_is | rfl | decide +kernel)
    (case ss_NotTaken_NotTaken => first | k_is | rfl | decide +kernel)
    (case ss_NotTaken_BadNumber => first | k_is | rfl | decide +kernel)
    (case ss_NotTaken_BadNumbers => first | k_is | rfl | decide +kernel)
    (case ss_NotTaken_BadLength => first | k_is | rfl | decide +kernel)
    (case ss_NotTaken_InvalidText => first | k_is | rfl | decide +kernel)
    (case ss_BadNumber_ReaderError => first | k_is | rfl | decide +kernel)
    (case ss_BadNumber_BadPart => first | k_is | rfl | decide +kernel)
    (case ss_BadNumber_BadReader => first | k_is | rfl | decide +kernel)
    (case ss_BadNumber_BadReaders => first | k_is | rfl | decide +kernel)
    (case ss_BadNumber_BadText => first | k_is | rfl | decide +kernel)
    (case ss_BadNumber_BadTexts => first | k_is | rfl | decide +kernel)
    (case ss_BadNumber_NotTaken => first | k_is | rfl | decide +kernel)
    (case ss_BadNumber_BadNumber => first | k_is | rfl | decide +kernel)
    (case ss_BadNumber_BadNumbers => first | k_is | rfl | decide +kernel)
    (case ss_BadNumber_BadLength => first | k_is | rfl | decide +kernel)
    (case ss_BadNumber_InvalidText => first | k_is | rfl | decide +kernel)
    (case ss_BadNumbers_ReaderError => first | k_is | rfl | decide +kernel)
    (case ss_BadNumbers_BadPart => first | k_is | rfl | decide +kernel)
    (case ss_BadNumbers_BadReader => first | k_is | rfl | decide +kernel)
    (case ss_BadNumbers_BadReaders => first | k_is | rfl | decide +kernel)
    (case ss_BadNumbers_BadText => first | k_is | rfl | decide +kernel)
    (case ss_BadNumbers_BadTexts => first | k_is | rfl | decide +kernel)
    (case ss_BadNumbers_NotTaken => first | k_is | rfl | decide +kernel)
    (case ss_BadNumbers_BadNumber => first | k_is | rfl | decide +kernel)
    (case ss_BadNumbers_BadNumbers => first | k_is | rfl | decide +kernel)
    (case ss_BadNumbers_BadLength => first | k_is | rfl | decide +kernel)
    (case ss_BadNumbers_InvalidText => first | k_is | rfl | decide +kernel)
    (case ss_BadLength_ReaderError => first | k_is | rfl | decide +kernel)
    (case ss_BadLength_BadPart => first | k_is | rfl | decide +kernel)
    (case ss_BadLength_BadReader => first | k_is | rfl | decide +kernel)
    (case ss_BadLength_BadReaders => first | k_is | rfl | decide +kernel)
    (case ss_BadLength_BadText => first | k_is | rfl | decide +kernel)
    (case ss_BadLength_BadTexts => first | k_is | rfl | decide +kernel)
    (case ss_BadLength_NotTaken => first | k_is | rfl | decide +kernel)
    (case ss_BadLength_BadNumber => first | k_is | rfl | decide +kernel)
    (case ss_BadLength_BadNumbers => first | k_is | rfl | decide +kernel)
    (case ss_BadLength_BadLength => first | k_is | rfl | decide +kernel)
    (case ss_BadLength_InvalidText => first | k_is | rfl | decide +kernel)
    (case ss_InvalidText_ReaderError => first | k_is | rfl | decide +kernel)
    (case ss_InvalidText_BadPart => first | k_is | rfl | decide +kernel)
    (case ss_InvalidText_BadReader => first | k_is | rfl | decide +kernel)
    (case ss_InvalidText_BadReaders => first | k_is | rfl | decide +kernel)
    (case ss_InvalidText_BadText => first | k_is | rfl | decide +kernel)
    (case ss_InvalidText_BadTexts => first | k_is | rfl | decide +kernel)
    (case ss_InvalidText_NotTaken => first | k_is | rfl | decide +kernel)
    (case ss_InvalidText_BadNumber => first | k_is | rfl | decide +kernel)
    (case ss_InvalidText_BadNumbers => first | k_is | rfl | decide +kernel)
    (case ss_InvalidText_BadLength => first | k_is | rfl | decide +kernel)
    (case ss_InvalidText_InvalidText => first | k_is | rfl | decide +kernel)
    (case zx_BadIndex => first | k_is | rfl | decide +kernel)
    (case zx_BadChain => first | k_is | rfl | decide +kernel)
    (case k1 => first | k_is | rfl | decide +kernel)
    (case k2 => first | k_is | rfl | decide +kernel)
    (case k3 => first | k_is | rfl | decide +kernel)
    (case k4 => first | k_is | rfl | decide +kernel)
    (case k5 => first | k_is | rfl | decide +kernel)
    (case kb_str => first | k_is | rfl | decide +kernel)
    (case kb_int => first | k_is | rfl | decide +kernel)
    (case kb_bool => first | k_is | rfl | decide +kernel)
    (case kb_tuple => first | k_is | rfl | decide +kernel)
    (case kb_list => first | k_is | rfl | decide +kernel)
    (case kc_NoneType => first | k_is | rfl | decide +kernel)
    (case kc_bool => first | k_is | rfl | decide +kernel)
    (case kc_int => first | k_is | rfl | decide +kernel)
    (case kc_str => first | k_is | rfl | decide +kernel)
    (case kc_tuple => first | k_is | rfl | decide +kernel)
    (case kc_list => first | k_is | rfl | decide +kernel)
    (case kc_dict => first | k_is | rfl | decide +kernel)
    (case zb_abs => first | k_is | rfl | decide +kernel)
    (case zb_all => first | k_is | rfl | decide +kernel)
    (case zb_bool => first | k_is | rfl | decide +kernel)
    (case zb_enumerate => first | k_is | rfl | decide +kernel)
    (case zb_int => first | k_is | rfl | decide +kernel)
    (case zb_isinstance => first | k_is | rfl | decide +kernel)
    (case zb_len => first | k_is | rfl | decide +kernel)
    (case zb_list => first | k_is | rfl | decide +kernel)
    (case zb_min => first | k_is | rfl | decide +kernel)
    (case zb_range => first | k_is | rfl | decide +kernel)
    (case zb_str => first | k_is | rfl | decide +kernel)
    (case zb_tuple => first | k_is | rfl | decide +kernel)

