import PyProof.Rows.All
import Wide.All
import OpenK.AllK
import Wide.FinOn
import HandS.ForMost
import HandS.Exc
import HandS.TryOnly
import HandS.ExcOwn
import HandS.WordsExc
import HandS.Deep
import HandS.Wide
import HandS.TupAny
import KE.LtData
import HandS.TupLe
import HandS.Zip
import HandS.Iter
import HandS.IsInst
import KE.SortData
import HandS.Style
import KE.DataMinMax
import HandS.Conv
import KE.DataCmp
import PyProof.ReprRoads
import PyProof.ReprText
import PyProof.FitsInt
import HandS.TupMul
import HandS.SortInts
import HandS.More
import KE.KDictWalk
import HandS.Text
import HandS.FStr
import PySem.Challenge.RW_roofpost_k71_webs_written
set_option Elab.async false
set_option linter.all false
set_option maxRecDepth 100000
set_option maxHeartbeats 4000000
/-! Sim0: data by value, the store, worlds, relations. -/
namespace Sm
open PySem L2

inductive D where
  | non | bl (b : Bool) | int (i : Int) | str (x : Str) | tup (xs : List D) | lst (xs : List D) | dct (ks vs : List D) | ref (n : Nat) | exc (c : Str) (f : Option Int) | frg (xs : List D)
inductive SO where
  | lst (xs : List D) | dct (ks vs : List D) | ins (c : Str) (fs : List (Str × D)) | gone
abbrev Sto := List SO
abbrev Env := Nat → Option (Bool × D)
def Env.set (r : Env) (i : Nat) (x : Option (Bool × D)) : Env := fun j => if j = i then x else r j
theorem Env.set_same (r : Env) (i : Nat) (x : Option (Bool × D)) : r.set i x i = x := if_pos rfl
theorem Env.set_ne {r : Env} {i j : Nat} {x : Option (Bool × D)} (h : j ≠ i) : r.set i x j = r j := if_neg h
/-- what an expression comes to -/
inductive Rs where
  | ok (d : D) (st : Sto) | err (c : Str) (a : Option (Str × D)) (st : Sto) | bad
def Rs.bind (r : Rs) (k : D → Sto → Rs) : Rs :=
  match r with
  | .ok d st => k d st
  | .err c a st => .err c a st
  | .bad => .bad
/-- what a statement comes to -/
inductive Rt where
  | nx (r : Env) (st : Sto) | rt (d : D) (st : Sto) | bk (r : Env) (st : Sto) | ct (r : Env) (st : Sto) | err (c : Str) (a : Option (Str × D)) (r : Env) (st : Sto) | bad
abbrev Ev := Env → Sto → Rs
abbrev Sv := Env → Sto → Rt
abbrev Fn := List D → Sto → Rs

/-- a world: the abstract heap, the addresses that may change, the store's places -/
structure Wd where
  H : Hp
  M : Addr → Prop
  u : List Addr

/-- a module's list, tuple (of the written part) -/
def KL (K : PySem.W.Frag) (a : Addr) (xs : List V) : Prop :=
  ∃ (o : Obj) (its : Array Value) (n : Nat), K.lookup a = some o ∧ o.cls = .type "list" ∧ o.dict = none ∧ o.data = .seq its n ∧ its.size ≤ sizeLine ∧ Vals xs its.toList
def KT (K : PySem.W.Frag) (a : Addr) (xs : List V) : Prop :=
  ∃ (o : Obj) (its : Array Value) (n : Nat), K.lookup a = some o ∧ o.cls = .type "tuple" ∧ o.data = .seq its n ∧ its.size ≤ sizeLine ∧ Vals xs its.toList
/-- what never changes at a -/
def Im (w : Wd) (a : Addr) (o : HO) : Prop := w.H a = some o ∧ ¬ w.M a
/-- the script, a module's own list: read only -/
def FrI (K : PySem.W.Frag) (w : Wd) (a : Addr) (xs : List V) : Prop := (∃ o, Im w a (.frz o (.lst xs))) ∨ KL K a xs
def TpI (K : PySem.W.Frag) (w : Wd) (a : Addr) (xs : List V) : Prop := Im w a (.tup xs) ∨ (∃ o, Im w a (.frz o (.tup xs))) ∨ KT K a xs
theorem Im.sq {K : PySem.W.Frag} {w : Wd} {a : Addr} {xs : List V} (h : Im w a (.lst xs)) : SqL K w.H a xs := .inl (.inl h.1)
theorem FrI.sq {K : PySem.W.Frag} {w : Wd} {a : Addr} {xs : List V} (h : FrI K w a xs) : SqL K w.H a xs := by
  rcases h with ⟨o, h⟩ | h
  · exact .inl (.inr ⟨o, h.1⟩)
  · exact .inr h
theorem TpI.sq {K : PySem.W.Frag} {w : Wd} {a : Addr} {xs : List V} (h : TpI K w a xs) : SqT K w.H a xs := by
  rcases h with h | ⟨o, h⟩ | h
  · exact .inl (.inl h.1)
  · exact .inl (.inr ⟨o, h.1⟩)
  · exact .inr h

/-- what is asked of a dict's object and of an exception's: filled in later parts -/
structure Cfg where
  K : PySem.W.Frag
  mg : Str → Option Value
  P : Program
  w : World

/-- a key by value -/
def kD : Key → D
  | .inl i => .int i
  | .inr x => .str x
/-- a dict's object: its keys, its values -/
def DcO (G : Cfg) (ks : List D) (vs : List V) (o : HO) : Prop := (∃ kvs : List (Key × V), o = .dK kvs ∧ ks = kvs.map (fun p => kD p.1) ∧ vs = kvs.map (·.2)) ∨ (∃ kvs : List (List Key × V), o = .dT kvs ∧ ks = .non :: kvs.map (fun p => .tup (p.1.map kD)) ∧ vs = kvs.map (·.2))
theorem DcO.mut {G : Cfg} {ks : List D} {vs : List V} {o : HO} (h : DcO G ks vs o) : Mut (some o) := by
  rcases h with ⟨_, rfl, _⟩ | ⟨_, rfl, _⟩ <;> exact True.intro
/-- a dict that is given away: it is locked for ever -/
def DcI (G : Cfg) (w : Wd) (a : Addr) (ks : List D) (vs : List V) : Prop := ∃ o ob, Im w a (.frz ob o) ∧ DcO G ks vs o
mutual
def RD (G : Cfg) (w : Wd) : D → V → Prop
  | .non, v => v = .non
  | .bl b, v => v = .bl b
  | .int i, v => v = .int i
  | .str x, v => v = .str x
  | .tup ds, v => ∃ a vs, v = .ref a ∧ TpI G.K w a vs ∧ RDs G w ds vs
  | .lst ds, v => ∃ a vs, v = .ref a ∧ Im w a (.lst vs) ∧ RDs G w ds vs
  | .dct ks ds, v => ∃ a vs, v = .ref a ∧ DcI G w a ks vs ∧ RDs G w ds vs
  | .ref n, v => ∃ a, v = .ref a ∧ w.u[n]? = some a
  | .exc _ _, _ => False
  | .frg ds, v => ∃ a vs, v = .ref a ∧ FrI G.K w a vs ∧ RDs G w ds vs
def RDs (G : Cfg) (w : Wd) : List D → List V → Prop
  | [], vs => vs = []
  | d :: ds, vs => ∃ v r, vs = v :: r ∧ RD G w d v ∧ RDs G w ds r
end

structure WF (w : Wd) : Prop where
  mh : ∀ a, w.M a → w.H a ≠ none
  um : ∀ a, a ∈ w.u → w.M a
  nd : w.u.Nodup
/-- from a world to a later one: what may not change stays, what may be changed by others stays where it is not of the store -/
structure Ext (w w' : Wd) : Prop where
  hk : ∀ a, w.H a ≠ none → a ∉ w.u → w'.H a = w.H a
  mt : ∀ a, w.M a → w'.M a
  mn : ∀ a, w.H a ≠ none → ¬ w.M a → ¬ w'.M a
  mu : ∃ r, w'.u = w.u ++ r ∧ ∀ a ∈ r, w.H a = none
  hh : ∀ a, w.H a ≠ none → w'.H a ≠ none
theorem Ext.refl (w : Wd) : Ext w w := ⟨fun _ _ _ => rfl, fun _ h => h, fun _ _ h => h, ⟨[], by simp, fun _ h => nomatch h⟩, fun _ h => h⟩
theorem Ext.trans {a b c : Wd} (x : Ext a b) (y : Ext b c) : Ext a c := by
  obtain ⟨r, er, fr⟩ := x.mu
  obtain ⟨q, eq, fq⟩ := y.mu
  have nb : ∀ z, a.H z ≠ none → z ∉ a.u → z ∉ b.u := fun z h n m => by
    rw [er] at m
    rcases List.mem_append.mp m with m | m
    · exact n m
    · exact h (fr z m)
  refine ⟨fun z h n => ?_, fun z h => y.mt z (x.mt z h), fun z h n => y.mn z (x.hh z h) (x.mn z h n), ⟨r ++ q, by rw [eq, er, List.append_assoc], fun z hz => ?_⟩, fun z h => y.hh z (x.hh z h)⟩
  · rw [y.hk z (x.hh z h) (nb z h n), x.hk z h n]
  · rcases List.mem_append.mp hz with hz | hz
    · exact fr z hz
    · cases e : a.H z with
      | none => rfl
      | some o => exact absurd (fq z hz) (x.hh z (by rw [e]; simp))
theorem Im.ext {w w' : Wd} {a : Addr} {o : HO} (f : WF w) (x : Ext w w') (h : Im w a o) : Im w' a o := by
  have hn : w.H a ≠ none := by rw [h.1]; simp
  exact ⟨by rw [x.hk a hn (fun m => h.2 (f.um a m))]; exact h.1, x.mn a hn h.2⟩
theorem TpI.ext {K : PySem.W.Frag} {w w' : Wd} {a : Addr} {xs : List V} (f : WF w) (x : Ext w w') (h : TpI K w a xs) : TpI K w' a xs := by
  rcases h with h | ⟨o, h⟩ | h
  · exact .inl (h.ext f x)
  · exact .inr (.inl ⟨o, h.ext f x⟩)
  · exact .inr (.inr h)

/-- a weaker step: only what is fixed stays, places of the store stay places (for changes of one's own things, too) -/
structure Wk (w w' : Wd) : Prop where
  im : ∀ a o, Im w a o → Im w' a o
  mu : ∃ r, w'.u = w.u ++ r
theorem Ext.wk {w w' : Wd} (f : WF w) (x : Ext w w') : Wk w w' := ⟨fun _ _ h => h.ext f x, let ⟨r, e, _⟩ := x.mu; ⟨r, e⟩⟩
theorem Wk.refl (w : Wd) : Wk w w := ⟨fun _ _ h => h, [], by simp⟩
theorem Wk.trans {a b c : Wd} (x : Wk a b) (y : Wk b c) : Wk a c := ⟨fun z o h => y.im z o (x.im z o h), by
  obtain ⟨r, er⟩ := x.mu
  obtain ⟨q, eq⟩ := y.mu
  exact ⟨r ++ q, by rw [eq, er, List.append_assoc]⟩⟩
theorem Wk.get {w w' : Wd} (x : Wk w w') {n : Nat} {a : Addr} (h : w.u[n]? = some a) : w'.u[n]? = some a := by
  obtain ⟨r, e⟩ := x.mu
  rw [e, List.getElem?_append_left (List.getElem?_eq_some_iff.mp h).1]
  exact h
theorem Wk.fr {K : PySem.W.Frag} {w w' : Wd} {a : Addr} {xs : List V} (x : Wk w w') (h : FrI K w a xs) : FrI K w' a xs := by
  rcases h with ⟨o, h⟩ | h
  · exact .inl ⟨o, x.im _ _ h⟩
  · exact .inr h
theorem Wk.tp {K : PySem.W.Frag} {w w' : Wd} {a : Addr} {xs : List V} (x : Wk w w') (h : TpI K w a xs) : TpI K w' a xs := by
  rcases h with h | ⟨o, h⟩ | h
  · exact .inl (x.im _ _ h)
  · exact .inr (.inl ⟨o, x.im _ _ h⟩)
  · exact .inr (.inr h)
mutual
theorem RD.wk {G : Cfg} {w w' : Wd} (x : Wk w w') : ∀ (d : D) (v : V), RD G w d v → RD G w' d v
  | .non, v, h => by unfold RD at *; exact h
  | .bl b, v, h => by unfold RD at *; exact h
  | .int i, v, h => by unfold RD at *; exact h
  | .str s, v, h => by unfold RD at *; exact h
  | .tup ds, v, h => by
    unfold RD at *
    obtain ⟨a, vs, e, t, r⟩ := h
    exact ⟨a, vs, e, x.tp t, RDs.wk x ds vs r⟩
  | .lst ds, v, h => by
    unfold RD at *
    obtain ⟨a, vs, e, t, r⟩ := h
    exact ⟨a, vs, e, x.im _ _ t, RDs.wk x ds vs r⟩
  | .dct ks ds, v, h => by
    unfold RD at *
    obtain ⟨a, vs, e, ⟨o, ob, t, q⟩, r2⟩ := h
    exact ⟨a, vs, e, ⟨o, ob, x.im _ _ t, q⟩, RDs.wk x ds vs r2⟩
  | .ref n, v, h => by
    unfold RD at *
    obtain ⟨a, e, t⟩ := h
    exact ⟨a, e, x.get t⟩
  | .exc _ _, v, h => by unfold RD at h; exact h.elim
  | .frg ds, v, h => by
    unfold RD at *
    obtain ⟨a, vs, e, t, r⟩ := h
    exact ⟨a, vs, e, x.fr t, RDs.wk x ds vs r⟩
theorem RDs.wk {G : Cfg} {w w' : Wd} (x : Wk w w') : ∀ (ds : List D) (vs : List V), RDs G w ds vs → RDs G w' ds vs
  | [], vs, h => by unfold RDs at *; exact h
  | d :: ds, vs, h => by
    unfold RDs at *
    obtain ⟨v, r, e, h1, h2⟩ := h
    exact ⟨v, r, e, RD.wk x d v h1, RDs.wk x ds r h2⟩
end
/-- what lies at a: a list's, a dict's content -/
def RC (G : Cfg) (w : Wd) (a : Addr) : D → Prop
  | .lst ds => ∃ vs, w.H a = some (.lst vs) ∧ RDs G w ds vs
  | .dct ks ds => ∃ o vs, w.H a = some o ∧ DcO G ks vs o ∧ RDs G w ds vs
  | _ => False
def RFs (G : Cfg) (w : Wd) : List (Str × D) → List (Str × V) → Prop
  | [], vs => vs = []
  | d :: ds, vs => ∃ v r, vs = (d.1, v) :: r ∧ RD G w d.2 v ∧ RFs G w ds r
def RSO (G : Cfg) (w : Wd) (a : Addr) : SO → Prop
  | .lst ds => RC G w a (.lst ds)
  | .dct ks ds => RC G w a (.dct ks ds)
  | .ins c fs => ∃ C dx fv, w.H a = some (.ins C dx fv) ∧ G.mg c = some (.ref C) ∧ RFs G w fs fv
  | .gone => True
theorem RC.wk {G : Cfg} {w w' : Wd} (x : Wk w w') {a : Addr} (e : w'.H a = w.H a) : ∀ {d : D}, RC G w a d → RC G w' a d := fun {d} h => by
  cases d with
  | lst ds =>
    obtain ⟨vs, e1, r⟩ := h
    exact ⟨vs, e.trans e1, RDs.wk x _ _ r⟩
  | dct ks ds =>
    obtain ⟨o, vs, t, q, r2⟩ := h
    exact ⟨o, vs, e.trans t, q, RDs.wk x ds vs r2⟩
  | _ => exact (show False from h).elim
theorem RFs.wk {G : Cfg} {w w' : Wd} (x : Wk w w') : ∀ {fs : List (Str × D)} {fv : List (Str × V)}, RFs G w fs fv → RFs G w' fs fv
  | [], _, h => h
  | d :: ds, _, h => by
    obtain ⟨v, r, e, h1, h2⟩ := h
    exact ⟨v, r, e, RD.wk x _ _ h1, RFs.wk x h2⟩
theorem RSO.wk {G : Cfg} {w w' : Wd} (x : Wk w w') {a : Addr} (e : w'.H a = w.H a) : ∀ {o : SO}, RSO G w a o → RSO G w' a o := fun {o} h => by
  cases o with
  | lst ds => exact RC.wk (d := .lst ds) x e h
  | dct ks ds => exact RC.wk (d := .dct ks ds) x e h
  | ins c fs =>
    obtain ⟨C, dx, fv, e1, g, r⟩ := h
    exact ⟨C, dx, fv, e.trans e1, g, RFs.wk x r⟩
  | gone => exact True.intro
/-- the store lies in the world -/
structure RSt (G : Cfg) (w : Wd) (st : Sto) : Prop where
  len : st.length = w.u.length
  at_ : ∀ (n : Nat) (o : SO) (a : Addr), st[n]? = some o → w.u[n]? = some a → RSO G w a o
end Sm

/-! Sim1: environments, readings, judgements; names, constants, binding. -/
namespace Sm
open PySem L2

/-- an environment's entry, its owned address, the slot -/
def RE (G : Cfg) (w : Wd) (o : Option Addr) (x : Option (Bool × D)) (y : Option (Option V)) : Prop :=
  match x with
  | none => o = none
  | some (false, d) => o = none ∧ ∃ v, y = some (some v) ∧ RD G w d v
  | some (true, d) => ∃ a, o = some a ∧ y = some (some (.ref a)) ∧ RC G w a d
/-- a def's entry: the world, how many names -/
structure Bs extends Wd where
  L : Nat
structure Rel (G : Cfg) (B : Bs) (O : Nat → Option Addr) (r : Env) (st : Sto) (s : L2.St) (w : Wd) : Prop where
  wf : WF w
  wb : WF B.toWd
  base : Ext B.toWd w
  ln : s.length = B.L
  sto : RSt G w st
  own : ∀ i a, O i = some a → w.M a ∧ a ∉ w.u ∧ B.H a = none
  inj : ∀ i j a, O i = some a → O j = some a → i = j
  env : ∀ i, RE G w (O i) (r i) (s[i]?)

theorem Ext.wf_wk {w w' : Wd} (x : Ext w w') (f : WF w) : Wk w w' := x.wk f
theorem RSt.keep {G : Cfg} {w w' : Wd} {st : Sto} (h : RSt G w st) (x : Wk w w') (e : w'.u = w.u) (k : ∀ a ∈ w.u, w'.H a = w.H a) : RSt G w' st :=
  ⟨by rw [e]; exact h.len, fun n o a h1 h2 => by
    rw [e] at h2
    exact RSO.wk x (k a (List.mem_of_getElem? h2)) (h.at_ n o a h1 h2)⟩
theorem RE.wk {G : Cfg} {w w' : Wd} {o : Option Addr} {x : Option (Bool × D)} {y : Option (Option V)} (k : Wk w w') (e : ∀ a, o = some a → w'.H a = w.H a) (h : RE G w o x y) : RE G w' o x y := by
  match x, h with
  | none, h => exact h
  | some (false, d), ⟨h1, v, h2, h3⟩ => exact ⟨h1, v, h2, h3.wk k⟩
  | some (true, d), ⟨a, h1, h2, h3⟩ => exact ⟨a, h1, h2, h3.wk k (e a h1)⟩
/-- nothing of one's own is changed -/
theorem Rel.keep {G : Cfg} {B : Bs} {O : Nat → Option Addr} {r : Env} {st : Sto} {s : L2.St} {w w' : Wd} (h : Rel G B O r st s w) (f : WF w') (x : Ext w w') (e : w'.u = w.u) (k : ∀ a ∈ w.u, w'.H a = w.H a) : Rel G B O r st s w' :=
  ⟨f, h.wb, h.base.trans x, h.ln, h.sto.keep (x.wk h.wf) e k, fun i a q => ⟨x.mt a (h.own i a q).1, by rw [e]; exact (h.own i a q).2.1, (h.own i a q).2.2⟩, h.inj,
    fun i => (h.env i).wk (x.wk h.wf) fun a q => x.hk a (h.wf.mh a (h.own i a q).1) (h.own i a q).2.1⟩

/-- a new object -/
def Wd.add (w : Wd) (p : Addr) (o : HO) (b : Bool) : Wd := ⟨upd w.H p o, fun a => w.M a ∨ (b = true ∧ a = p), w.u⟩
theorem Wd.add_wf {w : Wd} {p : Addr} {o : HO} {b : Bool} (f : WF w) (h : w.H p = none) : WF (w.add p o b) := by
  refine ⟨fun a m => ?_, fun a m => .inl (f.um a m), f.nd⟩
  show upd w.H p o a ≠ none
  by_cases e : a = p
  · subst e; rw [upd_same]; simp
  · rw [upd_ne e]
    rcases m with m | ⟨_, m⟩
    · exact f.mh a m
    · exact absurd m e
theorem Wd.add_ext {w : Wd} {p : Addr} {o : HO} {b : Bool} (h : w.H p = none) : Ext w (w.add p o b) := by
  have ne : ∀ a, w.H a ≠ none → a ≠ p := fun a n e => n (by rw [e]; exact h)
  refine ⟨fun a n _ => upd_ne (ne a n), fun a m => .inl m, fun a n m z => ?_, ⟨[], by simp [Wd.add], fun _ z => nomatch z⟩, fun a n => ?_⟩
  · rcases z with z | ⟨_, z⟩
    · exact m z
    · exact ne a n z
  · show upd w.H p o a ≠ none
    rw [upd_ne (ne a n)]; exact n
theorem Rel.add {G : Cfg} {B : Bs} {O : Nat → Option Addr} {r : Env} {st : Sto} {s : L2.St} {w : Wd} {p : Addr} {o : HO} {b : Bool} (h : Rel G B O r st s w) (hp : w.H p = none) : Rel G B O r st s (w.add p o b) :=
  h.keep (Wd.add_wf h.wf hp) (Wd.add_ext hp) rfl fun a m => upd_ne (fun e => h.wf.mh a (h.wf.um a m) (by rw [e]; exact hp))
theorem Wd.add_im {w : Wd} {p : Addr} {o : HO} (f : WF w) (hp : w.H p = none) : Im (w.add p o false) p o := by
  refine ⟨upd_same, fun z => ?_⟩
  rcases z with z | ⟨z, _⟩
  · exact f.mh p z hp
  · cases z

/-- the kinds of results: a value that stays; a new object that nobody else has; what is looked at only -/
inductive Kd where
  | sh | fr | bo
def RR (G : Cfg) (k : Kd) (O : Nat → Option Addr) (w0 w : Wd) (d : D) (v : V) : Prop :=
  match k with
  | .sh => RD G w d v
  | .fr => ∃ a, v = .ref a ∧ w0.H a = none ∧ w.M a ∧ a ∉ w.u ∧ RC G w a d
  | .bo => RD G w d v ∨ ∃ a i, v = .ref a ∧ O i = some a ∧ w.M a ∧ a ∉ w.u ∧ RC G w a d
theorem RR.ext {G : Cfg} {k : Kd} {O : Nat → Option Addr} {w0 w w' : Wd} {d : D} {v : V} (f : WF w) (x : Ext w w') (h : RR G k O w0 w d v) : RR G k O w0 w' d v := by
  have no : ∀ a, w.M a → a ∉ w.u → a ∉ w'.u := fun a m n z => by
    obtain ⟨r, e, fr⟩ := x.mu
    rw [e] at z
    rcases List.mem_append.mp z with z | z
    · exact n z
    · exact f.mh a m (fr a z)
  match k, h with
  | .sh, h => exact RD.wk (x.wk f) d v h
  | .fr, ⟨a, e, n, m, u, c⟩ => exact ⟨a, e, n, x.mt a m, no a m u, c.wk (x.wk f) (x.hk a (f.mh a m) u)⟩
  | .bo, .inl h => exact .inl (RD.wk (x.wk f) d v h)
  | .bo, .inr ⟨a, i, e, o, m, u, c⟩ => exact .inr ⟨a, i, e, o, x.mt a m, no a m u, c.wk (x.wk f) (x.hk a (f.mh a m) u)⟩
theorem RR.rebase {G : Cfg} {k : Kd} {O : Nat → Option Addr} {w0 w1 w : Wd} {d : D} {v : V} (x : Ext w0 w1) (h : RR G k O w1 w d v) : RR G k O w0 w d v := by
  match k, h with
  | .sh, h => exact h
  | .fr, ⟨a, e, n, m, u, c⟩ =>
    refine ⟨a, e, ?_, m, u, c⟩
    cases q : w0.H a with
    | none => rfl
    | some o => exact absurd n (x.hh a (by rw [q]; simp))
  | .bo, h => exact h
/-- an exception's class and its own dict -/
def RX (G : Cfg) (w : Wd) (c : Str) (a : Option (Str × D)) (cls : Value) (dd : Option Addr) : Prop :=
  ∃ C, G.mg c = some (.ref C) ∧ cls = .ref C ∧ match a with
    | none => dd = none
    | some (f, d) => ∃ x v, dd = some x ∧ Im w x (.xd [(f, v)]) ∧ RD G w d v
def post (G : Cfg) (B : Bs) (k : Kd) (Wx : WX) (O : Nat → Option Addr) (r : Env) (s : L2.St) (w0 : Wd) (x : Rs) (Q : VK) : Prop :=
  match x with
  | .ok d st' => ∀ w' v, Rel G B O r st' s w' → Ext w0 w' → RR G k O w0 w' d v → Q v w'.H
  | .err c a st' => ∀ w' cls dd, Rel G B O r st' s w' → Ext w0 w' → RX G w' c a cls dd → Wx cls dd s w'.H
  | .bad => False
def tE (G : Cfg) (B : Bs) (k : Kd) (Wx : WX) (f : Ev) : TE := fun s H Q => ∃ O r st w, w.H = H ∧ Rel G B O r st s w ∧ post G B k Wx O r s w (f r st) Q
abbrev cg (X : Cx) : Cfg := ⟨X.K, X.mg, X.prog, X.w⟩
/-- the expression e does what f says -/
def JE (X : Cx) (B : Bs) (k : Kd) (Wx : WX) (e : Expr) (f : Ev) : Prop := PE X e (tE (cg X) B k Wx f)
theorem pe_imp {X : Cx} {e : Expr} {t t' : TE} (h : PE X e t) (q : ∀ s H Q, t' s H Q → t s H Q) : PE X e t' := ⟨fun pins s σ H Q I h' => h.run pins s σ H Q I (q σ H Q h')⟩
theorem post.rebase {G : Cfg} {B : Bs} {k : Kd} {Wx : WX} {O : Nat → Option Addr} {r : Env} {s : L2.St} {w0 w1 : Wd} {x : Rs} {Q : VK} (e : Ext w0 w1) (h : post G B k Wx O r s w0 x Q) : post G B k Wx O r s w1 x Q := by
  match x, h with
  | .ok d st', h => exact fun w' v q e1 r1 => h w' v q (e.trans e1) (r1.rebase e)
  | .err c a st', h => exact fun w' cls dd q e1 r1 => h w' cls dd q (e.trans e1) r1
  | .bad, h => exact h.elim
theorem post.mono {G : Cfg} {B : Bs} {k : Kd} {Wx : WX} {O : Nat → Option Addr} {r : Env} {s : L2.St} {w0 : Wd} {x : Rs} {Q Q' : VK} (h : post G B k Wx O r s w0 x Q) (q : ∀ v H, Q v H → Q' v H) : post G B k Wx O r s w0 x Q' := by
  match x, h with
  | .ok d st', h => exact fun w' v q0 e1 r1 => q _ _ (h w' v q0 e1 r1)
  | .err c a st', h => exact h
  | .bad, h => exact h.elim
/-- one after the other -/
theorem post.bind {G : Cfg} {B : Bs} {k k1 : Kd} {Wx : WX} {O : Nat → Option Addr} {r : Env} {s : L2.St} {w0 : Wd} {x : Rs} {g : D → Sto → Rs} {Q : VK} (h : post G B k Wx O r s w0 (x.bind g) Q) :
    post G B k1 Wx O r s w0 x (fun v H1 => ∃ d st1 w1, w1.H = H1 ∧ Rel G B O r st1 s w1 ∧ Ext w0 w1 ∧ RR G k1 O w0 w1 d v ∧ post G B k Wx O r s w0 (g d st1) Q) := by
  match x, h with
  | .ok d st', h => exact fun w' v q e1 r1 => ⟨d, st', w', rfl, q, e1, r1, h⟩
  | .err c a st', h => exact h
  | .bad, h => exact h.elim
theorem tE.bind {G : Cfg} {B : Bs} {k k1 : Kd} {Wx : WX} {f : Ev} {g : D → Env → Sto → Rs} {s : L2.St} {H : Hp} {Q : VK} (h : tE G B k Wx (fun r st => (f r st).bind fun d st1 => g d r st1) s H Q) :
    tE G B k1 Wx f s H (fun v H1 => ∃ O r w0 d st1 w1, w1.H = H1 ∧ Rel G B O r st1 s w1 ∧ Ext w0 w1 ∧ RR G k1 O w0 w1 d v ∧ post G B k Wx O r s w0 (g d r st1) Q) := by
  obtain ⟨O, r, st, w, e, R, h⟩ := h
  refine ⟨O, r, st, w, e, R, h.bind.mono ?_⟩
  rintro v H1 ⟨d, st1, w1, e1, R1, x1, rr, h1⟩
  exact ⟨O, r, w, d, st1, w1, e1, R1, x1, rr, h1⟩

/-! ### names, constants -/
section
variable {X : Cx} {B : Bs} {Wx : WX}
def bVar (i : Nat) : Ev := fun r st => match r i with | some (false, d) => .ok d st | _ => .bad
theorem je_var {i : Nat} {x : Str} {pos : Pos} (hN : X.N[i]? = some x) (hv : Vis X.env.scope x) (hd : (x == ("__debug__" : Str)) = false := by decide) (hcd : (x == ("__classdict__" : Str)) = false := by decide) : JE X B .sh Wx (.Name x pos) (bVar i) := by
  refine pe_imp (pe_var (pos := pos) hN hv hd hcd) ?_
  rintro s H Q ⟨O, r, st, w, rfl, R, h⟩
  have q := R.env i
  unfold bVar at h
  match e : r i, h with
  | none, h => exact h.elim
  | some (true, d), h => exact h.elim
  | some (false, d), h =>
    rw [e] at q
    obtain ⟨_, v, e1, e2⟩ := q
    exact ⟨v, e1, h w v R (Ext.refl w) e2⟩
/-- an own thing, looked at -/
def bPeek (i : Nat) : Ev := fun r st => match r i with | some (_, d) => .ok d st | _ => .bad
theorem je_peek {i : Nat} {x : Str} {pos : Pos} (hN : X.N[i]? = some x) (hv : Vis X.env.scope x) (hd : (x == ("__debug__" : Str)) = false := by decide) (hcd : (x == ("__classdict__" : Str)) = false := by decide) : JE X B .bo Wx (.Name x pos) (bPeek i) := by
  refine pe_imp (pe_var (pos := pos) hN hv hd hcd) ?_
  rintro s H Q ⟨O, r, st, w, rfl, R, h⟩
  have q := R.env i
  unfold bPeek at h
  match e : r i, h with
  | none, h => exact h.elim
  | some (true, d), h =>
    rw [e] at q
    obtain ⟨a, o, e1, e2⟩ := q
    exact ⟨_, e1, h w _ R (Ext.refl w) (.inr ⟨a, i, rfl, o, (R.own i a o).1, (R.own i a o).2.1, e2⟩)⟩
  | some (false, d), h =>
    rw [e] at q
    obtain ⟨_, v, e1, e2⟩ := q
    exact ⟨v, e1, h w v R (Ext.refl w) (.inl e2)⟩
def bC (d : D) : Ev := fun _ st => .ok d st
theorem je_c {e : Expr} {v : V} {d : D} (h : PE X e (tC v)) (q : ∀ w, RD (cg X) w d v) : JE X B .sh Wx e (bC d) := by
  refine pe_imp h ?_
  rintro s H Q ⟨O, r, st, w, rfl, R, h⟩
  exact h w v R (Ext.refl w) (q w)
theorem je_int {i j pos} : JE X B .sh Wx (.Constant (.int i) j pos) (bC (.int i)) := je_c pe_int fun _ => by unfold RD; rfl
theorem je_bl {b j pos} : JE X B .sh Wx (.Constant (.bool b) j pos) (bC (.bl b)) := je_c pe_bl fun _ => by unfold RD; rfl
theorem je_non {j pos} : JE X B .sh Wx (.Constant .none j pos) (bC .non) := je_c pe_non fun _ => by unfold RD; rfl
theorem je_str {x j pos} : JE X B .sh Wx (.Constant (.str x) j pos) (bC (.str x)) := je_c pe_str fun _ => by unfold RD; rfl

/-! ### between the kinds -/
theorem JE.bo {e : Expr} {f : Ev} (h : JE X B .sh Wx e f) : JE X B .bo Wx e f := by
  refine pe_imp h ?_
  rintro s H Q ⟨O, r, st, w, rfl, R, q⟩
  refine ⟨O, r, st, w, rfl, R, ?_⟩
  match f r st, q with
  | .ok d st', q => exact fun w' v R' x rr => q w' v R' x (.inl rr)
  | .err c a st', q => exact q
  | .bad, q => exact q.elim
/-- a new thing is given away: it stays as it is from now on -/
def Wd.fix (w : Wd) (a : Addr) : Wd := ⟨w.H, fun b => w.M b ∧ b ≠ a, w.u⟩
theorem Wd.fix_wk (w : Wd) (a : Addr) : Wk w (w.fix a) := ⟨fun b o h => ⟨h.1, fun m => h.2 m.1⟩, [], by simp [Wd.fix]⟩
theorem Rel.fix {G : Cfg} {O : Nat → Option Addr} {r : Env} {st : Sto} {s : L2.St} {w : Wd} {a : Addr} (R : Rel G B O r st s w) (hb : B.H a = none) (hu : a ∉ w.u) (ho : ∀ i, O i ≠ some a) : Rel G B O r st s (w.fix a) := by
  refine ⟨⟨fun b m => R.wf.mh b m.1, fun b m => ⟨R.wf.um b m, fun e => hu (by rw [← e]; exact m)⟩, R.wf.nd⟩, R.wb, ⟨R.base.hk, fun b m => ⟨R.base.mt b m, fun e => R.wb.mh b m (by rw [e]; exact hb)⟩, fun b n m z => R.base.mn b n m z.1, R.base.mu, R.base.hh⟩, R.ln,
    R.sto.keep (w.fix_wk a) rfl (fun _ _ => rfl), fun i b e => ⟨⟨(R.own i b e).1, fun q => ho i (by rw [e, q])⟩, (R.own i b e).2⟩, R.inj, fun i => (R.env i).wk (w.fix_wk a) fun _ _ => rfl⟩
theorem RC.give {G : Cfg} {w : Wd} {a : Addr} {d : D} (h : RC G w a d) (nd : ∀ ks ds, d ≠ .dct ks ds) : RD G (w.fix a) d (.ref a) := by
  cases d with
  | lst ds =>
    obtain ⟨vs, e, r⟩ := h
    unfold RD
    exact ⟨a, vs, rfl, ⟨e, fun m => m.2 rfl⟩, RDs.wk (w.fix_wk a) _ _ r⟩
  | dct ks ds => exact absurd rfl (nd ks ds)
  | _ => exact (show False from h).elim
/-- a dict is locked -/
def Wd.lock (w : Wd) (a : Addr) (o : HO) : Wd := ⟨upd w.H a o, fun b => w.M b ∧ b ≠ a, w.u⟩
theorem Wd.lock_wk {w : Wd} {a : Addr} {o : HO} (m : w.M a) : Wk w (w.lock a o) := ⟨fun b o' h => ⟨by
  show upd w.H a o b = some o'
  rw [upd_ne (fun e => h.2 (by rw [e]; exact m))]; exact h.1, fun z => h.2 z.1⟩, [], by simp [Wd.lock]⟩
theorem Rel.lock {G : Cfg} {O : Nat → Option Addr} {r : Env} {st : Sto} {s : L2.St} {w : Wd} {a : Addr} {o : HO} (R : Rel G B O r st s w) (hm : w.M a) (hb : B.H a = none) (hu : a ∉ w.u) (ho : ∀ i, O i ≠ some a) : Rel G B O r st s (w.lock a o) := by
  have ne : ∀ b, b ∈ w.u → b ≠ a := fun b m e => hu (by rw [← e]; exact m)
  refine ⟨⟨fun b m => ?_, fun b m => ⟨R.wf.um b m, ne b m⟩, R.wf.nd⟩, R.wb, ⟨fun b n z => ?_, fun b m => ⟨R.base.mt b m, fun e => R.wb.mh b m (by rw [e]; exact hb)⟩, fun b n m z => R.base.mn b n m z.1, R.base.mu, fun b n => ?_⟩, R.ln,
    R.sto.keep (w.lock_wk hm) rfl (fun b m => upd_ne (ne b m)), fun i b e => ⟨⟨(R.own i b e).1, fun q => ho i (by rw [e, q])⟩, (R.own i b e).2⟩, R.inj, fun i => (R.env i).wk (w.lock_wk hm) fun b e => upd_ne (fun q => ho i (by rw [e, q]))⟩
  · show upd w.H a o b ≠ none
    rw [upd_ne m.2]; exact R.wf.mh b m.1
  · show upd w.H a o b = B.H b
    rw [upd_ne (fun e => n (by rw [e]; exact hb))]; exact R.base.hk b n z
  · show upd w.H a o b ≠ none
    rw [upd_ne (fun e => n (by rw [e]; exact hb))]; exact R.base.hh b n
theorem RC.giveD {G : Cfg} {w : Wd} {a : Addr} {ks ds : List D} (m : w.M a) (h : RC G w a (.dct ks ds)) : ∃ o, w.H a = some o ∧ Mut (some o) ∧ ∀ ob, RD G (w.lock a (.frz ob o)) (.dct ks ds) (.ref a) := by
  obtain ⟨o, vs, e, q, r2⟩ := h
  refine ⟨o, e, q.mut, fun ob => ?_⟩
  unfold RD
  exact ⟨a, vs, rfl, ⟨o, ob, ⟨upd_same, fun z => z.2 rfl⟩, q⟩, RDs.wk (w.lock_wk m) _ _ r2⟩
/-- behind e a dict may be locked -/
def tGive (t : TE) : TE := fun s H Q => t s H fun v H1 => Q v H1 ∨ ∃ d u, H1 d = some u ∧ Mut (some u) ∧ ∀ od, Q v (upd H1 d (.frz od u))
theorem pe_give {e : Expr} {t : TE} (h : PE X e t) : PE X e (tGive t) := by
  refine ⟨fun pins s σ H Q I q => thn (h.run pins s σ H _ I q) fun v s1 ⟨x, H1, I1, r1, q1⟩ => ?_⟩
  rcases q1 with q1 | ⟨d, u, hd, mu, q1⟩
  · exact ⟨x, H1, I1, r1, q1⟩
  · obtain ⟨od, I2⟩ := I1.lock hd mu
    exact ⟨x, _, I2, r1, q1 od⟩
theorem JE.give {e : Expr} {f : Ev} (h : JE X B .fr Wx e f) : JE X B .sh Wx e f := by
  refine pe_imp (pe_give h) ?_
  rintro s H Q ⟨O, r, st, w, rfl, R, q⟩
  refine ⟨O, r, st, w, rfl, R, ?_⟩
  match f r st, q with
  | .ok d st', q =>
    rintro w' v R' x ⟨a, rfl, n, m, u, c⟩
    have hb : B.H a = none := by
      cases z : B.H a with
      | none => rfl
      | some o => exact absurd n (R.base.hh a (by rw [z]; simp))
    have ho : ∀ i, O i ≠ some a := fun i z => R.wf.mh a (R.own i a z).1 n
    by_cases hd : ∃ ks ds, d = .dct ks ds
    · obtain ⟨ks, ds, rfl⟩ := hd
      obtain ⟨o, e1, mu, e2⟩ := c.giveD m
      refine .inr ⟨a, o, e1, mu, fun ob => q (w'.lock a _) _ (R'.lock m hb u ho) ⟨fun b nb nu => ?_, fun b mb => ⟨x.mt b mb, fun e => R.wf.mh b mb (by rw [e]; exact n)⟩, fun b nb mb z => x.mn b nb mb z.1, x.mu, fun b nb => ?_⟩ (e2 ob)⟩
      · show upd w'.H a _ b = w.H b
        rw [upd_ne (fun e => nb (by rw [e]; exact n))]; exact x.hk b nb nu
      · show upd w'.H a _ b ≠ none
        rw [upd_ne (fun e => nb (by rw [e]; exact n))]; exact x.hh b nb
    · exact .inl (q (w'.fix a) _ (R'.fix hb u ho) ⟨x.hk, fun b mb => ⟨x.mt b mb, fun e => R.wf.mh b mb (by rw [e]; exact n)⟩, fun b nb mb z => x.mn b nb mb z.1, x.mu, x.hh⟩ (c.give fun ks ds e => hd ⟨ks, ds, e⟩))
  | .err c a st', q => exact q
  | .bad, q => exact q.elim
end
end Sm

/-! Sim2: data as PyData, operators, comparisons. -/
namespace Sm
open PySem L2

mutual
def D.py : D → PyData
  | .non => .none
  | .bl b => .bool b
  | .int i => .int i
  | .str x => .str x
  | .tup xs => .tuple (pys xs)
  | .lst xs => .list (pys xs)
  | _ => .dict []
def pys : List D → List PyData
  | [] => []
  | d :: ds => d.py :: pys ds
end
mutual
/-- plain data, so deep at most -/
def shp : Nat → D → Bool
  | _, .non => true
  | _, .bl _ => true
  | _, .int _ => true
  | _, .str x => PyData.strOk x
  | 0, .tup _ => false
  | n + 1, .tup xs => shps n xs
  | 0, .lst _ => false
  | n + 1, .lst xs => shps n xs
  | _, _ => false
def shps : Nat → List D → Bool
  | _, [] => true
  | n, d :: ds => shp n d && shps n ds
end
theorem shps_all (n : Nat) (ds : List D) : shps n ds = ds.all (shp n) := by
  induction ds with
  | nil => simp [shps]
  | cons d ds ih => simp [shps, ih]
theorem pys_map (ds : List D) : pys ds = ds.map D.py := by
  induction ds with
  | nil => simp [pys]
  | cons d ds ih => simp [pys, ih]
mutual
theorem shp_lay : ∀ (n : Nat) (d : D), shp n d = true → d.py.canLay0 = true ∧ d.py.depth ≤ n
  | n, .non, _ => by simp [D.py, PyData.canLay0, PyData.depth]
  | n, .bl _, _ => by simp [D.py, PyData.canLay0, PyData.depth]
  | n, .int _, _ => by simp [D.py, PyData.canLay0, PyData.depth]
  | n, .str x, h => by
    have h' : PyData.strOk x = true := by simpa [shp] using h
    simp [D.py, PyData.canLay0, PyData.depth, h']
  | 0, .tup _, h => by simp [shp] at h
  | n + 1, .tup xs, h => by
    have q := shps_lay n xs (by simpa [shp] using h)
    simp only [D.py, PyData.canLay0, PyData.depth]
    exact ⟨q.1, by omega⟩
  | 0, .lst _, h => by simp [shp] at h
  | n + 1, .lst xs, h => by
    have q := shps_lay n xs (by simpa [shp] using h)
    simp only [D.py, PyData.canLay0, PyData.depth]
    exact ⟨q.1, by omega⟩
  | n, .dct _ _, h => by simp [shp] at h
  | n, .ref _, h => by simp [shp] at h
  | n, .exc _ _, h => by simp [shp] at h
  | n, .frg _, h => by simp [shp] at h
theorem shps_lay : ∀ (n : Nat) (ds : List D), shps n ds = true → PyData.canLayAll0 (pys ds) = true ∧ PyData.depthAll (pys ds) ≤ n
  | n, [], _ => by simp [pys, PyData.canLayAll0, PyData.depthAll]
  | n, d :: ds, h => by
    have h' : shp n d = true ∧ shps n ds = true := by simpa [shps] using h
    have a := shp_lay n d h'.1
    have b := shps_lay n ds h'.2
    simp only [pys, PyData.canLayAll0, PyData.depthAll]
    exact ⟨by simp [a.1, b.1], by omega⟩
end
theorem shp_shaped {d : D} (h : shp 60 d = true) : SeqAt.shaped d.py = true := by
  have q := shp_lay 60 d h
  unfold SeqAt.shaped
  rw [q.1, Bool.true_and, decide_eq_true_eq]
  omega
mutual
theorem RD.dp {G : Cfg} {w : Wd} : ∀ (n : Nat) (d : D) (v : V), shp n d = true → RD G w d v → Dp G.K w.H v d.py
  | n, .non, v, _, h => by unfold RD at h; subst h; simp only [D.py]; exact .non
  | n, .bl b, v, _, h => by unfold RD at h; subst h; simp only [D.py]; exact .bl b
  | n, .int i, v, _, h => by unfold RD at h; subst h; simp only [D.py]; exact .int i
  | n, .str x, v, _, h => by unfold RD at h; subst h; simp only [D.py]; exact .str x
  | 0, .tup _, v, s, _ => by simp [shp] at s
  | n + 1, .tup ds, v, s, h => by
    unfold RD at h
    obtain ⟨a, vs, rfl, t, r⟩ := h
    simp only [D.py]
    exact .tup t.sq (RDs.dp n ds vs (by simpa [shp] using s) r)
  | 0, .lst _, v, s, _ => by simp [shp] at s
  | n + 1, .lst ds, v, s, h => by
    unfold RD at h
    obtain ⟨a, vs, rfl, t, r⟩ := h
    simp only [D.py]
    exact .lst t.sq (RDs.dp n ds vs (by simpa [shp] using s) r)
  | n, .dct _ _, _, s, _ => by simp [shp] at s
  | n, .ref _, _, s, _ => by simp [shp] at s
  | n, .exc _ _, _, s, _ => by simp [shp] at s
  | n, .frg _, _, s, _ => by simp [shp] at s
theorem RDs.dp {G : Cfg} {w : Wd} : ∀ (n : Nat) (ds : List D) (vs : List V), shps n ds = true → RDs G w ds vs → DpAll G.K w.H vs (pys ds)
  | n, [], vs, _, h => by unfold RDs at h; subst h; simp only [pys]; exact .nil
  | n, d :: ds, vs, s, h => by
    unfold RDs at h
    obtain ⟨v, r, rfl, h1, h2⟩ := h
    have s' : shp n d = true ∧ shps n ds = true := by simpa [shps] using s
    simp only [pys]
    exact .cons (RD.dp n d v s'.1 h1) (RDs.dp n ds r s'.2 h2)
end
theorem RC.dp {G : Cfg} {w : Wd} {a : Addr} {n : Nat} {d : D} (s : shp n d = true) (h : RC G w a d) : Dp G.K w.H (.ref a) d.py := by
  cases d with
  | lst ds =>
    obtain ⟨vs, e, r⟩ := h
    cases n with
    | zero => simp [shp] at s
    | succ n =>
      simp only [D.py]
      exact .lst (.of e) (RDs.dp n ds vs (by simpa [shp] using s) r)
  | dct ks ds => simp [shp] at s
  | _ => exact (show False from h).elim
/-- what is looked at now: a value, or a thing with its content -/
def RQ (G : Cfg) (w : Wd) (d : D) (v : V) : Prop := RD G w d v ∨ ∃ a, v = .ref a ∧ RC G w a d
theorem RR.q {G : Cfg} {O : Nat → Option Addr} {w0 w : Wd} {d : D} {v : V} (h : RR G .bo O w0 w d v) : RQ G w d v := by
  rcases h with h | ⟨a, i, e, _, _, _, c⟩
  · exact .inl h
  · exact .inr ⟨a, e, c⟩
theorem RQ.dp {G : Cfg} {w : Wd} {n : Nat} {d : D} {v : V} (s : shp n d = true) (h : RQ G w d v) : Dp G.K w.H v d.py := by
  rcases h with h | ⟨a, rfl, c⟩
  · exact RD.dp n d v s h
  · exact c.dp s
theorem RR.dp {G : Cfg} {O : Nat → Option Addr} {w0 w : Wd} {n : Nat} {d : D} {v : V} (s : shp n d = true) (h : RR G .bo O w0 w d v) : Dp G.K w.H v d.py := RQ.dp s h.q
def eqv (a b : D) : Bool := PyData.eqv a.py b.py

theorem RDs.length {G : Cfg} {w : Wd} : ∀ {ds : List D} {vs : List V}, RDs G w ds vs → ds.length = vs.length
  | [], vs, h => by unfold RDs at h; subst h; rfl
  | d :: ds, vs, h => by
    unfold RDs at h
    obtain ⟨v, r, rfl, _, h2⟩ := h
    simp [RDs.length h2]
theorem RDs.append {G : Cfg} {w : Wd} : ∀ {ds es : List D} {vs us : List V}, RDs G w ds vs → RDs G w es us → RDs G w (ds ++ es) (vs ++ us)
  | [], es, vs, us, h, k => by unfold RDs at h; subst h; exact k
  | d :: ds, es, vs, us, h, k => by
    unfold RDs at h
    obtain ⟨v, r, rfl, h1, h2⟩ := h
    show RDs G w (d :: (ds ++ es)) (v :: (r ++ us))
    unfold RDs
    exact ⟨v, _, rfl, h1, RDs.append h2 k⟩
theorem RDs.get {G : Cfg} {w : Wd} : ∀ {ds : List D} {vs : List V} {i : Nat} {d : D}, RDs G w ds vs → ds[i]? = some d → ∃ v, vs[i]? = some v ∧ RD G w d v
  | [], vs, i, d, h, e => by simp at e
  | x :: ds, vs, 0, d, h, e => by
    unfold RDs at h
    obtain ⟨v, r, rfl, h1, h2⟩ := h
    simp at e; subst e
    exact ⟨v, rfl, h1⟩
  | x :: ds, vs, i + 1, d, h, e => by
    unfold RDs at h
    obtain ⟨v, r, rfl, h1, h2⟩ := h
    obtain ⟨u, e1, e2⟩ := RDs.get (i := i) h2 (by simpa using e)
    exact ⟨u, by simpa using e1, e2⟩
theorem RDs.take {G : Cfg} {w : Wd} : ∀ {ds : List D} {vs : List V} (n : Nat), RDs G w ds vs → RDs G w (ds.take n) (vs.take n)
  | ds, vs, 0, h => by simp only [List.take_zero]; unfold RDs; rfl
  | [], vs, n + 1, h => by unfold RDs at h; subst h; simp only [List.take_nil]; unfold RDs; rfl
  | x :: ds, vs, n + 1, h => by
    unfold RDs at h
    obtain ⟨v, r, rfl, h1, h2⟩ := h
    simp only [List.take_succ_cons]
    unfold RDs
    exact ⟨v, _, rfl, h1, RDs.take n h2⟩
theorem RDs.drop {G : Cfg} {w : Wd} : ∀ {ds : List D} {vs : List V} (n : Nat), RDs G w ds vs → RDs G w (ds.drop n) (vs.drop n)
  | ds, vs, 0, h => h
  | [], vs, n + 1, h => by unfold RDs at h; subst h; simp only [List.drop_nil]; unfold RDs; rfl
  | x :: ds, vs, n + 1, h => by
    unfold RDs at h
    obtain ⟨v, r, rfl, h1, h2⟩ := h
    exact RDs.drop n h2
theorem RDs.set {G : Cfg} {w : Wd} {d : D} {v : V} (q : RD G w d v) : ∀ {ds : List D} {vs : List V} (i : Nat), RDs G w ds vs → RDs G w (ds.set i d) (vs.set i v)
  | [], vs, i, h => by unfold RDs at h; subst h; simp only [List.set_nil]; unfold RDs; rfl
  | x :: ds, vs, 0, h => by
    unfold RDs at h
    obtain ⟨u, r, rfl, h1, h2⟩ := h
    simp only [List.set_cons_zero]
    unfold RDs
    exact ⟨v, r, rfl, q, h2⟩
  | x :: ds, vs, i + 1, h => by
    unfold RDs at h
    obtain ⟨u, r, rfl, h1, h2⟩ := h
    simp only [List.set_cons_succ]
    unfold RDs
    exact ⟨u, _, rfl, h1, RDs.set q i h2⟩
theorem RDs.one {G : Cfg} {w : Wd} {d : D} {v : V} (q : RD G w d v) : RDs G w [d] [v] := by
  unfold RDs
  exact ⟨v, [], rfl, q, by unfold RDs; rfl⟩

/-- what is looked at as a list: its items -/
theorem RQ.lst {G : Cfg} {w : Wd} {ds : List D} {v : V} (h : RQ G w (.lst ds) v) : ∃ a vs, v = .ref a ∧ w.H a = some (.lst vs) ∧ RDs G w ds vs := by
  rcases h with h | ⟨a, rfl, c⟩
  · unfold RD at h
    obtain ⟨a, vs, rfl, t, r⟩ := h
    exact ⟨a, vs, rfl, t.1, r⟩
  · obtain ⟨vs, e, r⟩ := c
    exact ⟨a, vs, rfl, e, r⟩
theorem RR.lst {G : Cfg} {O : Nat → Option Addr} {w0 w : Wd} {ds : List D} {v : V} (h : RR G .bo O w0 w (.lst ds) v) : ∃ a vs, v = .ref a ∧ w.H a = some (.lst vs) ∧ RDs G w ds vs := RQ.lst  h.q
theorem RQ.tup {G : Cfg} {w : Wd} {ds : List D} {v : V} (h : RQ G w (.tup ds) v) : ∃ a vs, v = .ref a ∧ SqT G.K w.H a vs ∧ RDs G w ds vs := by
  rcases h with h | ⟨a, rfl, c⟩
  · unfold RD at h
    obtain ⟨a, vs, rfl, t, r⟩ := h
    exact ⟨a, vs, rfl, t.sq, r⟩
  · exact (show False from c).elim
theorem RR.tup {G : Cfg} {O : Nat → Option Addr} {w0 w : Wd} {ds : List D} {v : V} (h : RR G .bo O w0 w (.tup ds) v) : ∃ a vs, v = .ref a ∧ SqT G.K w.H a vs ∧ RDs G w ds vs := RQ.tup  h.q
theorem RQ.int {G : Cfg} {w : Wd} {i : Int} {v : V} (h : RQ G w (.int i) v) : v = .int i := by
  rcases h with h | ⟨a, rfl, c⟩
  · unfold RD at h; exact h
  · exact (show False from c).elim
theorem RR.int {G : Cfg} {O : Nat → Option Addr} {w0 w : Wd} {i : Int} {v : V} (h : RR G .bo O w0 w (.int i) v) : v = .int i := RQ.int  h.q
theorem RQ.str {G : Cfg} {w : Wd} {i : Str} {v : V} (h : RQ G w (.str i) v) : v = .str i := by
  rcases h with h | ⟨a, rfl, c⟩
  · unfold RD at h; exact h
  · exact (show False from c).elim
theorem RR.str {G : Cfg} {O : Nat → Option Addr} {w0 w : Wd} {i : Str} {v : V} (h : RR G .bo O w0 w (.str i) v) : v = .str i := RQ.str  h.q
theorem RQ.bl {G : Cfg} {w : Wd} {i : Bool} {v : V} (h : RQ G w (.bl i) v) : v = .bl i := by
  rcases h with h | ⟨a, rfl, c⟩
  · unfold RD at h; exact h
  · exact (show False from c).elim
theorem RR.bl {G : Cfg} {O : Nat → Option Addr} {w0 w : Wd} {i : Bool} {v : V} (h : RR G .bo O w0 w (.bl i) v) : v = .bl i := RQ.bl  h.q
theorem RQ.non {G : Cfg} {w : Wd} {v : V} (h : RQ G w .non v) : v = .non := by
  rcases h with h | ⟨a, rfl, c⟩
  · unfold RD at h; exact h
  · exact (show False from c).elim
theorem RR.non {G : Cfg} {O : Nat → Option Addr} {w0 w : Wd} {v : V} (h : RR G .bo O w0 w .non v) : v = .non := RQ.non  h.q

/-- the most items that are reckoned with -/
def LIM : Nat := 1000000
theorem LIM_le : LIM ≤ sizeLine := by rw [sizeLine_eq]; decide
theorem LIM_lt : LIM < sizeLine := by rw [sizeLine_eq]; decide

/-! ### two-place operations -/
def bBin (F : D → D → Sto → Rs) (f g : Ev) : Ev := fun r st => (f r st).bind fun a st1 => (g r st1).bind fun b st2 => F a b st2
/-- what r asks is there where F comes to an end -/
def SemOp (X : Cx) (B : Bs) (k : Kd) (Wx : WX) (F : D → D → Sto → Rs) (r : R2) : Prop :=
  ∀ (O : Nat → Option Addr) (e : Env) (s : L2.St) (w0 w : Wd) (a b : D) (x y : V) (st : Sto) (Q : VK), Rel (cg X) B O e st s w → Ext w0 w → RQ (cg X) w a x → RQ (cg X) w b y →
    post (cg X) B k Wx O e s w0 (F a b st) Q → r x y w.H Q
section
variable {X : Cx} {B : Bs} {k : Kd} {Wx : WX} {a b c : Expr} {f g h : Ev} {pos : Pos}
theorem tE_bin {F : D → D → Sto → Rs} {r : R2} (sem : SemOp X B k Wx F r) {s : L2.St} {H : Hp} {Q : VK} (q : tE (cg X) B k Wx (bBin F f g) s H Q) : tOp r (tE (cg X) B .bo Wx f) (tE (cg X) B .bo Wx g) s H Q := by
  obtain ⟨O, e, st, w, rfl, R, q⟩ := q
  refine ⟨O, e, st, w, rfl, R, (post.bind q).mono ?_⟩
  rintro v H1 ⟨d1, st1, w1, rfl, R1, x1, rr1, q1⟩
  refine ⟨O, e, st1, w1, rfl, R1, (post.bind (q1.rebase x1)).mono ?_⟩
  rintro v2 H2 ⟨d2, st2, w2, rfl, R2, x2, rr2, q2⟩
  exact sem O e s w1 w2 d1 d2 v v2 st2 Q R2 x2 (rr1.ext R1.wf x2).q rr2.q q2
theorem je_bin {op : Operator} {F : D → D → Sto → Rs} {r : R2} (ho : OpR X (binaryOp op) r) (sem : SemOp X B k Wx F r) (ha : JE X B .bo Wx a f) (hb : JE X B .bo Wx b g) : JE X B k Wx (.BinOp a op b pos) (bBin F f g) :=
  pe_imp (pe_op ho ha hb) fun _ _ _ q => tE_bin sem q
theorem je_cmp {op : CmpOp} {F : D → D → Sto → Rs} {r : R2} (ho : OpR X (compareOp op) r) (sem : SemOp X B .sh Wx F r) (hm : behindInMarks op b = false) (ha : JE X B .bo Wx a f) (hb : JE X B .bo Wx b g) : JE X B .sh Wx (.Compare a [op] [b] pos) (bBin F f g) :=
  pe_imp (pe_cmpR ho ha hb hm) fun _ _ _ q => tE_bin sem q
/-- a test -/
def JT (X : Cx) (B : Bs) (Wx : WX) (e : Expr) (f : Ev) : Prop := PT X e (tTest (tE (cg X) B .sh Wx f))
theorem pt_imp {e : Expr} {t t' : TT} (h : PT X e t) (q : ∀ s H Q, t' s H Q → t s H Q) : PT X e t' := ⟨fun pins s σ H Q I h' => h.run pins s σ H Q I (q σ H Q h')⟩
theorem JE.jt {e : Expr} {f : Ev} (h : JE X B .sh Wx e f) (he : ∀ whole, isTrue e X.env whole = (do let v ← whole; standAt e.pos; holding [v] (truthy v)) := by intro _; rfl) : JT X B Wx e f := pt_val h he
theorem jt_cmp {op : CmpOp} {F : D → D → Sto → Rs} {r : R2} (ho : OpR X (compareOp op) r) (sem : SemOp X B .sh Wx F r) (hm : behindInMarks op b = false) (ha : JE X B .bo Wx a f) (hb : JE X B .bo Wx b g) : JT X B Wx (.Compare a [op] [b] pos) (bBin F f g) :=
  pt_imp (pt_cmpR ho ha hb hm) fun _ _ _ q => tE_bin sem q

/-- an end with a value, the heap as it is -/
theorem post.val {O : Nat → Option Addr} {e : Env} {s : L2.St} {w0 w : Wd} {d : D} {v : V} {st : Sto} {Q : VK} (R : Rel (cg X) B O e st s w) (x : Ext w0 w) (q : post (cg X) B .sh Wx O e s w0 (.ok d st) Q) (h : RD (cg X) w d v) : Q v w.H := q w v R x h
/-- an end with a new object -/
theorem post.new {O : Nat → Option Addr} {e : Env} {s : L2.St} {w0 w : Wd} {d : D} {p : Addr} {o : HO} {st : Sto} {Q : VK} (R : Rel (cg X) B O e st s w) (x : Ext w0 w) (q : post (cg X) B .sh Wx O e s w0 (.ok d st) Q) (hp : w.H p = none)
    (h : ∀ w', Im w' p o → Wk w w' → RD (cg X) w' d (.ref p)) : Q (.ref p) (upd w.H p o) :=
  q (w.add p o false) (.ref p) (R.add hp) (x.trans (Wd.add_ext hp)) (h _ (Wd.add_im R.wf hp) ((Wd.add_ext hp).wk R.wf))
theorem post.own {O : Nat → Option Addr} {e : Env} {s : L2.St} {w0 w : Wd} {d : D} {p : Addr} {o : HO} {st : Sto} {Q : VK} (R : Rel (cg X) B O e st s w) (x : Ext w0 w) (q : post (cg X) B .fr Wx O e s w0 (.ok d st) Q) (hp : w.H p = none)
    (h : ∀ w', w'.H p = some o → Wk w w' → RC (cg X) w' p d) : Q (.ref p) (upd w.H p o) := by
  refine q (w.add p o true) (.ref p) (R.add hp) (x.trans (Wd.add_ext hp)) ⟨p, rfl, ?_, .inr ⟨rfl, rfl⟩, fun m => R.wf.mh p (R.wf.um p m) hp, h _ upd_same ((Wd.add_ext hp).wk R.wf)⟩
  cases z : w0.H p with
  | none => rfl
  | some o => exact absurd hp (x.hh p (by rw [z]; simp))

def intOp (h : Int → Int → Int) : D → D → Sto → Rs
  | .int i, .int j, st => .ok (.int (h i j)) st
  | _, _, _ => .bad
def opAdd : D → D → Sto → Rs
  | .int i, .int j, st => .ok (.int (i + j)) st
  | .str x, .str y, st => if x.length + y.length ≤ LIM then .ok (.str (x ++ y)) st else .bad
  | .tup xs, .tup ys, st => if xs.length + ys.length ≤ LIM then .ok (.tup (xs ++ ys)) st else .bad
  | .lst xs, .lst ys, st => if xs.length + ys.length ≤ LIM then .ok (.lst (xs ++ ys)) st else .bad
  | _, _, _ => .bad
theorem RDs.nil_of {G : Cfg} {w : Wd} {ds : List D} {vs : List V} (h : RDs G w ds vs) (e : vs = []) : ds = [] := by
  have := h.length
  rw [e] at this
  exact List.length_eq_zero_iff.mp this
end
end Sm

/-! Sim3: the operators, comparisons, truth, displays, subscripts, slices. -/
namespace Sm
open PySem L2

theorem rdI {G : Cfg} {w : Wd} {i : Int} : RD G w (.int i) (.int i) := by unfold RD; rfl
theorem rdS {G : Cfg} {w : Wd} {i : Str} : RD G w (.str i) (.str i) := by unfold RD; rfl
theorem rdB {G : Cfg} {w : Wd} {i : Bool} : RD G w (.bl i) (.bl i) := by unfold RD; rfl
theorem rdN {G : Cfg} {w : Wd} : RD G w .non .non := by unfold RD; rfl
theorem rdT {G : Cfg} {w : Wd} {a : Addr} {ds : List D} {vs : List V} (h : Im w a (.tup vs)) (r : RDs G w ds vs) : RD G w (.tup ds) (.ref a) := by unfold RD; exact ⟨a, vs, rfl, .inl h, r⟩
theorem rdL {G : Cfg} {w : Wd} {a : Addr} {ds : List D} {vs : List V} (h : Im w a (.lst vs)) (r : RDs G w ds vs) : RD G w (.lst ds) (.ref a) := by unfold RD; exact ⟨a, vs, rfl, h, r⟩
section
variable {X : Cx} {B : Bs} {k : Kd} {Wx : WX} {a b c : Expr} {f g h : Ev} {pos : Pos}

/-! ### + -/
def rAddA (K : PySem.W.Frag) : R2 := fun x y H Q => ((rI0 fun i j => .int (i + j)) x y H Q) ∨ ((∃ i j, x = .str i ∧ y = .str j ∧ i.length + j.length ≤ sizeLine ∧ Q (.str (i ++ j)) H) ∨ (rCatA K x y H Q ∨ rCat x y H Q))
theorem op_addA : OpR X (binaryOp .Add) (rAddA X.K) := op_add.or (op_add_str.or (op_catA.or op_cat))
theorem sem_add : SemOp X B .sh Wx opAdd (rAddA X.K) := by
  intro O e s w0 w a b x y st Q R xt ra rb q
  have hl := LIM_le
  cases a with
  | int i =>
    cases b with
    | int j =>
      exact .inl ⟨i, j, ra.int, rb.int, post.val R xt q rdI⟩
    | _ => exact (show False from q).elim
  | str i =>
    cases b with
    | str j =>
      by_cases hz : i.length + j.length ≤ LIM
      · simp only [opAdd, if_pos hz] at q
        exact .inr (.inl ⟨i, j, ra.str, rb.str, by omega, post.val R xt q rdS⟩)
      · simp only [opAdd, if_neg hz] at q
        exact q.elim
    | _ => exact (show False from q).elim
  | tup ds =>
    cases b with
    | tup es =>
      by_cases hz : ds.length + es.length ≤ LIM
      · simp only [opAdd, if_pos hz] at q
        obtain ⟨p1, vs, rfl, t1, r1⟩ := ra.tup
        obtain ⟨p2, us, rfl, t2, r2⟩ := rb.tup
        refine .inr (.inr (.inl ⟨p1, p2, vs, us, rfl, rfl, t1, t2, by rw [← r1.length, ← r2.length]; omega, fun z => ?_, fun _ z => ?_, fun _ _ p hp => post.new R xt q hp fun w' i k => ?_⟩))
        · rw [r1.nil_of z] at q
          refine post.val R xt q ?_
          rcases rb with h | ⟨_, _, c⟩
          · exact h
          · exact (show False from c).elim
        · rw [r2.nil_of z, List.append_nil] at q
          refine post.val R xt q ?_
          rcases ra with h | ⟨_, _, c⟩
          · exact h
          · exact (show False from c).elim
        · exact rdT i (RDs.append (RDs.wk k _ _ r1) (RDs.wk k _ _ r2))
      · simp only [opAdd, if_neg hz] at q
        exact q.elim
    | _ => exact (show False from q).elim
  | lst ds =>
    cases b with
    | lst es =>
      by_cases hz : ds.length + es.length ≤ LIM
      · simp only [opAdd, if_pos hz] at q
        obtain ⟨p1, vs, rfl, t1, r1⟩ := ra.lst
        obtain ⟨p2, us, rfl, t2, r2⟩ := rb.lst
        refine .inr (.inr (.inr ⟨p1, p2, vs, us, rfl, rfl, t1, t2, by rw [← r1.length, ← r2.length]; omega, fun p hp => post.new R xt q hp fun w' i k => ?_⟩))
        exact rdL i (RDs.append (RDs.wk k _ _ r1) (RDs.wk k _ _ r2))
      · simp only [opAdd, if_neg hz] at q
        exact q.elim
    | _ => exact (show False from q).elim
  | _ => exact (show False from q).elim
theorem je_add (ha : JE X B .bo Wx a f) (hb : JE X B .bo Wx b g) : JE X B .sh Wx (.BinOp a .Add b pos) (bBin opAdd f g) := je_bin op_addA sem_add ha hb
def opCat : D → D → Sto → Rs
  | .lst xs, .lst ys, st => if xs.length + ys.length ≤ LIM then .ok (.lst (xs ++ ys)) st else .bad
  | _, _, _ => .bad
theorem sem_cat : SemOp X B .fr Wx opCat rCat := by
  intro O e s w0 w a b x y st Q R xt ra rb q
  have hl := LIM_le
  cases a with
  | lst ds =>
    cases b with
    | lst es =>
      by_cases hz : ds.length + es.length ≤ LIM
      · simp only [opCat, if_pos hz] at q
        obtain ⟨p1, vs, rfl, t1, r1⟩ := ra.lst
        obtain ⟨p2, us, rfl, t2, r2⟩ := rb.lst
        refine ⟨p1, p2, vs, us, rfl, rfl, t1, t2, by rw [← r1.length, ← r2.length]; omega, fun p hp => post.own R xt q hp fun w' i k => ?_⟩
        exact ⟨_, i, RDs.append (RDs.wk k _ _ r1) (RDs.wk k _ _ r2)⟩
      · simp only [opCat, if_neg hz] at q
        exact q.elim
    | _ => exact (show False from q).elim
  | _ => exact (show False from q).elim
theorem je_cat (ha : JE X B .bo Wx a f) (hb : JE X B .bo Wx b g) : JE X B .fr Wx (.BinOp a .Add b pos) (bBin opCat f g) := je_bin op_cat sem_cat ha hb

/-! ### whole numbers -/
def opSub : D → D → Sto → Rs
  | .int i, .int j, st => .ok (.int (i - j)) st
  | _, _, _ => .bad
theorem je_sub (ha : JE X B .bo Wx a f) (hb : JE X B .bo Wx b g) : JE X B .sh Wx (.BinOp a .Sub b pos) (bBin opSub f g) := by
  refine je_bin op_sub ?_ ha hb
  intro O e s w0 w a b x y st Q R xt ra rb q
  cases a with
  | int i =>
    cases b with
    | int j => exact ⟨i, j, ra.int, rb.int, post.val R xt q rdI⟩
    | _ => exact (show False from q).elim
  | _ => exact (show False from q).elim
def M64 : Int := 18446744073709551616
def opMul : D → D → Sto → Rs
  | .int i, .int j, st => if (-M64 < i ∧ i < M64) ∨ (-M64 < j ∧ j < M64) then .ok (.int (i * j)) st else .bad
  | _, _, _ => .bad
theorem je_mul (ha : JE X B .bo Wx a f) (hb : JE X B .bo Wx b g) : JE X B .sh Wx (.BinOp a .Mult b pos) (bBin opMul f g) := by
  refine je_bin op_mul ?_ ha hb
  intro O e s w0 w a b x y st Q R xt ra rb q
  cases a with
  | int i =>
    cases b with
    | int j =>
      by_cases hz : (-M64 < i ∧ i < M64) ∨ (-M64 < j ∧ j < M64)
      · simp only [opMul, if_pos hz] at q
        refine ⟨i, j, ra.int, rb.int, ?_, post.val R xt q rdI⟩
        have e : M64 = 2 ^ 64 := by decide
        rw [e] at hz
        exact hz
      · simp only [opMul, if_neg hz] at q
        exact q.elim
    | _ => exact (show False from q).elim
  | _ => exact (show False from q).elim
def opMod : D → D → Sto → Rs
  | .int i, .int j, st => if 0 < j then .ok (.int (i % j)) st else .bad
  | _, _, _ => .bad
theorem je_mod (ha : JE X B .bo Wx a f) (hb : JE X B .bo Wx b g) : JE X B .sh Wx (.BinOp a .Mod b pos) (bBin opMod f g) := by
  refine je_bin op_mod ?_ ha hb
  intro O e s w0 w a b x y st Q R xt ra rb q
  cases a with
  | int i =>
    cases b with
    | int j =>
      by_cases hz : 0 < j
      · simp only [opMod, if_pos hz] at q
        exact ⟨i, j, ra.int, rb.int, hz, post.val R xt q rdI⟩
      · simp only [opMod, if_neg hz] at q
        exact q.elim
    | _ => exact (show False from q).elim
  | _ => exact (show False from q).elim
def D40 : Int := 1000000000000000000000000000000000000000000000000000000000000
def opFdiv : D → D → Sto → Rs
  | .int i, .int j, st => if 0 < j ∧ j < D40 then .ok (.int (i / j)) st else .bad
  | _, _, _ => .bad
theorem je_fdiv (ha : JE X B .bo Wx a f) (hb : JE X B .bo Wx b g) : JE X B .sh Wx (.BinOp a .FloorDiv b pos) (bBin opFdiv f g) := by
  refine je_bin op_fdivW ?_ ha hb
  intro O e s w0 w a b x y st Q R xt ra rb q
  cases a with
  | int i =>
    cases b with
    | int j =>
      by_cases hz : 0 < j ∧ j < D40
      · simp only [opFdiv, if_pos hz] at q
        refine ⟨i, j, ra.int, rb.int, wide_div (b := 200) hz.1 ?_ (by decide) (by decide), post.val R xt q rdI⟩
        have h1 : D40 < 2 ^ 200 := by decide
        have h2 := hz.2
        omega
      · simp only [opFdiv, if_neg hz] at q
        exact q.elim
    | _ => exact (show False from q).elim
  | _ => exact (show False from q).elim
def opPow : D → D → Sto → Rs
  | .int i, .int j, st => if (0 ≤ j ∧ j ≤ 1000) ∧ (0 ≤ i ∧ i < M64) then .ok (.int (i ^ j.toNat)) st else .bad
  | _, _, _ => .bad
theorem je_pow (ha : JE X B .bo Wx a f) (hb : JE X B .bo Wx b g) : JE X B .sh Wx (.BinOp a .Pow b pos) (bBin opPow f g) := by
  refine je_bin op_pow ?_ ha hb
  intro O e s w0 w a b x y st Q R xt ra rb q
  cases a with
  | int i =>
    cases b with
    | int j =>
      by_cases hz : (0 ≤ j ∧ j ≤ 1000) ∧ (0 ≤ i ∧ i < M64)
      · simp only [opPow, if_pos hz] at q
        have e : M64 = 2 ^ 64 := by decide
        rw [e] at hz
        exact ⟨i, j, ra.int, rb.int, ⟨hz.1.1, by omega, by omega⟩, post.val R xt q rdI⟩
      · simp only [opPow, if_neg hz] at q
        exact q.elim
    | _ => exact (show False from q).elim
  | _ => exact (show False from q).elim
def bNeg (f : Ev) : Ev := fun r st => (f r st).bind fun a st1 => match a with | .int i => .ok (.int (-i)) st1 | _ => .bad
theorem je_neg (ha : JE X B .bo Wx a f) : JE X B .sh Wx (.UnaryOp .USub a pos) (bNeg f) := by
  refine pe_imp (pe_un un_neg ha) ?_
  rintro s H Q ⟨O, e, st, w, rfl, R, q⟩
  refine ⟨O, e, st, w, rfl, R, (post.bind q).mono ?_⟩
  rintro v H1 ⟨d1, st1, w1, rfl, R1, x1, rr1, q1⟩
  cases d1 with
  | int i => exact ⟨i, rr1.int, post.val R1 x1 q1 rdI⟩
  | _ => exact (show False from q1).elim

/-! ### comparisons -/
def opEq (a b : D) (st : Sto) : Rs := if shp 60 a && shp 60 b then .ok (.bl (eqv a b)) st else .bad
def opNe (a b : D) (st : Sto) : Rs := if shp 60 a && shp 60 b then .ok (.bl (!eqv a b)) st else .bad
theorem sem_eq : SemOp X B .sh Wx opEq (rEqD X.K) := by
  intro O e s w0 w a b x y st Q R xt ra rb q
  cases z : shp 60 a && shp 60 b with
  | false => simp [opEq, z, post] at q
  | true =>
    rw [opEq, if_pos z] at q
    rw [Bool.and_eq_true] at z
    exact ⟨_, _, RQ.dp z.1 ra, RQ.dp z.2 rb, shp_shaped z.1, shp_shaped z.2, post.val R xt q rdB⟩
theorem sem_ne : SemOp X B .sh Wx opNe (rNeD X.K) := by
  intro O e s w0 w a b x y st Q R xt ra rb q
  cases z : shp 60 a && shp 60 b with
  | false => simp [opNe, z, post] at q
  | true =>
    rw [opNe, if_pos z] at q
    rw [Bool.and_eq_true] at z
    exact ⟨_, _, RQ.dp z.1 ra, RQ.dp z.2 rb, shp_shaped z.1, shp_shaped z.2, post.val R xt q rdB⟩
def intCmp (h : Int → Int → Bool) : D → D → Sto → Rs
  | .int i, .int j, st => .ok (.bl (h i j)) st
  | _, _, _ => .bad
theorem sem_ic {h : Int → Int → Bool} : SemOp X B .sh Wx (intCmp h) (rI0 fun i j => .bl (h i j)) := by
  intro O e s w0 w a b x y st Q R xt ra rb q
  cases a with
  | int i =>
    cases b with
    | int j =>
      exact ⟨i, j, ra.int, rb.int, post.val R xt q rdB⟩
    | _ => exact (show False from q).elim
  | _ => exact (show False from q).elim
abbrev icLe : D → D → Sto → Rs := intCmp fun i j => decide (i ≤ j)
abbrev icLt : D → D → Sto → Rs := intCmp fun i j => decide (i < j)
abbrev icGe : D → D → Sto → Rs := intCmp fun i j => decide (j ≤ i)
abbrev icGt : D → D → Sto → Rs := intCmp fun i j => decide (j < i)
def isN : D → Bool
  | .non => true
  | _ => false
def opIs (neg : Bool) : D → D → Sto → Rs
  | d, .non, st => .ok (.bl (neg ^^ isN d)) st
  | .bl i, .bl j, st => .ok (.bl (neg ^^ decide (i = j))) st
  | _, _, _ => .bad
theorem RQ.isN {G : Cfg} {w : Wd} {d : D} {v : V} (h : RQ G w d v) : decide (v = .non) = isN d := by
  rcases h with h | ⟨a, rfl, c⟩
  · cases d with
    | non => unfold RD at h; subst h; rfl
    | bl _ => unfold RD at h; subst h; rfl
    | int _ => unfold RD at h; subst h; rfl
    | str _ => unfold RD at h; subst h; rfl
    | tup _ => unfold RD at h; obtain ⟨_, _, rfl, _⟩ := h; rfl
    | lst _ => unfold RD at h; obtain ⟨_, _, rfl, _⟩ := h; rfl
    | dct _ _ => unfold RD at h; obtain ⟨_, _, rfl, _⟩ := h; rfl
    | ref _ => unfold RD at h; obtain ⟨_, rfl, _⟩ := h; rfl
    | frg _ => unfold RD at h; obtain ⟨_, _, rfl, _⟩ := h; rfl
    | exc _ _ => unfold RD at h; exact h.elim
  · cases d with
    | lst _ => rfl
    | dct _ _ => rfl
    | _ => exact (show False from c).elim
theorem RR.isN {G : Cfg} {O : Nat → Option Addr} {w0 w : Wd} {d : D} {v : V} (h : RR G .bo O w0 w d v) : decide (v = .non) = isN d := RQ.isN  h.q
def rIsA : R2 := fun x y H Q => (y = .non ∧ Q (.bl (decide (x = .non))) H) ∨ (∃ a b, x = .bl a ∧ y = .bl b ∧ Q (.bl (decide (a = b))) H)
def rIsNotA : R2 := fun x y H Q => (y = .non ∧ Q (.bl (!decide (x = .non))) H) ∨ (∃ a b, x = .bl a ∧ y = .bl b ∧ Q (.bl (!decide (a = b))) H)
theorem sem_is : SemOp X B .sh Wx (opIs false) rIsA := by
  intro O e s w0 w a b x y st Q R xt ra rb q
  cases b with
  | non =>
    have q' : post (cg X) B .sh Wx O e s w0 (.ok (.bl (false ^^ isN a)) st) Q := by cases a <;> exact q
    refine .inl ⟨rb.non, ?_⟩
    rw [ra.isN]
    have z := post.val R xt q' rdB
    rw [Bool.false_xor] at z
    exact z
  | bl j =>
    cases a with
    | bl i =>
      refine .inr ⟨i, j, ra.bl, rb.bl, ?_⟩
      have z := post.val R xt q rdB
      rw [Bool.false_xor] at z
      exact z
    | _ => exact (show False from q).elim
  | _ => cases a <;> exact (show False from q).elim
theorem sem_isnot : SemOp X B .sh Wx (opIs true) rIsNotA := by
  intro O e s w0 w a b x y st Q R xt ra rb q
  cases b with
  | non =>
    have q' : post (cg X) B .sh Wx O e s w0 (.ok (.bl (true ^^ isN a)) st) Q := by cases a <;> exact q
    refine .inl ⟨rb.non, ?_⟩
    rw [ra.isN]
    have z := post.val R xt q' rdB
    rw [Bool.true_xor] at z
    exact z
  | bl j =>
    cases a with
    | bl i =>
      refine .inr ⟨i, j, ra.bl, rb.bl, ?_⟩
      have z := post.val R xt q rdB
      rw [Bool.true_xor] at z
      exact z
    | _ => exact (show False from q).elim
  | _ => cases a <;> exact (show False from q).elim
/-- what a comparison does: its rule, what is made of it -/
structure JC (X : Cx) (B : Bs) (Wx : WX) (op : CmpOp) (F : D → D → Sto → Rs) : Prop where
  ex : ∃ r, OpR X (compareOp op) r ∧ SemOp X B .sh Wx F r
theorem jc_eq (hu : X.A.units + 64 < cLine) : JC X B Wx .Eq opEq := ⟨_, op_eqD hu, sem_eq⟩
theorem jc_ne (hu : X.A.units + 64 < cLine) : JC X B Wx .NotEq opNe := ⟨_, op_neD hu, sem_ne⟩
theorem jc_ile : JC X B Wx .LtE icLe := ⟨_, op_le, sem_ic⟩
theorem jc_ilt : JC X B Wx .Lt icLt := ⟨_, op_lt, sem_ic⟩
theorem jc_ige : JC X B Wx .GtE icGe := ⟨_, op_ge, sem_ic⟩
theorem jc_igt : JC X B Wx .Gt icGt := ⟨_, op_gt, sem_ic⟩
theorem jc_is : JC X B Wx .Is (opIs false) := ⟨_, op_isN.or op_is_bl, sem_is⟩
theorem jc_isnot : JC X B Wx .IsNot (opIs true) := ⟨_, op_notN.or op_isnot_bl, sem_isnot⟩
theorem JC.je {op : CmpOp} {F : D → D → Sto → Rs} (j : JC X B Wx op F) (ha : JE X B .bo Wx a f) (hb : JE X B .bo Wx b g) (hm : behindInMarks op b = false) : JE X B .sh Wx (.Compare a [op] [b] pos) (bBin F f g) :=
  let ⟨_, h1, h2⟩ := j.ex; je_cmp h1 h2 hm ha hb
theorem JC.jt {op : CmpOp} {F : D → D → Sto → Rs} (j : JC X B Wx op F) (ha : JE X B .bo Wx a f) (hb : JE X B .bo Wx b g) (hm : behindInMarks op b = false) : JT X B Wx (.Compare a [op] [b] pos) (bBin F f g) :=
  let ⟨_, h1, h2⟩ := j.ex; jt_cmp h1 h2 hm ha hb
/-- a op1 b op2 c -/
def bChain (F F' : D → D → Sto → Rs) (f g h : Ev) : Ev := fun r st => (f r st).bind fun a st1 => (g r st1).bind fun b st2 => (F a b st2).bind fun z st3 => match z with
  | .bl true => (h r st3).bind fun c st4 => F' b c st4
  | .bl false => .ok (.bl false) st3
  | _ => .bad
theorem tE_chain {F F' : D → D → Sto → Rs} {r r' : R2} (s1 : SemOp X B .sh Wx F r) (s2 : SemOp X B .sh Wx F' r') {s : L2.St} {H : Hp} {Q : VK} (q : tE (cg X) B .sh Wx (bChain F F' f g h) s H Q) :
    tChain r r' (tE (cg X) B .bo Wx f) (tE (cg X) B .bo Wx g) (tE (cg X) B .bo Wx h) s H Q := by
  obtain ⟨O, e, st, w, rfl, R, q⟩ := q
  refine ⟨O, e, st, w, rfl, R, (post.bind q).mono ?_⟩
  rintro v H1 ⟨d1, st1, w1, rfl, R1, x1, rr1, q1⟩
  refine ⟨O, e, st1, w1, rfl, R1, (post.bind (q1.rebase x1)).mono ?_⟩
  rintro v2 H2 ⟨d2, st2, w2, rfl, R2, x2, rr2, q2⟩
  refine s1 O e s w2 w2 d1 d2 v v2 st2 _ R2 (Ext.refl _) (rr1.ext R1.wf x2).q rr2.q ((post.bind (k1 := .sh) (q2.rebase x2)).mono ?_)
  rintro v3 H3 ⟨d3, st3, w3, rfl, R3, x3, rr3, q3⟩
  cases d3 with
  | bl z =>
    have e3 : v3 = .bl z := by
      have u : RD (cg X) w3 (.bl z) v3 := rr3
      unfold RD at u; exact u
    refine ⟨z, e3, ?_⟩
    cases z with
    | false => exact post.val R3 x3 q3 rdB
    | true =>
      refine ⟨O, e, st3, w3, rfl, R3, (post.bind (q3.rebase x3)).mono ?_⟩
      rintro v4 H4 ⟨d4, st4, w4, rfl, R4, x4, rr4, q4⟩
      exact s2 O e s w3 w4 d2 d4 v2 v4 st4 Q R4 x4 (rr2.ext R2.wf (x3.trans x4)).q rr4.q q4
  | _ => exact (show False from q3).elim
theorem je_chain {op op' : CmpOp} {F F' : D → D → Sto → Rs} (j : JC X B Wx op F) (j' : JC X B Wx op' F') (ha : JE X B .bo Wx a f) (hb : JE X B .bo Wx b g) (hc : JE X B .bo Wx c h) (hm : lastMarks [op, op'] [b, c] = false := by with_unfolding_all rfl) :
    JE X B .sh Wx (.Compare a [op, op'] [b, c] pos) (bChain F F' f g h) :=
  let ⟨_, h1, h2⟩ := j.ex; let ⟨_, h3, h4⟩ := j'.ex; pe_imp (pe_chain h1 h3 ha hb hc hm) fun _ _ _ q => tE_chain h2 h4 q
theorem jt_chain {op op' : CmpOp} {F F' : D → D → Sto → Rs} (j : JC X B Wx op F) (j' : JC X B Wx op' F') (ha : JE X B .bo Wx a f) (hb : JE X B .bo Wx b g) (hc : JE X B .bo Wx c h) (hm : lastMarks [op, op'] [b, c] = false := by with_unfolding_all rfl) :
    JT X B Wx (.Compare a [op, op'] [b, c] pos) (bChain F F' f g h) :=
  let ⟨_, h1, h2⟩ := j.ex; let ⟨_, h3, h4⟩ := j'.ex; pt_imp (pt_chain h1 h3 ha hb hc hm) fun _ _ _ q => tE_chain h2 h4 q
end
end Sm

/-! Sim4: and, or, not, if; arguments, displays, subscripts, slices. -/
namespace Sm
open PySem L2

theorem RR.shB {G : Cfg} {O : Nat → Option Addr} {w0 w : Wd} {b : Bool} {v : V} (h : RR G .sh O w0 w (.bl b) v) : v = .bl b := by
  have z : RD G w (.bl b) v := h
  unfold RD at z; exact z
def bAnd (f g : Ev) : Ev := fun r st => (f r st).bind fun d st1 => match d with
  | .bl true => g r st1
  | .bl false => .ok (.bl false) st1
  | _ => .bad
def bOr (f g : Ev) : Ev := fun r st => (f r st).bind fun d st1 => match d with
  | .bl true => .ok (.bl true) st1
  | .bl false => g r st1
  | _ => .bad
def bNot (f : Ev) : Ev := fun r st => (f r st).bind fun d st1 => match d with
  | .bl b => .ok (.bl (!b)) st1
  | _ => .bad
def bIf (c f g : Ev) : Ev := fun r st => (c r st).bind fun d st1 => match d with
  | .bl true => f r st1
  | .bl false => g r st1
  | _ => .bad
section
variable {X : Cx} {B : Bs} {k : Kd} {Wx : WX} {a b c : Expr} {rest : List Expr} {f g h : Ev} {pos : Pos}
theorem je_one {op} (h : JE X B k Wx a f) : JE X B k Wx (.BoolOp op [a] pos) f := pe_one h
theorem tE_and {s : L2.St} {H : Hp} {Q : VK} (q : tE (cg X) B .sh Wx (bAnd f g) s H Q) : tAndV (tE (cg X) B .sh Wx f) (tE (cg X) B .sh Wx g) s H Q := by
  obtain ⟨O, e, st, w, rfl, R, q⟩ := q
  refine ⟨O, e, st, w, rfl, R, (post.bind (k1 := .sh) q).mono ?_⟩
  rintro v H1 ⟨d1, st1, w1, rfl, R1, x1, rr1, q1⟩
  cases d1 with
  | bl z =>
    refine ⟨z, rr1.shB, ?_⟩
    cases z with
    | false => exact post.val R1 x1 q1 rdB
    | true => exact ⟨O, e, st1, w1, rfl, R1, q1.rebase x1⟩
  | _ => exact (show False from q1).elim
theorem tE_or {s : L2.St} {H : Hp} {Q : VK} (q : tE (cg X) B .sh Wx (bOr f g) s H Q) : tOrV (tE (cg X) B .sh Wx f) (tE (cg X) B .sh Wx g) s H Q := by
  obtain ⟨O, e, st, w, rfl, R, q⟩ := q
  refine ⟨O, e, st, w, rfl, R, (post.bind (k1 := .sh) q).mono ?_⟩
  rintro v H1 ⟨d1, st1, w1, rfl, R1, x1, rr1, q1⟩
  cases d1 with
  | bl z =>
    refine ⟨z, rr1.shB, ?_⟩
    cases z with
    | true => exact post.val R1 x1 q1 rdB
    | false => exact ⟨O, e, st1, w1, rfl, R1, q1.rebase x1⟩
  | _ => exact (show False from q1).elim
theorem je_and (ha : JE X B .sh Wx a f) (hb : JE X B .sh Wx (.BoolOp .And (b :: rest) pos) g) : JE X B .sh Wx (.BoolOp .And (a :: b :: rest) pos) (bAnd f g) := pe_imp (pe_and ha hb) fun _ _ _ q => tE_and q
theorem je_or (ha : JE X B .sh Wx a f) (hb : JE X B .sh Wx (.BoolOp .Or (b :: rest) pos) g) : JE X B .sh Wx (.BoolOp .Or (a :: b :: rest) pos) (bOr f g) := pe_imp (pe_or ha hb) fun _ _ _ q => tE_or q
theorem je_not (ha : JE X B .sh Wx a f) : JE X B .sh Wx (.UnaryOp .Not a pos) (bNot f) := by
  refine pe_imp (pe_not ha) ?_
  rintro s H Q ⟨O, e, st, w, rfl, R, q⟩
  refine ⟨O, e, st, w, rfl, R, (post.bind (k1 := .sh) q).mono ?_⟩
  rintro v H1 ⟨d1, st1, w1, rfl, R1, x1, rr1, q1⟩
  cases d1 with
  | bl z => exact ⟨z, rr1.shB, post.val R1 x1 q1 rdB⟩
  | _ => exact (show False from q1).elim
def JW (X : Cx) (B : Bs) (Wx : WX) (e : Expr) (f : Ev) : Prop := PW X e (tTest (tE (cg X) B .sh Wx f))
theorem pw_imp {e : Expr} {t t' : TT} (h : PW X e t) (q : ∀ s H Q, t' s H Q → t s H Q) : PW X e t' := ⟨fun wh pins s σ H Q I h' => h.run wh pins s σ H Q I (q σ H Q h')⟩
theorem JW.jt (h : JW X B Wx a f) : JT X B Wx a f := PW.pt h
theorem jw_and1 (h : JT X B Wx a f) : JW X B Wx (.BoolOp .And [a] pos) f := pw_and1 h
theorem jw_or1 (h : JT X B Wx a f) : JW X B Wx (.BoolOp .Or [a] pos) f := pw_or1 h
theorem jw_and (ha : JT X B Wx a f) (hb : JW X B Wx (.BoolOp .And (b :: rest) pos) g) : JW X B Wx (.BoolOp .And (a :: b :: rest) pos) (bAnd f g) := by
  refine pw_imp (pw_and ha hb) ?_
  rintro s H Q ⟨O, e, st, w, rfl, R, q⟩
  refine ⟨O, e, st, w, rfl, R, (post.bind (k1 := .sh) q).mono ?_⟩
  rintro v H1 ⟨d1, st1, w1, rfl, R1, x1, rr1, q1⟩
  cases d1 with
  | bl z =>
    refine ⟨z, rr1.shB, ?_⟩
    cases z with
    | false =>
      obtain ⟨z, e1, q2⟩ := post.val R1 x1 q1 rdB
      cases e1
      exact q2
    | true => exact ⟨O, e, st1, w1, rfl, R1, q1.rebase x1⟩
  | _ => exact (show False from q1).elim
theorem jw_or (ha : JT X B Wx a f) (hb : JW X B Wx (.BoolOp .Or (b :: rest) pos) g) : JW X B Wx (.BoolOp .Or (a :: b :: rest) pos) (bOr f g) := by
  refine pw_imp (pw_or ha hb) ?_
  rintro s H Q ⟨O, e, st, w, rfl, R, q⟩
  refine ⟨O, e, st, w, rfl, R, (post.bind (k1 := .sh) q).mono ?_⟩
  rintro v H1 ⟨d1, st1, w1, rfl, R1, x1, rr1, q1⟩
  cases d1 with
  | bl z =>
    refine ⟨z, rr1.shB, ?_⟩
    cases z with
    | true =>
      obtain ⟨z, e1, q2⟩ := post.val R1 x1 q1 rdB
      cases e1
      exact q2
    | false => exact ⟨O, e, st1, w1, rfl, R1, q1.rebase x1⟩
  | _ => exact (show False from q1).elim
theorem jt_not (ha : JT X B Wx a f) : JT X B Wx (.UnaryOp .Not a pos) (bNot f) := by
  refine pt_imp (pt_not ha) ?_
  rintro s H Q ⟨O, e, st, w, rfl, R, q⟩
  refine ⟨O, e, st, w, rfl, R, (post.bind (k1 := .sh) q).mono ?_⟩
  rintro v H1 ⟨d1, st1, w1, rfl, R1, x1, rr1, q1⟩
  cases d1 with
  | bl z =>
    refine ⟨z, rr1.shB, ?_⟩
    obtain ⟨z', e1, q2⟩ := post.val R1 x1 q1 rdB
    cases e1
    exact q2
  | _ => exact (show False from q1).elim
theorem je_if (hc : JT X B Wx c h) (ha : JE X B k Wx a f) (hb : JE X B k Wx b g) : JE X B k Wx (.IfExp c a b pos) (bIf h f g) := by
  refine pe_imp (pe_ifExp hc ha hb) ?_
  rintro s H Q ⟨O, e, st, w, rfl, R, q⟩
  refine ⟨O, e, st, w, rfl, R, (post.bind (k1 := .sh) q).mono ?_⟩
  rintro v H1 ⟨d1, st1, w1, rfl, R1, x1, rr1, q1⟩
  cases d1 with
  | bl z =>
    refine ⟨z, rr1.shB, ?_⟩
    cases z with
    | true => exact ⟨O, e, st1, w1, rfl, R1, q1.rebase x1⟩
    | false => exact ⟨O, e, st1, w1, rfl, R1, q1.rebase x1⟩
  | _ => exact (show False from q1).elim
end

/-! ### arguments -/
inductive RsL where
  | ok (ds : List D) (st : Sto) | err (c : Str) (a : Option (Str × D)) (st : Sto) | bad
def Rs.bindL (r : Rs) (k : D → Sto → RsL) : RsL :=
  match r with
  | .ok d st => k d st
  | .err c a st => .err c a st
  | .bad => .bad
def RsL.bindL (r : RsL) (k : List D → Sto → RsL) : RsL :=
  match r with
  | .ok d st => k d st
  | .err c a st => .err c a st
  | .bad => .bad
def RsL.bind (r : RsL) (k : List D → Sto → Rs) : Rs :=
  match r with
  | .ok d st => k d st
  | .err c a st => .err c a st
  | .bad => .bad
def evs : List Ev → Env → Sto → RsL
  | [], _, st => .ok [] st
  | f :: fs, r, st => (f r st).bindL fun d st1 => (evs fs r st1).bindL fun ds st2 => .ok (d :: ds) st2
theorem evs_len : ∀ {fs : List Ev} {r : Env} {st : Sto} {ds : List D} {st' : Sto}, evs fs r st = .ok ds st' → ds.length = fs.length
  | [], _, _, _, _, h => by
    unfold evs at h; cases h; rfl
  | f :: fs, r, st, ds, st', h => by
    unfold evs at h
    cases e : f r st with
    | ok d st1 =>
      rw [e] at h
      unfold Rs.bindL at h
      simp only at h
      cases e2 : evs fs r st1 with
      | ok ds2 st2 =>
        rw [e2] at h
        unfold RsL.bindL at h
        simp only at h
        cases h
        simp [evs_len e2]
      | err _ _ _ => rw [e2] at h; cases h
      | bad => rw [e2] at h; cases h
    | err _ _ _ => rw [e] at h; cases h
    | bad => rw [e] at h; cases h
def RRs (G : Cfg) (k : Kd) (O : Nat → Option Addr) (w : Wd) : List D → List V → Prop
  | [], vs => vs = []
  | d :: ds, vs => ∃ v r, vs = v :: r ∧ RR G k O w w d v ∧ RRs G k O w ds r
theorem RRs.sh {G : Cfg} {O : Nat → Option Addr} {w : Wd} : ∀ {ds : List D} {vs : List V}, RRs G .sh O w ds vs → RDs G w ds vs
  | [], vs, h => by unfold RDs; exact h
  | d :: ds, vs, h => by
    obtain ⟨v, r, e, h1, h2⟩ := h
    unfold RDs
    exact ⟨v, r, e, h1, RRs.sh h2⟩
def postL (G : Cfg) (B : Bs) (k : Kd) (Wx : WX) (O : Nat → Option Addr) (r : Env) (s : L2.St) (w0 : Wd) (x : RsL) (Q : List V → Hp → Prop) : Prop :=
  match x with
  | .ok ds st' => ∀ w' vs, Rel G B O r st' s w' → Ext w0 w' → RRs G k O w' ds vs → Q vs w'.H
  | .err c a st' => ∀ w' cls dd, Rel G B O r st' s w' → Ext w0 w' → RX G w' c a cls dd → Wx cls dd s w'.H
  | .bad => False
def tA (G : Cfg) (B : Bs) (k : Kd) (Wx : WX) (fs : List Ev) : TA := fun s H Q => ∃ O r st w, w.H = H ∧ Rel G B O r st s w ∧ postL G B k Wx O r s w (evs fs r st) Q
def JA (X : Cx) (B : Bs) (k : Kd) (Wx : WX) (es : List Expr) (fs : List Ev) : Prop := PA X es (tA (cg X) B k Wx fs)
theorem pa_imp {X : Cx} {es : List Expr} {t t' : TA} (h : PA X es t) (q : ∀ s H Q, t' s H Q → t s H Q) : PA X es t' := ⟨fun pos pins s σ H Q I h' => h.run pos pins s σ H Q I (q σ H Q h')⟩
theorem postL.bind {G : Cfg} {B : Bs} {k k1 : Kd} {Wx : WX} {O : Nat → Option Addr} {r : Env} {s : L2.St} {w0 : Wd} {x : RsL} {g : List D → Sto → Rs} {Q : VK} (h : post G B k Wx O r s w0 (x.bind g) Q) :
    postL G B k1 Wx O r s w0 x (fun vs H1 => ∃ ds st1 w1, w1.H = H1 ∧ Rel G B O r st1 s w1 ∧ Ext w0 w1 ∧ RRs G k1 O w1 ds vs ∧ x = .ok ds st1 ∧ post G B k Wx O r s w0 (g ds st1) Q) := by
  match x, h with
  | .ok d st', h => exact fun w' v q e1 r1 => ⟨d, st', w', rfl, q, e1, r1, rfl, h⟩
  | .err c a st', h => exact h
  | .bad, h => exact h.elim
section
variable {X : Cx} {B : Bs} {k : Kd} {Wx : WX} {a b c : Expr} {es : List Expr} {fs : List Ev} {f g h : Ev} {pos : Pos}
theorem ja_nil : JA X B k Wx [] [] := by
  refine pa_imp pa_nil ?_
  rintro s H Q ⟨O, r, st, w, rfl, R, q⟩
  exact q w [] R (Ext.refl w) rfl
/-- not for new things: they'd be given away -/
theorem ja_cons (hk : k ≠ .fr) (ha : JE X B k Wx a f) (hs : JA X B k Wx es fs) (hst : starEach (a :: es) X.env = (false, eval a X.env) :: starEach es X.env := by rfl) : JA X B k Wx (a :: es) (f :: fs) := by
  refine pa_imp (pa_cons ha hs hst) ?_
  rintro s H Q ⟨O, r, st, w, rfl, R, q⟩
  have re : ∀ {w1 w2 w3 : Wd} {d : D} {v : V}, RR (cg X) k O w1 w3 d v → RR (cg X) k O w2 w3 d v := fun {w1 w2 w3 d v} h => by
    match k, hk, h with
    | .sh, _, h => exact h
    | .bo, _, h => exact h
  refine ⟨O, r, st, w, rfl, R, ?_⟩
  unfold evs at q
  cases e : f r st with
  | ok d st1 =>
    rw [e] at q
    intro w1 v R1 x1 rr1
    refine ⟨O, r, st1, w1, rfl, R1, ?_⟩
    unfold Rs.bindL at q
    simp only at q
    cases e2 : evs fs r st1 with
    | ok ds st2 =>
      rw [e2] at q
      exact fun w2 vs R2 x2 rr2 => q w2 (v :: vs) R2 (x1.trans x2) ⟨v, vs, rfl, re (rr1.ext R1.wf x2), rr2⟩
    | err c a st2 =>
      rw [e2] at q
      exact fun w2 cls dd R2 x2 rx => q w2 cls dd R2 (x1.trans x2) rx
    | bad =>
      rw [e2] at q
      exact q.elim
  | err c a st1 =>
    rw [e] at q
    exact q
  | bad =>
    rw [e] at q
    exact q.elim
theorem ja_sh (ha : JE X B .sh Wx a f) (hs : JA X B .sh Wx es fs) (hst : starEach (a :: es) X.env = (false, eval a X.env) :: starEach es X.env := by rfl) : JA X B .sh Wx (a :: es) (f :: fs) := ja_cons (by intro z; cases z) ha hs hst
theorem ja_bo (ha : JE X B .bo Wx a f) (hs : JA X B .bo Wx es fs) (hst : starEach (a :: es) X.env = (false, eval a X.env) :: starEach es X.env := by rfl) : JA X B .bo Wx (a :: es) (f :: fs) := ja_cons (by intro z; cases z) ha hs hst

/-! ### displays -/
def bTup (fs : List Ev) : Ev := fun r st => (evs fs r st).bind fun ds st1 => .ok (.tup ds) st1
def bLst (fs : List Ev) : Ev := fun r st => (evs fs r st).bind fun ds st1 => .ok (.lst ds) st1
theorem je_tup {x1} (h : JA X B .sh Wx es fs) (hl : fs.length ≤ LIM := by exact Nat.le_of_ble_eq_true rfl) : JE X B .sh Wx (.Tuple es x1 pos) (bTup fs) := by
  refine pe_imp (pe_tup h) ?_
  rintro s H Q ⟨O, r, st, w, rfl, R, q⟩
  refine ⟨O, r, st, w, rfl, R, ?_⟩
  have q' := postL.bind (k1 := .sh) q
  cases e : evs fs r st with
  | ok ds st1 =>
    rw [e] at q'
    intro w1 vs R1 x1 rr1
    obtain ⟨ds', st', w', e1, R', x', rr', e2, q2⟩ := q' w1 vs R1 x1 rr1
    cases e2
    have lm := LIM_le
    have el := evs_len e
    have rl := (rr1.sh).length
    refine ⟨by omega, fun p hp => post.new R1 x1 q2 hp fun w2 i k => rdT i (RDs.wk k _ _ rr1.sh)⟩
  | err c a st1 => rw [e] at q'; exact q'
  | bad => rw [e] at q'; exact q'.elim
theorem je_lst (h : JA X B .sh Wx es fs) (hl : fs.length ≤ LIM := by exact Nat.le_of_ble_eq_true rfl) : JE X B .fr Wx (.List es pos) (bLst fs) := by
  refine pe_imp (pe_lst h) ?_
  rintro s H Q ⟨O, r, st, w, rfl, R, q⟩
  refine ⟨O, r, st, w, rfl, R, ?_⟩
  have q' := postL.bind (k1 := .sh) q
  cases e : evs fs r st with
  | ok ds st1 =>
    rw [e] at q'
    intro w1 vs R1 x1 rr1
    obtain ⟨ds', st', w', e1, R', x', rr', e2, q2⟩ := q' w1 vs R1 x1 rr1
    cases e2
    have lm := LIM_le
    have el := evs_len e
    have rl := (rr1.sh).length
    refine ⟨by omega, fun p hp => post.own R1 x1 q2 hp fun w2 i k => ⟨_, i, RDs.wk k _ _ rr1.sh⟩⟩
  | err c a st1 => rw [e] at q'; exact q'
  | bad => rw [e] at q'; exact q'.elim

/-! ### subscripts, slices -/
theorem atI_rds {G : Cfg} {w : Wd} {ds : List D} {vs : List V} {i : Int} {d : D} (h : RDs G w ds vs) (e : atI ds i = some d) : ∃ v, atI vs i = some v ∧ RD G w d v := by
  unfold atI at *
  rw [← h.length]
  cases z : ixN ds.length i with
  | none => rw [z] at e; cases e
  | some j =>
    rw [z] at e
    exact h.get e
def opIx : D → D → Sto → Rs
  | .lst ds, .int i, st => match atI ds i with | some d => .ok d st | none => .bad
  | .tup ds, .int i, st => match atI ds i with | some d => .ok d st | none => .bad
  | .str x, .int i, st => if x.length ≤ LIM then match atI x.cps.toList i with | some c => .ok (.str ⟨#[c]⟩) st | none => .bad else .bad
  | .ref n, .int i, st => match st[n]? with
    | some (.lst ds) => (match atI ds i with | some d => .ok d st | none => .bad)
    | _ => .bad
  | _, _, _ => .bad
theorem RQ.refd {G : Cfg} {w : Wd} {n : Nat} {v : V} (h : RQ G w (.ref n) v) : RD G w (.ref n) v := by
  rcases h with h | ⟨a, rfl, c⟩
  · exact h
  · exact (show False from c).elim
theorem RR.refd {G : Cfg} {O : Nat → Option Addr} {w0 w : Wd} {n : Nat} {v : V} (h : RR G .bo O w0 w (.ref n) v) : RD G w (.ref n) v := RQ.refd  h.q
theorem RSt.ref {G : Cfg} {w : Wd} {st : Sto} {n : Nat} {so : SO} {v : V} (S : RSt G w st) (h : RD G w (.ref n) v) (e : st[n]? = some so) : ∃ al, v = .ref al ∧ w.u[n]? = some al ∧ RSO G w al so := by
  unfold RD at h
  obtain ⟨al, rfl, ea⟩ := h
  exact ⟨al, rfl, ea, S.at_ n so al e ea⟩
theorem sem_ix : SemOp X B .sh Wx opIx (rIx X.K) := by
  intro O e s w0 w a b x y st Q R xt ra rb q
  have lm := LIM_le
  cases a with
  | lst ds =>
    cases b with
    | int i =>
      cases z : atI ds i with
      | none => simp only [opIx, z] at q; exact q.elim
      | some d =>
        simp only [opIx, z] at q
        obtain ⟨p, vs, rfl, t, r⟩ := ra.lst
        obtain ⟨v, e1, e2⟩ := atI_rds r z
        exact .inl ⟨p, vs, i, v, rfl, rb.int, .of t, e1, post.val R xt q e2⟩
    | _ => exact (show False from q).elim
  | tup ds =>
    cases b with
    | int i =>
      cases z : atI ds i with
      | none => simp only [opIx, z] at q; exact q.elim
      | some d =>
        simp only [opIx, z] at q
        obtain ⟨p, vs, rfl, t, r⟩ := ra.tup
        obtain ⟨v, e1, e2⟩ := atI_rds r z
        exact .inr (.inl ⟨p, vs, i, v, rfl, rb.int, t, e1, post.val R xt q e2⟩)
    | _ => exact (show False from q).elim
  | str u =>
    cases b with
    | int i =>
      by_cases hz : u.length ≤ LIM
      · cases z : atI u.cps.toList i with
        | none => simp only [opIx, if_pos hz, z] at q; exact q.elim
        | some c =>
          simp only [opIx, if_pos hz, z] at q
          exact .inr (.inr ⟨u, i, c, ra.str, rb.int, by omega, z, post.val R xt q rdS⟩)
      · simp only [opIx, if_neg hz] at q
        exact q.elim
    | _ => exact (show False from q).elim
  | ref n =>
    cases b with
    | int i =>
      cases zs : st[n]? with
      | none => simp only [opIx, zs] at q; exact q.elim
      | some so =>
        cases so with
        | lst ds =>
          cases z : atI ds i with
          | none => simp only [opIx, zs, z] at q; exact q.elim
          | some d =>
            simp only [opIx, zs, z] at q
            obtain ⟨al, rfl, ea, vs, hl, r⟩ := R.sto.ref ra.refd zs
            obtain ⟨v, e1, e2⟩ := atI_rds r z
            exact .inl ⟨al, vs, i, v, rfl, rb.int, .of hl, e1, post.val R xt q e2⟩
        | _ => simp only [opIx, zs] at q; exact q.elim
    | _ => exact (show False from q).elim
  | _ => exact (show False from q).elim
theorem je_ix (ha : JE X B .bo Wx a f) (hb : JE X B .bo Wx b g) (hs : PlainIx b := by intro _ _; rfl) : JE X B .sh Wx (.Subscript a b pos) (bBin opIx f g) :=
  pe_imp (pe_ix ix_seq ha hb hs) fun _ _ _ q => tE_bin sem_ix q

/-- xs[lo:hi] -/
def cut {α : Type} (xs : List α) (lo hi : Option Int) : List α := (xs.drop (HT.sIx xs.length 0 lo)).take (HT.sIx xs.length xs.length hi - HT.sIx xs.length 0 lo)
theorem cut_rds {G : Cfg} {w : Wd} {ds : List D} {vs : List V} {lo hi : Option Int} (h : RDs G w ds vs) : RDs G w (cut ds lo hi) (cutV vs lo hi) := by
  unfold cut cutV
  rw [← h.length]
  exact (h.drop _).take _
end
end Sm

/-! Sim5: slices; what built-ins are called with; the defs' calls. -/
namespace Sm
open PySem L2
def evO : Option Ev → Env → Sto → (Option Int → Sto → Rs) → Rs
  | none, _, st, k => k none st
  | some f, r, st, k => (f r st).bind fun d st1 => match d with | .int i => k (some i) st1 | _ => .bad
def tO (G : Cfg) (B : Bs) (Wx : WX) : Option Ev → L2.TO
  | none => tNoPart
  | some f => tPart (tE G B .bo Wx f)
def JO (X : Cx) (B : Bs) (Wx : WX) (e : Option Expr) (f : Option Ev) : Prop := PO X e (tO (cg X) B Wx f)
def bSl (F : D → Option Int → Option Int → Sto → Rs) (f : Ev) (lo hi : Option Ev) : Ev := fun r st => (f r st).bind fun a st1 => evO lo r st1 fun l st2 => evO hi r st2 fun u st3 => F a l u st3
def SemSl (X : Cx) (B : Bs) (k : Kd) (Wx : WX) (F : D → Option Int → Option Int → Sto → Rs) (r : V → Option Int → Option Int → Hp → VK → Prop) : Prop :=
  ∀ (O : Nat → Option Addr) (e : Env) (s : L2.St) (w0 w : Wd) (a : D) (x : V) (lo hi : Option Int) (st : Sto) (Q : VK), Rel (cg X) B O e st s w → Ext w0 w → RQ (cg X) w a x →
    post (cg X) B k Wx O e s w0 (F a lo hi st) Q → r x lo hi w.H Q
section
variable {X : Cx} {B : Bs} {k : Kd} {Wx : WX} {a b c : Expr} {es : List Expr} {fs : List Ev} {f g h : Ev} {pos : Pos}
theorem jo_none : JO X B Wx none none := po_none
theorem jo_some (h : JE X B .bo Wx a f) : JO X B Wx (some a) (some f) := po_some h
theorem evO_bind {O : Nat → Option Addr} {e : Env} {s : L2.St} {w : Wd} {st : Sto} {Q : VK} {lo : Option Ev} {kk : Option Int → Sto → Rs} (R : Rel (cg X) B O e st s w) (q : post (cg X) B k Wx O e s w (evO lo e st kk) Q) :
    tO (cg X) B Wx lo s w.H (fun o H1 => ∃ st1 w1, w1.H = H1 ∧ Rel (cg X) B O e st1 s w1 ∧ Ext w w1 ∧ post (cg X) B k Wx O e s w (kk o st1) Q) := by
  cases lo with
  | none => exact ⟨st, w, rfl, R, Ext.refl w, q⟩
  | some f =>
    refine ⟨O, e, st, w, rfl, R, (post.bind q).mono ?_⟩
    rintro v H1 ⟨d1, st1, w1, rfl, R1, x1, rr1, q1⟩
    cases d1 with
    | int i => exact ⟨i, rr1.int, st1, w1, rfl, R1, x1, q1⟩
    | _ => exact (show False from q1).elim
theorem to_mono {G : Cfg} {lo : Option Ev} {s : L2.St} {H : Hp} {Q Q' : Option Int → Hp → Prop} (h : tO G B Wx lo s H Q) (q : ∀ o H, Q o H → Q' o H) : tO G B Wx lo s H Q' := by
  cases lo with
  | none => exact q _ _ h
  | some f =>
    obtain ⟨O, e, st, w, e1, R, p⟩ := h
    exact ⟨O, e, st, w, e1, R, p.mono fun v H ⟨i, e2, q2⟩ => ⟨i, e2, q _ _ q2⟩⟩
theorem je_sl {F : D → Option Int → Option Int → Sto → Rs} {r : V → Option Int → Option Int → Hp → VK → Prop} {lo hi : Option Expr} {fl fh : Option Ev} {p2 : Pos} (hr : SlR X r) (sem : SemSl X B k Wx F r) (he : JE X B .bo Wx a f) (hl : JO X B Wx lo fl) (hu : JO X B Wx hi fh) :
    JE X B k Wx (.Subscript a (.Slice lo hi none p2) pos) (bSl F f fl fh) := by
  refine pe_imp (pe_slice hr he hl hu) ?_
  rintro s H Q ⟨O, e, st, w, rfl, R, q⟩
  refine ⟨O, e, st, w, rfl, R, (post.bind q).mono ?_⟩
  rintro v H1 ⟨d1, st1, w1, rfl, R1, x1, rr1, q1⟩
  refine to_mono (evO_bind R1 (q1.rebase x1)) ?_
  rintro l H2 ⟨st2, w2, rfl, R2, x2, q2⟩
  refine to_mono (evO_bind R2 (q2.rebase x2)) ?_
  rintro u H3 ⟨st3, w3, rfl, R3, x3, q3⟩
  exact sem O e s w2 w3 d1 v l u st3 Q R3 x3 (rr1.ext R1.wf (x2.trans x3)).q q3
def opSlL : D → Option Int → Option Int → Sto → Rs
  | .lst ds, lo, hi, st => .ok (.lst (cut ds lo hi)) st
  | .frg ds, lo, hi, st => .ok (.lst (cut ds lo hi)) st
  | _, _, _, _ => .bad
theorem RQ.frg {G : Cfg} {w : Wd} {ds : List D} {v : V} (h : RQ G w (.frg ds) v) : ∃ a vs, v = .ref a ∧ SqL G.K w.H a vs ∧ RDs G w ds vs := by
  rcases h with h | ⟨a, rfl, c⟩
  · unfold RD at h
    obtain ⟨a, vs, rfl, t, r⟩ := h
    exact ⟨a, vs, rfl, t.sq, r⟩
  · exact (show False from c).elim
theorem RR.frg {G : Cfg} {O : Nat → Option Addr} {w0 w : Wd} {ds : List D} {v : V} (h : RR G .bo O w0 w (.frg ds) v) : ∃ a vs, v = .ref a ∧ SqL G.K w.H a vs ∧ RDs G w ds vs := RQ.frg  h.q
theorem sem_slL : SemSl X B .fr Wx opSlL (rSlL X.K) := by
  intro O e s w0 w a x lo hi st Q R xt ra q
  cases a with
  | lst ds =>
    obtain ⟨p, vs, rfl, t, r⟩ := ra.lst
    exact ⟨p, vs, rfl, .of t, fun p2 hp => post.own R xt q hp fun w' i k => ⟨_, i, cut_rds (RDs.wk k _ _ r)⟩⟩
  | frg ds =>
    obtain ⟨p, vs, rfl, t, r⟩ := ra.frg
    exact ⟨p, vs, rfl, t, fun p2 hp => post.own R xt q hp fun w' i k => ⟨_, i, cut_rds (RDs.wk k _ _ r)⟩⟩
  | _ => exact (show False from q).elim
/-- xs[lo:hi] of a list: a new one -/
theorem je_slL {lo hi : Option Expr} {fl fh : Option Ev} {p2 : Pos} (he : JE X B .bo Wx a f) (hl : JO X B Wx lo fl) (hu : JO X B Wx hi fh) : JE X B .fr Wx (.Subscript a (.Slice lo hi none p2) pos) (bSl opSlL f fl fh) := je_sl sl_list sem_slL he hl hu
def opSl : D → Option Int → Option Int → Sto → Rs
  | .lst ds, lo, hi, st => .ok (.lst (cut ds lo hi)) st
  | .frg ds, lo, hi, st => .ok (.lst (cut ds lo hi)) st
  | .tup ds, lo, hi, st => .ok (.tup (cut ds lo hi)) st
  | _, _, _, _ => .bad
theorem cut_whole {α : Type} {xs : List α} {lo hi : Option Int} (h : HT.sIx xs.length 0 lo = 0 ∧ HT.sIx xs.length xs.length hi = xs.length) : cut xs lo hi = xs := by
  unfold cut
  rw [h.1, h.2]
  simp
theorem sem_sl : SemSl X B .sh Wx opSl (fun x lo hi H Q => rSlL X.K x lo hi H Q ∨ rSlA X.K x lo hi H Q) := by
  intro O e s w0 w a x lo hi st Q R xt ra q
  cases a with
  | lst ds =>
    obtain ⟨p, vs, rfl, t, r⟩ := ra.lst
    exact .inl ⟨p, vs, rfl, .of t, fun p2 hp => post.new R xt q hp fun w' i k => rdL i (cut_rds (RDs.wk k _ _ r))⟩
  | frg ds =>
    obtain ⟨p, vs, rfl, t, r⟩ := ra.frg
    exact .inl ⟨p, vs, rfl, t, fun p2 hp => post.new R xt q hp fun w' i k => rdL i (cut_rds (RDs.wk k _ _ r))⟩
  | tup ds =>
    obtain ⟨p, vs, rfl, t, r⟩ := ra.tup
    refine .inr ⟨p, vs, rfl, t, fun z => ?_, fun _ p2 hp => post.new R xt q hp fun w' i k => rdT i (cut_rds (RDs.wk k _ _ r))⟩
    rw [← r.length] at z
    have q' : post (cg X) B .sh Wx O e s w0 (.ok (.tup (cut ds lo hi)) st) Q := q
    rw [cut_whole z] at q'
    refine post.val R xt q' ?_
    rcases ra with h | ⟨_, _, c⟩
    · exact h
    · exact (show False from c).elim
  | _ => exact (show False from q).elim
theorem je_slA {lo hi : Option Expr} {fl fh : Option Ev} {p2 : Pos} (he : JE X B .bo Wx a f) (hl : JO X B Wx lo fl) (hu : JO X B Wx hi fh) : JE X B .sh Wx (.Subscript a (.Slice lo hi none p2) pos) (bSl opSl f fl fh) := je_sl (sl_list.or sl_tupA) sem_sl he hl hu

/-! ### calls of defs -/
/-- what a def promises: what g says of its arguments and the store -/
structure RelF (G : Cfg) (st : Sto) (w : Wd) : Prop where
  wf : WF w
  sto : RSt G w st
def postF (G : Cfg) (fr : Bool) (w0 : Wd) (x : Rs) (Q : VK) (E : XK) : Prop :=
  match x with
  | .ok d st' => ∀ w' v, RelF G st' w' → Ext w0 w' → (if fr = true then RR G .fr (fun _ => none) w0 w' d v else RD G w' d v) → Q v w'.H
  | .err c a st' => ∀ w' cls dd, RelF G st' w' → Ext w0 w' → RX G w' c a cls dd → E cls dd w'.H
  | .bad => False
def spF (G : Cfg) (n : Nat) (fr : Bool) (g : Fn) : Sp := fun vs H Q E => vs.length = n ∧ ∃ w ds st, w.H = H ∧ RelF G st w ∧ RDs G w ds vs ∧ postF G fr w (g ds st) Q E
def kdF (fr : Bool) : Kd := if fr = true then .fr else .sh
def bCall (g : Fn) (fs : List Ev) : Ev := fun r st => (evs fs r st).bind g
theorem Rel.toF {G : Cfg} {O : Nat → Option Addr} {r : Env} {st : Sto} {s : L2.St} {w : Wd} (R : Rel G B O r st s w) : RelF G st w := ⟨R.wf, R.sto⟩
/-- behind a call: what was one's own is one's own still -/
theorem Rel.ofF {G : Cfg} {O : Nat → Option Addr} {r : Env} {st st' : Sto} {s : L2.St} {w w' : Wd} (R : Rel G B O r st s w) (F : RelF G st' w') (x : Ext w w') : Rel G B O r st' s w' := by
  have nu : ∀ i a, O i = some a → a ∉ w'.u := fun i a e z => by
    obtain ⟨q, e2, fr⟩ := x.mu
    rw [e2] at z
    rcases List.mem_append.mp z with z | z
    · exact (R.own i a e).2.1 z
    · exact R.wf.mh a (R.own i a e).1 (fr a z)
  exact ⟨F.wf, R.wb, R.base.trans x, R.ln, F.sto, fun i a e => ⟨x.mt a (R.own i a e).1, nu i a e, (R.own i a e).2.2⟩, R.inj, fun i => (R.env i).wk (x.wk R.wf) fun a e => x.hk a (R.wf.mh a (R.own i a e).1) (R.own i a e).2.1⟩
/-- what a call asks of the callee -/
theorem sp_of {n : Nat} {fr : Bool} {gF : Fn} {O : Nat → Option Addr} {e : Env} {s : L2.St} {w0 w : Wd} {st : Sto} {ds : List D} {vs : List V} {Q : VK} (R : Rel (cg X) B O e st s w) (xt : Ext w0 w) (r : RDs (cg X) w ds vs) (hn : vs.length = n)
    (q : post (cg X) B (kdF fr) Wx O e s w0 (gF ds st) Q) : spF (cg X) n fr gF vs w.H Q (fun cls dd H => Wx cls dd s H) := by
  refine ⟨hn, w, ds, st, rfl, R.toF, r, ?_⟩
  have q := q.rebase xt
  cases z : gF ds st with
  | ok d st' =>
    rw [z] at q
    intro w' v F x h
    refine q w' v (R.ofF F x) x ?_
    cases fr with
    | true =>
      have h : RR (cg X) .fr (fun _ => none) w w' d v := h
      exact h
    | false =>
      have h : RD (cg X) w' d v := h
      exact h
  | err c a st' =>
    rw [z] at q
    intro w' cls dd F x h
    exact q w' cls dd (R.ofF F x) x h
  | bad => rw [z] at q; exact q.elim
theorem tE_call {n : Nat} {fr : Bool} {gF : Fn} {s : L2.St} {H : Hp} {Q : VK} (hn : fs.length = n) (q : tE (cg X) B (kdF fr) Wx (bCall gF fs) s H Q) : tCallS (spF (cg X) n fr gF) (WE Wx) (tA (cg X) B .sh Wx fs) s H Q := by
  obtain ⟨O, r, st, w, rfl, R, q⟩ := q
  refine ⟨O, r, st, w, rfl, R, ?_⟩
  have q' := postL.bind (k1 := .sh) q
  cases e : evs fs r st with
  | ok ds st1 =>
    rw [e] at q'
    intro w1 vs R1 x1 rr1
    obtain ⟨ds', st', w', e1, R', x', rr', e2, q2⟩ := q' w1 vs R1 x1 rr1
    cases e2
    have el := evs_len e
    have rl := (rr1.sh).length
    exact sp_of R1 x1 rr1.sh (by omega) q2
  | err c a st1 => rw [e] at q'; exact q'
  | bad => rw [e] at q'; exact q'.elim
/-- a def's promise is kept -/
abbrev FJ (X : Cx) (j : Nat) (fA : Addr) (fd : FuncData) (ps : List Str) (n : Nat) (fr : Bool) (gF : Fn) : Prop := FnOk X.prog X.w X.K X.mg X.base (L2.CX X.prog X.w) j fA fd ps (spF (cg X) n fr gF)
theorem je_call {j n : Nat} {fr : Bool} {gF : Fn} {fA : Addr} {fd : FuncData} {ps : List Str} {x : Str} {p : Pos} (tk : Takes X Wx) (F : FnOk X.prog X.w X.K X.mg X.base (L2.CX X.prog X.w) j fA fd ps (spF (cg X) n fr gF)) (hr : Room j X.A) (hg : Gl X x) (hm : X.mg x = some (.ref fA)) (hk : PySem.W.keepIn X.K (.ref fA) = true)
    (hb : Binds X.K fd ps []) (ha : JA X B .sh Wx (a :: es) (f :: fs)) (hn : (f :: fs).length = n := by rfl) (hdb : (x == ("__debug__" : Str)) = false := by decide) (he : starEach (a :: es) X.env = (false, eval a X.env) :: starEach es X.env := by rfl) (hpl : (backTo pos (starEach es X.env)).any (·.1) = false := by rfl) :
    JE X B (kdF fr) Wx (.Call (.Name x p) (a :: es) [] pos) (bCall gF (f :: fs)) :=
  pe_imp (pe_callS F hr hg hm hk hb (fun s => passAt tk s) ha hdb he hpl) fun _ _ _ q => tE_call hn q
end
end Sm

/-! Sim6: statements: blocks, assignments, tests, loops. -/
namespace Sm
open PySem L2
def postS (G : Cfg) (B : Bs) (fr : Bool) (Wx : WX) (w0 : Wd) (x : Rt) (D : Ends) : Prop :=
  match x with
  | .nx r st => ∀ O s w, Rel G B O r st s w → Wk w0 w → D.nx s w.H
  | .bk r st => ∀ O s w, Rel G B O r st s w → Wk w0 w → D.bk s w.H
  | .ct r st => ∀ O s w, Rel G B O r st s w → Wk w0 w → D.ct s w.H
  | .rt d st => ∀ w v, RelF G st w → Ext B.toWd w → (if fr = true then RR G .fr (fun _ => none) B.toWd w d v else RD G w d v) → D.rt v w.H
  | .err c a r st => ∀ O s w cls dd, Rel G B O r st s w → RX G w c a cls dd → Wx cls dd s w.H
  | .bad => False
def tS (G : Cfg) (B : Bs) (fr : Bool) (Wx : WX) (f : Sv) : TS := fun D s H => ∃ O r st w, w.H = H ∧ Rel G B O r st s w ∧ postS G B fr Wx w (f r st) D
def JS (X : Cx) (B : Bs) (fr : Bool) (Wx : WX) (st : Stmt) (f : Sv) : Prop := PS X st (tS (cg X) B fr Wx f)
def JSs (X : Cx) (B : Bs) (fr : Bool) (Wx : WX) (st : List Stmt) (f : Sv) : Prop := PSs X st (tS (cg X) B fr Wx f)
theorem ps_imp {X : Cx} {st : Stmt} {t t' : TS} (h : PS X st t) (q : ∀ D s H, t' D s H → t D s H) : PS X st t' := ⟨fun pins s σ H D I h' => h.run pins s σ H D I (q D σ H h')⟩
theorem pss_imp {X : Cx} {st : List Stmt} {t t' : TS} (h : PSs X st t) (q : ∀ D s H, t' D s H → t D s H) : PSs X st t' := ⟨fun pins s σ H D I h' => h.run pins s σ H D I (q D σ H h')⟩
theorem postS.weak {G : Cfg} {B : Bs} {fr : Bool} {Wx : WX} {w0 w1 : Wd} {x : Rt} {D : Ends} (k : Wk w0 w1) (h : postS G B fr Wx w0 x D) : postS G B fr Wx w1 x D := by
  match x, h with
  | .nx r st, h => exact fun O s w R k' => h O s w R (k.trans k')
  | .bk r st, h => exact fun O s w R k' => h O s w R (k.trans k')
  | .ct r st, h => exact fun O s w R k' => h O s w R (k.trans k')
  | .rt d st, h => exact h
  | .err c a r st, h => exact h
  | .bad, h => exact h

/-! ### changes of one's own -/
section
variable {G : Cfg} {B : Bs} {O : Nat → Option Addr} {r : Env} {st : Sto} {s : L2.St} {w : Wd}
def setO (O : Nat → Option Addr) (i : Nat) (a : Option Addr) : Nat → Option Addr := fun j => if j = i then a else O j
/-- a slot gets a value -/
theorem Rel.put {i : Nat} {d : D} {v : V} (R : Rel G B O r st s w) (hi : i < B.L) (h : RD G w d v) : Rel G B (setO O i none) (r.set i (some (false, d))) st (s.set i (some v)) w := by
  refine ⟨R.wf, R.wb, R.base, by rw [List.length_set]; exact R.ln, R.sto, fun j a e => ?_, fun j k a e1 e2 => ?_, fun j => ?_⟩
  · unfold setO at e
    by_cases z : j = i
    · rw [if_pos z] at e; cases e
    · rw [if_neg z] at e; exact R.own j a e
  · unfold setO at e1 e2
    by_cases z : j = i
    · rw [if_pos z] at e1; cases e1
    · by_cases z' : k = i
      · rw [if_pos z'] at e2; cases e2
      · rw [if_neg z] at e1; rw [if_neg z'] at e2; exact R.inj j k a e1 e2
  · by_cases z : j = i
    · subst z
      rw [Env.set_same]
      exact ⟨if_pos rfl, v, by rw [List.getElem?_set_self (by rw [R.ln]; exact hi)], h⟩
    · rw [Env.set_ne z, List.getElem?_set_ne (Ne.symm z)]
      unfold setO
      rw [if_neg z]
      exact R.env j
/-- a slot gets a thing of its own -/
theorem Rel.putOwn {i : Nat} {d : D} {a : Addr} (R : Rel G B O r st s w) (hi : i < B.L) (hm : w.M a) (hu : a ∉ w.u) (hb : B.H a = none) (ho : ∀ j, O j ≠ some a) (h : RC G w a d) :
    Rel G B (setO O i (some a)) (r.set i (some (true, d))) st (s.set i (some (.ref a))) w := by
  refine ⟨R.wf, R.wb, R.base, by rw [List.length_set]; exact R.ln, R.sto, fun j b e => ?_, fun j k b e1 e2 => ?_, fun j => ?_⟩
  · unfold setO at e
    by_cases z : j = i
    · rw [if_pos z] at e; cases e; exact ⟨hm, hu, hb⟩
    · rw [if_neg z] at e; exact R.own j b e
  · unfold setO at e1 e2
    by_cases z : j = i
    · by_cases z' : k = i
      · rw [z, z']
      · rw [if_pos z] at e1; rw [if_neg z'] at e2; cases e1; exact absurd e2 (ho k)
    · by_cases z' : k = i
      · rw [if_neg z] at e1; rw [if_pos z'] at e2; cases e2; exact absurd e1 (ho j)
      · rw [if_neg z] at e1; rw [if_neg z'] at e2; exact R.inj j k b e1 e2
  · by_cases z : j = i
    · subst z
      rw [Env.set_same]
      exact ⟨a, if_pos rfl, by rw [List.getElem?_set_self (by rw [R.ln]; exact hi)], h⟩
    · rw [Env.set_ne z, List.getElem?_set_ne (Ne.symm z)]
      unfold setO
      rw [if_neg z]
      exact R.env j
/-- a slot is forgotten -/
theorem Rel.drop {i : Nat} (R : Rel G B O r st s w) : Rel G B (setO O i none) (r.set i none) st s w := by
  refine ⟨R.wf, R.wb, R.base, R.ln, R.sto, fun j a e => ?_, fun j k a e1 e2 => ?_, fun j => ?_⟩
  · unfold setO at e
    by_cases z : j = i
    · rw [if_pos z] at e; cases e
    · rw [if_neg z] at e; exact R.own j a e
  · unfold setO at e1 e2
    by_cases z : j = i
    · rw [if_pos z] at e1; cases e1
    · by_cases z' : k = i
      · rw [if_pos z'] at e2; cases e2
      · rw [if_neg z] at e1; rw [if_neg z'] at e2; exact R.inj j k a e1 e2
  · by_cases z : j = i
    · subst z
      rw [Env.set_same]
      exact if_pos rfl
    · rw [Env.set_ne z]
      unfold setO
      rw [if_neg z]
      exact R.env j
theorem RR.fresh {w0 : Wd} {d : D} {v : V} (R0 : Rel G B O r st s w0) (h : RR G .fr O w0 w d v) : ∃ a, v = .ref a ∧ w.M a ∧ a ∉ w.u ∧ B.H a = none ∧ (∀ j, O j ≠ some a) ∧ RC G w a d := by
  obtain ⟨a, e, n, m, u, c⟩ := h
  refine ⟨a, e, m, u, ?_, fun i z => R0.wf.mh a (R0.own i a z).1 n, c⟩
  cases z : B.H a with
  | none => rfl
  | some o => exact absurd n (R0.base.hh a (by rw [z]; simp))
end

/-! ### blocks -/
def sSkip : Sv := fun r st => .nx r st
def sSq (f g : Sv) : Sv := fun r st => match f r st with
  | .nx r1 st1 => g r1 st1
  | x => x
def ofRs (x : Rs) (r : Env) (k : D → Sto → Rt) : Rt := match x with
  | .ok d st => k d st
  | .err c a st => .err c a r st
  | .bad => .bad
def sEx (f : Ev) : Sv := fun r st => ofRs (f r st) r fun _ st1 => .nx r st1
def sSet (i : Nat) (f : Ev) : Sv := fun r st => ofRs (f r st) r fun d st1 => .nx (r.set i (some (false, d))) st1
def sOwn (i : Nat) (f : Ev) : Sv := fun r st => ofRs (f r st) r fun d st1 => .nx (r.set i (some (true, d))) st1
def sRet (f : Ev) : Sv := fun r st => ofRs (f r st) r fun d st1 => .rt d st1
def sRetN : Sv := fun _ st => .rt .non st
def sRetOwn (i : Nat) : Sv := fun r st => match r i with | some (true, d) => .rt d st | _ => .bad
def sIf (c : Ev) (f g : Sv) : Sv := fun r st => ofRs (c r st) r fun d st1 => match d with
  | .bl true => f r st1
  | .bl false => g r st1
  | _ => .bad
/-- an own thing is given away -/
def sFix (i : Nat) (f : Sv) : Sv := fun r st => match r i with
  | some (true, d) => f (r.set i (some (false, d))) st
  | some (false, _) => f r st
  | none => .bad
section
variable {X : Cx} {B : Bs} {k : Kd} {fr : Bool} {Wx : WX} {a b c : Expr} {es : List Expr} {fs : List Ev} {f g h : Ev} {pos : Pos} {st1 st2 : Stmt} {rest : List Stmt} {F F' : Sv}
/-- from an expression to a statement -/
theorem tS_of {Dn : Ends} {s : L2.St} {H : Hp} {K : Env → D → Sto → Rt} (q : tS (cg X) B fr Wx (fun r st => ofRs (f r st) r (K r)) Dn s H) :
    tE (cg X) B k Wx f s H (fun v H1 => ∃ O r w0 d st1 w1, w1.H = H1 ∧ Rel (cg X) B O r st1 s w1 ∧ Ext w0 w1 ∧ (∃ st0, Rel (cg X) B O r st0 s w0) ∧ RR (cg X) k O w0 w1 d v ∧ postS (cg X) B fr Wx w0 (K r d st1) Dn) := by
  obtain ⟨O, r, st, w, rfl, R, q⟩ := q
  refine ⟨O, r, st, w, rfl, R, ?_⟩
  have q : postS (cg X) B fr Wx w (ofRs (f r st) r (K r)) Dn := q
  unfold ofRs at q
  cases z : f r st with
  | ok d st' =>
    rw [z] at q
    exact fun w' v R' x rr => ⟨O, r, w, d, st', w', rfl, R', x, ⟨st, R⟩, rr, q⟩
  | err c a st' =>
    rw [z] at q
    exact fun w' cls dd R' x rx => q O s w' cls dd R' rx
  | bad => rw [z] at q; exact q.elim
theorem jss_nil : JSs X B fr Wx [] sSkip := by
  refine pss_imp pss_nil ?_
  rintro D s H ⟨O, r, st, w, rfl, R, q⟩
  exact q O s w R (Wk.refl w)
theorem jss_cons (h1 : JS X B fr Wx st1 F) (h2 : JSs X B fr Wx rest F') : JSs X B fr Wx (st1 :: rest) (sSq F F') := by
  refine pss_imp (pss_cons h1 h2) ?_
  rintro D s H ⟨O, r, st, w, rfl, R, q⟩
  refine ⟨O, r, st, w, rfl, R, ?_⟩
  unfold sSq at q
  cases z : F r st with
  | nx r1 st1 =>
    rw [z] at q
    exact fun O' s' w' R' k' => ⟨O', r1, st1, w', rfl, R', postS.weak k' q⟩
  | rt d st1 => rw [z] at q; exact q
  | bk r1 st1 => rw [z] at q; exact q
  | ct r1 st1 => rw [z] at q; exact q
  | err c a r1 st1 => rw [z] at q; exact q
  | bad => rw [z] at q; exact q.elim
theorem jss_one (h1 : JS X B fr Wx st1 F) : JSs X B fr Wx [st1] F := pss_one h1
theorem js_pass : JS X B fr Wx (.Pass pos) sSkip := by
  refine ps_imp ps_pass ?_
  rintro D s H ⟨O, r, st, w, rfl, R, q⟩
  exact q O s w R (Wk.refl w)
theorem js_break : JS X B fr Wx (.Break pos) (fun r st => .bk r st) := by
  refine ps_imp ps_break ?_
  rintro D s H ⟨O, r, st, w, rfl, R, q⟩
  exact q O s w R (Wk.refl w)
theorem js_continue : JS X B fr Wx (.Continue pos) (fun r st => .ct r st) := by
  refine ps_imp ps_continue ?_
  rintro D s H ⟨O, r, st, w, rfl, R, q⟩
  exact q O s w R (Wk.refl w)
theorem js_ex (he : JE X B k Wx a f) (hs : swapsWith a none pos.line X.env = pure false := by rfl) : JS X B fr Wx (.Expr a pos) (sEx f) := by
  refine ps_imp (ps_expr he hs) ?_
  rintro D s H q
  obtain ⟨O, r, st, w, e, R, q⟩ := tS_of (k := k) q
  refine ⟨O, r, st, w, e, R, q.mono ?_⟩
  rintro v H1 ⟨O1, r1, w0, d, st1, w1, rfl, R1, x1, ⟨_, R0⟩, _, q1⟩
  exact q1 O1 s w1 R1 (x1.wk R0.wf)
theorem js_set {i : Nat} {x : Str} {pos' : Pos} (hN : X.N.Nodup) (hi : X.N[i]? = some x) (hx : Loc X.env.scope x) (hL : B.L = X.N.length) (he : JE X B .sh Wx a f) (hs : swapsWith a (some (.Name x pos')) pos.line X.env = pure false := by rfl)
    (hf : X.fn x = true ∨ X.env.scope.names.lookup x = some .local := by first | exact .inl rfl | exact .inr rfl | assumption) : JS X B fr Wx (.Assign [.Name x pos'] a pos) (sSet i f) := by
  refine ps_imp (ps_set hN hi hx he hs hf) ?_
  rintro D s H q
  obtain ⟨O, r, st, w, e, R, q⟩ := tS_of (k := .sh) q
  refine ⟨O, r, st, w, e, R, q.mono ?_⟩
  rintro v H1 ⟨O1, r1, w0, d, st1, w1, rfl, R1, x1, ⟨_, R0⟩, rr, q1⟩
  have hl : i < B.L := by rw [hL]; exact (List.getElem?_eq_some_iff.mp hi).1
  exact q1 _ _ w1 (R1.put hl rr) (x1.wk R0.wf)
theorem js_own {i : Nat} {x : Str} {pos' : Pos} (hN : X.N.Nodup) (hi : X.N[i]? = some x) (hx : Loc X.env.scope x) (hL : B.L = X.N.length) (he : JE X B .fr Wx a f) (hs : swapsWith a (some (.Name x pos')) pos.line X.env = pure false := by rfl)
    (hf : X.fn x = true ∨ X.env.scope.names.lookup x = some .local := by first | exact .inl rfl | exact .inr rfl | assumption) : JS X B fr Wx (.Assign [.Name x pos'] a pos) (sOwn i f) := by
  refine ps_imp (ps_set hN hi hx he hs hf) ?_
  rintro D s H q
  obtain ⟨O, r, st, w, e, R, q⟩ := tS_of (k := .fr) q
  refine ⟨O, r, st, w, e, R, q.mono ?_⟩
  rintro v H1 ⟨O1, r1, w0, d, st1, w1, rfl, R1, x1, ⟨_, R0⟩, rr, q1⟩
  have hl : i < B.L := by rw [hL]; exact (List.getElem?_eq_some_iff.mp hi).1
  obtain ⟨a, rfl, m, u, hb, ho, c⟩ := RR.fresh R0 rr
  exact q1 _ _ w1 (R1.putOwn hl m u hb ho c) (x1.wk R0.wf)
theorem js_ret (he : JE X B (kdF fr) Wx a f) : JS X B fr Wx (.Return (some a) pos) (sRet f) := by
  refine ps_imp (ps_ret he) ?_
  rintro D s H q
  obtain ⟨O, r, st, w, e, R, q⟩ := tS_of (k := kdF fr) q
  refine ⟨O, r, st, w, e, R, q.mono ?_⟩
  rintro v H1 ⟨O1, r1, w0, d, st1, w1, rfl, R1, x1, ⟨_, R0⟩, rr, q1⟩
  refine q1 w1 v R1.toF R1.base ?_
  cases fr with
  | true =>
    have rr : RR (cg X) .fr O1 w0 w1 d v := rr
    rw [if_pos rfl]
    exact RR.rebase (O := fun _ => none) R0.base rr
  | false => rw [if_neg (by simp)]; exact rr
theorem js_retN : JS X B false Wx (.Return none pos) sRetN := by
  refine ps_imp ps_retN ?_
  rintro D s H ⟨O, r, st, w, rfl, R, q⟩
  exact q w .non R.toF R.base (by rw [if_neg (by simp)]; exact rdN)
theorem js_retOwn {i : Nat} {x : Str} {p : Pos} (hN : X.N[i]? = some x) (hv : Vis X.env.scope x) (hd : (x == ("__debug__" : Str)) = false := by decide) (hcd : (x == ("__classdict__" : Str)) = false := by decide) : JS X B true Wx (.Return (some (.Name x p)) pos) (sRetOwn i) := by
  refine ps_imp (ps_ret (pe_var (pos := p) hN hv hd hcd)) ?_
  rintro D s H ⟨O, r, st, w, rfl, R, q⟩
  have e := R.env i
  unfold sRetOwn at q
  match z : r i, q with
  | none, q => exact q.elim
  | some (false, d), q => exact q.elim
  | some (true, d), q =>
    rw [z] at e
    obtain ⟨a, o, e1, e2⟩ := e
    refine ⟨_, e1, q w _ R.toF R.base ?_⟩
    rw [if_pos rfl]
    exact ⟨a, rfl, (R.own i a o).2.2, (R.own i a o).1, (R.own i a o).2.1, e2⟩
theorem js_if {sa sb : List Stmt} (hc : JT X B Wx c h) (ha : JSs X B fr Wx sa F) (hb : JSs X B fr Wx sb F') : JS X B fr Wx (.If c sa sb pos) (sIf h F F') := by
  refine ps_imp (ps_if hc ha hb) ?_
  rintro D s H q
  obtain ⟨O, r, st, w, e, R, q⟩ := tS_of (k := .sh) q
  refine ⟨O, r, st, w, e, R, q.mono ?_⟩
  rintro v H1 ⟨O1, r1, w0, d, st1, w1, rfl, R1, x1, ⟨_, R0⟩, rr, q1⟩
  cases d with
  | bl z =>
    refine ⟨z, rr.shB, ?_⟩
    cases z with
    | true => exact ⟨O1, r1, st1, w1, rfl, R1, postS.weak (x1.wk R0.wf) q1⟩
    | false => exact ⟨O1, r1, st1, w1, rfl, R1, postS.weak (x1.wk R0.wf) q1⟩
  | _ => exact (show False from q1).elim
/-- a slot's own thing is given away ahead of a statement -/
theorem Rel.giveSlot {i : Nat} {d : D} {O : Nat → Option Addr} {r : Env} {st : Sto} {s : L2.St} {w : Wd} {G : Cfg} (R : Rel G B O r st s w) (e : r i = some (true, d)) (nd : ∀ ks ds, d ≠ .dct ks ds) : ∃ O' w', w'.H = w.H ∧ Rel G B O' (r.set i (some (false, d))) st s w' ∧ Wk w w' := by
  have q := R.env i
  rw [e] at q
  obtain ⟨a, o, e1, c⟩ := q
  have own := R.own i a o
  refine ⟨setO O i none, w.fix a, rfl, ?_, w.fix_wk a⟩
  have R2 := (R.drop (i := i)).fix own.2.2 own.2.1 (fun j z => by
    unfold setO at z
    by_cases h : j = i
    · rw [if_pos h] at z; cases z
    · rw [if_neg h] at z; exact h (R.inj j i a z o))
  have hi : i < B.L := by
    rw [← R.ln]
    exact (List.getElem?_eq_some_iff.mp e1).1
  have R3 := R2.put hi (c.give nd)
  have es : s.set i (some (V.ref a)) = s := by
    refine List.ext_getElem? fun j => ?_
    by_cases h : i = j
    · subst h
      rw [List.getElem?_set_self (by rw [R.ln]; exact hi), e1]
    · rw [List.getElem?_set_ne h]
  rw [es] at R3
  have eo : setO (setO O i none) i none = setO O i none := by
    funext j; unfold setO; split <;> rfl
  have er : (r.set i none).set i (some (false, d)) = r.set i (some (false, d)) := by
    funext j; unfold Env.set; split <;> rfl
  rw [eo, er] at R3
  exact R3
theorem Rel.giveSlotD {i : Nat} {ks ds : List D} {O : Nat → Option Addr} {r : Env} {st : Sto} {s : L2.St} {w : Wd} {G : Cfg} (R : Rel G B O r st s w) (e : r i = some (true, .dct ks ds)) :
    ∃ a u, w.H a = some u ∧ Mut (some u) ∧ ∀ ob, ∃ O' w', w'.H = upd w.H a (.frz ob u) ∧ Rel G B O' (r.set i (some (false, .dct ks ds))) st s w' ∧ Wk w w' := by
  have q := R.env i
  rw [e] at q
  obtain ⟨a, o, e1, c⟩ := q
  have own := R.own i a o
  obtain ⟨u, h1, mu, h2⟩ := c.giveD own.1
  refine ⟨a, u, h1, mu, fun ob => ⟨setO O i none, w.lock a (.frz ob u), rfl, ?_, w.lock_wk own.1⟩⟩
  have R2 := (R.drop (i := i)).lock (o := .frz ob u) own.1 own.2.2 own.2.1 (fun j z => by
    unfold setO at z
    by_cases h : j = i
    · rw [if_pos h] at z; cases z
    · rw [if_neg h] at z; exact h (R.inj j i a z o))
  have hi : i < B.L := by
    rw [← R.ln]
    exact (List.getElem?_eq_some_iff.mp e1).1
  have R3 := R2.put hi (h2 ob)
  have es : s.set i (some (V.ref a)) = s := by
    refine List.ext_getElem? fun j => ?_
    by_cases h : i = j
    · subst h
      rw [List.getElem?_set_self (by rw [R.ln]; exact hi), e1]
    · rw [List.getElem?_set_ne h]
  rw [es] at R3
  have eo : setO (setO O i none) i none = setO O i none := by
    funext j; unfold setO; split <;> rfl
  have er : (r.set i none).set i (some (false, .dct ks ds)) = r.set i (some (false, .dct ks ds)) := by
    funext j; unfold Env.set; split <;> rfl
  rw [eo, er] at R3
  exact R3
/-- ahead of a statement a dict may be locked -/
def tFixS (t : TS) : TS := fun D s H => t D s H ∨ ∃ d u, H d = some u ∧ Mut (some u) ∧ ∀ od, t D s (upd H d (.frz od u))
theorem ps_fixS {st : Stmt} {t : TS} (h : PS X st t) : PS X st (tFixS t) := by
  refine ⟨fun pins s σ H D I q => ?_⟩
  rcases q with q | ⟨d, u, hd, mu, q⟩
  · exact h.run pins s σ H D I q
  · obtain ⟨od, I2⟩ := I.lock hd mu
    exact h.run pins s σ _ D I2 (q od)
theorem js_fix {i : Nat} (h1 : JS X B fr Wx st1 F) : JS X B fr Wx st1 (sFix i F) := by
  refine ps_imp (ps_fixS h1) ?_
  rintro D s H ⟨O, r, st, w, rfl, R, q⟩
  unfold sFix at q
  match z : r i, q with
  | none, q => exact q.elim
  | some (false, d), q => exact .inl ⟨O, r, st, w, rfl, R, q⟩
  | some (true, d), q =>
    by_cases hd : ∃ ks ds, d = .dct ks ds
    · obtain ⟨ks, ds, rfl⟩ := hd
      obtain ⟨a, u, h1, mu, h2⟩ := R.giveSlotD z
      refine .inr ⟨a, u, h1, mu, fun ob => ?_⟩
      obtain ⟨O', w', e, R', k'⟩ := h2 ob
      exact ⟨O', _, st, w', e, R', postS.weak k' q⟩
    · obtain ⟨O', w', e, R', k'⟩ := R.giveSlot z fun ks ds e => hd ⟨ks, ds, e⟩
      exact .inl ⟨O', _, st, w', e, R', postS.weak k' q⟩
end
end Sm

/-! Sim7: targets, what is walked, for, while, comprehensions. -/
namespace Sm
open PySem L2
/-! ### targets -/
abbrev Tg := D → Env → Option Env
def tgN (i : Nat) : Tg := fun d r => some (r.set i (some (false, d)))
def tgs : List Tg → List D → Env → Option Env
  | [], [], r => some r
  | t :: ts, d :: ds, r => (t d r).bind (tgs ts ds)
  | _, _, _ => none
def tgU (ts : List Tg) : Tg := fun d r => match d with
  | .tup ds => tgs ts ds r
  | _ => none
/-- but for these slots all stays -/
def But (js : List Nat) (s s' : L2.St) : Prop := s'.length = s.length ∧ ∀ j, j ∉ js → s'[j]? = s[j]?
def tG (G : Cfg) (B : Bs) (js : List Nat) (t : Tg) : TG := fun v s H Q => ∃ O r st w d r', w.H = H ∧ Rel G B O r st s w ∧ RD G w d v ∧ t d r = some r' ∧ ∀ O' s', Rel G B O' r' st s' w → But js s s' → Q s' H
def tGs (G : Cfg) (B : Bs) (js : List Nat) (ts : List Tg) : TGs := fun vs s H Q => ∃ O r st w ds r', w.H = H ∧ Rel G B O r st s w ∧ RDs G w ds vs ∧ tgs ts ds r = some r' ∧ ∀ O' s', Rel G B O' r' st s' w → But js s s' → Q s' H
def JG (X : Cx) (B : Bs) (js : List Nat) (tg : Expr) (t : Tg) : Prop := PG X tg (tG (cg X) B js t)
def JGs (X : Cx) (B : Bs) (js : List Nat) (tg : List Expr) (t : List Tg) : Prop := PGs X tg (tGs (cg X) B js t)
theorem But.refl {js : List Nat} {s : L2.St} : But js s s := ⟨rfl, fun _ _ => rfl⟩
theorem But.trans {i j : List Nat} {a b c : L2.St} (x : But i a b) (y : But j b c) : But (i ++ j) a c := ⟨y.1.trans x.1, fun k n => by
  simp only [List.mem_append, not_or] at n
  rw [y.2 k n.2, x.2 k n.1]⟩
theorem But.set {i : Nat} {s : L2.St} {x : Option V} : But [i] s (s.set i x) := ⟨by rw [List.length_set], fun j n => by
  rw [List.getElem?_set_ne (fun e => n (by rw [e]; exact List.mem_singleton.mpr rfl))]⟩
theorem But.mono {i j : List Nat} {a b : L2.St} (x : But i a b) (h : ∀ k ∈ i, k ∈ j) : But j a b := ⟨x.1, fun k n => x.2 k fun m => n (h k m)⟩
section
variable {X : Cx} {B : Bs} {k : Kd} {fr : Bool} {Wx : WX} {a b c tg iter e elt : Expr} {es : List Expr} {fs : List Ev} {f g h : Ev} {pos : Pos} {st1 st2 : Stmt} {rest body : List Stmt} {F F' : Sv} {t : Tg} {ts : List Tg}
theorem pg_imp {t t' : TG} (h : PG X tg t) (q : ∀ v s H Q, t' v s H Q → t v s H Q) : PG X tg t' := ⟨fun pins s σ H v u Q I r h' => h.run pins s σ H v u Q I r (q v σ H Q h')⟩
theorem pgs_imp {t t' : TGs} (h : PGs X es t) (q : ∀ v s H Q, t' v s H Q → t v s H Q) : PGs X es t' := ⟨fun pins s σ H v u Q I r h' => h.run pins s σ H v u Q I r (q v σ H Q h')⟩
theorem jg_name {i : Nat} {x : Str} (hN : X.N.Nodup) (hi : X.N[i]? = some x) (hx : Loc X.env.scope x) (hL : B.L = X.N.length) (hf : X.fn x = true ∨ X.env.scope.names.lookup x = some .local := by first | exact .inl rfl | exact .inr rfl | assumption) : JG X B [i] (.Name x pos) (tgN i) := by
  refine pg_imp (pg_name hN hi hx hf) ?_
  rintro v s H Q ⟨O, r, st, w, d, r', rfl, R, rd, e, q⟩
  cases e
  have hl : i < B.L := by rw [hL]; exact (List.getElem?_eq_some_iff.mp hi).1
  exact q _ _ (R.put hl rd) But.set
theorem jgs_nil : JGs X B [] [] [] := by
  refine pgs_imp pgs_nil ?_
  rintro v s H Q ⟨O, r, st, w, ds, r', rfl, R, rd, e, q⟩
  cases ds with
  | nil =>
    cases e
    unfold RDs at rd
    exact ⟨rd, q _ _ R But.refl⟩
  | cons d ds => cases e
theorem jgs_cons {i j : List Nat} (h1 : JG X B i a t) (h2 : JGs X B j es ts) (hs : (assignEach (a :: es) X.env).map (·.2) = assign a X.env :: (assignEach es X.env).map (·.2) := by rfl) : JGs X B (i ++ j) (a :: es) (t :: ts) := by
  refine pgs_imp (pgs_cons h1 h2 hs) ?_
  rintro v s H Q ⟨O, r, st, w, ds, r', rfl, R, rd, e, q⟩
  cases ds with
  | nil => cases e
  | cons d ds =>
    unfold RDs at rd
    obtain ⟨v1, vr, rfl, rd1, rd2⟩ := rd
    have e : (t d r).bind (tgs ts ds) = some r' := e
    cases z : t d r with
    | none => rw [z] at e; cases e
    | some r1 =>
      rw [z] at e
      refine ⟨v1, vr, rfl, O, r, st, w, d, r1, rfl, R, rd1, z, fun O1 s1 R1 b1 => ?_⟩
      exact ⟨O1, r1, st, w, ds, r', rfl, R1, rd2, e, fun O2 s2 R2 b2 => q O2 s2 R2 (b1.trans b2)⟩
theorem jg_tup {kk n : Nat} {js : List Nat} (hc : X.calm = true) (h : JGs X B js es ts) (hn : ts.length = n := by rfl) (hn2 : (assignEach es X.env).length = n := by rfl) (hst : (assignEach es X.env).findIdx? (·.1) = none := by rfl) : JG X B js (.Tuple es kk pos) (tgU ts) := by
  refine pg_imp (pg_tup (n := n) hc h hn2 hst) ?_
  rintro v s H Q ⟨O, r, st, w, d, r', rfl, R, rd, e, q⟩
  cases d with
  | tup ds =>
    unfold RD at rd
    obtain ⟨p, vs, rfl, tt, rs⟩ := rd
    have e : tgs ts ds r = some r' := e
    have len : ∀ (ts : List Tg) (ds : List D) (r : Env), tgs ts ds r = some r' → ds.length = ts.length := by
      intro ts
      induction ts with
      | nil => intro ds r e; cases ds with
        | nil => rfl
        | cons _ _ => cases e
      | cons t ts ih => intro ds r e; cases ds with
        | nil => cases e
        | cons d ds =>
          have e : (t d r).bind (tgs ts ds) = some r' := e
          cases z : t d r with
          | none => rw [z] at e; cases e
          | some r1 =>
            rw [z] at e
            simp [ih ds r1 e]
    refine ⟨p, vs, rfl, tt.sq, by rw [← rs.length, len ts ds r e, hn], O, r, st, w, ds, r', rfl, R, rs, e, q⟩
  | _ => cases e

/-! ### a, b = e -/
def sTo (t : Tg) (f : Ev) : Sv := fun r st => ofRs (f r st) r fun d st1 => match t d r with | some r' => .nx r' st1 | none => .bad
theorem js_to {js : List Nat} (hg : JG X B js tg t) (he : JE X B .sh Wx a f) (hs : swapsWithSole [tg] a pos.line X.env = pure false := by rfl) (hw : swappedStores [tg] a X.env = pure none := by rfl) (h1 : (assignEach [tg] X.env).map (·.2) = [assign tg X.env] := by rfl) : JS X B fr Wx (.Assign [tg] a pos) (sTo t f) := by
  refine ps_imp (ps_asg he hg hs hw h1) ?_
  rintro D s H q
  obtain ⟨O, r, st, w, e, R, q⟩ := tS_of (k := .sh) q
  refine ⟨O, r, st, w, e, R, q.mono ?_⟩
  rintro v H1 ⟨O1, r1, w0, d, st1, w1, rfl, R1, x1, ⟨_, R0⟩, rr, q1⟩
  cases z : t d r1 with
  | none => rw [z] at q1; exact q1.elim
  | some r' =>
    rw [z] at q1
    exact ⟨O1, r1, st1, w1, d, r', rfl, R1, rr, z, fun O' s' R' _ => q1 O' s' w1 R' (x1.wk R0.wf)⟩

/-! ### what is walked -/
/-- lists of the store that are read step by step: they must still stand there -/
abbrev Gd := List (Nat × List D)
def okG (gs : Gd) (st : Sto) : Prop := ∀ g ∈ gs, st[g.1]? = some (.lst g.2)
def GdOk (G : Cfg) (w : Wd) (gs : Gd) : Prop := ∀ g ∈ gs, ∀ a, w.u[g.1]? = some a → RC G w a (.lst g.2)
theorem okG.at {G : Cfg} {w : Wd} {gs : Gd} {st : Sto} (h : okG gs st) (S : RSt G w st) : GdOk G w gs := fun g m a e => S.at_ g.1 _ a (h g m) e
theorem okG_nil {st : Sto} : okG [] st ↔ True := ⟨fun _ => trivial, fun _ g m => nomatch m⟩
inductive RsI where
  | ok (ds : List D) (gs : Gd) (st : Sto) | err (c : Str) (a : Option (Str × D)) (st : Sto) | bad
def Wks (G : Cfg) (w1 : Wd) (J : It) (ds : List D) (gs : Gd) : Prop :=
  ∀ w2, Wk w1 w2 → WF w2 → GdOk G w2 gs → ∀ i : Nat, (∀ d, ds[i]? = some d → J.go i w2.H ∧ ∀ x H', J.yld i w2.H x H' → ∃ w3, w3.H = H' ∧ Ext w2 w3 ∧ WF w3 ∧ w3.u = w2.u ∧ (∀ a ∈ w2.u, w3.H a = w2.H a) ∧ RD G w3 d x) ∧ (ds.length ≤ i → J.stop i w2.H)
abbrev Iv := Env → Sto → RsI
def tI (G : Cfg) (B : Bs) (Wx : WX) (f : Iv) : TI := fun s H R => ∃ O r st w, w.H = H ∧ Rel G B O r st s w ∧ match f r st with
  | .ok ds gs st1 => ∀ J w1, Rel G B O r st1 s w1 → Ext w w1 → Wks G w1 J ds gs → R J w1.H
  | .err c a st1 => ∀ w' cls dd, Rel G B O r st1 s w' → Ext w w' → RX G w' c a cls dd → Wx cls dd s w'.H
  | .bad => False
def JI (X : Cx) (B : Bs) (Wx : WX) (tg iter : Expr) (f : Iv) : Prop := PI X tg iter (tI (cg X) B Wx f)
theorem pi_imp {t t' : TI} (h : PI X tg iter t) (q : ∀ s H R, t' s H R → t s H R) : PI X tg iter t' := ⟨fun pins s σ H R I h' => h.run pins s σ H R I (q σ H R h')⟩
/-- a list or a tuple -/
theorem pi_seq {te : TE} (he : PE X iter te) : PI X tg iter (fun σ H R => te σ H fun x H1 => (∃ a, x = .ref a ∧ (∃ xs, SqL X.K H1 a xs) ∧ R (Itl X.K a) H1) ∨ (∃ a, x = .ref a ∧ (∃ xs, SqT X.K H1 a xs) ∧ R (Itt X.K a) H1)) := by
  constructor
  intro pins s0 sl H R I h
  refine thn (he.run pins s0 sl H _ I h) ?_
  rintro v s1 ⟨x, H1, J1, rel, q1⟩
  have new : ∀ {o : Obj} (hd : ∀ c, o.data ≠ .cell c), Inv X pins sl H1 { s1 with heap := s1.heap.push o } ∧ ∀ b ∈ [s1.heap.objs.size], FpOk X pins H1 b := fun {o} _ => by
    refine ⟨J1.kept (t' := s1.toks) (fun b u z => Heap.get?_push_of_some _ z), fun b hb => ?_⟩
    rw [List.mem_singleton.mp hb]
    exact J1.fpOk (Nat.le_refl _) (J1.hok.fresh (Nat.le_refl _))
  rcases q1 with ⟨a, rfl, ⟨xs, hx⟩, hR⟩ | ⟨a, rfl, ⟨xs, hx⟩, hR⟩
  · cases rel
    obtain ⟨its, rv, pl, _⟩ := J1.list hx
    have N := new (o := { cls := .type "list_iterator", data := .fields #[.ref a, .int 0 0] }) (fun c z => by cases z)
    exact wpAny_pyIter_list pl.isList ⟨_, _, _, _, _, rfl, N.1, turn_list a _, ⟨_, Heap.get?_push_size _ rfl, rfl, rfl⟩, N.2, hR⟩
  · cases rel
    obtain ⟨its, rv, pl, _⟩ := J1.tuple hx
    have N := new (o := { cls := .type "tuple_iterator", data := .fields #[.ref a, .int 0 0] }) (fun c z => by cases z)
    exact wpAny_pyIter_tuple (show s1.heap.IsTuple a its.toArray from pl) ⟨_, _, _, _, _, rfl, N.1, turn_tuple a _, ⟨_, Heap.get?_push_size _ rfl, rfl, rfl⟩, N.2, hR⟩
def itSeq (f : Ev) : Iv := fun r st => match f r st with
  | .ok d st1 => match d with
    | .lst ds => .ok ds [] st1
    | .tup ds => .ok ds [] st1
    | .ref n => (match st1[n]? with
      | some (.lst ds) => .ok ds [(n, ds)] st1
      | _ => .bad)
    | _ => .bad
  | .err c a st1 => .err c a st1
  | .bad => .bad
theorem Wk.im' {w w' : Wd} {a : Addr} {o : HO} (k : Wk w w') (h : Im w a o) : Im w' a o := k.im a o h
theorem RDs.none {G : Cfg} {w : Wd} {ds : List D} {vs : List V} {i : Nat} (h : RDs G w ds vs) (e : ds.length ≤ i) : vs.length ≤ i := by rw [← h.length]; exact e
theorem wks_list {G : Cfg} {w : Wd} {a : Addr} {ds : List D} {vs : List V} {K : PySem.W.Frag} (h : Im w a (.lst vs)) (r : RDs G w ds vs) : Wks G w (Itl K a) ds [] := by
  intro w2 k2 f2 _ i
  have h2 := k2.im _ _ h
  have r2 := RDs.wk k2 _ _ r
  refine ⟨fun d e => ?_, fun e => ⟨vs, h2.sq, r2.none e⟩⟩
  obtain ⟨v, e1, e2⟩ := r2.get e
  refine ⟨⟨vs, v, h2.sq, e1⟩, fun x H' y => ?_⟩
  obtain ⟨rfl, y⟩ := y
  have z := y vs h2.sq
  rw [e1] at z
  cases z
  exact ⟨w2, rfl, Ext.refl _, f2, rfl, fun _ _ => rfl, e2⟩
theorem wks_tup {G : Cfg} {w : Wd} {a : Addr} {ds : List D} {vs : List V} (h : TpI G.K w a vs) (r : RDs G w ds vs) : Wks G w (Itt G.K a) ds [] := by
  intro w2 k2 f2 _ i
  have h2 := k2.tp h
  have r2 := RDs.wk k2 _ _ r
  refine ⟨fun d e => ?_, fun e => ⟨vs, h2.sq, r2.none e⟩⟩
  obtain ⟨v, e1, e2⟩ := r2.get e
  refine ⟨⟨vs, v, h2.sq, e1⟩, fun x H' y => ?_⟩
  obtain ⟨rfl, y⟩ := y
  have z := y vs h2.sq
  rw [e1] at z
  cases z
  exact ⟨w2, rfl, Ext.refl _, f2, rfl, fun _ _ => rfl, e2⟩
/-- a list of the store -/
theorem wks_ref {G : Cfg} {w : Wd} {n : Nat} {a : Addr} {ds : List D} {K : PySem.W.Frag} (h : w.u[n]? = some a) : Wks G w (Itl K a) ds [(n, ds)] := by
  intro w2 k2 f2 g2 i
  obtain ⟨r, e⟩ := k2.mu
  have h2 : w2.u[n]? = some a := by rw [e, List.getElem?_append_left (List.getElem?_eq_some_iff.mp h).1]; exact h
  obtain ⟨vs, hH, r2⟩ := g2 (n, ds) (List.mem_singleton.mpr rfl) a h2
  have sq : SqL K w2.H a vs := .of hH
  refine ⟨fun d e => ?_, fun e => ⟨vs, sq, r2.none e⟩⟩
  obtain ⟨v, e1, e2⟩ := r2.get e
  refine ⟨⟨vs, v, sq, e1⟩, fun x H' y => ?_⟩
  obtain ⟨rfl, y⟩ := y
  have z := y vs sq
  rw [e1] at z
  cases z
  exact ⟨w2, rfl, Ext.refl _, f2, rfl, fun _ _ => rfl, e2⟩
theorem ji_seq (he : JE X B .sh Wx iter f) : JI X B Wx tg iter (itSeq f) := by
  refine pi_imp (pi_seq he) ?_
  rintro s H R' ⟨O, r, st, w, rfl, R, q⟩
  refine ⟨O, r, st, w, rfl, R, ?_⟩
  unfold itSeq at q
  cases z : f r st with
  | ok d st1 =>
    rw [z] at q
    intro w1 v R1 x1 rr
    cases d with
    | lst ds =>
      have rr : RD (cg X) w1 (.lst ds) v := rr
      unfold RD at rr
      obtain ⟨a, vs, rfl, t, rs⟩ := rr
      exact .inl ⟨a, rfl, ⟨vs, t.sq⟩, q _ w1 R1 x1 (wks_list t rs)⟩
    | tup ds =>
      have rr : RD (cg X) w1 (.tup ds) v := rr
      unfold RD at rr
      obtain ⟨a, vs, rfl, t, rs⟩ := rr
      exact .inr ⟨a, rfl, ⟨vs, t.sq⟩, q _ w1 R1 x1 (wks_tup t rs)⟩
    | ref n =>
      have rr : RD (cg X) w1 (.ref n) v := rr
      cases y : st1[n]? with
      | none => simp only [y] at q
      | some so =>
        obtain ⟨al, rfl, eu, o⟩ := R1.sto.ref rr y
        cases so with
        | lst ds =>
          simp only [y] at q
          obtain ⟨vs, hH, rs⟩ := o
          exact .inl ⟨al, rfl, ⟨vs, .of hH⟩, q _ w1 R1 x1 (wks_ref eu)⟩
        | _ => simp only [y] at q
    | _ => exact (show False from q).elim
  | err c a st1 => rw [z] at q; exact q
  | bad => rw [z] at q; exact q.elim
/-- range(n), range(a, b) -/
def B62 : Int := 4611686018427387904
def rangeD (lo : Int) (n : Nat) : List D := (List.range n).map fun (i : Nat) => .int (lo + (i : Int))
def itR1 (f : Ev) : Iv := fun r st => match f r st with
  | .ok d st1 => match d with
    | .int j => if -B62 ≤ j ∧ j < B62 then .ok (rangeD 0 j.toNat) [] st1 else .bad
    | _ => .bad
  | .err c a st1 => .err c a st1
  | .bad => .bad
def itR2 (f g : Ev) : Iv := fun r st => match f r st with
  | .ok d st1 => match g r st1 with
    | .ok d2 st2 => match d, d2 with
      | .int i, .int j => if (-B62 ≤ i ∧ i < B62) ∧ (-B62 ≤ j ∧ j < B62) then .ok (rangeD i (j - i).toNat) [] st2 else .bad
      | _, _ => .bad
    | .err c a st1 => .err c a st1
    | .bad => .bad
  | .err c a st1 => .err c a st1
  | .bad => .bad
theorem wks_range {G : Cfg} {w : Wd} {lo : Int} {n : Nat} : Wks G w (Itr lo n) (rangeD lo n) [] := by
  intro w2 k2 f2 _ i
  refine ⟨fun d e => ?_, fun e => (show n ≤ i by simpa [rangeD] using e)⟩
  have hi : i < n := by
    have := (List.getElem?_eq_some_iff.mp e).1
    simpa [rangeD] using this
  refine ⟨hi, fun x H' y => ?_⟩
  obtain ⟨rfl, rfl⟩ := y
  refine ⟨w2, rfl, Ext.refl _, f2, rfl, fun _ _ => rfl, ?_⟩
  have e2 : d = .int (lo + (i : Int)) := by
    simp [rangeD, List.getElem?_map, List.getElem?_range hi] at e
    exact e.symm
  subst e2
  exact rdI
theorem ji_range1 {p : Pos} (hg : Gl X "range") (hm : X.mg "range" = none) (ha : JA X B .bo Wx [a] [f]) (hs : starEach [a] X.env = [(false, eval a X.env)] := by rfl) : JI X B Wx tg (.Call (.Name "range" p) [a] [] pos) (itR1 f) := by
  refine pi_imp (pi_range1 hg hm ha hs) ?_
  rintro s H R' ⟨O, r, st, w, rfl, R, q⟩
  refine ⟨O, r, st, w, rfl, R, ?_⟩
  unfold itR1 at q
  simp only [evs]
  cases z : f r st with
  | ok d st1 =>
    rw [z] at q
    intro w1 vs R1 x1 rr
    obtain ⟨v, vr, rfl, rr, e⟩ := rr
    cases d with
    | int j =>
      have e : vr = [] := e
      subst e
      by_cases hz : -B62 ≤ j ∧ j < B62
      · have q : ∀ J w1, Rel (cg X) B O r st1 s w1 → Ext w w1 → Wks (cg X) w1 J (rangeD 0 j.toNat) [] → R' J w1.H := by
          have q0 := q
          simp only [if_pos hz] at q0
          exact q0
        have eb : B62 = 2 ^ 62 := by decide
        rw [eb] at hz
        exact ⟨j, by rw [rr.int], hz.1, hz.2, q _ w1 R1 x1 wks_range⟩
      · simp only [if_neg hz] at q
    | _ => exact (show False from q).elim
  | err c a st1 => rw [z] at q; exact q
  | bad => rw [z] at q; exact q.elim
theorem ji_range2 {p : Pos} (hg : Gl X "range") (hm : X.mg "range" = none) (ha : JA X B .bo Wx [a, b] [f, g]) (hs : starEach [a, b] X.env = [(false, eval a X.env), (false, eval b X.env)] := by rfl) (hs2 : starEach [b] X.env = [(false, eval b X.env)] := by rfl) :
    JI X B Wx tg (.Call (.Name "range" p) [a, b] [] pos) (itR2 f g) := by
  refine pi_imp (pi_range2 hg hm ha hs hs2) ?_
  rintro s H R' ⟨O, r, st, w, rfl, R, q⟩
  refine ⟨O, r, st, w, rfl, R, ?_⟩
  unfold itR2 at q
  simp only [evs]
  cases z : f r st with
  | ok d st1 =>
    rw [z] at q
    simp only [Rs.bindL] at q ⊢
    cases z2 : g r st1 with
    | ok d2 st2 =>
      rw [z2] at q
      intro w1 vs R1 x1 rr
      obtain ⟨v, vr, rfl, rr, v2, vr2, rfl, rr2, e⟩ := rr
      have e : vr2 = [] := e
      subst e
      cases d with
      | int i =>
        cases d2 with
        | int j =>
          by_cases hz : (-B62 ≤ i ∧ i < B62) ∧ (-B62 ≤ j ∧ j < B62)
          · have q : ∀ J w1, Rel (cg X) B O r st2 s w1 → Ext w w1 → Wks (cg X) w1 J (rangeD i (j - i).toNat) [] → R' J w1.H := by
              have q0 := q
              simp only [if_pos hz] at q0
              exact q0
            have eb : B62 = 2 ^ 62 := by decide
            rw [eb] at hz
            exact ⟨i, j, by rw [rr.int, rr2.int], ⟨hz.1.1, hz.1.2, hz.2.1, hz.2.2⟩, q _ w1 R1 x1 wks_range⟩
          · simp only [if_neg hz] at q
        | _ => exact (show False from q).elim
      | _ => exact (show False from q).elim
    | err c a st1 => rw [z2] at q; exact q
    | bad => rw [z2] at q; exact q.elim
  | err c a st1 => rw [z] at q; exact q
  | bad => rw [z] at q; exact q.elim
end
end Sm

/-! Sim8: for, while, comprehensions. -/
namespace Sm
open PySem L2
open Classical in
noncomputable def forL (t : Tg) (F : Sv) (gs : Gd) : List D → Env → Sto → Rt
  | [], r, st => if okG gs st then .nx r st else .bad
  | d :: ds, r, st => if okG gs st then (match t d r with
    | none => .bad
    | some r1 => match F r1 st with
      | .nx r2 st2 => forL t F gs ds r2 st2
      | .ct r2 st2 => forL t F gs ds r2 st2
      | .bk r2 st2 => .nx r2 st2
      | x => x) else .bad
noncomputable def sFor (it : Iv) (t : Tg) (F : Sv) : Sv := fun r st => match it r st with
  | .ok ds gs st1 => forL t F gs ds r st1
  | .err c a st1 => .err c a r st1
  | .bad => .bad
def whN (c : Ev) (F : Sv) : Nat → Env → Sto → Option Rt
  | 0, _, _ => none
  | n + 1, r, st => match c r st with
    | .ok (.bl true) st1 => match F r st1 with
      | .nx r2 st2 => whN c F n r2 st2
      | .ct r2 st2 => whN c F n r2 st2
      | .bk r2 st2 => some (.nx r2 st2)
      | x => some x
    | .ok (.bl false) st1 => some (.nx r st1)
    | .err k a st1 => some (.err k a r st1)
    | _ => some .bad
open Classical in
noncomputable def sWhile (c : Ev) (F : Sv) : Sv := fun r st => if h : ∃ x, ∃ n, whN c F n r st = some x then h.choose else .bad
theorem whN_mono {c : Ev} {F : Sv} : ∀ {n : Nat} {r : Env} {st : Sto} {x : Rt}, whN c F n r st = some x → ∀ m, n ≤ m → whN c F m r st = some x
  | 0, r, st, x, h, _, _ => by cases h
  | n + 1, r, st, x, h, 0, hm => absurd hm (by omega)
  | n + 1, r, st, x, h, m + 1, hm => by
    have ih : ∀ {r : Env} {st : Sto} {x : Rt}, whN c F n r st = some x → whN c F m r st = some x := fun q => whN_mono q m (by omega)
    unfold whN at h ⊢
    split at h
    · split at h
      · exact ih h
      · exact ih h
      · exact h
      · exact h
    · exact h
    · exact h
    · exact h
theorem sWhile_of {c : Ev} {F : Sv} {n : Nat} {r : Env} {st : Sto} {x : Rt} (h : whN c F n r st = some x) : sWhile c F r st = x := by
  unfold sWhile
  have hx : ∃ x, ∃ n, whN c F n r st = some x := ⟨x, n, h⟩
  rw [dif_pos hx]
  obtain ⟨m, e⟩ := hx.choose_spec
  have e1 := whN_mono h (max n m) (Nat.le_max_left _ _)
  have e2 := whN_mono e (max n m) (Nat.le_max_right _ _)
  rw [e1] at e2
  exact (Option.some.inj e2).symm
theorem sWhile_none {c : Ev} {F : Sv} {r : Env} {st : Sto} (h : ∀ n, whN c F n r st = none) : sWhile c F r st = .bad := by
  unfold sWhile
  rw [dif_neg]
  rintro ⟨x, n, e⟩
  rw [h n] at e
  cases e
/-- one turn -/
theorem sWhile_eq {c : Ev} {F : Sv} {r : Env} {st : Sto} : sWhile c F r st = match c r st with
    | .ok (.bl true) st1 => (match F r st1 with
      | .nx r2 st2 => sWhile c F r2 st2
      | .ct r2 st2 => sWhile c F r2 st2
      | .bk r2 st2 => .nx r2 st2
      | x => x)
    | .ok (.bl false) st1 => .nx r st1
    | .err k a st1 => .err k a r st1
    | _ => .bad := by
  have go : ∀ r2 st2, (∀ n, whN c F (n + 1) r st = whN c F n r2 st2) → sWhile c F r st = sWhile c F r2 st2 := fun r2 st2 h => by
    by_cases z : ∃ x, ∃ n, whN c F n r2 st2 = some x
    · obtain ⟨x, n, e⟩ := z
      rw [sWhile_of e, sWhile_of (n := n + 1) ((h n).trans e)]
    · have z' : ∀ n, whN c F n r2 st2 = none := fun n => by
        cases q : whN c F n r2 st2 with
        | none => rfl
        | some x => exact absurd ⟨x, n, q⟩ z
      rw [sWhile_none z', sWhile_none]
      intro n
      cases n with
      | zero => rfl
      | succ n => rw [h n]; exact z' n
  split
  · rename_i st1 e
    split
    · rename_i r2 st2 e2
      exact go _ _ fun n => by simp only [whN, e, e2]
    · rename_i r2 st2 e2
      exact go _ _ fun n => by simp only [whN, e, e2]
    · rename_i r2 st2 e2
      exact sWhile_of (n := 1) (by simp only [whN, e, e2])
    · rename_i h1 h2 h3
      refine sWhile_of (n := 1) ?_
      simp only [whN, e]
  · rename_i st1 e
    exact sWhile_of (n := 1) (by simp only [whN, e])
  · rename_i k a st1 e
    exact sWhile_of (n := 1) (by simp only [whN, e])
  · rename_i h1 h2 h3
    refine sWhile_of (n := 1) ?_
    simp only [whN]
section
variable {X : Cx} {B : Bs} {k : Kd} {fr : Bool} {Wx : WX} {a b c tg iter e elt : Expr} {es : List Expr} {fs : List Ev} {f g h : Ev} {pos : Pos} {st1 st2 : Stmt} {rest body : List Stmt} {F F' : Sv} {t : Tg} {ts : List Tg} {it : Iv}
theorem js_for {js : List Nat} (hp : PassesOwn (model X.prog X.w) X.A X.env X.xe) (hc : X.calm = true) (hi : JI X B Wx tg iter it) (hg : JG X B js tg t) (hb : JSs X B fr Wx body F) (hs : ∀ x, foldedSetIterable iter X.env x = pure x := by intro _; rfl) :
    JS X B fr Wx (.For tg iter body [] pos) (sFor it t F) := by
  refine ps_imp (ps_for hp hc hi hg hb hs) ?_
  rintro Dn s H ⟨O, r, st, w, rfl, R, q⟩
  refine ⟨O, r, st, w, rfl, R, ?_⟩
  unfold sFor at q
  cases z : it r st with
  | ok ds gs st1 =>
    rw [z] at q
    intro J w1 R1 x1 wk
    have q := postS.weak (x1.wk R.wf) q
    refine ⟨fun i m σ H => m = ds.length - i ∧ i ≤ ds.length ∧ ∃ O r st w2, w2.H = H ∧ Rel (cg X) B O r st σ w2 ∧ Wk w1 w2 ∧ postS (cg X) B fr Wx w1 (forL t F gs (ds.drop i) r st) Dn, ⟨_, rfl, Nat.zero_le _, O, r, st1, w1, rfl, R1, Wk.refl _, q⟩, ?_⟩
    rintro i m σ H ⟨rfl, hi, O2, r2, st2, w2, rfl, R2, k2, q2⟩
    have hG : okG gs st2 := by
      by_cases hG : okG gs st2
      · exact hG
      · exfalso
        cases y : ds.drop i with
        | nil => rw [y] at q2; unfold forL at q2; rw [if_neg hG] at q2; exact q2
        | cons a b => rw [y] at q2; unfold forL at q2; rw [if_neg hG] at q2; exact q2
    have W := wk w2 k2 R2.wf (hG.at R2.sto) i
    by_cases hlt : i < ds.length
    · have ed : ds[i]? = some ds[i] := List.getElem?_eq_getElem hlt
      have edr : ds.drop i = ds[i] :: ds.drop (i + 1) := List.drop_eq_getElem_cons hlt
      obtain ⟨go, yl⟩ := W.1 _ ed
      rw [edr] at q2
      unfold forL at q2
      rw [if_pos hG] at q2
      refine .inr ⟨go, fun σ H => ∃ O r st w2, w2.H = H ∧ Rel (cg X) B O r st σ w2 ∧ Wk w1 w2 ∧ postS (cg X) B fr Wx w1 (forL t F gs (ds.drop (i + 1)) r st) Dn, fun σ' H' n => ⟨_, by omega, rfl, hlt, n⟩, fun x H' y => ?_⟩
      obtain ⟨w3, rfl, x3, f3, u3, a3, rd⟩ := yl x H' y
      have R3 := R2.keep f3 x3 u3 a3
      have k3 := k2.trans (x3.wk R2.wf)
      cases et : t ds[i] r2 with
      | none => rw [et] at q2; exact q2.elim
      | some r3 =>
        rw [et] at q2
        refine ⟨O2, r2, st2, w3, ds[i], r3, rfl, R3, rd, et, fun O4 s4 R4 _ => ⟨O4, r3, st2, w3, rfl, R4, ?_⟩⟩
        cases ef : F r3 st2 with
        | nx r5 st5 => simp only [ef] at q2; exact fun O s w R5 k5 => ⟨O, r5, st5, w, rfl, R5, k3.trans k5, q2⟩
        | ct r5 st5 => simp only [ef] at q2; exact fun O s w R5 k5 => ⟨O, r5, st5, w, rfl, R5, k3.trans k5, q2⟩
        | bk r5 st5 => simp only [ef] at q2; exact fun O s w R5 k5 => q2 O s w R5 (k3.trans k5)
        | rt d st5 => simp only [ef] at q2; exact q2
        | err c a r5 st5 => simp only [ef] at q2; exact q2
        | bad => simp only [ef] at q2; exact q2.elim
    · have e : i = ds.length := by omega
      subst e
      refine .inl ⟨W.2 (Nat.le_refl _), ?_⟩
      rw [List.drop_length] at q2
      unfold forL at q2
      rw [if_pos hG] at q2
      exact q2 O2 σ w2 R2 k2
  | err c a st1 =>
    rw [z] at q
    exact fun w' cls dd R' x rx => q O s w' cls dd R' rx
  | bad => rw [z] at q; exact q.elim
theorem js_while (hp : PassesOwn (model X.prog X.w) X.A X.env X.xe) (hc : JT X B Wx c h) (hb : JSs X B fr Wx body F) : JS X B fr Wx (.While c body [] pos) (sWhile h F) := by
  refine ps_imp (ps_while hp hc hb) ?_
  rintro Dn s H ⟨O, r, st, w, rfl, R, q⟩
  by_cases z : ∃ x, ∃ n, whN h F n r st = some x
  · obtain ⟨x, n, ex⟩ := z
    rw [sWhile_of ex] at q
    refine ⟨fun m σ H => ∃ O r st w2 x, w2.H = H ∧ Rel (cg X) B O r st σ w2 ∧ Wk w w2 ∧ whN h F m r st = some x ∧ postS (cg X) B fr Wx w x Dn, ⟨n, O, r, st, w, x, rfl, R, Wk.refl _, ex, q⟩, ?_⟩
    rintro m σ H ⟨O2, r2, st2, w2, x2, rfl, R2, k2, e2, q2⟩
    refine ⟨O2, r2, st2, w2, rfl, R2, ?_⟩
    cases m with
    | zero => cases e2
    | succ m =>
      unfold whN at e2
      cases z : h r2 st2 with
      | ok d st3 =>
        intro w3 v R3 x3 rr
        cases d with
        | bl b =>
          refine ⟨b, rr.shB, ?_⟩
          rw [z] at e2
          have k3 := k2.trans (x3.wk R2.wf)
          cases b with
          | true =>
            rw [if_pos rfl]
            refine ⟨fun σ H => ∃ O r st w2 x, w2.H = H ∧ Rel (cg X) B O r st σ w2 ∧ Wk w w2 ∧ whN h F m r st = some x ∧ postS (cg X) B fr Wx w x Dn, fun σ' H' hn => ⟨m, Nat.lt_succ_self _, hn⟩, O2, r2, st3, w3, rfl, R3, ?_⟩
            simp only at e2
            cases ef : F r2 st3 with
            | nx r5 st5 => simp only [ef] at e2; exact fun O s w' R5 k5 => ⟨O, r5, st5, w', x2, rfl, R5, k3.trans k5, e2, q2⟩
            | ct r5 st5 => simp only [ef] at e2; exact fun O s w' R5 k5 => ⟨O, r5, st5, w', x2, rfl, R5, k3.trans k5, e2, q2⟩
            | bk r5 st5 => simp only [ef] at e2; cases e2; exact fun O s w' R5 k5 => q2 O s w' R5 (k3.trans k5)
            | rt d st5 => simp only [ef] at e2; cases e2; exact q2
            | err c a r5 st5 => simp only [ef] at e2; cases e2; exact q2
            | bad => simp only [ef] at e2; cases e2; exact q2.elim
          | false =>
            rw [if_neg (by simp)]
            simp only at e2
            cases e2
            exact q2 O2 σ w3 R3 k3
        | _ =>
          rw [z] at e2
          simp only at e2
          cases e2
          exact q2.elim
      | err cc a st3 =>
        rw [z] at e2
        simp only at e2
        cases e2
        exact fun w' cls dd R' x rx => q2 O2 σ w' cls dd R' rx
      | bad =>
        rw [z] at e2
        simp only at e2
        cases e2
        exact q2.elim
  · have z' : ∀ n, whN h F n r st = none := fun n => by
      cases q : whN h F n r st with
      | none => rfl
      | some x => exact absurd ⟨x, n, q⟩ z
    rw [sWhile_none z'] at q
    exact q.elim
end
end Sm

/-! Sim9: comprehensions; changes of one's own lists. -/
namespace Sm
open PySem L2
/-- an object that may change is changed -/
def Wd.chg (w : Wd) (p : Addr) (o : HO) : Wd := ⟨upd w.H p o, w.M, w.u⟩
theorem Wd.chg_wk {w : Wd} {p : Addr} {o : HO} (m : w.M p) : Wk w (w.chg p o) := ⟨fun a u h => ⟨by
  show upd w.H p o a = some u
  rw [upd_ne (fun e => h.2 (by rw [e]; exact m))]; exact h.1, h.2⟩, [], by simp [Wd.chg]⟩
theorem Wd.chg_wf {w : Wd} {p : Addr} {o : HO} (f : WF w) : WF (w.chg p o) := ⟨fun a m => by
  show upd w.H p o a ≠ none
  by_cases e : a = p
  · subst e; rw [upd_same]; simp
  · rw [upd_ne e]; exact f.mh a m, f.um, f.nd⟩
/-- .. of a thing that was not there at w0 -/
theorem Ext.chg {w0 w : Wd} {p : Addr} {o : HO} (x : Ext w0 w) (n : w0.H p = none) : Ext w0 (w.chg p o) := by
  have ne : ∀ a, w0.H a ≠ none → a ≠ p := fun a h e => h (by rw [e]; exact n)
  exact ⟨fun a h u => (upd_ne (ne a h)).trans (x.hk a h u), x.mt, x.mn, x.mu, fun a h => by
    show upd w.H p o a ≠ none
    rw [upd_ne (ne a h)]; exact x.hh a h⟩
theorem RSt.chg {G : Cfg} {w : Wd} {st : Sto} {p : Addr} {o : HO} (h : RSt G w st) (m : w.M p) (u : p ∉ w.u) : RSt G (w.chg p o) st := h.keep (Wd.chg_wk m) rfl fun a ha => upd_ne (fun e => u (by rw [← e]; exact ha))

theorem wipe_get {s : L2.St} {j : Nat} : ∀ {vs : List Nat}, (wipe s vs)[j]? = if j ∈ vs then (if j < s.length then some none else none) else s[j]?
  | [] => by simp [wipe]
  | v :: vs => by
    unfold wipe
    rw [List.getElem?_set]
    by_cases e : v = j
    · subst e
      simp [wipe_length]
    · rw [if_neg e, wipe_get (vs := vs)]
      have : (j ∈ v :: vs) ↔ j ∈ vs := by simp [Ne.symm e]
      simp only [this]
theorem wipe_but {s s' : L2.St} {js vs : List Nat} (b : But js (wipe s vs) s') (h : ∀ j ∈ js, j ∈ vs) : wipe s' vs = wipe s vs := by
  refine List.ext_getElem? fun j => ?_
  have hl : s'.length = s.length := by rw [b.1, wipe_length]
  rw [wipe_get, wipe_get, hl]
  by_cases e : j ∈ vs
  · rw [if_pos e, if_pos e]
  · rw [if_neg e, if_neg e, b.2 j (fun m => e (h j m)), wipe_get, if_neg e]
def wp (vs : List Nat) (r : Env) : Env := fun j => if j ∈ vs then none else r j
theorem Rel.wipe {G : Cfg} {B : Bs} {O : Nat → Option Addr} {r : Env} {st : Sto} {s : L2.St} {w : Wd} {vs : List Nat} (R : Rel G B O r st s w) : Rel G B (fun j => if j ∈ vs then none else O j) (wp vs r) st (L2.wipe s vs) w := by
  refine ⟨R.wf, R.wb, R.base, by rw [wipe_length]; exact R.ln, R.sto, fun i a e => ?_, fun i j a e1 e2 => ?_, fun i => ?_⟩
  · by_cases z : i ∈ vs
    · simp [z] at e
    · simp [z] at e; exact R.own i a e
  · by_cases z : i ∈ vs
    · simp [z] at e1
    · by_cases z' : j ∈ vs
      · simp [z'] at e2
      · simp [z] at e1; simp [z'] at e2; exact R.inj i j a e1 e2
  · by_cases z : i ∈ vs
    · simp only [wp, if_pos z]
      rfl
    · simp only [wp, if_neg z]
      rw [wipe_get, if_neg z]
      exact R.env i
open Classical in
noncomputable def lcL (t : Tg) (c e : Ev) (gs : Gd) (r : Env) : List D → List D → Sto → Rs
  | [], acc, st => if okG gs st then .ok (.lst acc) st else .bad
  | d :: ds, acc, st => if okG gs st then (match t d r with
    | none => .bad
    | some r1 => match c r1 st with
      | .ok (.bl true) st1 => (match e r1 st1 with
        | .ok x st2 => if acc.length < LIM then lcL t c e gs r ds (acc ++ [x]) st2 else .bad
        | _ => .bad)
      | .ok (.bl false) st1 => lcL t c e gs r ds acc st1
      | _ => .bad) else .bad
noncomputable def bLc (it : Iv) (t : Tg) (c e : Ev) (vs : List Nat) : Ev := fun r st => match it r st with
  | .ok ds gs st1 => lcL t c e gs (wp vs r) ds [] st1
  | .err k a st1 => .err k a st1
  | .bad => .bad
/-- nothing is raised -/
def nvX : WX := fun _ _ _ _ => False
section
variable {X : Cx} {B : Bs} {k : Kd} {fr : Bool} {Wx : WX} {a b c tg iter e elt : Expr} {es ifs : List Expr} {fs : List Ev} {f g h : Ev} {pos : Pos} {st1 st2 : Stmt} {rest body : List Stmt} {F F' : Sv} {t : Tg} {ts : List Tg} {it : Iv}
theorem takes_nv : Takes X nvX := fun u s' ⟨_, _, _, _, _, _, _, _, _, _, _, _, _, _, _, _, w⟩ => w.elim
theorem tE_lc {js vs : List Nat} (hj : ∀ j ∈ js, j ∈ vs) {s : L2.St} {H : Hp} {Q : VK} (q : tE (cg X) B .fr Wx (bLc it t g f vs) s H Q) :
    tLc (tI (cg X) B Wx it) (tG (cg X) B js t) (tTest (tE (cg X) B .sh nvX g)) (tE (cg X) B .sh nvX f) vs s H Q := by
  obtain ⟨O, r, st, w, rfl, R, q⟩ := q
  refine ⟨O, r, st, w, rfl, R, ?_⟩
  unfold bLc at q
  cases z : it r st with
  | ok ds gs st1 =>
    rw [z] at q
    intro J w1 R1 x1 wk Da hD
    have q := post.rebase x1 q
    have lm := LIM_le
    refine ⟨fun i m H => m = ds.length - i ∧ i ≤ ds.length ∧ ∃ st acc accV w2, w2.H = H ∧ RelF (cg X) st w2 ∧ Ext w1 w2 ∧ w2.H Da = some (.lst accV) ∧ RDs (cg X) w2 acc accV ∧ w2.M Da ∧ Da ∉ w2.u ∧
      post (cg X) B .fr Wx O r s w1 (lcL t g f gs (wp vs r) (ds.drop i) acc st) Q, ⟨_, rfl, Nat.zero_le _, st1, [], [], w1.add Da (.lst []) true, rfl, (R1.add hD).toF, Wd.add_ext hD, upd_same, by unfold RDs; rfl, .inr ⟨rfl, rfl⟩, fun m => R1.wf.mh Da (R1.wf.um Da m) hD, q⟩, ?_⟩
    rintro i m H ⟨rfl, hi, st2, acc, accV, w2, rfl, F2, x2, hDa, ra, mD, uD, q2⟩
    have hG : okG gs st2 := by
      by_cases hG : okG gs st2
      · exact hG
      · exfalso
        cases y : ds.drop i with
        | nil => rw [y] at q2; unfold lcL at q2; rw [if_neg hG] at q2; exact q2
        | cons a b => rw [y] at q2; unfold lcL at q2; rw [if_neg hG] at q2; exact q2
    have W := wk w2 (x2.wk R1.wf) F2.wf (hG.at F2.sto) i
    by_cases hlt : i < ds.length
    · have ed : ds[i]? = some ds[i] := List.getElem?_eq_getElem hlt
      have edr : ds.drop i = ds[i] :: ds.drop (i + 1) := List.drop_eq_getElem_cons hlt
      obtain ⟨go, yl⟩ := W.1 _ ed
      rw [edr] at q2
      unfold lcL at q2
      rw [if_pos hG] at q2
      refine .inr ⟨go, fun H => ∃ st acc accV w2, w2.H = H ∧ RelF (cg X) st w2 ∧ Ext w1 w2 ∧ w2.H Da = some (.lst accV) ∧ RDs (cg X) w2 acc accV ∧ w2.M Da ∧ Da ∉ w2.u ∧
        post (cg X) B .fr Wx O r s w1 (lcL t g f gs (wp vs r) (ds.drop (i + 1)) acc st) Q, fun H' n => ⟨_, by omega, rfl, hlt, n⟩, fun x H' y => ?_⟩
      obtain ⟨w3, rfl, x3, f3, u3, a3, rd⟩ := yl x H' y
      have F3 : RelF (cg X) st2 w3 := ⟨f3, F2.sto.keep (x3.wk F2.wf) u3 a3⟩
      have R3 := (R1.ofF F3 (x2.trans x3)).wipe (vs := vs)
      cases et : t ds[i] (wp vs r) with
      | none => rw [et] at q2; exact q2.elim
      | some r3 =>
        simp only [et] at q2
        refine ⟨_, _, st2, w3, ds[i], r3, rfl, R3, rd, et, fun O4 s4 R4 b4 => ⟨wipe_but b4 hj, O4, r3, st2, w3, rfl, R4, ?_⟩⟩
        -- Da at a later world
        have at_ : ∀ {w' : Wd}, Ext w2 w' → w'.H Da = some (.lst accV) ∧ w'.M Da ∧ Da ∉ w'.u := fun {w'} x' => by
          refine ⟨(x'.hk Da (by rw [hDa]; simp) uD).trans hDa, x'.mt Da mD, fun m => ?_⟩
          obtain ⟨rr, e1, fr⟩ := x'.mu
          rw [e1] at m
          rcases List.mem_append.mp m with m | m
          · exact uD m
          · rw [fr Da m] at hDa; cases hDa
        cases ec : g r3 st2 with
        | ok d st4 =>
          simp only [ec] at q2
          intro w4 v R4' x4 rr
          have x24 := x3.trans x4
          cases d with
          | bl b =>
            refine ⟨b, rr.shB, ?_⟩
            cases b with
            | true =>
              rw [if_pos rfl]
              refine ⟨O4, r3, st4, w4, rfl, R4', ?_⟩
              cases ee : f r3 st4 with
              | ok d5 st5 =>
                simp only [ee] at q2
                intro w5 v5 R5 x5 rd5
                have x25 := x24.trans x5
                obtain ⟨hD5, mD5, uD5⟩ := at_ x25
                by_cases hz : acc.length < LIM
                · rw [if_pos hz] at q2
                  have rl := ra.length
                  refine ⟨accV, hD5, by omega, st5, acc ++ [d5], accV ++ [v5], w5.chg Da (.lst (accV ++ [v5])), rfl, ⟨Wd.chg_wf R5.wf, R5.sto.chg mD5 uD5⟩, (x2.trans x25).chg hD, upd_same, ?_, mD5, uD5, q2⟩
                  exact RDs.append (RDs.wk ((x25.wk F2.wf).trans (Wd.chg_wk mD5)) _ _ ra) (RDs.one (RD.wk (Wd.chg_wk mD5) _ _ rd5))
                · rw [if_neg hz] at q2
                  exact q2.elim
              | err _ _ _ => simp only [ee] at q2; exact q2.elim
              | bad => simp only [ee] at q2; exact q2.elim
            | false =>
              rw [if_neg (by simp)]
              obtain ⟨hD4, mD4, uD4⟩ := at_ x24
              exact ⟨st4, acc, accV, w4, rfl, R4'.toF, x2.trans x24, hD4, RDs.wk (x24.wk F2.wf) _ _ ra, mD4, uD4, q2⟩
          | _ => exact (show False from q2).elim
        | err _ _ _ => simp only [ec] at q2; exact q2.elim
        | bad => simp only [ec] at q2; exact q2.elim
    · have e : i = ds.length := by omega
      subst e
      refine .inl ⟨W.2 (Nat.le_refl _), ?_⟩
      rw [List.drop_length] at q2
      unfold lcL at q2
      rw [if_pos hG] at q2
      exact q2 w2 _ (R1.ofF F2 x2) x2 ⟨Da, rfl, hD, mD, uD, accV, hDa, ra⟩
  | err c a st1 => rw [z] at q; exact q
  | bad => rw [z] at q; exact q.elim
/-- tests -/
def JP (X : Cx) (B : Bs) (ifs : List Expr) (g : Ev) : Prop := PTs X ifs (tTest (tE (cg X) B .sh nvX g))
theorem jp_nil : JP X B [] (bC (.bl true)) := by
  refine ⟨fun pins s σ H Q I h => pts_nil.run pins s σ H Q I ?_⟩
  obtain ⟨O, r, st, w, rfl, R, q⟩ := h
  obtain ⟨z, e, q⟩ := q w (.bl true) R (Ext.refl w) (show RD (cg X) w (.bl true) (.bl true) from rdB)
  cases e
  exact q
theorem jp_one (h : JT X B nvX c g) : JP X B [c] g := pts_one h
theorem je_lc {js : List Nat} {scope : Scope} {own : List (Str × Nat)} (hc : X.calm = true) (hN : X.N.Nodup) (hi : JI X B Wx tg iter it) (ok : BlkOk X.N X.env.scope scope own) (hj : ∀ j ∈ js, j ∈ own.map (·.2))
    (hg : ∀ (s : Shared) (H : Hp) (C : Addr) (cl : List (Str × Addr)) (fp : List Addr), JG (X.blk s H scope (compEnvC scope cl C X.env) fp) B js tg t) (ht : ∀ (s : Shared) (H : Hp) (C : Addr) (cl : List (Str × Addr)) (fp : List Addr), JP (X.blk s H scope (compEnvC scope cl C X.env) fp) B ifs g)
    (he : ∀ (s : Shared) (H : Hp) (C : Addr) (cl : List (Str × Addr)) (fp : List Addr), JE (X.blk s H scope (compEnvC scope cl C X.env) fp) B .sh nvX elt f) (hs : ∀ x, foldedSetIterable iter X.env x = pure x := by intro _; rfl) :
    JE X B .fr Wx (.ListComp elt [⟨tg, iter, ifs, 0⟩] scope pos) (bLc it t g f (own.map (·.2))) :=
  pe_imp (pe_lc (g := tG (cg X) B js t) (tt := tTest (tE (cg X) B .sh nvX g)) (te := tE (cg X) B .sh nvX f) hc hN hi ok hg ht he hs) fun _ _ _ q => tE_lc hj q
theorem asg_own {i : Nat} {D : Ends} {s : L2.St} {H : Hp} (hl : i < B.L) (q : tS (cg X) B fr Wx (sOwn i f) D s H) : tAsg (tE (cg X) B .fr Wx f) (gName i) D s H := by
  obtain ⟨O, r, st, w, e, R, q⟩ := tS_of (k := .fr) q
  refine ⟨O, r, st, w, e, R, q.mono ?_⟩
  rintro v H1 ⟨O1, r1, w0, d, st1, w1, rfl, R1, x1, ⟨_, R0⟩, rr, q1⟩
  obtain ⟨a, rfl, m, u, hb, ho, c⟩ := RR.fresh R0 rr
  exact q1 _ _ w1 (R1.putOwn hl m u hb ho c) (x1.wk R0.wf)
/-- x = e, e new, no dict: it is given away at once -/
theorem asg_set {i : Nat} {D : Ends} {s : L2.St} {H : Hp} (hl : i < B.L) (hf : ∀ r st ks ds st', f r st ≠ .ok (.dct ks ds) st') (q : tS (cg X) B fr Wx (sSet i f) D s H) : tAsg (tE (cg X) B .fr Wx f) (gName i) D s H := by
  have q' : tS (cg X) B fr Wx (fun r st => ofRs (f r st) r fun d st1 => match d with | .dct _ _ => .bad | d => .nx (r.set i (some (false, d))) st1) D s H := by
    obtain ⟨O, r, st, w, e, R, q⟩ := q
    refine ⟨O, r, st, w, e, R, ?_⟩
    unfold sSet at q
    cases z : f r st with
    | ok d st1 =>
      rw [z] at q
      cases d with
      | dct ks ds => exact absurd z (hf r st ks ds st1)
      | _ => simp only [z]; exact q
    | err _ _ _ => rw [z] at q; simp only [z]; exact q
    | bad => rw [z] at q; simp only [z]; exact q
  obtain ⟨O, r, st, w, e, R, q⟩ := tS_of (k := .fr) q'
  refine ⟨O, r, st, w, e, R, q.mono ?_⟩
  rintro v H1 ⟨O1, r1, w0, d, st1, w1, rfl, R1, x1, ⟨_, R0⟩, rr, q1⟩
  obtain ⟨a, rfl, m, u, hb, ho, c⟩ := RR.fresh R0 rr
  cases d with
  | dct ks ds => exact (show False from q1).elim
  | lst ds =>
    have R2 := (R1.fix hb u ho).put hl (c.give fun _ _ z => nomatch z)
    exact q1 _ _ (w1.fix a) R2 ((x1.wk R0.wf).trans (w1.fix_wk a))
  | _ => exact (show False from c).elim
theorem lcL_nd {t : Tg} {c e : Ev} {gs : Gd} {r : Env} {ks vs : List D} {st' : Sto} : ∀ {ds acc : List D} {st : Sto}, lcL t c e gs r ds acc st ≠ .ok (.dct ks vs) st'
  | [], acc, st => by
    unfold lcL
    split
    · intro h; cases h
    · intro h; cases h
  | d :: ds, acc, st => by
    unfold lcL
    split
    · split
      · intro h; cases h
      · split
        · split
          · split
            · exact lcL_nd
            · intro h; cases h
          · intro h; cases h
        · exact lcL_nd
        · intro h; cases h
    · intro h; cases h
theorem bLc_nd {c e : Ev} {vs : List Nat} {r : Env} {st : Sto} {ks ds : List D} {st' : Sto} : bLc it t c e vs r st ≠ .ok (.dct ks ds) st' := by
  unfold bLc
  split
  · exact lcL_nd
  · intro h; cases h
  · intro h; cases h
theorem js_ownLc {js : List Nat} {i : Nat} {y : Str} {py spos : Pos} {scope : Scope} {own : List (Str × Nat)} (hc : X.calm = true) (hN : X.N.Nodup) (hy : X.N[i]? = some y) (hyl : X.env.scope.names.lookup y = some .local) (hL : B.L = X.N.length)
    (hsw : swapsWith (.ListComp elt [⟨tg, iter, ifs, 0⟩] scope pos) (some (.Name y py)) spos.line X.env = pure true) (hi : JI X B Wx tg iter it) (ok : BlkOk X.N X.env.scope scope own) (hj : ∀ j ∈ js, j ∈ own.map (·.2))
    (hg : ∀ (s : Shared) (H : Hp) (C : Addr) (cl : List (Str × Addr)) (fp : List Addr), JG (X.blk s H scope (compEnvC scope cl C X.env) fp) B js tg t) (ht : ∀ (s : Shared) (H : Hp) (C : Addr) (cl : List (Str × Addr)) (fp : List Addr), JP (X.blk s H scope (compEnvC scope cl C X.env) fp) B ifs g)
    (he : ∀ (s : Shared) (H : Hp) (C : Addr) (cl : List (Str × Addr)) (fp : List Addr), JE (X.blk s H scope (compEnvC scope cl C X.env) fp) B .sh nvX elt f) (hs : ∀ x, foldedSetIterable iter X.env x = pure x := by intro _; rfl) :
    JS X B fr Wx (.Assign [.Name y py] (.ListComp elt [⟨tg, iter, ifs, 0⟩] scope pos) spos) (sOwn i (bLc it t g f (own.map (·.2)))) := by
  refine ps_imp (ps_setLc (g := tG (cg X) B js t) (tt := tTest (tE (cg X) B .sh nvX g)) (te := tE (cg X) B .sh nvX f) hc hN hy hyl hsw hi ok hg ht he hs) ?_
  intro D s H q
  exact tE_lc hj (asg_own (by rw [hL]; exact (List.getElem?_eq_some_iff.mp hy).1) q)
theorem js_setLc {js : List Nat} {i : Nat} {y : Str} {py spos : Pos} {scope : Scope} {own : List (Str × Nat)} (hc : X.calm = true) (hN : X.N.Nodup) (hy : X.N[i]? = some y) (hyl : X.env.scope.names.lookup y = some .local) (hL : B.L = X.N.length)
    (hsw : swapsWith (.ListComp elt [⟨tg, iter, ifs, 0⟩] scope pos) (some (.Name y py)) spos.line X.env = pure true) (hi : JI X B Wx tg iter it) (ok : BlkOk X.N X.env.scope scope own) (hj : ∀ j ∈ js, j ∈ own.map (·.2))
    (hg : ∀ (s : Shared) (H : Hp) (C : Addr) (cl : List (Str × Addr)) (fp : List Addr), JG (X.blk s H scope (compEnvC scope cl C X.env) fp) B js tg t) (ht : ∀ (s : Shared) (H : Hp) (C : Addr) (cl : List (Str × Addr)) (fp : List Addr), JP (X.blk s H scope (compEnvC scope cl C X.env) fp) B ifs g)
    (he : ∀ (s : Shared) (H : Hp) (C : Addr) (cl : List (Str × Addr)) (fp : List Addr), JE (X.blk s H scope (compEnvC scope cl C X.env) fp) B .sh nvX elt f) (hs : ∀ x, foldedSetIterable iter X.env x = pure x := by intro _; rfl) :
    JS X B fr Wx (.Assign [.Name y py] (.ListComp elt [⟨tg, iter, ifs, 0⟩] scope pos) spos) (sSet i (bLc it t g f (own.map (·.2)))) := by
  refine ps_imp (ps_setLc (g := tG (cg X) B js t) (tt := tTest (tE (cg X) B .sh nvX g)) (te := tE (cg X) B .sh nvX f) hc hN hy hyl hsw hi ok hg ht he hs) ?_
  intro D s H q
  exact tE_lc hj (asg_set (by rw [hL]; exact (List.getElem?_eq_some_iff.mp hy).1) (fun _ _ _ _ _ => bLc_nd) q)
end
end Sm

/-! Sim10: stores into lists, defs, raise, built-ins. -/
namespace Sm
open PySem L2
section
variable {G : Cfg} {B : Bs} {O : Nat → Option Addr} {r : Env} {st : Sto} {s : L2.St} {w : Wd}
theorem nodup_at {α : Type} : ∀ {l : List α} {i j : Nat} {a : α}, l.Nodup → l[i]? = some a → l[j]? = some a → i = j
  | x :: l, 0, 0, a, _, _, _ => rfl
  | x :: l, 0, j + 1, a, h, e1, e2 => by
    simp at e1; subst e1
    exact absurd (List.mem_of_getElem? (by simpa using e2)) (List.nodup_cons.mp h).1
  | x :: l, i + 1, 0, a, h, e1, e2 => by
    simp at e2; subst e2
    exact absurd (List.mem_of_getElem? (by simpa using e1)) (List.nodup_cons.mp h).1
  | x :: l, i + 1, j + 1, a, h, e1, e2 => by
    exact congrArg (· + 1) (nodup_at (List.nodup_cons.mp h).2 (by simpa using e1) (by simpa using e2))
theorem Ext.chgU {w0 w : Wd} {p : Addr} {o : HO} (x : Ext w0 w) (n : w0.H p = none ∨ p ∈ w0.u) : Ext w0 (w.chg p o) := by
  refine ⟨fun a h u => ?_, x.mt, x.mn, x.mu, fun a h => ?_⟩
  · have ne : a ≠ p := fun e => by
      rcases n with n | n
      · exact h (by rw [e]; exact n)
      · exact u (by rw [e]; exact n)
    exact (upd_ne ne).trans (x.hk a h u)
  · show upd w.H p o a ≠ none
    by_cases e : a = p
    · subst e; rw [upd_same]; simp
    · rw [upd_ne e]; exact x.hh a h
/-- one's own thing is changed -/
theorem Rel.chgOwn {i : Nat} {d0 d : D} {a : Addr} {o : HO} (R : Rel G B O r st s w) (e : r i = some (true, d0)) (oi : O i = some a) (c : RC G (w.chg a o) a d) : Rel G B O (r.set i (some (true, d))) st s (w.chg a o) := by
  obtain ⟨m, u, hb⟩ := R.own i a oi
  have k := Wd.chg_wk (o := o) m
  refine ⟨Wd.chg_wf R.wf, R.wb, R.base.chg hb, R.ln, R.sto.chg m u, R.own, R.inj, fun j => ?_⟩
  have q := R.env j
  by_cases z : j = i
  · subst z
    rw [e] at q
    obtain ⟨a', o1, e1, _⟩ := q
    rw [oi] at o1
    cases o1
    rw [Env.set_same]
    exact ⟨a, oi, e1, c⟩
  · rw [Env.set_ne z]
    exact q.wk k fun b ob => upd_ne fun eb => z (R.inj j i a (by rw [← eb]; exact ob) oi)
/-- a thing of the store is changed -/
theorem Rel.chgSto {n : Nat} {so0 so : SO} {a : Addr} {o : HO} (R : Rel G B O r st s w) (e : st[n]? = some so0) (ea : w.u[n]? = some a) (c : RSO G (w.chg a o) a so) : Rel G B O r (st.set n so) s (w.chg a o) := by
  have mu := List.mem_of_getElem? ea
  have m := R.wf.um a mu
  have k := Wd.chg_wk (o := o) m
  have hb : B.H a = none ∨ a ∈ B.u := by
    obtain ⟨q, e2, fr⟩ := R.base.mu
    rw [e2] at mu
    rcases List.mem_append.mp mu with z | z
    · exact .inr z
    · exact .inl (fr a z)
  refine ⟨Wd.chg_wf R.wf, R.wb, R.base.chgU hb, R.ln, ⟨by rw [List.length_set]; exact R.sto.len, fun j oj b h1 h2 => ?_⟩, R.own, R.inj, fun j => (R.env j).wk k fun b ob => upd_ne fun eb => (R.own j b ob).2.1 (by rw [eb]; exact mu)⟩
  by_cases z : j = n
  · subst z
    have h2 : w.u[j]? = some b := h2
    rw [ea] at h2; cases h2
    rw [List.getElem?_set_self (List.getElem?_eq_some_iff.mp e).1] at h1
    cases h1
    exact c
  · rw [List.getElem?_set_ne (Ne.symm z)] at h1
    have h2 : w.u[j]? = some b := h2
    refine RSO.wk k (upd_ne fun eb => z ?_) (R.sto.at_ j oj b h1 h2)
    rw [eb] at h2
    exact nodup_at R.wf.nd h2 ea
end

/-! ### own lists -/
def sApp (i : Nat) (f : Ev) : Sv := fun r st => match r i with
  | some (true, .lst ds) => ofRs (f r st) r fun d st1 => if ds.length < LIM then .nx (r.set i (some (true, .lst (ds ++ [d])))) st1 else .bad
  | _ => .bad
def putL (ds : List D) (j d : D) (k : List D → Rt) : Rt := match j with
  | .int z => (match ixN ds.length z with
    | some n => k (ds.set n d)
    | none => .bad)
  | _ => .bad
def sPut (i : Nat) (g f : Ev) : Sv := fun r st => ofRs (f r st) r fun d st1 => match r i with
  | some (true, .lst ds) => ofRs (g r st1) r fun j st2 => putL ds j d fun es => .nx (r.set i (some (true, .lst es))) st2
  | _ => .bad
def putR (r : Env) (st : Sto) (o j d : D) : Rt := match o with
  | .ref n => (match st[n]? with
    | some (.lst ds) => putL ds j d fun es => .nx r (st.set n (.lst es))
    | _ => .bad)
  | _ => .bad
/-- a list of the store: p[j] = d -/
def sPutR (p g f : Ev) : Sv := fun r st => ofRs (f r st) r fun d st1 => ofRs (p r st1) r fun o st2 => ofRs (g r st2) r fun j st3 => putR r st3 o j d
section
variable {X : Cx} {B : Bs} {k : Kd} {fr : Bool} {Wx : WX} {a b c tg iter e elt : Expr} {es ifs : List Expr} {fs : List Ev} {f g h : Ev} {pos : Pos} {st1 st2 : Stmt} {rest body : List Stmt} {F F' : Sv} {t : Tg} {ts : List Tg} {it : Iv}
theorem js_app {i : Nat} {x : Str} {p apos cpos : Pos} (hN : X.N[i]? = some x) (hv : Vis X.env.scope x) (ha : JA X B .sh Wx [a] [f]) (hd : (x == ("__debug__" : Str)) = false := by decide) (hcd : (x == ("__classdict__" : Str)) = false := by decide)
    (hbase : attributeBase (.Name x p) "append" X.env (eval (.Name x p) X.env) = eval (.Name x p) X.env := by rfl)
    (hfew : ((backTo cpos (starEach [a] X.env)).all (fun x => !x.1) && (backToKw cpos (keywordEach [] X.env)).all (fun x => x.1.isSome) && decide ([a].length + ([] : List Keyword).length + (if ([] : List Keyword).isEmpty then 0 else 1) < 30)) = true := by rfl)
    (hline : (apos.endLine == cpos.line) = true := by rfl) (hst : starEach [a] X.env = (false, eval a X.env) :: starEach [] X.env := by rfl) (hplain : (backTo cpos (starEach [] X.env)).any (·.1) = false := by rfl)
    (hs : swapsWith (.Call (.Attribute (.Name x p) "append" apos) [a] [] cpos) none pos.line X.env = pure false := by rfl) :
    JS X B fr Wx (.Expr (.Call (.Attribute (.Name x p) "append" apos) [a] [] cpos) pos) (sApp i f) := by
  refine ps_imp (ps_expr (pe_bm PySem.F.plainAttrs_list PySem.F.slot_list_append PySem.F.type_list_append mt_append (pe_var (pos := p) hN hv hd hcd) ha hbase hfew hline hst hplain) hs) ?_
  rintro D s H ⟨O, r, st, w, rfl, R, q⟩
  have en := R.env i
  unfold sApp at q
  cases z : r i with
  | none => rw [z] at q; exact q.elim
  | some bd =>
    obtain ⟨bb, d0⟩ := bd
    cases bb with
    | false => rw [z] at q; exact (show False from q).elim
    | true =>
      cases d0 with
      | lst ds =>
        rw [z] at q en
        obtain ⟨al, oi, es, c⟩ := en
        obtain ⟨vs, hl, rs⟩ := c
        have own := R.own i al oi
        refine ⟨.ref al, es, .inl ⟨rfl, vs, .of hl⟩, O, r, st, w, rfl, R, ?_⟩
        simp only [evs]
        cases zf : f r st with
        | ok d st1 =>
          simp only [zf] at q
          intro w1 us R1 x1 rr
          obtain ⟨v, vr, rfl, rv, ev⟩ := rr
          have ev : vr = [] := ev
          subst ev
          have hl1 : w1.H al = some (.lst vs) := (x1.hk al (by rw [hl]; simp) own.2.1).trans hl
          have own1 := R1.own i al oi
          by_cases hz : ds.length < LIM
          · have q' : postS (cg X) B fr Wx w (.nx (r.set i (some (true, .lst (ds ++ [d])))) st1) D := by
              have q0 := q
              simp only [ofRs, if_pos hz] at q0
              exact q0
            have lm := LIM_le
            have rl := rs.length
            refine ⟨al, vs, v, rfl, rfl, hl1, by omega, ?_⟩
            have m1 : w1.M al := own1.1
            refine q' O s (w1.chg al (.lst (vs ++ [v]))) (R1.chgOwn z oi ⟨_, upd_same, ?_⟩) ((x1.wk R.wf).trans (Wd.chg_wk m1))
            exact RDs.append (RDs.wk ((x1.wk R.wf).trans (Wd.chg_wk m1)) _ _ rs) (RDs.one (RD.wk (Wd.chg_wk m1) _ _ rv))
          · simp only [ofRs, if_neg hz] at q
            exact q.elim
        | err cc aa st1 => simp only [zf] at q; exact fun w' cls dd R' x' rx => q O s w' cls dd R' rx
        | bad => simp only [zf] at q; exact q.elim
      | _ => rw [z] at q; exact (show False from q).elim
theorem js_put {i : Nat} {x : Str} {p tp : Pos} (hN : X.N[i]? = some x) (hv : Vis X.env.scope x) (he : JE X B .sh Wx a f) (hb : JE X B .bo Wx b g) (hd : (x == ("__debug__" : Str)) = false := by decide) (hcd : (x == ("__classdict__" : Str)) = false := by decide)
    (hA : ∀ v, assign (.Subscript (.Name x p) b tp) X.env v = (do
      let ov ← holding [v] (eval (.Name x p) X.env)
      let iv ← holding [v, ov] (eval b X.env)
      standAt tp
      holding [v, ov, iv] (setItem ov iv v)
      release [v, ov, iv] []) := by intro _; rfl)
    (hs : swapsWithSole [.Subscript (.Name x p) b tp] a pos.line X.env = pure false := by rfl) (hw : swappedStores [.Subscript (.Name x p) b tp] a X.env = pure none := by rfl) (h1 : (assignEach [.Subscript (.Name x p) b tp] X.env).map (·.2) = [assign (.Subscript (.Name x p) b tp) X.env] := by rfl) :
    JS X B fr Wx (.Assign [.Subscript (.Name x p) b tp] a pos) (sPut i g f) := by
  refine ps_imp (ps_asg he (pg_sub (pe_var (pos := p) hN hv hd hcd) hb set_list hA) hs hw h1) ?_
  intro D s H q
  obtain ⟨O, r, st, w, e, R, q⟩ := tS_of (k := .sh) q
  refine ⟨O, r, st, w, e, R, q.mono ?_⟩
  rintro v H1 ⟨O1, r1, w0, d, st1, w1, rfl, R1, x1, ⟨_, R0⟩, rr, q1⟩
  have en := R1.env i
  cases z : r1 i with
  | none => rw [z] at q1; exact q1.elim
  | some bd =>
    obtain ⟨bb, d0⟩ := bd
    cases bb with
    | false => rw [z] at q1; exact (show False from q1).elim
    | true =>
      cases d0 with
      | lst ds =>
        rw [z] at q1 en
        obtain ⟨al, oi, es, vs, hl, rs⟩ := en
        have q2 : postS (cg X) B fr Wx w0 (ofRs (g r1 st1) r1 fun j st2 => putL ds j d fun es => .nx (r1.set i (some (true, .lst es))) st2) D := q1
        refine ⟨.ref al, es, O1, r1, st1, w1, rfl, R1, ?_⟩
        cases zg : g r1 st1 with
        | ok j st2 =>
          rw [zg] at q2
          intro w2 u R2 x2 rj
          have own1 := R1.own i al oi
          have own2 := R2.own i al oi
          have hl2 : w2.H al = some (.lst vs) := (x2.hk al (by rw [hl]; simp) own1.2.1).trans hl
          cases j with
          | int zz =>
            have q3 : postS (cg X) B fr Wx w0 (putL ds (.int zz) d fun es => .nx (r1.set i (some (true, .lst es))) st2) D := q2
            unfold putL at q3
            cases zn : ixN ds.length zz with
            | none => simp only [zn] at q3; exact q3.elim
            | some n =>
              simp only [zn] at q3
              have rl := rs.length
              refine ⟨al, vs, zz, n, rfl, rj.int, hl2, by rw [← rl]; exact zn, ?_⟩
              have m2 := own2.1
              refine q3 O1 s (w2.chg al (.lst (vs.set n v))) (R2.chgOwn z oi ⟨_, upd_same, ?_⟩) (((x1.wk R0.wf).trans (x2.wk R1.wf)).trans (Wd.chg_wk m2))
              exact RDs.set (RD.wk ((x2.wk R1.wf).trans (Wd.chg_wk m2)) _ _ rr) n (RDs.wk ((x2.wk R1.wf).trans (Wd.chg_wk m2)) _ _ rs)
          | _ => exact (show False from q2).elim
        | err cc aa st2 => rw [zg] at q2; exact fun w' cls dd R' x' rx => q2 O1 s w' cls dd R' rx
        | bad => rw [zg] at q2; exact q2.elim
      | _ => rw [z] at q1; exact (show False from q1).elim
theorem js_putR {tp : Pos} (he : JE X B .sh Wx a f) (ho : JE X B .sh Wx c h) (hb : JE X B .bo Wx b g)
    (hA : ∀ v, assign (.Subscript c b tp) X.env v = (do
      let ov ← holding [v] (eval c X.env)
      let iv ← holding [v, ov] (eval b X.env)
      standAt tp
      holding [v, ov, iv] (setItem ov iv v)
      release [v, ov, iv] []) := by intro _; rfl)
    (hs : swapsWithSole [.Subscript c b tp] a pos.line X.env = pure false := by rfl) (hw : swappedStores [.Subscript c b tp] a X.env = pure none := by rfl) (h1 : (assignEach [.Subscript c b tp] X.env).map (·.2) = [assign (.Subscript c b tp) X.env] := by rfl) :
    JS X B fr Wx (.Assign [.Subscript c b tp] a pos) (sPutR h g f) := by
  refine ps_imp (ps_asg he (pg_sub ho hb set_list hA) hs hw h1) ?_
  intro D s H q
  obtain ⟨O, r, st, w, e, R, q⟩ := tS_of (k := .sh) q
  refine ⟨O, r, st, w, e, R, q.mono ?_⟩
  rintro v H1 ⟨O1, r1, w0, d, st1, w1, rfl, R1, x1, ⟨_, R0⟩, rr, q1⟩
  refine ⟨O1, r1, st1, w1, rfl, R1, ?_⟩
  cases zo : h r1 st1 with
  | ok o st2 =>
    rw [zo] at q1
    intro w2 vo R2 x2 ro
    refine ⟨O1, r1, st2, w2, rfl, R2, ?_⟩
    have q2 : postS (cg X) B fr Wx w0 (ofRs (g r1 st2) r1 fun j st3 => putR r1 st3 o j d) D := q1
    cases zg : g r1 st2 with
    | ok j st3 =>
      rw [zg] at q2
      intro w3 u R3 x3 rj
      cases o with
      | ref n =>
        have ro3 : RD (cg X) w3 (.ref n) vo := RD.wk (x3.wk R2.wf) _ _ ro
        cases zs : st3[n]? with
        | none => simp only [ofRs, putR, zs] at q2; exact q2.elim
        | some so =>
          cases so with
          | lst ds =>
            obtain ⟨al, rfl, ea, c⟩ := R3.sto.ref ro3 zs
            obtain ⟨vs, hl, rs⟩ := c
            cases j with
            | int zz =>
              have q3 : postS (cg X) B fr Wx w0 (putL ds (.int zz) d fun es => .nx r1 (st3.set n (.lst es))) D := by
                have q0 := q2
                simp only [ofRs, putR, zs] at q0
                exact q0
              unfold putL at q3
              cases zn : ixN ds.length zz with
              | none => simp only [zn] at q3; exact q3.elim
              | some m =>
                simp only [zn] at q3
                have rl := rs.length
                refine ⟨al, vs, zz, m, rfl, rj.int, hl, by rw [← rl]; exact zn, ?_⟩
                have m3 := R3.wf.um al (List.mem_of_getElem? ea)
                have x13 := x2.trans x3
                refine q3 O1 s (w3.chg al (.lst (vs.set m v))) (R3.chgSto zs ea ⟨_, upd_same, ?_⟩) (((x1.wk R0.wf).trans (x13.wk R1.wf)).trans (Wd.chg_wk m3))
                exact RDs.set (RD.wk ((x13.wk R1.wf).trans (Wd.chg_wk m3)) _ _ rr) m (RDs.wk (Wd.chg_wk m3) _ _ rs)
            | _ => simp only [ofRs, putR, zs, putL] at q2; exact q2.elim
          | _ => simp only [ofRs, putR, zs] at q2; exact q2.elim
      | _ => exact (show False from q2).elim
    | err cc aa st3 => rw [zg] at q2; exact fun w' cls dd R' x' rx => q2 O1 s w' cls dd R' rx
    | bad => rw [zg] at q2; exact q2.elim
  | err cc aa st2 => rw [zo] at q1; exact fun w' cls dd R' x' rx => q1 O1 s w' cls dd R' rx
  | bad => rw [zo] at q1; exact q1.elim
end
end Sm

/-! Sim11: a def by its body; raise; built-ins; enumerate, zip. -/
namespace Sm
open PySem L2
def argEnv (ds : List D) : Env := fun i => match ds[i]? with | some d => some (false, d) | none => none
def mkF (fr : Bool) (F : Sv) : Fn := fun ds st => match F (argEnv ds) st with
  | .nx _ st' => if fr = true then .bad else .ok .non st'
  | .rt d st' => .ok d st'
  | .err c a _ st' => .err c a st'
  | _ => .bad
theorem start_rel {G : Cfg} {w : Wd} {ds : List D} {vs : List V} {N : List Str} {st : Sto} (F : RelF G st w) (r : RDs G w ds vs) (hl : vs.length ≤ N.length) : Rel G ⟨w, N.length⟩ (fun _ => none) (argEnv ds) st (L2.start N vs) w := by
  refine ⟨F.wf, F.wf, Ext.refl w, ?_, F.sto, fun i a e => (by cases e), fun i j a e => (by cases e), fun i => ?_⟩
  · unfold L2.start
    rw [List.length_append, List.length_map, List.length_replicate]
    show vs.length + (N.length - vs.length) = N.length
    omega
  · unfold argEnv
    cases e : ds[i]? with
    | none => exact rfl
    | some d =>
      obtain ⟨v, e1, e2⟩ := r.get e
      refine ⟨rfl, v, ?_, e2⟩
      unfold L2.start
      rw [List.getElem?_append_left (by simpa using (List.getElem?_eq_some_iff.mp e1).1), List.getElem?_map, e1]
      rfl
theorem fj_of {P : Program} {w : World} {K : PySem.W.Frag} {mg : Str → Option Value} {base : Heap} {x qual : Str} {st : Stmt} {fA : Addr} {fd : FuncData} {N ps : List Str} {j n : Nat} {fr : Bool} {F : Sv} (U : Fun K x qual st fA fd) (S : FnScope N ps (defScope st)) (hn : ps.length = n)
    (hb : ∀ (cdv : Value) (A : Around) (outer : List PySem.Env) (s : Shared) (H : Hp) (E : XK) (B : Bs), Room j (A.deeper (PyProof.Rows.envOfC qual (defScope st) s.heap.objs.size fA cdv)) → B.L = N.length →
      Takes (cxOf (L2.CX P w) P w K mg base N qual (defScope st) fA cdv A outer s H E) (fun cls dd _ H => E cls dd H) →
      JSs (cxOf (L2.CX P w) P w K mg base N qual (defScope st) fA cdv A outer s H E) B fr (fun cls dd _ H => E cls dd H) (defBody st) F) :
    FnOk P w K mg base (L2.CX P w) (j + 1) fA fd ps (spF ⟨K, mg, P, w⟩ n fr (mkF fr F)) := by
  subst hn
  refine U.okX S (fun vs H Q E h => h.1) fun cdv A outer s H vs Q E hr h => ?_
  obtain ⟨hl, wd, ds, sto, rfl, RF, rds, q⟩ := h
  have hpl : ps.length ≤ N.length := by have := congrArg List.length S.pre; rw [List.length_take] at this; omega
  refine ⟨_, hb cdv A outer s wd.H E ⟨wd, N.length⟩ hr rfl (takes_of rfl rfl rfl rfl), ?_⟩
  refine ⟨fun _ => none, argEnv ds, sto, wd, rfl, start_rel RF rds (by omega), ?_⟩
  unfold mkF at q
  cases z : F (argEnv ds) sto with
  | nx r st' =>
    rw [z] at q
    cases fr with
    | true => exact (show False from q).elim
    | false => exact fun O s w' R k => q w' .non R.toF R.base (by rw [if_neg (by simp)]; exact rdN)
  | rt d st' =>
    rw [z] at q
    exact fun w' v F' x rr => q w' v F' x rr
  | err c a r st' =>
    rw [z] at q
    exact fun O s w' cls dd R rx => q w' cls dd R.toF R.base rx
  | bk r st' => rw [z] at q; exact q.elim
  | ct r st' => rw [z] at q; exact q.elim
  | bad => rw [z] at q; exact q.elim

def sRaise (c : Str) : Sv := fun r st => .err c none r st
section
variable {X : Cx} {B : Bs} {k : Kd} {fr : Bool} {Wx : WX} {a b c tg iter e elt : Expr} {es ifs : List Expr} {fs : List Ev} {f g h : Ev} {pos : Pos} {st1 st2 : Stmt} {rest body : List Stmt} {F F' : Sv} {t : Tg} {ts : List Tg} {it : Iv}
theorem js_raise {x m : Str} {j : Nat} {p p2 p3 : Pos} {C : Addr} {bmB : List Value} {B0 newId initId : String} (hc : X.calm = true) (tk : Takes X Wx) (Fx : ExcBaseFacts B0 newId initId bmB) (q : PySem.W.excIn X.K C bmB newId = true) (gC : X.mg x = some (.ref C)) (kC : PySem.W.keepIn X.K (.ref C) = true)
    (bP : PySem.W.subIn X.K (.ref C) (.type "BaseException") = some true) (tP : PySem.W.typeIn X.K (.ref C) = some (.type "type")) (hg : Gl X x) (hdb : (x == ("__debug__" : Str)) = false := by decide) :
    JS X B fr Wx (.Raise (some (.Call (.Name x p) [.Constant (.str m) j p2] [] p3)) none pos) (sRaise x) := by
  refine ps_imp (ps_raise hc tk (pmk_own Fx q gC kC (raises_own bP tP) hg hdb)) ?_
  rintro D s H ⟨O, r, st, w, rfl, R, q⟩
  exact q O s w (.ref C) none R ⟨C, gC, rfl, rfl⟩

/-! ### built-ins -/
def RQs (G : Cfg) (w : Wd) : List D → List V → Prop
  | [], vs => vs = []
  | d :: ds, vs => ∃ v r, vs = v :: r ∧ RQ G w d v ∧ RQs G w ds r
theorem RRs.q {G : Cfg} {O : Nat → Option Addr} {w : Wd} : ∀ {ds : List D} {vs : List V}, RRs G .bo O w ds vs → RQs G w ds vs
  | [], vs, h => h
  | d :: ds, vs, h => by
    obtain ⟨v, r, e, h1, h2⟩ := h
    exact ⟨v, r, e, h1.q, RRs.q h2⟩
theorem RQs.one {G : Cfg} {w : Wd} {d : D} {vs : List V} (h : RQs G w [d] vs) : ∃ v, vs = [v] ∧ RQ G w d v := by
  obtain ⟨v, r, rfl, h1, h2⟩ := h
  have h2 : r = [] := h2
  subst h2
  exact ⟨v, rfl, h1⟩
theorem RQs.two {G : Cfg} {w : Wd} {d e : D} {vs : List V} (h : RQs G w [d, e] vs) : ∃ v u, vs = [v, u] ∧ RQ G w d v ∧ RQ G w e u := by
  obtain ⟨v, r, rfl, h1, h2⟩ := h
  obtain ⟨u, rfl, h3⟩ := RQs.one h2
  exact ⟨v, u, rfl, h1, h3⟩
def SemC (X : Cx) (B : Bs) (k : Kd) (Wx : WX) (F : List D → Sto → Rs) (r : List V → Hp → VK → Prop) : Prop :=
  ∀ (O : Nat → Option Addr) (e : Env) (s : L2.St) (w0 w : Wd) (ds : List D) (vs : List V) (st : Sto) (Q : VK), Rel (cg X) B O e st s w → Ext w0 w → RQs (cg X) w ds vs →
    post (cg X) B k Wx O e s w0 (F ds st) Q → r vs w.H Q
theorem tE_cb {F : List D → Sto → Rs} {r : List V → Hp → VK → Prop} (sem : SemC X B k Wx F r) {s : L2.St} {H : Hp} {Q : VK} (q : tE (cg X) B k Wx (bCall F fs) s H Q) : tCB r (tA (cg X) B .bo Wx fs) s H Q := by
  obtain ⟨O, e, st, w, rfl, R, q⟩ := q
  refine ⟨O, e, st, w, rfl, R, ?_⟩
  have q' := postL.bind (k1 := .bo) q
  cases z : evs fs e st with
  | ok ds st1 =>
    rw [z] at q'
    intro w1 vs R1 x1 rr1
    obtain ⟨ds', st', w', e1, R', x', rr', e2, q2⟩ := q' w1 vs R1 x1 rr1
    cases e2
    exact sem O e s w w1 ds vs st1 Q R1 x1 rr1.q q2
  | err c a st1 => rw [z] at q'; exact q'
  | bad => rw [z] at q'; exact q'.elim
structure JB (X : Cx) (B : Bs) (k : Kd) (Wx : WX) (v : Value) (F : List D → Sto → Rs) : Prop where
  ex : ∃ r, CallR X v r ∧ SemC X B k Wx F r
theorem je_bt {id : String} {F : List D → Sto → Rs} {x : Str} {p : Pos} (j : JB X B k Wx (.builtin id) F) (hg : Gl X x) (hm : X.mg x = none) (hv : bootBuiltins x = some (.builtin id)) (ha : JA X B .bo Wx (a :: es) fs) (hn : x ≠ "__name__" := by decide) (hdb : (x == ("__debug__" : Str)) = false := by decide)
    (he : starEach (a :: es) X.env = (false, eval a X.env) :: starEach es X.env := by rfl) (hpl : (backTo pos (starEach es X.env)).any (·.1) = false := by rfl) : JE X B k Wx (.Call (.Name x p) (a :: es) [] pos) (bCall F fs) :=
  let ⟨_, h1, h2⟩ := j.ex; pe_imp (pe_callB h1 hg hm hv ha hn hdb he hpl) fun _ _ _ q => tE_cb h2 q
theorem je_ty {T : String} {F : List D → Sto → Rs} {x : Str} {p : Pos} (j : JB X B k Wx (.type T) F) (hg : Gl X x) (hm : X.mg x = none) (hv : bootBuiltins x = some (.type T)) (ha : JA X B .bo Wx (a :: es) fs) (hn : x ≠ "__name__" := by decide) (hdb : (x == ("__debug__" : Str)) = false := by decide)
    (he : starEach (a :: es) X.env = (false, eval a X.env) :: starEach es X.env := by rfl) (hpl : (backTo pos (starEach es X.env)).any (·.1) = false := by rfl) : JE X B k Wx (.Call (.Name x p) (a :: es) [] pos) (bCall F fs) :=
  let ⟨_, h1, h2⟩ := j.ex; pe_imp (pe_callTy h1 hg hm hv ha hn hdb he hpl) fun _ _ _ q => tE_cb h2 q
theorem RRs.one {G : Cfg} {O : Nat → Option Addr} {w : Wd} {k : Kd} {d : D} {vs : List V} (h : RRs G k O w [d] vs) : ∃ v, vs = [v] ∧ RR G k O w w d v := by
  obtain ⟨v, r, rfl, h1, h2⟩ := h
  have h2 : r = [] := h2
  subst h2
  exact ⟨v, rfl, h1⟩
theorem RRs.two {G : Cfg} {O : Nat → Option Addr} {w : Wd} {k : Kd} {d e : D} {vs : List V} (h : RRs G k O w [d, e] vs) : ∃ v u, vs = [v, u] ∧ RR G k O w w d v ∧ RR G k O w w e u := by
  obtain ⟨v, r, rfl, h1, h2⟩ := h
  obtain ⟨u, rfl, h3⟩ := RRs.one h2
  exact ⟨v, u, rfl, h1, h3⟩
def fLen : List D → Sto → Rs
  | [.lst ds], st => .ok (.int (ds.length : Int)) st
  | [.tup ds], st => .ok (.int (ds.length : Int)) st
  | [.str x], st => if x.length ≤ LIM then .ok (.int (x.length : Int)) st else .bad
  | _, _ => .bad
theorem jb_len : JB X B .sh Wx (.builtin "len") fLen := ⟨_, call_len, by
  intro O e s w0 w ds vs st Q R xt rr q
  cases ds with
  | nil => exact (show False from q).elim
  | cons d ds1 =>
   cases ds1 with
   | cons _ _ => first | exact (show False from q).elim | (cases d <;> exact (show False from q).elim)
   | nil =>
    obtain ⟨v, rfl, h⟩ := RQs.one rr
    cases d with
    | lst ds =>
      obtain ⟨a, us, rfl, t, r⟩ := h.lst
      refine ⟨_, us.length, rfl, .inl ⟨us, .of t, rfl⟩, ?_⟩
      rw [← r.length]
      exact post.val R xt q rdI
    | tup ds =>
      obtain ⟨a, us, rfl, t, r⟩ := h.tup
      refine ⟨_, us.length, rfl, .inr ⟨us, t, rfl⟩, ?_⟩
      rw [← r.length]
      exact post.val R xt q rdI
    | str x =>
      by_cases hz : x.length ≤ LIM
      · have lm := LIM_le
        simp only [fLen, if_pos hz] at q
        rw [h.str]
        exact ⟨_, x.length, rfl, ⟨by omega, rfl⟩, post.val R xt q rdI⟩
      · simp only [fLen, if_neg hz] at q
        exact q.elim
    | _ => exact (show False from q).elim⟩
def blsOf : List D → Option (List Bool)
  | [] => some []
  | .bl b :: ds => (blsOf ds).map (b :: ·)
  | _ :: _ => none
def intsOf : List D → Option (List Int)
  | [] => some []
  | .int b :: ds => (intsOf ds).map (b :: ·)
  | _ :: _ => none
theorem bls_rds {G : Cfg} {w : Wd} : ∀ {ds : List D} {bs : List Bool} {vs : List V}, blsOf ds = some bs → RDs G w ds vs → vs = bs.map V.bl
  | [], bs, vs, e, r => by
    cases e; unfold RDs at r; exact r
  | d :: ds, bs, vs, e, r => by
    unfold RDs at r
    obtain ⟨v, vr, rfl, h1, h2⟩ := r
    cases d with
    | bl b =>
      have e : (blsOf ds).map (b :: ·) = some bs := e
      cases z : blsOf ds with
      | none => rw [z] at e; cases e
      | some cs =>
        rw [z] at e
        cases e
        unfold RD at h1
        rw [h1, bls_rds z h2]
        rfl
    | _ => cases e
theorem ints_rds {G : Cfg} {w : Wd} : ∀ {ds : List D} {bs : List Int} {vs : List V}, intsOf ds = some bs → RDs G w ds vs → vs = bs.map V.int
  | [], bs, vs, e, r => by
    cases e; unfold RDs at r; exact r
  | d :: ds, bs, vs, e, r => by
    unfold RDs at r
    obtain ⟨v, vr, rfl, h1, h2⟩ := r
    cases d with
    | int b =>
      have e : (intsOf ds).map (b :: ·) = some bs := e
      cases z : intsOf ds with
      | none => rw [z] at e; cases e
      | some cs =>
        rw [z] at e
        cases e
        unfold RD at h1
        rw [h1, ints_rds z h2]
        rfl
    | _ => cases e
def fAll : List D → Sto → Rs
  | [.lst ds], st => match blsOf ds with | some bs => .ok (.bl (bs.all id)) st | none => .bad
  | _, _ => .bad
def fAny : List D → Sto → Rs
  | [.lst ds], st => match blsOf ds with | some bs => .ok (.bl (bs.any id)) st | none => .bad
  | _, _ => .bad
theorem jb_all (hc : X.calm = true) : JB X B .sh Wx (.builtin "all") fAll := ⟨_, cr_all hc, by
  intro O e s w0 w ds vs st Q R xt rr q
  cases ds with
  | nil => exact (show False from q).elim
  | cons d ds1 =>
   cases ds1 with
   | cons _ _ => first | exact (show False from q).elim | (cases d <;> exact (show False from q).elim)
   | nil =>
    obtain ⟨v, rfl, h⟩ := RQs.one rr
    cases d with
    | lst ds =>
      obtain ⟨a, us, rfl, t, r⟩ := h.lst
      cases z : blsOf ds with
      | none => simp only [fAll, z] at q; exact q.elim
      | some bs =>
        simp only [fAll, z] at q
        exact ⟨a, bs, rfl, .of (by rw [← bls_rds z r]; exact t), post.val R xt q rdB⟩
    | _ => exact (show False from q).elim⟩
theorem jb_any (hc : X.calm = true) : JB X B .sh Wx (.builtin "any") fAny := ⟨_, cr_any hc, by
  intro O e s w0 w ds vs st Q R xt rr q
  cases ds with
  | nil => exact (show False from q).elim
  | cons d ds1 =>
   cases ds1 with
   | cons _ _ => first | exact (show False from q).elim | (cases d <;> exact (show False from q).elim)
   | nil =>
    obtain ⟨v, rfl, h⟩ := RQs.one rr
    cases d with
    | lst ds =>
      obtain ⟨a, us, rfl, t, r⟩ := h.lst
      cases z : blsOf ds with
      | none => simp only [fAny, z] at q; exact q.elim
      | some bs =>
        simp only [fAny, z] at q
        exact ⟨a, bs, rfl, .of (by rw [← bls_rds z r]; exact t), post.val R xt q rdB⟩
    | _ => exact (show False from q).elim⟩
def fTuple : List D → Sto → Rs
  | [.lst ds], st => .ok (.tup ds) st
  | [.tup ds], st => .ok (.tup ds) st
  | _, _ => .bad
theorem jb_tuple : JB X B .sh Wx (.type "tuple") fTuple := ⟨_, call_tuple_of, by
  intro O e s w0 w ds vs st Q R xt rr q
  cases ds with
  | nil => exact (show False from q).elim
  | cons d ds1 =>
   cases ds1 with
   | cons _ _ => first | exact (show False from q).elim | (cases d <;> exact (show False from q).elim)
   | nil =>
    obtain ⟨v, rfl, h⟩ := RQs.one rr
    cases d with
    | lst ds =>
      obtain ⟨a, us, rfl, t, r⟩ := h.lst
      exact ⟨a, us, rfl, .inl ⟨.of t, fun l hl => post.new R xt q hl fun w' i k => rdT i (RDs.wk k _ _ r)⟩⟩
    | tup ds =>
      have h0 := h
      obtain ⟨a, us, rfl, t, r⟩ := h.tup
      refine ⟨a, us, rfl, .inr ⟨t, post.val R xt q ?_⟩⟩
      rcases h0 with h | ⟨_, _, c⟩
      · exact h
      · exact (show False from c).elim
    | _ => exact (show False from q).elim⟩
def fList : List D → Sto → Rs
  | [.lst ds], st => .ok (.lst ds) st
  | [.tup ds], st => .ok (.lst ds) st
  | [.frg ds], st => .ok (.lst ds) st
  | _, _ => .bad
theorem jb_list : JB X B .fr Wx (.type "list") fList := ⟨_, call_list_of, by
  intro O e s w0 w ds vs st Q R xt rr q
  cases ds with
  | nil => exact (show False from q).elim
  | cons d ds1 =>
   cases ds1 with
   | cons _ _ => first | exact (show False from q).elim | (cases d <;> exact (show False from q).elim)
   | nil =>
    obtain ⟨v, rfl, h⟩ := RQs.one rr
    cases d with
    | lst ds =>
      obtain ⟨a, us, rfl, t, r⟩ := h.lst
      exact ⟨a, us, rfl, .inl (.of t), fun l hl => post.own R xt q hl fun w' i k => ⟨_, i, RDs.wk k _ _ r⟩⟩
    | tup ds =>
      obtain ⟨a, us, rfl, t, r⟩ := h.tup
      exact ⟨a, us, rfl, .inr t, fun l hl => post.own R xt q hl fun w' i k => ⟨_, i, RDs.wk k _ _ r⟩⟩
    | frg ds =>
      obtain ⟨a, us, rfl, t, r⟩ := h.frg
      exact ⟨a, us, rfl, .inl t, fun l hl => post.own R xt q hl fun w' i k => ⟨_, i, RDs.wk k _ _ r⟩⟩
    | _ => exact (show False from q).elim⟩
def fMin2 : List D → Sto → Rs
  | [.int i, .int j], st => .ok (.int (if j < i then j else i)) st
  | _, _ => .bad
def fMax2 : List D → Sto → Rs
  | [.int i, .int j], st => .ok (.int (if j > i then j else i)) st
  | _, _ => .bad
theorem jb_min2 (hc : X.calm = true) : JB X B .sh Wx (.builtin "min") fMin2 := ⟨_, call_min2 hc, by
  intro O e s w0 w ds vs st Q R xt rr q
  cases ds with
  | nil => exact (show False from q).elim
  | cons d1 ds1 =>
   cases ds1 with
   | nil => cases d1 <;> exact (show False from q).elim
   | cons d2 ds2 =>
    cases ds2 with
    | cons _ _ => cases d1 <;> cases d2 <;> exact (show False from q).elim
    | nil =>
    obtain ⟨v, u, rfl, h1, h2⟩ := RQs.two rr
    cases d1 with
    | int i =>
      cases d2 with
      | int j => exact ⟨i, j, by rw [h1.int, h2.int], post.val R xt q rdI⟩
      | _ => exact (show False from q).elim
    | _ => exact (show False from q).elim⟩
theorem jb_max2 (hc : X.calm = true) : JB X B .sh Wx (.builtin "max") fMax2 := ⟨_, call_max2 hc, by
  intro O e s w0 w ds vs st Q R xt rr q
  cases ds with
  | nil => exact (show False from q).elim
  | cons d1 ds1 =>
   cases ds1 with
   | nil => cases d1 <;> exact (show False from q).elim
   | cons d2 ds2 =>
    cases ds2 with
    | cons _ _ => cases d1 <;> cases d2 <;> exact (show False from q).elim
    | nil =>
    obtain ⟨v, u, rfl, h1, h2⟩ := RQs.two rr
    cases d1 with
    | int i =>
      cases d2 with
      | int j => exact ⟨i, j, by rw [h1.int, h2.int], post.val R xt q rdI⟩
      | _ => exact (show False from q).elim
    | _ => exact (show False from q).elim⟩
def fSum : List D → Sto → Rs
  | [.lst ds], st => match intsOf ds with | some ns => .ok (.int ns.sum) st | none => .bad
  | _, _ => .bad
theorem jb_sum (hc : X.calm = true) : JB X B .sh Wx (.builtin "sum") fSum := ⟨_, cr_sum hc, by
  intro O e s w0 w ds vs st Q R xt rr q
  cases ds with
  | nil => exact (show False from q).elim
  | cons d ds1 =>
   cases ds1 with
   | cons _ _ => first | exact (show False from q).elim | (cases d <;> exact (show False from q).elim)
   | nil =>
    obtain ⟨v, rfl, h⟩ := RQs.one rr
    cases d with
    | lst ds =>
      obtain ⟨a, us, rfl, t, r⟩ := h.lst
      cases z : intsOf ds with
      | none => simp only [fSum, z] at q; exact q.elim
      | some bs =>
        simp only [fSum, z] at q
        exact ⟨a, bs, rfl, .of (by rw [← ints_rds z r]; exact t), post.val R xt q rdI⟩
    | _ => exact (show False from q).elim⟩

/-! ### enumerate, zip -/
def numd : Nat → List D → List D
  | _, [] => []
  | n, d :: ds => .tup [.int (n : Int), d] :: numd (n + 1) ds
def zipd : List D → List D → List D
  | a :: as, b :: bs => .tup [a, b] :: zipd as bs
  | _, _ => []
theorem numd_len : ∀ (n : Nat) (ds : List D), (numd n ds).length = ds.length
  | _, [] => rfl
  | n, d :: ds => by simp [numd, numd_len (n + 1) ds]
theorem numd_get : ∀ (n : Nat) (ds : List D) (i : Nat) (x : D), (numd n ds)[i]? = some x → ∃ d, ds[i]? = some d ∧ x = .tup [.int ((n + i : Nat) : Int), d]
  | _, [], i, x, h => by simp [numd] at h
  | n, d :: ds, 0, x, h => by
    simp [numd] at h
    exact ⟨d, rfl, by rw [← h]; simp⟩
  | n, d :: ds, i + 1, x, h => by
    obtain ⟨d', e1, e2⟩ := numd_get (n + 1) ds i x (by simpa [numd] using h)
    exact ⟨d', by simpa using e1, by rw [e2]; congr 3; omega⟩
theorem zipd_len : ∀ (as bs : List D), (zipd as bs).length = min as.length bs.length
  | [], bs => by simp [zipd]
  | a :: as, [] => by simp [zipd]
  | a :: as, b :: bs => by simp [zipd, zipd_len as bs]
theorem zipd_get : ∀ (as bs : List D) (i : Nat) (x : D), (zipd as bs)[i]? = some x → ∃ a b, as[i]? = some a ∧ bs[i]? = some b ∧ x = .tup [a, b]
  | [], bs, i, x, h => by simp [zipd] at h
  | a :: as, [], i, x, h => by simp [zipd] at h
  | a :: as, b :: bs, 0, x, h => by
    simp [zipd] at h
    exact ⟨a, b, rfl, rfl, h.symm⟩
  | a :: as, b :: bs, i + 1, x, h => by
    obtain ⟨a', b', e1, e2, e3⟩ := zipd_get as bs i x (by simpa [zipd] using h)
    exact ⟨a', b', by simpa using e1, by simpa using e2, e3⟩
/-- a new pair at a free place -/
theorem wks_pair {G : Cfg} {w2 : Wd} {T : Addr} {a b : D} {x y : V} (f2 : WF w2) (hT : w2.H T = none) (ra : RD G w2 a x) (rb : RD G w2 b y) :
    ∃ w3, w3.H = upd w2.H T (.tup [x, y]) ∧ Ext w2 w3 ∧ WF w3 ∧ w3.u = w2.u ∧ (∀ c ∈ w2.u, w3.H c = w2.H c) ∧ RD G w3 (.tup [a, b]) (.ref T) := by
  have k := (Wd.add_ext (o := .tup [x, y]) (b := false) hT).wk f2
  refine ⟨w2.add T (.tup [x, y]) false, rfl, Wd.add_ext hT, Wd.add_wf f2 hT, rfl, fun c hc => upd_ne (fun e => f2.mh c (f2.um c hc) (by rw [e]; exact hT)), rdT (Wd.add_im f2 hT) ?_⟩
  unfold RDs
  exact ⟨x, [y], rfl, RD.wk k _ _ ra, RDs.one (RD.wk k _ _ rb)⟩
theorem wks_enum {G : Cfg} {w : Wd} {a : Addr} {ds : List D} {vs : List V} (h : Im w a (.lst vs)) (r : RDs G w ds vs) : Wks G w (Ite G.K a) (numd 0 ds) [] := by
  intro w2 k2 f2 _ i
  have h2 := k2.im _ _ h
  have r2 := RDs.wk k2 _ _ r
  refine ⟨fun x e => ?_, fun e => ⟨vs, h2.sq, r2.none (by rw [numd_len] at e; exact e)⟩⟩
  obtain ⟨d, e1, rfl⟩ := numd_get 0 ds i x e
  obtain ⟨v, e2, rd⟩ := r2.get e1
  refine ⟨⟨vs, v, h2.sq, e2⟩, fun x H' y => ?_⟩
  obtain ⟨T, x, rfl, hT, rfl, y⟩ := y
  have z := y vs h2.sq
  rw [e2] at z
  cases z
  rw [Nat.zero_add]
  exact wks_pair f2 hT rdI rd
theorem wks_zipL {G : Cfg} {w : Wd} {a b : Addr} {ds es : List D} {vs us : List V} (h : Im w a (.lst vs)) (r : RDs G w ds vs) (hb : Im w b (.lst us)) (rb : RDs G w es us) : Wks G w (Itz G.K a b) (zipd ds es) [] := by
  intro w2 k2 f2 _ i
  have h2 := k2.im _ _ h
  have r2 := RDs.wk k2 _ _ r
  have hb2 := k2.im _ _ hb
  have rb2 := RDs.wk k2 _ _ rb
  refine ⟨fun x e => ?_, fun e => ⟨vs, us, h2.sq, hb2.sq, ?_⟩⟩
  · obtain ⟨d, d', e1, e1', rfl⟩ := zipd_get ds es i x e
    obtain ⟨v, e2, rd⟩ := r2.get e1
    obtain ⟨v', e2', rd'⟩ := rb2.get e1'
    refine ⟨⟨vs, us, v, v', h2.sq, hb2.sq, e2, e2'⟩, fun x H' y => ?_⟩
    obtain ⟨T, x, x', rfl, hT, rfl, y, y'⟩ := y
    have z := y vs h2.sq
    have z' := y' us hb2.sq
    rw [e2] at z
    rw [e2'] at z'
    cases z
    cases z'
    exact wks_pair f2 hT rd rd'
  · rw [zipd_len] at e
    rw [← r2.length, ← rb2.length]
    omega
theorem wks_zipT {G : Cfg} {w : Wd} {a b : Addr} {ds es : List D} {vs us : List V} (h : TpI G.K w a vs) (r : RDs G w ds vs) (hb : TpI G.K w b us) (rb : RDs G w es us) : Wks G w (RZ.ItzT G.K a b) (zipd ds es) [] := by
  intro w2 k2 f2 _ i
  have h2 := k2.tp h
  have r2 := RDs.wk k2 _ _ r
  have hb2 := k2.tp hb
  have rb2 := RDs.wk k2 _ _ rb
  refine ⟨fun x e => ?_, fun e => ⟨vs, us, h2.sq, hb2.sq, ?_⟩⟩
  · obtain ⟨d, d', e1, e1', rfl⟩ := zipd_get ds es i x e
    obtain ⟨v, e2, rd⟩ := r2.get e1
    obtain ⟨v', e2', rd'⟩ := rb2.get e1'
    refine ⟨⟨vs, us, v, v', h2.sq, hb2.sq, e2, e2'⟩, fun x H' y => ?_⟩
    obtain ⟨T, x, x', rfl, hT, rfl, y, y'⟩ := y
    have z := y vs h2.sq
    have z' := y' us hb2.sq
    rw [e2] at z
    rw [e2'] at z'
    cases z
    cases z'
    exact wks_pair f2 hT rd rd'
  · rw [zipd_len] at e
    rw [← r2.length, ← rb2.length]
    omega
/-- a list that is read step by step: a shared one, one of the store -/
def srcD (st : Sto) : D → Option (List D × Gd)
  | .lst ds => some (ds, [])
  | .ref n => (match st[n]? with | some (.lst ds) => some (ds, [(n, ds)]) | _ => none)
  | _ => none
def Src (G : Cfg) (w : Wd) (a : Addr) (ds : List D) (gs : Gd) : Prop := (∃ vs, SqL G.K w.H a vs) ∧ ∀ w2, Wk w w2 → GdOk G w2 gs → ∃ vs, SqL G.K w2.H a vs ∧ RDs G w2 ds vs
theorem src_of {G : Cfg} {w : Wd} {st : Sto} {d : D} {v : V} {p : List D × Gd} (S : RSt G w st) (h : RD G w d v) (e : srcD st d = some p) : ∃ a, v = .ref a ∧ Src G w a p.1 p.2 := by
  cases d with
  | lst ds =>
    cases e
    unfold RD at h
    obtain ⟨a, vs, rfl, t, rs⟩ := h
    exact ⟨a, rfl, ⟨vs, t.sq⟩, fun w2 k2 _ => ⟨vs, (k2.im _ _ t).sq, RDs.wk k2 _ _ rs⟩⟩
  | ref n =>
    unfold srcD at e
    cases y : st[n]? with
    | none => simp only [y] at e; cases e
    | some so =>
      obtain ⟨al, rfl, eu, o⟩ := S.ref h y
      cases so with
      | lst ds =>
        simp only [y] at e
        cases e
        obtain ⟨vs, hH, rs⟩ := o
        refine ⟨al, rfl, ⟨vs, .of hH⟩, fun w2 k2 g2 => ?_⟩
        obtain ⟨r, e⟩ := k2.mu
        have h2 : w2.u[n]? = some al := by rw [e, List.getElem?_append_left (List.getElem?_eq_some_iff.mp eu).1]; exact eu
        obtain ⟨us, hH2, r2⟩ := g2 (n, ds) (List.mem_singleton.mpr rfl) al h2
        exact ⟨us, .of hH2, r2⟩
      | _ => simp only [y] at e; cases e
  | _ => cases e
theorem wks_enumG {G : Cfg} {w : Wd} {a : Addr} {ds : List D} {gs : Gd} (h : Src G w a ds gs) : Wks G w (Ite G.K a) (numd 0 ds) gs := by
  intro w2 k2 f2 g2 i
  obtain ⟨vs, h2, r2⟩ := h.2 w2 k2 g2
  refine ⟨fun x e => ?_, fun e => ⟨vs, h2, r2.none (by rw [numd_len] at e; exact e)⟩⟩
  obtain ⟨d, e1, rfl⟩ := numd_get 0 ds i x e
  obtain ⟨v, e2, rd⟩ := r2.get e1
  refine ⟨⟨vs, v, h2, e2⟩, fun x H' y => ?_⟩
  obtain ⟨T, x, rfl, hT, rfl, y⟩ := y
  have z := y vs h2
  rw [e2] at z
  cases z
  rw [Nat.zero_add]
  exact wks_pair f2 hT rdI rd
theorem wks_zipG {G : Cfg} {w : Wd} {a b : Addr} {ds es : List D} {gs gs' : Gd} (h : Src G w a ds gs) (hb : Src G w b es gs') : Wks G w (Itz G.K a b) (zipd ds es) (gs ++ gs') := by
  intro w2 k2 f2 g2 i
  obtain ⟨vs, h2, r2⟩ := h.2 w2 k2 fun g m => g2 g (List.mem_append_left _ m)
  obtain ⟨us, hb2, rb2⟩ := hb.2 w2 k2 fun g m => g2 g (List.mem_append_right _ m)
  refine ⟨fun x e => ?_, fun e => ⟨vs, us, h2, hb2, ?_⟩⟩
  · obtain ⟨d, d', e1, e1', rfl⟩ := zipd_get ds es i x e
    obtain ⟨v, e2, rd⟩ := r2.get e1
    obtain ⟨v', e2', rd'⟩ := rb2.get e1'
    refine ⟨⟨vs, us, v, v', h2, hb2, e2, e2'⟩, fun x H' y => ?_⟩
    obtain ⟨T, x, x', rfl, hT, rfl, y, y'⟩ := y
    have z := y vs h2
    have z' := y' us hb2
    rw [e2] at z
    rw [e2'] at z'
    cases z
    cases z'
    exact wks_pair f2 hT rd rd'
  · rw [zipd_len] at e
    rw [← r2.length, ← rb2.length]
    omega
def itEnum (f : Ev) : Iv := fun r st => match f r st with
  | .ok d st1 => match srcD st1 d with
    | some p => .ok (numd 0 p.1) p.2 st1
    | none => .bad
  | .err c a st1 => .err c a st1
  | .bad => .bad
def zipS (d d2 : D) (st : Sto) : RsI := match d, d2 with
  | .tup ds, .tup es => .ok (zipd ds es) [] st
  | d, d2 => match srcD st d, srcD st d2 with
    | some p, some q => .ok (zipd p.1 q.1) (p.2 ++ q.2) st
    | _, _ => .bad
def itZip (f g : Ev) : Iv := fun r st => match f r st with
  | .ok d st1 => match g r st1 with
    | .ok d2 st2 => zipS d d2 st2
    | .err c a st1 => .err c a st1
    | .bad => .bad
  | .err c a st1 => .err c a st1
  | .bad => .bad
theorem zipS_of {d d2 : D} {st : Sto} {ds : List D} {gs : Gd} (e : zipS d d2 st = .ok ds gs st) : (∃ xs ys, d = .tup xs ∧ d2 = .tup ys ∧ ds = zipd xs ys ∧ gs = []) ∨ ∃ p q, srcD st d = some p ∧ srcD st d2 = some q ∧ ds = zipd p.1 q.1 ∧ gs = p.2 ++ q.2 := by
  unfold zipS at e
  split at e
  · cases e; exact .inl ⟨_, _, rfl, rfl, rfl, rfl⟩
  · split at e
    · rename_i p q h1 h2
      cases e
      exact .inr ⟨p, q, h1, h2, rfl, rfl⟩
    · cases e
theorem zipS_cases {d d2 : D} {st : Sto} : (∃ ds gs, zipS d d2 st = .ok ds gs st) ∨ zipS d d2 st = .bad := by
  unfold zipS
  split
  · exact .inl ⟨_, _, rfl⟩
  · split
    · exact .inl ⟨_, _, rfl⟩
    · exact .inr rfl
theorem ji_enum {p tpos : Pos} {elts : List Expr} {kk : Nat} (hg : Gl X "enumerate") (hm : X.mg "enumerate" = none) (ha : JA X B .sh Wx [a] [f]) (hs : starEach [a] X.env = [(false, eval a X.env)] := by rfl) : JI X B Wx (.Tuple elts kk tpos) (.Call (.Name "enumerate" p) [a] [] pos) (itEnum f) := by
  refine pi_imp (pi_enum hg hm ha hs) ?_
  rintro s H R' ⟨O, r, st, w, rfl, R, q⟩
  refine ⟨O, r, st, w, rfl, R, ?_⟩
  unfold itEnum at q
  simp only [evs]
  cases z : f r st with
  | ok d st1 =>
    rw [z] at q
    intro w1 vs R1 x1 rr
    obtain ⟨v, rfl, rq⟩ := RRs.one rr
    cases y : srcD st1 d with
    | none => simp only [y] at q
    | some p =>
      simp only [y] at q
      obtain ⟨a, rfl, sr⟩ := src_of R1.sto rq y
      obtain ⟨us, sq⟩ := sr.1
      exact ⟨a, us, rfl, sq, q _ w1 R1 x1 (wks_enumG sr)⟩
  | err c a st1 => rw [z] at q; exact q
  | bad => rw [z] at q; exact q.elim
theorem ji_zip {p tpos : Pos} {elts : List Expr} {kk : Nat} (hg : Gl X "zip") (hm : X.mg "zip" = none) (ha : JA X B .sh Wx [a, b] [f, g]) (he : starEach [a, b] X.env = (false, eval a X.env) :: starEach [b] X.env := by rfl) (hpl : (backTo pos (starEach [b] X.env)).any (·.1) = false := by rfl) :
    JI X B Wx (.Tuple elts kk tpos) (.Call (.Name "zip" p) [a, b] [] pos) (itZip f g) := by
  refine pi_imp (RZ.pi_zipA hg hm ha he hpl) ?_
  rintro s H R' ⟨O, r, st, w, rfl, R, q⟩
  refine ⟨O, r, st, w, rfl, R, ?_⟩
  unfold itZip at q
  simp only [evs]
  cases z : f r st with
  | ok d st1 =>
    rw [z] at q
    simp only [Rs.bindL] at q ⊢
    cases z2 : g r st1 with
    | ok d2 st2 =>
      rw [z2] at q
      intro w1 vs R1 x1 rr
      obtain ⟨v, v2, rfl, rq, rq2⟩ := RRs.two rr
      rcases zipS_cases (d := d) (d2 := d2) (st := st2) with ⟨ds, gs, e⟩ | e
      · simp only [e] at q
        rcases zipS_of e with ⟨xs, ys, rfl, rfl, rfl, rfl⟩ | ⟨p, p', e1, e2, rfl, rfl⟩
        · have rr : RD (cg X) w1 (.tup xs) v := rq
          unfold RD at rr
          obtain ⟨a, vs, rfl, t, rs⟩ := rr
          have rr2 : RD (cg X) w1 (.tup ys) v2 := rq2
          unfold RD at rr2
          obtain ⟨a2, vs2, rfl, t2, rs2⟩ := rr2
          exact ⟨a, a2, vs, vs2, rfl, .inr ⟨t.sq, t2.sq, q _ w1 R1 x1 (wks_zipT t rs t2 rs2)⟩⟩
        · obtain ⟨a, rfl, sr⟩ := src_of R1.sto rq e1
          obtain ⟨a2, rfl, sr2⟩ := src_of R1.sto rq2 e2
          obtain ⟨us, sq⟩ := sr.1
          obtain ⟨us2, sq2⟩ := sr2.1
          exact ⟨a, a2, us, us2, rfl, .inl ⟨sq, sq2, q _ w1 R1 x1 (wks_zipG sr sr2)⟩⟩
      · simp only [e] at q
    | err c a st1 => rw [z2] at q; exact q
    | bad => rw [z2] at q; exact q.elim
  | err c a st1 => rw [z] at q; exact q
  | bad => rw [z] at q; exact q.elim
end
end Sm

/-! Sim12: things of the store. -/
namespace Sm
open PySem L2
/-- a new list, dict becomes a thing of the store -/
def bRef (f : Ev) : Ev := fun r st => (f r st).bind fun d st1 => match d with
  | .lst ds => .ok (.ref st1.length) (st1 ++ [.lst ds])
  | .dct ks vs => .ok (.ref st1.length) (st1 ++ [.dct ks vs])
  | _ => .bad
def Wd.lay (w : Wd) (a : Addr) : Wd := ⟨w.H, w.M, w.u ++ [a]⟩
theorem Wd.lay_wk (w : Wd) (a : Addr) : Wk w (w.lay a) := ⟨fun _ _ h => h, [a], rfl⟩
section
variable {X : Cx} {B : Bs} {k : Kd} {fr : Bool} {Wx : WX} {a b c tg iter e elt : Expr} {es ifs : List Expr} {fs : List Ev} {f g h : Ev} {pos : Pos}
theorem Rel.lay {G : Cfg} {O : Nat → Option Addr} {r : Env} {st : Sto} {s : L2.St} {w : Wd} {p : Addr} {so : SO} (R : Rel G B O r st s w) (m : w.M p) (u : p ∉ w.u) (hb : B.H p = none) (ho : ∀ i, O i ≠ some p) (c : RSO G w p so) : Rel G B O r (st ++ [so]) s (w.lay p) := by
  have k := w.lay_wk p
  refine ⟨⟨R.wf.mh, fun b hb' => ?_, ?_⟩, R.wb, ⟨R.base.hk, R.base.mt, R.base.mn, ?_, R.base.hh⟩, R.ln, ⟨?_, fun n o b h1 h2 => ?_⟩, fun i b e => ⟨(R.own i b e).1, fun z => ?_, (R.own i b e).2.2⟩, R.inj, fun i => (R.env i).wk k fun _ _ => rfl⟩
  · rcases List.mem_append.mp hb' with z | z
    · exact R.wf.um b z
    · rw [List.mem_singleton.mp z]; exact m
  · show (w.u ++ [p]).Nodup
    rw [List.nodup_append]
    refine ⟨R.wf.nd, by simp, fun x hx y hy => ?_⟩
    rw [List.mem_singleton.mp hy]
    intro e
    exact u (by rw [← e]; exact hx)
  · obtain ⟨q, e, fr⟩ := R.base.mu
    refine ⟨q ++ [p], by show w.u ++ [p] = _; rw [e, List.append_assoc], fun b hb' => ?_⟩
    rcases List.mem_append.mp hb' with z | z
    · exact fr b z
    · rw [List.mem_singleton.mp z]; exact hb
  · show (st ++ [so]).length = (w.u ++ [p]).length
    simp [R.sto.len]
  · have h2 : (w.u ++ [p])[n]? = some b := h2
    by_cases z : n < st.length
    · rw [List.getElem?_append_left z] at h1
      rw [List.getElem?_append_left (by rw [← R.sto.len]; exact z)] at h2
      exact RSO.wk k rfl (R.sto.at_ n o b h1 h2)
    · have hn : n = st.length := by
        have := (List.getElem?_eq_some_iff.mp h1).1
        simp at this
        omega
      subst hn
      rw [R.sto.len, List.getElem?_append_right (Nat.le_refl _)] at h2
      rw [List.getElem?_append_right (Nat.le_refl _)] at h1
      simp at h1 h2
      subst h1 h2
      exact RSO.wk k rfl c
  · rcases List.mem_append.mp z with z | z
    · exact (R.own i b e).2.1 z
    · exact ho i (by rw [e, List.mem_singleton.mp z])
theorem je_ref (h : JE X B .fr Wx a f) : JE X B .sh Wx a (bRef f) := by
  refine pe_imp h ?_
  rintro s H Q ⟨O, r, st, w, rfl, R, q⟩
  refine ⟨O, r, st, w, rfl, R, ?_⟩
  have fin : ∀ {d : D} {so : SO} {st1 : Sto}, (∀ w a, RC (cg X) w a d → RSO (cg X) w a so) → post (cg X) B .sh Wx O r s w (.ok (.ref st1.length) (st1 ++ [so])) Q → post (cg X) B .fr Wx O r s w (.ok d st1) Q := by
    intro d so st1 hc q w' v R' x rr
    obtain ⟨al, rfl, n, m, u, c⟩ := rr
    have hb : B.H al = none := by
      cases z : B.H al with
      | none => rfl
      | some o => exact absurd n (R.base.hh al (by rw [z]; simp))
    have ho : ∀ i, O i ≠ some al := fun i z => R.wf.mh al (R.own i al z).1 n
    refine q (w'.lay al) (.ref al) (R'.lay m u hb ho (hc _ _ c)) ⟨x.hk, x.mt, x.mn, ?_, x.hh⟩ ?_
    · obtain ⟨qq, e, fr⟩ := x.mu
      refine ⟨qq ++ [al], by show w'.u ++ [al] = _; rw [e, List.append_assoc], fun b hb' => ?_⟩
      rcases List.mem_append.mp hb' with z | z
      · exact fr b z
      · rw [List.mem_singleton.mp z]; exact n
    · show RD (cg X) (w'.lay al) (.ref st1.length) (.ref al)
      unfold RD
      refine ⟨al, rfl, ?_⟩
      show (w'.u ++ [al])[st1.length]? = some al
      rw [R'.sto.len, List.getElem?_append_right (Nat.le_refl _)]
      simp
  unfold bRef at q
  cases z : f r st with
  | ok d st1 =>
    rw [z] at q
    cases d with
    | lst ds => exact fin (so := .lst ds) (fun _ _ c => c) q
    | dct ks ds => exact fin (so := .dct ks ds) (fun _ _ c => c) q
    | _ => exact (show False from q).elim
  | err cc aa st1 => rw [z] at q; exact q
  | bad => rw [z] at q; exact q.elim
end
end Sm

/-! Sim13: the end; extend; repr of flat things. -/
namespace Sm
open PySem L2
theorem fj_bad {P : Program} {w : World} {K : PySem.W.Frag} {mg : Str → Option Value} {base : Heap} {j : Nat} {fA : Addr} {fd : FuncData} {ps : List Str} {n : Nat} {fr : Bool} {G : Cfg} {CX : CXT} (hn : ps.length = n := by rfl) : FnOk P w K mg base CX j fA fd ps (spF G n fr (fun _ _ => .bad)) :=
  ⟨fun vs H Q E h => by rw [hn]; exact h.1, fun A outer s H args us vs Q E hr e0 hb r h => by
    obtain ⟨_, _, _, _, _, _, _, q⟩ := h
    exact q.elim⟩
/-- the law's promise, at its entry -/
def spL (K : PySem.W.Frag) : Sp := fun vs H Q _ => ∃ (a : Addr) (ns : List Int), vs = [.ref a] ∧ ns.length ≤ 63 ∧ Only H ∧ SqL K H a (ns.map V.int) ∧ ∀ H', Q (.bl true) H'
theorem rds_ints {G : Cfg} {w : Wd} : ∀ ns : List Int, RDs G w (ns.map D.int) (ns.map V.int)
  | [] => by unfold RDs; rfl
  | n :: ns => by
    rw [List.map_cons, List.map_cons]
    unfold RDs
    exact ⟨_, _, rfl, rdI, rds_ints ns⟩
theorem spL_spF {G : Cfg} {g : Fn} (hL : ∀ ns : List Int, ns.length ≤ 63 → ∃ st, g [.frg (ns.map D.int)] [] = .ok (.bl true) st) : ∀ vs H Q E, spL G.K vs H Q E → spF G 1 false g vs H Q E := by
  rintro vs H Q E ⟨a, ns, rfl, hl, only, sq, q⟩
  obtain ⟨st, e⟩ := hL ns hl
  refine ⟨rfl, ⟨H, fun _ => False, []⟩, [.frg (ns.map D.int)], [], rfl, ⟨⟨fun _ z => z.elim, fun _ z => (by cases z), List.nodup_nil⟩, ⟨rfl, fun n o a z => (by simp at z)⟩⟩, ?_, ?_⟩
  · unfold RDs
    refine ⟨_, _, rfl, ?_, by unfold RDs; rfl⟩
    unfold RD
    refine ⟨a, ns.map V.int, rfl, ?_, rds_ints ns⟩
    rcases sq with (h | ⟨o, h⟩) | h
    · rcases only a with z | ⟨o, xs, z⟩
      · rw [z] at h; cases h
      · rw [z] at h; cases h
    · exact .inl ⟨o, h, fun z => z⟩
    · exact .inr h
  · rw [e]
    intro w' v F x h
    rw [if_neg (by simp)] at h
    unfold RD at h
    rw [h]
    exact q _
theorem walk_law {l : PySem.W.OpenLaw} {q : Program} {loose : List Str} {XP : (Str → Option Value) → Heap → Prop} {YP : World → Heap → Prop} {d : DefRec} {K : Params → PySem.W.Frag} {L : Nat} {g : Fn} (hn : l.most = some 63) (hdf : d.params.defaults = []) (hr : Room L callerA)
    (hY : ∀ (w : World) (h : Heap), YP w h → (K w.params).In h)
    (F : ∀ (w : World) (mg : Str → Option Value) (fa : Addr) (h : Heap), (K w.params).In h → h.Ns mainGlobals mg → mg d.name = some (.ref fa) →
      ∃ fd : FuncData, (∀ (s : Shared) (u : Value), BindsTo s fd ⟨[u], []⟩ [("script", u)]) ∧ ∀ base : Heap, (K w.params).In base → base.Ns mainGlobals mg → FnOk l.prog w (K w.params) mg base (L2.CX l.prog w) L fa fd ["script"] (spF ⟨K w.params, mg, l.prog, w⟩ 1 false g))
    (hL : ∀ ns : List Int, ns.length ≤ 63 → ∃ st, g [.frg (ns.map D.int)] [] = .ok (.bl true) st) :
    PySem.W.WalkO q loose XP YP l.row.toRowW d [] (fun f vs => PySem.call f vs) :=
  L2.walk_of (n := 63) (k := L) (x := "script") (CX := fun w => L2.CX l.prog w) (sp := fun w => spL (K w.params)) hn (by decide) hdf hr hY
    (fun w mg fa h KX G hmg => by
      obtain ⟨fd, hb, hF⟩ := F w mg fa h KX G hmg
      exact ⟨fd, hb, fun base hK hG => (hF base hK hG).imp (spL_spF (G := ⟨K w.params, mg, l.prog, w⟩) hL)⟩)
    (fun w H a ns hl ho hs => ⟨a, ns, rfl, hl, ho, hs, fun _ => rfl⟩) fun w H s e s' z => by
      obtain ⟨_, _, _, _, _, _, _, _, _, _, _, _, f⟩ := z
      exact f
/-- xs.extend(ys), xs one's own -/
def sExt (i : Nat) (f : Ev) : Sv := fun r st => match r i with
  | some (true, .lst ds) => ofRs (f r st) r fun d st1 => match d with
    | .lst es => if ds.length + es.length ≤ LIM then .nx (r.set i (some (true, .lst (ds ++ es)))) st1 else .bad
    | _ => .bad
  | _ => .bad
section
variable {X : Cx} {B : Bs} {k : Kd} {fr : Bool} {Wx : WX} {a b c tg iter e elt : Expr} {es ifs : List Expr} {fs : List Ev} {f g h : Ev} {pos : Pos} {st1 st2 : Stmt} {rest body : List Stmt} {F F' : Sv} {t : Tg} {ts : List Tg} {it : Iv}
theorem js_ext {i : Nat} {x : Str} {p apos cpos : Pos} (hN : X.N[i]? = some x) (hv : Vis X.env.scope x) (ha : JA X B .bo Wx [a] [f]) (hd : (x == ("__debug__" : Str)) = false := by decide) (hcd : (x == ("__classdict__" : Str)) = false := by decide)
    (hbase : attributeBase (.Name x p) "extend" X.env (eval (.Name x p) X.env) = eval (.Name x p) X.env := by rfl)
    (hfew : ((backTo cpos (starEach [a] X.env)).all (fun x => !x.1) && (backToKw cpos (keywordEach [] X.env)).all (fun x => x.1.isSome) && decide ([a].length + ([] : List Keyword).length + (if ([] : List Keyword).isEmpty then 0 else 1) < 30)) = true := by rfl)
    (hline : (apos.endLine == cpos.line) = true := by rfl) (hst : starEach [a] X.env = (false, eval a X.env) :: starEach [] X.env := by rfl) (hplain : (backTo cpos (starEach [] X.env)).any (·.1) = false := by rfl)
    (hs : swapsWith (.Call (.Attribute (.Name x p) "extend" apos) [a] [] cpos) none pos.line X.env = pure false := by rfl) :
    JS X B fr Wx (.Expr (.Call (.Attribute (.Name x p) "extend" apos) [a] [] cpos) pos) (sExt i f) := by
  refine ps_imp (ps_expr (pe_bm PySem.F.plainAttrs_list PySem.F.slot_list_extend PySem.F.type_list_extend mt_extend (pe_var (pos := p) hN hv hd hcd) ha hbase hfew hline hst hplain) hs) ?_
  rintro D s H ⟨O, r, st, w, rfl, R, q⟩
  have en := R.env i
  unfold sExt at q
  cases z : r i with
  | none => rw [z] at q; exact q.elim
  | some bd =>
    obtain ⟨bb, d0⟩ := bd
    cases bb with
    | false => rw [z] at q; exact (show False from q).elim
    | true =>
      cases d0 with
      | lst ds =>
        rw [z] at q en
        obtain ⟨al, oi, es, c⟩ := en
        obtain ⟨vs, hl, rs⟩ := c
        have own := R.own i al oi
        refine ⟨.ref al, es, .inl ⟨rfl, vs, .of hl⟩, O, r, st, w, rfl, R, ?_⟩
        simp only [evs]
        cases zf : f r st with
        | ok d st1 =>
          simp only [zf] at q
          intro w1 us R1 x1 rr
          obtain ⟨v, rfl, rv⟩ := RRs.one rr
          have hl1 : w1.H al = some (.lst vs) := (x1.hk al (by rw [hl]; simp) own.2.1).trans hl
          have own1 := R1.own i al oi
          cases d with
          | lst es =>
            by_cases hz : ds.length + es.length ≤ LIM
            · have q' : postS (cg X) B fr Wx w (.nx (r.set i (some (true, .lst (ds ++ es)))) st1) D := by
                have q0 := q
                simp only [ofRs, if_pos hz] at q0
                exact q0
              have lm := LIM_le
              have rl := rs.length
              obtain ⟨bl, us, rfl, hb, rb⟩ := rv.lst
              have rl2 := rb.length
              refine ⟨al, bl, vs, us, rfl, rfl, hl1, hb, by omega, ?_⟩
              have m1 : w1.M al := own1.1
              refine q' O s (w1.chg al (.lst (vs ++ us))) (R1.chgOwn z oi ⟨_, upd_same, ?_⟩) ((x1.wk R.wf).trans (Wd.chg_wk m1))
              exact RDs.append (RDs.wk ((x1.wk R.wf).trans (Wd.chg_wk m1)) _ _ rs) (RDs.wk (Wd.chg_wk m1) _ _ rb)
            · simp only [ofRs, if_neg hz] at q
              exact q.elim
          | _ => exact (show False from q).elim
        | err cc aa st1 => simp only [zf] at q; exact fun w' cls dd R' x' rx => q O s w' cls dd R' rx
        | bad => simp only [zf] at q; exact q.elim
      | _ => rw [z] at q; exact (show False from q).elim
def I400 : Int := 10000000000000000000000000000000000000000000000000000000000000000000000000000000
def fRepr : List D → Sto → Rs
  | [.non], st => .ok (.str "None") st
  | [.bl b], st => .ok (.str (if b then "True" else "False")) st
  | [.int i], st => if -I400 < i ∧ i < I400 then .ok (.str (toString i)) st else .bad
  | _, _ => .bad
theorem small_log {i : Int} (h : -I400 < i ∧ i < I400) : i.natAbs.log2 < 1920 := by
  have e : I400 < 2 ^ 300 := by unfold I400; omega
  have h1 : i.natAbs < 2 ^ 300 := by omega
  have := PySem.Flt.log2_lt_of (by decide : 0 < 300) h1
  omega
theorem cr_repr0 : CallR X (.builtin "repr") (fun xs H Q => (∃ i, xs = [.int i] ∧ i.natAbs.log2 < 1920 ∧ Q (.str (toString i)) H) ∨ ((∃ b, xs = [.bl b] ∧ Q (.str (if b = true then "True" else "False")) H) ∨ (xs = [.non] ∧ Q (.str "None") H))) := by
  intro pins s σ H xs us Q I r h
  rcases h with ⟨i, rfl, hz, q⟩ | ⟨b, rfl, q⟩ | ⟨rfl, q⟩
  · obtain ⟨u, rfl, t, rfl⟩ := vals1 r
    exact PySem.P.repr_of_int hz ⟨.str (toString i), H, I.tok _, ⟨_, rfl⟩, q⟩
  · obtain ⟨u, rfl, r1⟩ := vals1 r
    cases r1
    exact PySem.P.repr_of_bool ⟨.str (if b = true then "True" else "False"), H, I.tok _, ⟨_, rfl⟩, q⟩
  · obtain ⟨u, rfl, r1⟩ := vals1 r
    cases r1
    exact PySem.P.repr_of_none ⟨.str "None", H, I.tok _, ⟨_, rfl⟩, q⟩
theorem jb_repr : JB X B .sh Wx (.builtin "repr") fRepr := ⟨_, cr_repr0, by
  intro O e s w0 w ds vs st Q R xt rr q
  cases ds with
  | nil => exact (show False from q).elim
  | cons d ds1 =>
   cases ds1 with
   | cons _ _ => cases d <;> exact (show False from q).elim
   | nil =>
    obtain ⟨v, rfl, h⟩ := RQs.one rr
    cases d with
    | non => exact .inr (.inr ⟨by rw [h.non], post.val R xt q rdS⟩)
    | bl b => exact .inr (.inl ⟨b, by rw [h.bl], post.val R xt q rdS⟩)
    | int i =>
      by_cases hz : -I400 < i ∧ i < I400
      · simp only [fRepr, if_pos hz] at q
        exact .inl ⟨i, by rw [h.int], small_log hz, post.val R xt q rdS⟩
      · simp only [fRepr, if_neg hz] at q
        exact q.elim
    | _ => exact (show False from q).elim⟩
end
end Sm

/-! Sim14: what a mirror comes to, in rules for simp. -/
namespace Sm
open PySem L2

def RsP (x : Rs) (Q : D → Sto → Prop) (E : Str → Option (Str × D) → Sto → Prop) : Prop := match x with
  | .ok d st => Q d st
  | .err c a st => E c a st
  | .bad => False
def RsLP (x : RsL) (Q : List D → Sto → Prop) (E : Str → Option (Str × D) → Sto → Prop) : Prop := match x with
  | .ok d st => Q d st
  | .err c a st => E c a st
  | .bad => False
def RtP (x : Rt) (N : Env → Sto → Prop) (R : D → Sto → Prop) (L : Bool → Env → Sto → Prop) (E : Str → Option (Str × D) → Env → Sto → Prop) : Prop := match x with
  | .nx r st => N r st
  | .rt d st => R d st
  | .bk r st => L true r st
  | .ct r st => L false r st
  | .err c a r st => E c a r st
  | .bad => False
/-- a truth -/
def bX (d : D) (p q : Prop) : Prop := match d with
  | .bl b => (b = true → p) ∧ (b = false → q)
  | _ => False
def noE : Str → Option (Str × D) → Sto → Prop := fun _ _ _ => False
section
variable {x : Rs} {Q : D → Sto → Prop} {E : Str → Option (Str × D) → Sto → Prop} {QL : List D → Sto → Prop}
theorem w_ok {d : D} {st : Sto} : RsP (.ok d st) Q E = Q d st := rfl
theorem w_err {c : Str} {a : Option (Str × D)} {st : Sto} : RsP (.err c a st) Q E = E c a st := rfl
theorem w_bad : RsP .bad Q E = False := rfl
theorem wl_ok {d : List D} {st : Sto} : RsLP (.ok d st) QL E = QL d st := rfl
theorem w_bind {k : D → Sto → Rs} : RsP (x.bind k) Q E = RsP x (fun d st => RsP (k d st) Q E) E := by cases x <;> rfl
theorem w_bindL {x : RsL} {k : List D → Sto → Rs} : RsP (x.bind k) Q E = RsLP x (fun d st => RsP (k d st) Q E) E := by cases x <;> rfl
theorem wl_bind {k : D → Sto → RsL} : RsLP (x.bindL k) QL E = RsP x (fun d st => RsLP (k d st) QL E) E := by cases x <;> rfl
theorem wl_bindL {x : RsL} {k : List D → Sto → RsL} : RsLP (x.bindL k) QL E = RsLP x (fun d st => RsLP (k d st) QL E) E := by cases x <;> rfl
theorem w_mono {Q' : D → Sto → Prop} {E' : Str → Option (Str × D) → Sto → Prop} (h : RsP x Q' E') (q : ∀ d st, Q' d st → Q d st) (e : ∀ c a st, E' c a st → E c a st) : RsP x Q E := by
  cases x with
  | ok d st => exact q _ _ h
  | err c a st => exact e _ _ _ h
  | bad => exact h
theorem w_if {c : Prop} [Decidable c] {a b : Rs} : RsP (if c then a else b) Q E = ((c → RsP a Q E) ∧ (¬c → RsP b Q E)) := by
  by_cases h : c <;> simp [h]
end
section
variable {x : Rt} {N : Env → Sto → Prop} {R : D → Sto → Prop} {L : Bool → Env → Sto → Prop} {E : Str → Option (Str × D) → Env → Sto → Prop} {r : Env} {st : Sto} {f g : Sv} {c e : Ev} {Q : D → Sto → Prop} {E' : Str → Option (Str × D) → Sto → Prop}
theorem w_nx : RtP (.nx r st) N R L E = N r st := rfl
theorem w_rt {d : D} : RtP (.rt d st) N R L E = R d st := rfl
theorem w_bk : RtP (.bk r st) N R L E = L true r st := rfl
theorem w_ct : RtP (.ct r st) N R L E = L false r st := rfl
theorem w_er {c : Str} {a : Option (Str × D)} : RtP (.err c a r st) N R L E = E c a r st := rfl
theorem w_bd : RtP .bad N R L E = False := rfl
theorem w_sq : RtP (sSq f g r st) N R L E = RtP (f r st) (fun r1 st1 => RtP (g r1 st1) N R L E) R L E := by
  unfold sSq; cases f r st <;> rfl
theorem w_of {x : Rs} {k : D → Sto → Rt} : RtP (ofRs x r k) N R L E = RsP x (fun d st => RtP (k d st) N R L E) (fun c a st => E c a r st) := by cases x <;> rfl
theorem w_sIf : RtP (sIf c f g r st) N R L E = RsP (c r st) (fun d st1 => bX d (RtP (f r st1) N R L E) (RtP (g r st1) N R L E)) (fun c a st => E c a r st) := by
  unfold sIf
  rw [w_of]
  congr 1
  funext d st1
  cases d <;> try rfl
  rename_i b
  cases b <;> simp [bX]
theorem w_and {f g : Ev} : RsP (bAnd f g r st) Q E' = RsP (f r st) (fun d st1 => bX d (RsP (g r st1) Q E') (Q (.bl false) st1)) E' := by
  unfold bAnd
  rw [w_bind]
  congr 1
  funext d st1
  cases d <;> try rfl
  rename_i b
  cases b <;> simp [bX, RsP]
theorem w_or {f g : Ev} : RsP (bOr f g r st) Q E' = RsP (f r st) (fun d st1 => bX d (Q (.bl true) st1) (RsP (g r st1) Q E')) E' := by
  unfold bOr
  rw [w_bind]
  congr 1
  funext d st1
  cases d <;> try rfl
  rename_i b
  cases b <;> simp [bX, RsP]
theorem w_bIf {f g : Ev} : RsP (bIf c f g r st) Q E' = RsP (c r st) (fun d st1 => bX d (RsP (f r st1) Q E') (RsP (g r st1) Q E')) E' := by
  unfold bIf
  rw [w_bind]
  congr 1
  funext d st1
  cases d <;> try rfl
  rename_i b
  cases b <;> simp [bX]
theorem w_mk {fr : Bool} {F : Sv} {ds : List D} : RsP (mkF fr F ds st) Q E' = RtP (F (argEnv ds) st) (fun _ st' => fr = false ∧ Q .non st') Q (fun _ _ _ => False) (fun c a _ st' => E' c a st') := by
  unfold mkF
  cases F (argEnv ds) st <;> try rfl
  cases fr <;> simp [RsP, RtP]
theorem w_call {g : Fn} {fs : List Ev} : RsP (bCall g fs r st) Q E' = RsLP (evs fs r st) (fun ds st => RsP (g ds st) Q E') E' := w_bindL
theorem w_tup {fs : List Ev} : RsP (bTup fs r st) Q E' = RsLP (evs fs r st) (fun ds st => Q (.tup ds) st) E' := w_bindL
theorem w_lst {fs : List Ev} : RsP (bLst fs r st) Q E' = RsLP (evs fs r st) (fun ds st => Q (.lst ds) st) E' := w_bindL
theorem wl_cons {f : Ev} {fs : List Ev} {QL : List D → Sto → Prop} : RsLP (evs (f :: fs) r st) QL E' = RsP (f r st) (fun d st1 => RsLP (evs fs r st1) (fun ds st2 => QL (d :: ds) st2) E') E' := by
  show RsLP ((f r st).bindL fun d st1 => (evs fs r st1).bindL fun ds st2 => .ok (d :: ds) st2) QL E' = _
  rw [wl_bind]
  congr 1
  funext d st1
  rw [wl_bindL]
  rfl
theorem wl_nil {QL : List D → Sto → Prop} : RsLP (evs [] r st) QL E' = QL [] st := rfl
theorem w_bin {F : D → D → Sto → Rs} {f g : Ev} : RsP (bBin F f g r st) Q E' = RsP (f r st) (fun a st1 => RsP (g r st1) (fun b st2 => RsP (F a b st2) Q E') E') E' := by
  unfold bBin
  rw [w_bind]
  congr 1
  funext d st1
  rw [w_bind]
theorem w_not {f : Ev} : RsP (bNot f r st) Q E' = RsP (f r st) (fun d st1 => match d with | .bl b => Q (.bl (!b)) st1 | _ => False) E' := by
  unfold bNot
  rw [w_bind]
  congr 1
  funext d st1
  cases d <;> rfl
theorem w_neg {f : Ev} : RsP (bNeg f r st) Q E' = RsP (f r st) (fun d st1 => match d with | .int b => Q (.int (-b)) st1 | _ => False) E' := by
  unfold bNeg
  rw [w_bind]
  congr 1
  funext d st1
  cases d <;> rfl
theorem w_chain {F F' : D → D → Sto → Rs} {f g h : Ev} : RsP (bChain F F' f g h r st) Q E' = RsP (f r st) (fun a st1 => RsP (g r st1) (fun b st2 => RsP (F a b st2) (fun z st3 => bX z (RsP (h r st3) (fun c st4 => RsP (F' b c st4) Q E') E') (Q (.bl false) st3)) E') E') E' := by
  unfold bChain
  rw [w_bind]
  congr 1; funext d st1
  rw [w_bind]
  congr 1; funext d2 st2
  rw [w_bind]
  congr 1; funext d3 st3
  cases d3 <;> try rfl
  rename_i b
  cases b with
  | true => simp only [bX, w_bind]; simp
  | false => simp [bX, RsP]
theorem w_var {i : Nat} {d : D} (h : r i = some (false, d)) : RsP (bVar i r st) Q E' = Q d st := by unfold bVar; rw [h]; rfl
theorem w_peek {i : Nat} {b : Bool} {d : D} (h : r i = some (b, d)) : RsP (bPeek i r st) Q E' = Q d st := by unfold bPeek; rw [h]; rfl
theorem w_c {d : D} : RsP (bC d r st) Q E' = Q d st := rfl
theorem w_set {i : Nat} {f : Ev} : RtP (sSet i f r st) N R L E = RsP (f r st) (fun d st1 => N (r.set i (some (false, d))) st1) (fun c a st => E c a r st) := w_of
theorem w_own {i : Nat} {f : Ev} : RtP (sOwn i f r st) N R L E = RsP (f r st) (fun d st1 => N (r.set i (some (true, d))) st1) (fun c a st => E c a r st) := w_of
theorem w_ex {f : Ev} : RtP (sEx f r st) N R L E = RsP (f r st) (fun _ st1 => N r st1) (fun c a st => E c a r st) := w_of
theorem w_ret {f : Ev} : RtP (sRet f r st) N R L E = RsP (f r st) (fun d st1 => R d st1) (fun c a st => E c a r st) := w_of
theorem w_retN : RtP (sRetN r st) N R L E = R .non st := rfl
theorem w_skip : RtP (sSkip r st) N R L E = N r st := rfl
theorem w_retOwn {i : Nat} {d : D} (h : r i = some (true, d)) : RtP (sRetOwn i r st) N R L E = R d st := by unfold sRetOwn; rw [h]; rfl
theorem w_fix {i : Nat} {d : D} {f : Sv} (h : r i = some (true, d)) : RtP (sFix i f r st) N R L E = RtP (f (r.set i (some (false, d))) st) N R L E := by unfold sFix; rw [h]
theorem w_fix' {i : Nat} {d : D} {f : Sv} (h : r i = some (false, d)) : RtP (sFix i f r st) N R L E = RtP (f r st) N R L E := by unfold sFix; rw [h]
theorem w_raise {c : Str} : RtP (sRaise c r st) N R L E = E c none r st := rfl
theorem w_app {i : Nat} {f : Ev} {ds : List D} (h : r i = some (true, .lst ds)) : RtP (sApp i f r st) N R L E = RsP (f r st) (fun d st1 => ds.length < LIM ∧ N (r.set i (some (true, .lst (ds ++ [d])))) st1) (fun c a st => E c a r st) := by
  unfold sApp
  rw [h, w_of]
  congr 1
  funext d st1
  by_cases z : ds.length < LIM <;> simp [z, RtP]
theorem w_ext {i : Nat} {f : Ev} {ds : List D} (h : r i = some (true, .lst ds)) : RtP (sExt i f r st) N R L E = RsP (f r st) (fun d st1 => match d with | .lst es => ds.length + es.length ≤ LIM ∧ N (r.set i (some (true, .lst (ds ++ es)))) st1 | _ => False) (fun c a st => E c a r st) := by
  unfold sExt
  rw [h, w_of]
  congr 1
  funext d st1
  cases d <;> try rfl
  rename_i es
  by_cases z : ds.length + es.length ≤ LIM <;> simp [z, RtP]
theorem w_putL {ds : List D} {z : Int} {d : D} {k : List D → Rt} {n : Nat} (h : ixN ds.length z = some n) : RtP (putL ds (.int z) d k) N R L E = RtP (k (ds.set n d)) N R L E := by
  unfold putL; simp [h]
theorem w_put {i : Nat} {g f : Ev} {ds : List D} (h : r i = some (true, .lst ds)) : RtP (sPut i g f r st) N R L E = RsP (f r st) (fun d st1 => RsP (g r st1) (fun j st2 => RtP (putL ds j d fun es => .nx (r.set i (some (true, .lst es))) st2) N R L E) (fun c a st => E c a r st)) (fun c a st => E c a r st) := by
  unfold sPut
  rw [w_of]
  congr 1
  funext d st1
  rw [h]
  simp only
  rw [w_of]
theorem w_putR {p g f : Ev} : RtP (sPutR p g f r st) N R L E = RsP (f r st) (fun d st1 => RsP (p r st1) (fun o st2 => RsP (g r st2) (fun j st3 => RtP (putR r st3 o j d) N R L E) (fun c a st => E c a r st)) (fun c a st => E c a r st)) (fun c a st => E c a r st) := by
  unfold sPutR
  rw [w_of]
  congr 1; funext d st1
  rw [w_of]
  congr 1; funext d st1
  rw [w_of]
theorem w_putR1 {n : Nat} {ds : List D} {j : Int} {m : Nat} {d : D} (h : st[n]? = some (.lst ds)) (hj : ixN ds.length j = some m) : RtP (putR r st (.ref n) (.int j) d) N R L E = N r (st.set n (.lst (ds.set m d))) := by
  unfold putR
  simp [h]
  rw [w_putL hj]
  rfl
theorem w_to {t : Tg} {f : Ev} : RtP (sTo t f r st) N R L E = RsP (f r st) (fun d st1 => ∃ r', t d r = some r' ∧ N r' st1) (fun c a st => E c a r st) := by
  unfold sTo
  rw [w_of]
  congr 1; funext d st1
  cases t d r <;> simp [RtP]
theorem w_ref {f : Ev} : RsP (bRef f r st) Q E' = RsP (f r st) (fun d st1 => match d with | .lst ds => Q (.ref st1.length) (st1 ++ [.lst ds]) | .dct ks vs => Q (.ref st1.length) (st1 ++ [.dct ks vs]) | _ => False) E' := by
  unfold bRef
  rw [w_bind]
  congr 1; funext d st1
  cases d <;> rfl

/-! ### loops -/
/-- what an iteration runs over -/
def RsIP (x : RsI) (Q : List D → Gd → Sto → Prop) (E : Str → Option (Str × D) → Sto → Prop) : Prop := match x with
  | .ok ds gs st => Q ds gs st
  | .err c a st => E c a st
  | .bad => False
theorem wi_ok {ds : List D} {gs : Gd} {QI : List D → Gd → Sto → Prop} : RsIP (.ok ds gs st) QI E' = QI ds gs st := rfl
theorem w_for {it : Iv} {t : Tg} {F : Sv} : RtP (sFor it t F r st) N R L E = RsIP (it r st) (fun ds gs st1 => RtP (forL t F gs ds r st1) N R L E) (fun c a st => E c a r st) := by
  unfold sFor
  cases it r st <;> rfl
theorem w_lc {it : Iv} {t : Tg} {vs : List Nat} : RsP (bLc it t c e vs r st) Q E' = RsIP (it r st) (fun ds gs st1 => RsP (lcL t c e gs (wp vs r) ds [] st1) Q E') E' := by
  unfold bLc
  cases it r st <;> rfl
theorem wi_seq {f : Ev} {QL : List D → Gd → Sto → Prop} : RsIP (itSeq f r st) QL E' = RsP (f r st) (fun d st1 => match d with | .lst ds => QL ds [] st1 | .tup ds => QL ds [] st1 | .ref n => (match st1[n]? with | some (.lst ds) => QL ds [(n, ds)] st1 | _ => False) | _ => False) E' := by
  unfold itSeq
  cases f r st <;> try rfl
  rename_i d st1
  cases d <;> try rfl
  rename_i n
  simp only [RsP]
  cases st1[n]? with
  | none => rfl
  | some so => cases so <;> rfl
theorem wi_r1 {f : Ev} {QL : List D → Gd → Sto → Prop} : RsIP (itR1 f r st) QL E' = RsP (f r st) (fun d st1 => match d with | .int j => (-B62 ≤ j ∧ j < B62) ∧ QL (rangeD 0 j.toNat) [] st1 | _ => False) E' := by
  unfold itR1
  cases f r st <;> try rfl
  rename_i d st1
  cases d <;> try rfl
  rename_i j
  by_cases z : -B62 ≤ j ∧ j < B62 <;> simp [z, RsIP, RsP]
theorem wi_r2 {f g : Ev} {QL : List D → Gd → Sto → Prop} : RsIP (itR2 f g r st) QL E' = RsP (f r st) (fun d st1 => RsP (g r st1) (fun d2 st2 => match d, d2 with | .int i, .int j => ((-B62 ≤ i ∧ i < B62) ∧ (-B62 ≤ j ∧ j < B62)) ∧ QL (rangeD i (j - i).toNat) [] st2 | _, _ => False) E') E' := by
  unfold itR2
  cases f r st <;> try rfl
  rename_i d st1
  simp only [RsP]
  cases g r st1 <;> try rfl
  rename_i d2 st2
  cases d <;> try rfl
  rename_i i
  cases d2 <;> try rfl
  rename_i j
  by_cases z : (-B62 ≤ i ∧ i < B62) ∧ (-B62 ≤ j ∧ j < B62)
  · simp [z, RsIP]
  · simp only [z, RsIP, false_and, if_false]
/-- what is read step by step -/
def srcP (st : Sto) (d : D) (Q : List D → Gd → Prop) : Prop := match d with
  | .lst ds => Q ds []
  | .ref n => (match st[n]? with | some (.lst ds) => Q ds [(n, ds)] | _ => False)
  | _ => False
theorem src_lst {ds : List D} {Q : List D → Gd → Prop} : srcP st (.lst ds) Q = Q ds [] := rfl
theorem src_ref {n : Nat} {Q : List D → Gd → Prop} : srcP st (.ref n) Q = match st[n]? with | some (.lst ds) => Q ds [(n, ds)] | _ => False := rfl
theorem src_eq {d : D} {Q : List D → Gd → Prop} : srcP st d Q = match srcD st d with | some p => Q p.1 p.2 | none => False := by
  cases d <;> try rfl
  rename_i n
  unfold srcP srcD
  simp only
  cases st[n]? with
  | none => rfl
  | some so => cases so <;> rfl
theorem wi_enum {f : Ev} {QL : List D → Gd → Sto → Prop} : RsIP (itEnum f r st) QL E' = RsP (f r st) (fun d st1 => srcP st1 d fun ds gs => QL (numd 0 ds) gs st1) E' := by
  unfold itEnum
  cases f r st <;> try rfl
  rename_i d st1
  simp only [RsP, src_eq]
  cases srcD st1 d <;> rfl
/-- what zip reads -/
def zipP (st : Sto) (d d2 : D) (Q : List D → Gd → Prop) : Prop := RsIP (zipS d d2 st) (fun ds gs _ => Q ds gs) (fun _ _ _ => False)
theorem zip_tt {xs ys : List D} {Q : List D → Gd → Prop} : zipP st (.tup xs) (.tup ys) Q = Q (zipd xs ys) [] := rfl
theorem zip_ll {xs ys : List D} {Q : List D → Gd → Prop} : zipP st (.lst xs) (.lst ys) Q = Q (zipd xs ys) [] := rfl
theorem zip_rl {n : Nat} {ys : List D} {Q : List D → Gd → Prop} : zipP st (.ref n) (.lst ys) Q = match st[n]? with | some (.lst xs) => Q (zipd xs ys) [(n, xs)] | _ => False := by
  unfold zipP zipS srcD
  simp only
  cases st[n]? with
  | none => rfl
  | some so => cases so <;> rfl
theorem zip_lr {n : Nat} {xs : List D} {Q : List D → Gd → Prop} : zipP st (.lst xs) (.ref n) Q = match st[n]? with | some (.lst ys) => Q (zipd xs ys) [(n, ys)] | _ => False := by
  unfold zipP zipS srcD
  simp only
  cases st[n]? with
  | none => rfl
  | some so => cases so <;> rfl
theorem wi_zip {f g : Ev} {QL : List D → Gd → Sto → Prop} : RsIP (itZip f g r st) QL E' = RsP (f r st) (fun d st1 => RsP (g r st1) (fun d2 st2 => zipP st2 d d2 fun ds gs => QL ds gs st2) E') E' := by
  unfold itZip
  cases f r st <;> try rfl
  rename_i d st1
  simp only [RsP]
  cases g r st1 <;> try rfl
  rename_i d2 st2
  simp only
  unfold zipP
  rcases zipS_cases (d := d) (d2 := d2) (st := st2) with ⟨ds, gs, e⟩ | e
  · rw [e]; rfl
  · rw [e]; rfl
theorem for_rule {t : Tg} {F : Sv} {gs : Gd} {α : Type} {enc : α → D} (I : List α → List α → Env → Sto → Prop) {xs : List α} (h0 : I [] xs r st)
    (hs : ∀ done a rest r st, xs = done ++ a :: rest → I done (a :: rest) r st → ∃ r1, t (enc a) r = some r1 ∧ RtP (F r1 st) (fun r2 st2 => I (done ++ [a]) rest r2 st2) R (fun b r2 st2 => if b = true then N r2 st2 else I (done ++ [a]) rest r2 st2) E)
    (hn : ∀ r st, I xs [] r st → N r st) (hg : ∀ done rest r st, I done rest r st → okG gs st := by exact fun _ _ _ _ _ => okG_nil.mpr trivial) : RtP (forL t F gs (xs.map enc) r st) N R L E := by
  have key : ∀ (rest done : List α) r st, xs = done ++ rest → I done rest r st → RtP (forL t F gs (rest.map enc) r st) N R L E := by
    intro rest
    induction rest with
    | nil =>
      intro done r st e h
      rw [List.append_nil] at e
      subst e
      rw [List.map_nil]
      unfold forL
      rw [if_pos (hg _ _ _ _ h)]
      exact hn r st h
    | cons a rest ih =>
      intro done r st e h
      obtain ⟨r1, e1, h1⟩ := hs done a rest r st e h
      rw [List.map_cons]
      unfold forL
      rw [if_pos (hg _ _ _ _ h), e1]
      simp only
      cases z : F r1 st with
      | nx r2 st2 =>
        rw [z] at h1
        exact ih (done ++ [a]) r2 st2 (by rw [e]; simp) h1
      | ct r2 st2 =>
        rw [z] at h1
        exact ih (done ++ [a]) r2 st2 (by rw [e]; simp) (by simpa [RtP] using h1)
      | bk r2 st2 =>
        rw [z] at h1
        simpa [RtP] using h1
      | rt d st2 => rw [z] at h1; exact h1
      | err c a r2 st2 => rw [z] at h1; exact h1
      | bad => rw [z] at h1; exact h1.elim
  exact key xs [] r st rfl h0
theorem lc_rule {t : Tg} {c e : Ev} {gs : Gd} {α : Type} {enc : α → D} (I : List α → List α → List D → Sto → Prop) {xs : List α} (h0 : I [] xs [] st)
    (hs : ∀ done a rest acc st, xs = done ++ a :: rest → I done (a :: rest) acc st → ∃ r1, t (enc a) r = some r1 ∧ RsP (c r1 st) (fun d st1 => bX d (RsP (e r1 st1) (fun x st2 => I (done ++ [a]) rest (acc ++ [x]) st2) (fun _ _ _ => False)) (I (done ++ [a]) rest acc st1)) (fun _ _ _ => False))
    (hl : xs.length ≤ LIM) (hn : ∀ acc st, I xs [] acc st → Q (.lst acc) st) (hg : ∀ done rest acc st, I done rest acc st → okG gs st := by exact fun _ _ _ _ _ => okG_nil.mpr trivial) : RsP (lcL t c e gs r (xs.map enc) [] st) Q E' := by
  have key : ∀ (rest done : List α) acc st, xs = done ++ rest → acc.length ≤ done.length → I done rest acc st → RsP (lcL t c e gs r (rest.map enc) acc st) Q E' := by
    intro rest
    induction rest with
    | nil =>
      intro done acc st e _ h
      rw [List.append_nil] at e
      subst e
      rw [List.map_nil]
      unfold lcL
      rw [if_pos (hg _ _ _ _ h)]
      exact hn acc st h
    | cons a rest ih =>
      intro done acc st e' hc h
      obtain ⟨r1, e1, h1⟩ := hs done a rest acc st e' h
      have hz : acc.length < LIM := by
        have : xs.length = done.length + (rest.length + 1) := by rw [e']; simp
        omega
      rw [List.map_cons]
      unfold lcL
      rw [if_pos (hg _ _ _ _ h), e1]
      simp only
      cases z : c r1 st with
      | ok d st1 =>
        rw [z] at h1
        cases d with
        | bl b =>
          cases b with
          | true =>
            have h2 : RsP (e r1 st1) (fun x st2 => I (done ++ [a]) rest (acc ++ [x]) st2) (fun _ _ _ => False) := by simpa [RsP, bX] using h1
            simp only
            cases z2 : e r1 st1 with
            | ok x st2 =>
              rw [z2] at h2
              simp only [hz, if_true]
              exact ih (done ++ [a]) _ st2 (by rw [e']; simp) (by simp; omega) h2
            | err _ _ _ => rw [z2] at h2; exact h2.elim
            | bad => rw [z2] at h2; exact h2.elim
          | false =>
            have h2 : I (done ++ [a]) rest acc st1 := by simpa [RsP, bX] using h1
            simp only
            exact ih (done ++ [a]) _ st1 (by rw [e']; simp) (by simp; omega) h2
        | _ => exact (show False from h1).elim
      | err _ _ _ => rw [z] at h1; exact h1.elim
      | bad => rw [z] at h1; exact h1.elim
  exact key xs [] [] st rfl (by simp) h0
end
theorem lc_pure {t : Tg} {c e : Ev} {gs : Gd} {r : Env} {st : Sto} {Q : D → Sto → Prop} {E' : Str → Option (Str × D) → Sto → Prop} {α : Type} {enc : α → D} (p : α → Bool) (g : α → D) {xs : List α}
    (hs : ∀ a ∈ xs, ∃ r1, t (enc a) r = some r1 ∧ RsP (c r1 st) (fun d st1 => d = .bl (p a) ∧ st1 = st) (fun _ _ _ => False) ∧ (p a = true → RsP (e r1 st) (fun d st1 => d = g a ∧ st1 = st) (fun _ _ _ => False)))
    (hl : xs.length ≤ LIM) (hn : Q (.lst ((xs.filter p).map g)) st) (hg : okG gs st := by exact okG_nil.mpr trivial) : RsP (lcL t c e gs r (xs.map enc) [] st) Q E' := by
  refine lc_rule (fun done rest acc s => s = st ∧ acc = (done.filter p).map g) ⟨rfl, rfl⟩ ?_ hl (fun acc s h => by rw [h.1, h.2]; exact hn) (fun _ _ _ s h => by rw [h.1]; exact hg)
  rintro done a rest acc s e ⟨rfl, rfl⟩
  obtain ⟨r1, e1, h1, h2⟩ := hs a (by rw [e]; simp)
  refine ⟨r1, e1, w_mono h1 ?_ (fun _ _ _ h => h)⟩
  rintro d s1 ⟨rfl, rfl⟩
  refine ⟨fun hp => w_mono (h2 hp) ?_ (fun _ _ _ h => h), fun hp => ?_⟩
  · rintro d s2 ⟨rfl, rfl⟩
    simp [List.filter_append, hp]
  · simp [List.filter_append, hp]
theorem rangeD_map {lo : Int} {n : Nat} : rangeD lo n = ((List.range n).map fun (i : Nat) => lo + (i : Int)).map D.int := by simp [rangeD]
theorem bX_bl {b : Bool} {p q : Prop} : bX (.bl b) p q = ((b = true → p) ∧ (b = false → q)) := rfl
/-! ### the same, read off the environment -/
section
variable {x : Rt} {N : Env → Sto → Prop} {R : D → Sto → Prop} {L : Bool → Env → Sto → Prop} {E : Str → Option (Str × D) → Env → Sto → Prop} {r : Env} {st : Sto} {f g : Sv} {c e : Ev} {Q : D → Sto → Prop} {E' : Str → Option (Str × D) → Sto → Prop}
theorem m_var {i : Nat} : RsP (bVar i r st) Q E' = match r i with | some (false, d) => Q d st | _ => False := by
  unfold bVar
  cases z : r i with
  | none => rfl
  | some p => obtain ⟨b, d⟩ := p; cases b <;> rfl
theorem m_peek {i : Nat} : RsP (bPeek i r st) Q E' = match r i with | some (_, d) => Q d st | _ => False := by
  unfold bPeek
  cases z : r i with
  | none => rfl
  | some p => rfl
theorem m_retOwn {i : Nat} : RtP (sRetOwn i r st) N R L E = match r i with | some (true, d) => R d st | _ => False := by
  unfold sRetOwn
  cases z : r i with
  | none => rfl
  | some p => obtain ⟨b, d⟩ := p; cases b <;> rfl
theorem m_fix {i : Nat} {f : Sv} : RtP (sFix i f r st) N R L E = match r i with | some (true, d) => RtP (f (r.set i (some (false, d))) st) N R L E | some (false, _) => RtP (f r st) N R L E | none => False := by
  unfold sFix
  cases z : r i with
  | none => rfl
  | some p => obtain ⟨b, d⟩ := p; cases b <;> rfl
theorem m_app {i : Nat} {f : Ev} : RtP (sApp i f r st) N R L E = match r i with | some (true, .lst ds) => RsP (f r st) (fun d st1 => ds.length < LIM ∧ N (r.set i (some (true, .lst (ds ++ [d])))) st1) (fun c a st => E c a r st) | _ => False := by
  cases z : r i with
  | none => unfold sApp; rw [z]; rfl
  | some p =>
    obtain ⟨b, d⟩ := p
    cases b with
    | false => unfold sApp; rw [z]; rfl
    | true =>
      cases d with
      | lst ds => exact w_app z
      | _ => unfold sApp; rw [z]; rfl
theorem m_ext {i : Nat} {f : Ev} : RtP (sExt i f r st) N R L E = match r i with | some (true, .lst ds) => RsP (f r st) (fun d st1 => match d with | .lst es => ds.length + es.length ≤ LIM ∧ N (r.set i (some (true, .lst (ds ++ es)))) st1 | _ => False) (fun c a st => E c a r st) | _ => False := by
  cases z : r i with
  | none => unfold sExt; rw [z]; rfl
  | some p =>
    obtain ⟨b, d⟩ := p
    cases b with
    | false => unfold sExt; rw [z]; rfl
    | true =>
      cases d with
      | lst ds => exact w_ext z
      | _ => unfold sExt; rw [z]; rfl
theorem m_putL {ds : List D} {z : Int} {d : D} {k : List D → Rt} : RtP (putL ds (.int z) d k) N R L E = ∃ n, ixN ds.length z = some n ∧ RtP (k (ds.set n d)) N R L E := by
  unfold putL
  simp only
  cases ixN ds.length z <;> simp [RtP]
theorem m_put {i : Nat} {g f : Ev} : RtP (sPut i g f r st) N R L E = RsP (f r st) (fun d st1 => match r i with | some (true, .lst ds) => RsP (g r st1) (fun j st2 => RtP (putL ds j d fun es => .nx (r.set i (some (true, .lst es))) st2) N R L E) (fun c a st => E c a r st) | _ => False) (fun c a st => E c a r st) := by
  unfold sPut
  rw [w_of]
  congr 1
  funext d st1
  cases z : r i with
  | none => rfl
  | some p =>
    obtain ⟨b, d⟩ := p
    cases b with
    | false => rfl
    | true =>
      cases d with
      | lst ds => exact w_of
      | _ => rfl
theorem m_putR {n : Nat} {j d : D} : RtP (putR r st (.ref n) j d) N R L E = match st[n]? with | some (.lst ds) => RtP (putL ds j d fun es => .nx r (st.set n (.lst es))) N R L E | _ => False := by
  unfold putR
  simp only
  cases z : st[n]? with
  | none => rfl
  | some p => cases p <;> rfl
theorem env_set {i j : Nat} {x : Option (Bool × D)} : Env.set r i x j = if j = i then x else r j := rfl
theorem env_0 {d : D} {ds : List D} : argEnv (d :: ds) 0 = some (false, d) := rfl
theorem env_s {d : D} {ds : List D} {n : Nat} : argEnv (d :: ds) (n + 1) = argEnv ds n := rfl
theorem env_n {n : Nat} : argEnv [] n = none := rfl
theorem env_wp {vs : List Nat} {j : Nat} : wp vs r j = if j ∈ vs then none else r j := rfl
theorem t_n {i : Nat} {d : D} : tgN i d r = some (r.set i (some (false, d))) := rfl
theorem t_u {ts : List Tg} {ds : List D} : tgU ts (.tup ds) r = tgs ts ds r := rfl
theorem t_0 : tgs [] [] r = some r := rfl
theorem t_s {t : Tg} {ts : List Tg} {d : D} {ds : List D} : tgs (t :: ts) (d :: ds) r = (t d r).bind (tgs ts ds) := rfl
end
end Sm

/-! Sim15: operations in rules for simp; plain data. -/
namespace Sm
open PySem L2
section
variable {Q : D → Sto → Prop} {E : Str → Option (Str × D) → Sto → Prop} {st : Sto} {i j : Int} {xs ys : List D}
theorem o_add : RsP (opAdd (.int i) (.int j) st) Q E = Q (.int (i + j)) st := rfl
theorem o_addT : RsP (opAdd (.tup xs) (.tup ys) st) Q E = (xs.length + ys.length ≤ LIM ∧ Q (.tup (xs ++ ys)) st) := by
  by_cases h : xs.length + ys.length ≤ LIM <;> simp [opAdd, h, RsP]
theorem o_addL : RsP (opAdd (.lst xs) (.lst ys) st) Q E = (xs.length + ys.length ≤ LIM ∧ Q (.lst (xs ++ ys)) st) := by
  by_cases h : xs.length + ys.length ≤ LIM <;> simp [opAdd, h, RsP]
theorem o_addS {x y : Str} : RsP (opAdd (.str x) (.str y) st) Q E = (x.length + y.length ≤ LIM ∧ Q (.str (x ++ y)) st) := by
  by_cases h : x.length + y.length ≤ LIM <;> simp [opAdd, h, RsP]
theorem o_cat : RsP (opCat (.lst xs) (.lst ys) st) Q E = (xs.length + ys.length ≤ LIM ∧ Q (.lst (xs ++ ys)) st) := by
  by_cases h : xs.length + ys.length ≤ LIM <;> simp [opCat, h, RsP]
theorem o_sub : RsP (opSub (.int i) (.int j) st) Q E = Q (.int (i - j)) st := rfl
theorem o_mul : RsP (opMul (.int i) (.int j) st) Q E = (((-M64 < i ∧ i < M64) ∨ (-M64 < j ∧ j < M64)) ∧ Q (.int (i * j)) st) := by
  by_cases h : (-M64 < i ∧ i < M64) ∨ (-M64 < j ∧ j < M64)
  · simp only [opMul, RsP, h, true_and, if_true]
  · simp only [opMul, RsP, h, false_and, if_false]
theorem o_mod : RsP (opMod (.int i) (.int j) st) Q E = (0 < j ∧ Q (.int (i % j)) st) := by
  by_cases h : 0 < j <;> simp [opMod, h, RsP]
theorem o_fdiv : RsP (opFdiv (.int i) (.int j) st) Q E = ((0 < j ∧ j < D40) ∧ Q (.int (i / j)) st) := by
  by_cases h : 0 < j ∧ j < D40
  · simp only [opFdiv, RsP, h, true_and, if_true]
  · simp only [opFdiv, RsP, h, false_and, if_false]
theorem o_pow : RsP (opPow (.int i) (.int j) st) Q E = (((0 ≤ j ∧ j ≤ 1000) ∧ (0 ≤ i ∧ i < M64)) ∧ Q (.int (i ^ j.toNat)) st) := by
  by_cases h : (0 ≤ j ∧ j ≤ 1000) ∧ (0 ≤ i ∧ i < M64)
  · simp only [opPow, RsP, h, true_and, if_true]
  · simp only [opPow, RsP, h, false_and, if_false]
theorem o_eq {a b : D} : RsP (opEq a b st) Q E = (shp 60 a = true ∧ shp 60 b = true ∧ Q (.bl (eqv a b)) st) := by
  unfold opEq
  cases shp 60 a <;> cases shp 60 b <;> simp [RsP]
theorem o_ne {a b : D} : RsP (opNe a b st) Q E = (shp 60 a = true ∧ shp 60 b = true ∧ Q (.bl (!eqv a b)) st) := by
  unfold opNe
  cases shp 60 a <;> cases shp 60 b <;> simp [RsP]
theorem o_ic {h : Int → Int → Bool} : RsP (intCmp h (.int i) (.int j) st) Q E = Q (.bl (h i j)) st := rfl
theorem o_isN {neg : Bool} {d : D} : RsP (opIs neg d .non st) Q E = Q (.bl (neg ^^ isN d)) st := by
  cases d <;> rfl
theorem o_ixL : RsP (opIx (.lst xs) (.int i) st) Q E = ∃ d, atI xs i = some d ∧ Q d st := by
  simp only [opIx]; cases atI xs i <;> simp [RsP]
theorem o_ixT : RsP (opIx (.tup xs) (.int i) st) Q E = ∃ d, atI xs i = some d ∧ Q d st := by
  simp only [opIx]; cases atI xs i <;> simp [RsP]
theorem o_ixR {n : Nat} (h : st[n]? = some (.lst xs)) : RsP (opIx (.ref n) (.int i) st) Q E = ∃ d, atI xs i = some d ∧ Q d st := by
  simp only [opIx, h]
  cases atI xs i <;> simp [RsP]
theorem m_ixR {n : Nat} : RsP (opIx (.ref n) (.int i) st) Q E = match st[n]? with | some (.lst xs) => ∃ d, atI xs i = some d ∧ Q d st | _ => False := by
  simp only [opIx]
  cases z : st[n]? with
  | none => rfl
  | some p =>
    cases p with
    | lst xs => simp only; cases atI xs i <;> simp [RsP]
    | _ => rfl
theorem f_lenL : RsP (fLen [.lst xs] st) Q E = Q (.int (xs.length : Int)) st := rfl
theorem f_lenT : RsP (fLen [.tup xs] st) Q E = Q (.int (xs.length : Int)) st := rfl
theorem f_tupL : RsP (fTuple [.lst xs] st) Q E = Q (.tup xs) st := rfl
theorem f_tupT : RsP (fTuple [.tup xs] st) Q E = Q (.tup xs) st := rfl
theorem f_listL : RsP (fList [.lst xs] st) Q E = Q (.lst xs) st := rfl
theorem f_listT : RsP (fList [.tup xs] st) Q E = Q (.lst xs) st := rfl
theorem f_min2 : RsP (fMin2 [.int i, .int j] st) Q E = Q (.int (min i j)) st := by
  have : (if j < i then j else i) = min i j := by omega
  simp only [fMin2, RsP, this]
theorem f_max2 : RsP (fMax2 [.int i, .int j] st) Q E = Q (.int (max i j)) st := by
  have : (if j > i then j else i) = max i j := by omega
  simp only [fMax2, RsP, this]
theorem bls_map {α : Type} {g : α → Bool} {xs : List α} : blsOf (xs.map fun x => .bl (g x)) = some (xs.map g) := by
  induction xs with
  | nil => rfl
  | cons a xs ih => simp [blsOf, ih]
theorem ints_map {α : Type} {g : α → Int} {xs : List α} : intsOf (xs.map fun x => .int (g x)) = some (xs.map g) := by
  induction xs with
  | nil => rfl
  | cons a xs ih => simp [intsOf, ih]
theorem f_all {α : Type} {g : α → Bool} {xs : List α} : RsP (fAll [.lst (xs.map fun x => .bl (g x))] st) Q E = Q (.bl (xs.all g)) st := by
  have : (xs.map g).all id = xs.all g := by simp [List.all_map]
  simp only [fAll, bls_map, RsP, this]
theorem f_any {α : Type} {g : α → Bool} {xs : List α} : RsP (fAny [.lst (xs.map fun x => .bl (g x))] st) Q E = Q (.bl (xs.any g)) st := by
  have : (xs.map g).any id = xs.any g := by simp [List.any_map]
  simp only [fAny, bls_map, RsP, this]
theorem f_sum {α : Type} {g : α → Int} {xs : List α} : RsP (fSum [.lst (xs.map fun x => .int (g x))] st) Q E = Q (.int (xs.map g).sum) st := by
  simp only [fSum, ints_map, RsP]
theorem f_reprB {b : Bool} : RsP (fRepr [.bl b] st) Q E = Q (.str (if b then "True" else "False")) st := rfl
theorem w_sl {F : D → Option Int → Option Int → Sto → Rs} {f : Ev} {r : Env} : RsP (bSl F f none none r st) Q E = RsP (f r st) (fun a st1 => RsP (F a none none st1) Q E) E := by
  unfold bSl; rw [w_bind]; rfl
theorem w_slA {F : D → Option Int → Option Int → Sto → Rs} {f lo : Ev} {r : Env} : RsP (bSl F f (some lo) none r st) Q E = RsP (f r st) (fun a st1 => RsP (lo r st1) (fun d st2 => match d with | .int i => RsP (F a (some i) none st2) Q E | _ => False) E) E := by
  unfold bSl; rw [w_bind]; congr 1; funext a st1
  show RsP ((lo r st1).bind _) Q E = _
  rw [w_bind]; congr 1; funext d st2
  cases d <;> rfl
theorem w_slB {F : D → Option Int → Option Int → Sto → Rs} {f hi : Ev} {r : Env} : RsP (bSl F f none (some hi) r st) Q E = RsP (f r st) (fun a st1 => RsP (hi r st1) (fun d st2 => match d with | .int i => RsP (F a none (some i) st2) Q E | _ => False) E) E := by
  unfold bSl; rw [w_bind]; congr 1; funext a st1
  show RsP ((hi r st1).bind _) Q E = _
  rw [w_bind]; congr 1; funext d st2
  cases d <;> rfl
theorem w_slC {F : D → Option Int → Option Int → Sto → Rs} {f lo hi : Ev} {r : Env} : RsP (bSl F f (some lo) (some hi) r st) Q E = RsP (f r st) (fun a st1 => RsP (lo r st1) (fun d st2 => match d with | .int i => RsP (hi r st2) (fun d st3 => match d with | .int j => RsP (F a (some i) (some j) st3) Q E | _ => False) E | _ => False) E) E := by
  unfold bSl; rw [w_bind]; congr 1; funext a st1
  show RsP ((lo r st1).bind _) Q E = _
  rw [w_bind]; congr 1; funext d st2
  cases d <;> try rfl
  show RsP ((hi r st2).bind _) Q E = _
  rw [w_bind]; congr 1; funext d st3
  cases d <;> rfl
variable {lo hi : Option Int}
theorem o_slL : RsP (opSl (.lst xs) lo hi st) Q E = Q (.lst (cut xs lo hi)) st := rfl
theorem o_slT : RsP (opSl (.tup xs) lo hi st) Q E = Q (.tup (cut xs lo hi)) st := rfl
theorem o_slF : RsP (opSl (.frg xs) lo hi st) Q E = Q (.lst (cut xs lo hi)) st := rfl
theorem o_slLL : RsP (opSlL (.lst xs) lo hi st) Q E = Q (.lst (cut xs lo hi)) st := rfl
theorem o_slLF : RsP (opSlL (.frg xs) lo hi st) Q E = Q (.lst (cut xs lo hi)) st := rfl
end

/-! ### plain data -/
theorem ixN_in {n : Nat} {i : Int} (h0 : 0 ≤ i) (h1 : i < n) : ixN n i = some i.toNat := by simp [ixN, h0, h1]
theorem ixN_lt {n : Nat} {i : Int} {m : Nat} (h : ixN n i = some m) : m < n := by
  unfold ixN at h
  split at h
  · split at h
    · cases h; omega
    · cases h
  · split at h
    · cases h; omega
    · cases h
theorem atI_map {α : Type} {f : α → D} {xs : List α} {i : Int} : atI (xs.map f) i = (atI xs i).map f := by
  unfold atI
  rw [List.length_map]
  cases ixN xs.length i <;> simp
theorem atI_in {α : Type} {xs : List α} {i : Int} (h0 : 0 ≤ i) (h1 : i < xs.length) : ∃ a, atI xs i = some a ∧ a ∈ xs := by
  unfold atI
  rw [ixN_in h0 h1]
  have h : i.toNat < xs.length := by omega
  exact ⟨xs[i.toNat], by simp [h], List.getElem_mem h⟩
theorem atI_mem {α : Type} {xs : List α} {i : Int} {a : α} (h : atI xs i = some a) : a ∈ xs := by
  unfold atI at h
  cases z : ixN xs.length i with
  | none => rw [z] at h; cases h
  | some m => rw [z] at h; exact List.mem_of_getElem? h
theorem atI_0 {α : Type} {a : α} {xs : List α} : atI (a :: xs) 0 = some a := by
  unfold atI
  rw [ixN_in (by omega) (by simp only [List.length_cons]; omega)]
  rfl
theorem atI_s {α : Type} {a : α} {xs : List α} {i : Int} (h : 0 < i) : atI (a :: xs) i = atI xs (i - 1) := by
  unfold atI
  by_cases z : i < (xs.length : Int) + 1
  · rw [ixN_in (by omega) (by simp only [List.length_cons]; omega), ixN_in (by omega) (by omega)]
    have e : i.toNat = (i - 1).toNat + 1 := by omega
    show (a :: xs)[i.toNat]? = xs[(i - 1).toNat]?
    rw [e, List.getElem?_cons_succ]
  · have e1 : ixN (a :: xs).length i = none := by unfold ixN; rw [if_pos (by omega), if_neg (by simp only [List.length_cons]; omega)]
    have e2 : ixN xs.length (i - 1) = none := by unfold ixN; rw [if_pos (by omega), if_neg (by omega)]
    rw [e1, e2]; rfl
theorem cut_map {α : Type} {f : α → D} {xs : List α} {lo hi : Option Int} : cut (xs.map f) lo hi = (cut xs lo hi).map f := by
  unfold cut
  rw [List.length_map, List.map_take, List.map_drop]
theorem cut_mem {α : Type} {xs : List α} {lo hi : Option Int} {a : α} (h : a ∈ cut xs lo hi) : a ∈ xs := List.mem_of_mem_drop (List.mem_of_mem_take h)
theorem cut_len {α : Type} {xs : List α} {lo hi : Option Int} : (cut xs lo hi).length ≤ xs.length := by
  unfold cut
  rw [List.length_take, List.length_drop]
  omega
theorem sIx_eq {n d : Nat} {i : Int} (h : 0 ≤ i) (h1 : i ≤ n) : HT.sIx n d (some i) = i.toNat := by
  unfold HT.sIx
  simp only
  split <;> omega
theorem cut_to {α : Type} {xs : List α} {i : Int} (h : 0 ≤ i) (h1 : i ≤ xs.length) : cut xs none (some i) = xs.take i.toNat := by
  unfold cut
  rw [sIx_eq h h1]
  simp [HT.sIx]
theorem cut_from {α : Type} {xs : List α} {i : Int} (h : 0 ≤ i) (h1 : i ≤ xs.length) : cut xs (some i) none = xs.drop i.toNat := by
  unfold cut
  rw [sIx_eq h h1]
  simp only [HT.sIx]
  rw [List.take_of_length_le]
  simp

/-- no truths in it, no dicts, nothing of the store -/
def nbs : List D → Bool
  | [] => true
  | d :: ds => (match d with | .int _ => true | .str _ => true | .non => true | .tup xs => nbs xs | .lst xs => nbs xs | _ => false) && nbs ds
def nb (d : D) : Bool := nbs [d]
theorem nbs_cons {d : D} {ds : List D} : nbs (d :: ds) = (nb d && nbs ds) := by
  unfold nb
  cases d <;> simp [nbs]
theorem nbs_all : ∀ xs : List D, nbs xs = xs.all nb := by
  intro xs
  induction xs with
  | nil => simp [nbs]
  | cons d ds ih => rw [List.all_cons, ← ih, nbs_cons]
theorem nb_int {i : Int} : nb (.int i) = true := by simp [nb, nbs]
theorem nb_tup {xs : List D} : nb (.tup xs) = xs.all nb := by
  rw [← nbs_all]; simp [nb, nbs]
theorem nb_lst {xs : List D} : nb (.lst xs) = xs.all nb := by
  rw [← nb_tup]; simp [nb, nbs]
mutual
theorem py_inj : ∀ (a b : D), nb a = true → nb b = true → PyData.eqv a.py b.py = true → a = b
  | .non, b, _, hb, h => by cases b <;> simp_all [D.py, PyData.eqv, nb, nbs]
  | .int i, b, _, hb, h => by cases b <;> simp_all [D.py, PyData.eqv, nb, nbs]
  | .str i, b, _, hb, h => by cases b <;> simp_all [D.py, PyData.eqv, nb, nbs]
  | .tup xs, b, ha, hb, h => by
    cases b with
    | tup ys =>
      simp only [D.py, PyData.eqv] at h
      rw [pys_inj xs ys (by simpa [nb, nbs] using ha) (by simpa [nb, nbs] using hb) h]
    | _ => simp_all [D.py, PyData.eqv, nb, nbs]
  | .lst xs, b, ha, hb, h => by
    cases b with
    | lst ys =>
      simp only [D.py, PyData.eqv] at h
      rw [pys_inj xs ys (by simpa [nb, nbs] using ha) (by simpa [nb, nbs] using hb) h]
    | _ => simp_all [D.py, PyData.eqv, nb, nbs]
  | .bl _, _, ha, _, _ => by simp [nb, nbs] at ha
  | .dct _ _, _, ha, _, _ => by simp [nb, nbs] at ha
  | .ref _, _, ha, _, _ => by simp [nb, nbs] at ha
  | .exc _ _, _, ha, _, _ => by simp [nb, nbs] at ha
  | .frg _, _, ha, _, _ => by simp [nb, nbs] at ha
theorem pys_inj : ∀ (a b : List D), nbs a = true → nbs b = true → PyData.eqvAll (pys a) (pys b) = true → a = b
  | [], [], _, _, _ => rfl
  | [], y :: ys, _, _, h => by simp [pys, PyData.eqvAll] at h
  | x :: xs, [], _, _, h => by simp [pys, PyData.eqvAll] at h
  | x :: xs, y :: ys, ha, hb, h => by
    simp only [pys, PyData.eqvAll, Bool.and_eq_true] at h
    have a1 : nb x = true ∧ nbs xs = true := by simpa [nbs_cons] using ha
    have b1 : nb y = true ∧ nbs ys = true := by simpa [nbs_cons] using hb
    rw [py_inj x y a1.1 b1.1 h.1, pys_inj xs ys a1.2 b1.2 h.2]
end
mutual
theorem py_refl : ∀ (a : D), nb a = true → PyData.eqv a.py a.py = true
  | .non, _ => by simp [D.py, PyData.eqv]
  | .int i, _ => by simp [D.py, PyData.eqv]
  | .str i, _ => by simp [D.py, PyData.eqv]
  | .tup xs, ha => by simp only [D.py, PyData.eqv]; exact pys_refl xs (by simpa [nb, nbs] using ha)
  | .lst xs, ha => by simp only [D.py, PyData.eqv]; exact pys_refl xs (by simpa [nb, nbs] using ha)
  | .bl _, ha => by simp [nb, nbs] at ha
  | .dct _ _, ha => by simp [nb, nbs] at ha
  | .ref _, ha => by simp [nb, nbs] at ha
  | .exc _ _, ha => by simp [nb, nbs] at ha
  | .frg _, ha => by simp [nb, nbs] at ha
theorem pys_refl : ∀ (a : List D), nbs a = true → PyData.eqvAll (pys a) (pys a) = true
  | [], _ => by simp [pys, PyData.eqvAll]
  | x :: xs, ha => by
    have a1 : nb x = true ∧ nbs xs = true := by simpa [nbs_cons] using ha
    simp only [pys, PyData.eqvAll, py_refl x a1.1, pys_refl xs a1.2, Bool.and_self]
end
theorem eqv_nb {a b : D} (ha : nb a = true) (hb : nb b = true) : eqv a b = true ↔ a = b :=
  ⟨py_inj a b ha hb, fun h => by subst h; exact py_refl a ha⟩
theorem eqv_dec {a b : D} {p : Prop} [Decidable p] (ha : nb a = true) (hb : nb b = true) (h : a = b ↔ p) : eqv a b = decide p := by
  have := eqv_nb ha hb
  rw [h] at this
  cases z : eqv a b with
  | true => rw [z] at this; simp [this.mp rfl]
  | false => rw [z] at this; simp at this; simp [this]
theorem eqv_int {i j : Int} : eqv (.int i) (.int j) = decide (i = j) := by rw [Bool.eq_iff_iff]; simp [eqv, D.py, PyData.eqv]
theorem eqv_bl {i j : Bool} : eqv (.bl i) (.bl j) = (i == j) := by simp [eqv, D.py, PyData.eqv]
theorem eqv_str {i j : Str} : eqv (.str i) (.str j) = (i == j) := by simp [eqv, D.py, PyData.eqv]
theorem eqv_nil {xs : List D} : eqv (.lst xs) (.lst []) = xs.isEmpty := by
  cases xs <;> simp [eqv, D.py, pys, PyData.eqv, PyData.eqvAll]
theorem eqv_nilT {xs : List D} : eqv (.tup xs) (.tup []) = xs.isEmpty := by
  cases xs <;> simp [eqv, D.py, pys, PyData.eqv, PyData.eqvAll]
theorem shp_bl {n : Nat} {b : Bool} : shp n (.bl b) = true := by cases n <;> simp [shp]
theorem shp_int {n : Nat} {b : Int} : shp n (.int b) = true := by cases n <;> simp [shp]
theorem shp_non {n : Nat} : shp n .non = true := by cases n <;> simp [shp]
theorem shp_str {n : Nat} {x : Str} : shp n (.str x) = PyData.strOk x := by cases n <;> simp [shp]
theorem shp_tup {n : Nat} {xs : List D} : shp (n + 1) (.tup xs) = xs.all (shp n) := by simp [shp, shps_all]
theorem shp_lst {n : Nat} {xs : List D} : shp (n + 1) (.lst xs) = xs.all (shp n) := by simp [shp, shps_all]
def dI (n : Int) : D := .int n
def dP (p : Int × Int) : D := .tup [.int p.1, .int p.2]
def dT (l : List Int) : D := .tup (l.map D.int)
def dW (w : List (Int × Int)) : D := .tup (w.map dP)
def dWs (w : List (List (Int × Int))) : D := .lst (w.map dW)
theorem map_inj' {α : Type} {f : α → D} (hf : ∀ a b, f a = f b → a = b) : ∀ (xs ys : List α), xs.map f = ys.map f → xs = ys
  | [], [], _ => rfl
  | [], y :: ys, h => by cases h
  | x :: xs, [], h => by cases h
  | x :: xs, y :: ys, h => by
    simp only [List.map_cons, List.cons.injEq] at h
    rw [hf _ _ h.1, map_inj' hf xs ys h.2]
theorem dP_inj : ∀ a b, dP a = dP b → a = b := by
  rintro ⟨a, b⟩ ⟨c, d⟩ h
  simp only [dP, D.tup.injEq, List.cons.injEq, D.int.injEq, and_true] at h
  rw [h.1, h.2]
theorem dW_inj : ∀ a b, dW a = dW b → a = b := fun a b h => map_inj' dP_inj a b (by simpa [dW] using h)
theorem dT_inj : ∀ a b, dT a = dT b → a = b := fun a b h => map_inj' (f := D.int) (fun _ _ h => D.int.inj h) a b (by simpa [dT] using h)
theorem dWs_inj : ∀ a b, dWs a = dWs b → a = b := fun a b h => map_inj' dW_inj a b (by simpa [dWs] using h)
theorem nb_dP {p} : nb (dP p) = true := by simp [dP, nb_tup, nb_int]
theorem nb_dT {p} : nb (dT p) = true := by simp [dT, nb_tup, nb_int]
theorem nb_dW {p} : nb (dW p) = true := by simp [dW, nb_tup, nb_dP]
theorem nb_dWs {p} : nb (dWs p) = true := by simp [dWs, nb_lst, nb_dW]
theorem shp_dP {n : Nat} {p} : shp (n + 1) (dP p) = true := by simp [dP, shp_tup, shp_int]
theorem shp_dT {n : Nat} {p} : shp (n + 1) (dT p) = true := by simp [dT, shp_tup, shp_int]
theorem shp_dW {n : Nat} {p} : shp (n + 2) (dW p) = true := by simp [dW, shp_tup, shp_dP]
theorem shp_dWs {n : Nat} {p} : shp (n + 3) (dWs p) = true := by simp [dWs, shp_lst, shp_dW]
theorem eqv_dP {a b} : eqv (dP a) (dP b) = decide (a = b) := eqv_dec nb_dP nb_dP ⟨dP_inj a b, fun h => by rw [h]⟩
theorem eqv_dT {a b} : eqv (dT a) (dT b) = decide (a = b) := eqv_dec nb_dT nb_dT ⟨dT_inj a b, fun h => by rw [h]⟩
theorem eqv_dW {a b} : eqv (dW a) (dW b) = decide (a = b) := eqv_dec nb_dW nb_dW ⟨dW_inj a b, fun h => by rw [h]⟩
theorem eqv_dWs {a b} : eqv (dWs a) (dWs b) = decide (a = b) := eqv_dec nb_dWs nb_dWs ⟨dWs_inj a b, fun h => by rw [h]⟩
theorem strOk_small : PyData.strOk "True" = true ∧ PyData.strOk "False" = true ∧ PyData.strOk "None" = true := by
  refine ⟨?_, ?_, ?_⟩ <;> decide +kernel
end Sm

/-! Sim16: isinstance of plain data. -/
namespace Sm
open PySem L2
def tyN : D → Option String
  | .non => some "NoneType"
  | .bl _ => some "bool"
  | .int _ => some "int"
  | .str _ => some "str"
  | .tup _ => some "tuple"
  | .lst _ => some "list"
  | .frg _ => some "list"
  | _ => none
def isTN (t T : String) : Bool := t == T || (t == "bool" && T == "int")
def TNs : List String := ["int", "bool", "str", "tuple", "list", "dict"]
theorem kit_tab : (TNs.all fun T => ["NoneType", "bool", "int", "str", "tuple", "list"].all fun t => kitB t T == some (isTN t T)) = true := by decide +kernel
theorem kit_at {K : PySem.W.Frag} {t T : String} {d : D} (h : tyN d = some t) (hT : T ∈ TNs) : PySem.W.kitOne K (.type t) (.type T) = some (isTN t T) := by
  have h1 := List.all_eq_true.mp kit_tab T hT
  have h2 : t ∈ ["NoneType", "bool", "int", "str", "tuple", "list"] := by
    cases d <;> simp [tyN] at h <;> subst h <;> simp
  have h3 := List.all_eq_true.mp h1 t h2
  exact kit_ty (by simpa using h3)
theorem RQ.ty {G : Cfg} {w : Wd} {d : D} {v : V} {t : String} (h : RQ G w d v) (e : tyN d = some t) : TyX G.K w.H v (.type t) := by
  rcases h with h | ⟨a, rfl, c⟩
  · cases d with
    | non => cases e; unfold RD at h; subst h; exact .base .non
    | bl b => cases e; unfold RD at h; subst h; exact .base (.bl b)
    | int b => cases e; unfold RD at h; subst h; exact .base (.int b)
    | str b => cases e; unfold RD at h; subst h; exact .base (.str b)
    | tup ds =>
      cases e
      unfold RD at h
      obtain ⟨a, vs, rfl, t, _⟩ := h
      rcases t with t | ⟨o, t⟩ | ⟨o, its, n, t1, t2, _⟩
      · exact .base (.tup t.1)
      · exact .fTuple t.1
      · exact .kTuple t1 t2
    | lst ds =>
      cases e
      unfold RD at h
      obtain ⟨a, vs, rfl, t, _⟩ := h
      exact .base (.lst t.1)
    | frg ds =>
      cases e
      unfold RD at h
      obtain ⟨a, vs, rfl, t, _⟩ := h
      rcases t with ⟨o, t⟩ | ⟨o, its, n, t1, t2, _⟩
      · exact .base (.frz t.1)
      · exact .kList t1 t2
    | _ => cases e
  · cases d with
    | lst ds =>
      cases e
      obtain ⟨vs, q, _⟩ := c
      exact .base (.lst q)
    | dct ks ds => cases e
    | _ => exact (show False from c).elim
theorem RR.ty {G : Cfg} {O : Nat → Option Addr} {w0 w : Wd} {d : D} {v : V} {t : String} (h : RR G .bo O w0 w d v) (e : tyN d = some t) : TyX G.K w.H v (.type t) := RQ.ty  h.q e
def bIsi (T : String) (f : Ev) : Ev := fun r st => (f r st).bind fun d st1 => match tyN d with
  | some t => .ok (.bl (isTN t T)) st1
  | none => .bad
section
variable {X : Cx} {B : Bs} {Wx : WX} {a e : Expr} {f : Ev} {pos : Pos}
theorem je_isi {T : String} {x : Str} {p p2 : Pos} (hg : Gl X "isinstance") (hm : X.mg "isinstance" = none) (hg2 : Gl X x) (hm2 : X.mg x = none) (hv : bootBuiltins x = some (.type T)) (hT : T ∈ TNs) (ha : JE X B .bo Wx a f) (hn : x ≠ "__name__" := by decide) (hdb : (x == ("__debug__" : Str)) = false := by decide)
    (h1 : starEach [a, .Name x p2] X.env = (false, eval a X.env) :: starEach [.Name x p2] X.env := by rfl) (h2 : starEach [.Name x p2] X.env = (false, eval (.Name x p2) X.env) :: starEach [] X.env := by rfl)
    (hpl : (backTo pos (starEach [.Name x p2] X.env)).any (·.1) = false := by rfl) : JE X B .sh Wx (.Call (.Name "isinstance" p) [a, .Name x p2] [] pos) (bIsi T f) := by
  refine pe_imp (pe_callB call_isi hg hm PyProof.Rows.boot_isinstance (pa_cons ha (pa_cons (pe_bltn (v := .ty T) hg2 hm2 hv rfl hn hdb) pa_nil h2) h1) (by decide) (by decide) h1 hpl) ?_
  rintro s H Q ⟨O, r, st, w, rfl, R, q⟩
  refine ⟨O, r, st, w, rfl, R, (post.bind q).mono ?_⟩
  rintro v H1 ⟨d1, st1, w1, rfl, R1, x1, rr1, q1⟩
  cases z : tyN d1 with
  | none => simp only [z] at q1; exact q1.elim
  | some t =>
    simp only [z] at q1
    exact ⟨v, .ty T, .type t, .type T, isTN t T, rfl, .ty T, rr1.ty z, kit_at z hT, post.val R1 x1 q1 rdB⟩
theorem w_isi {r : Env} {st : Sto} {T : String} {Q : D → Sto → Prop} {E : Str → Option (Str × D) → Sto → Prop} : RsP (bIsi T f r st) Q E = RsP (f r st) (fun d st1 => match tyN d with | some t => Q (.bl (isTN t T)) st1 | none => False) E := by
  unfold bIsi
  rw [w_bind]
  congr 1; funext d st1
  cases tyN d <;> rfl
end
end Sm

/-! Sim17: in, not in, over plain data. -/
namespace Sm
open PySem L2
def rInE (K : PySem.W.Frag) (neg : Bool) : R2 := fun x y H Q => ∃ d ds, Dp K H x d ∧ (Dp K H y (.list ds) ∨ Dp K H y (.tuple ds)) ∧ (d.canLay0 = true ∧ d.depth ≤ 60) ∧ PyData.canLayAll0 ds = true ∧ Q (.bl (neg ^^ ds.any fun z => PyData.eqv z d)) H
section
variable {X : Cx} {B : Bs} {Wx : WX} {a e : Expr} {f : Ev} {pos : Pos}
theorem op_inE (hu : X.A.units + 64 < cLine) : OpR X (compareOp .In) (rInE X.K false) := by
  intro pins s σ H x y v u Q I rx ry h
  obtain ⟨d, ds, hd, he, sd, se, q⟩ := h
  obtain ⟨as, r1⟩ := Dp.reads I d x v hd rx
  have room : X.A.units + 1 + min (PyData.depthAll ds) d.depth < cLine := by
    have h2 : min (PyData.depthAll ds) d.depth ≤ d.depth := Nat.min_le_right _ _
    have := sd.2
    omega
  rw [Bool.false_xor] at q
  rcases he with he | he
  · obtain ⟨bs, r2⟩ := Dp.reads I (.list ds) y u he ry
    exact SeqAt.in_list_reads r2 r1 se sd.1 room ⟨.bl _, H, I, rfl, q⟩
  · obtain ⟨bs, r2⟩ := Dp.reads I (.tuple ds) y u he ry
    exact SeqAt.in_tuple_reads r2 r1 se sd.1 room ⟨.bl _, H, I, rfl, q⟩
theorem op_notInE (hu : X.A.units + 64 < cLine) : OpR X (compareOp .NotIn) (rInE X.K true) := by
  intro pins s σ H x y v u Q I rx ry h
  obtain ⟨d, ds, hd, he, sd, se, q⟩ := h
  obtain ⟨as, r1⟩ := Dp.reads I d x v hd rx
  have room : X.A.units + 1 + min (PyData.depthAll ds) d.depth < cLine := by
    have h2 : min (PyData.depthAll ds) d.depth ≤ d.depth := Nat.min_le_right _ _
    have := sd.2
    omega
  rw [Bool.true_xor] at q
  rcases he with he | he
  · obtain ⟨bs, r2⟩ := Dp.reads I (.list ds) y u he ry
    exact SeqAt.notIn_list_reads r2 r1 se sd.1 room ⟨.bl _, H, I, rfl, q⟩
  · obtain ⟨bs, r2⟩ := Dp.reads I (.tuple ds) y u he ry
    exact SeqAt.notIn_tuple_reads r2 r1 se sd.1 room ⟨.bl _, H, I, rfl, q⟩
def opIn (neg : Bool) (a : D) : D → Sto → Rs
  | .lst ds, st => if shp 60 a && shp 60 (.lst ds) then .ok (.bl (neg ^^ ds.any fun z => eqv z a)) st else .bad
  | .tup ds, st => if shp 60 a && shp 60 (.tup ds) then .ok (.bl (neg ^^ ds.any fun z => eqv z a)) st else .bad
  | _, _ => .bad
theorem any_pys (ds : List D) (a : D) : ((pys ds).any fun z => PyData.eqv z a.py) = ds.any fun z => eqv z a := by
  rw [pys_map, List.any_map]
  rfl
theorem sem_in {neg : Bool} : SemOp X B .sh Wx (opIn neg) (rInE X.K neg) := by
  intro O e s w0 w a b x y st Q R xt ra rb q
  cases b with
  | lst ds =>
    cases z : shp 60 a && shp 60 (.lst ds) with
    | false => simp [opIn, z, post] at q
    | true =>
      rw [opIn, if_pos z] at q
      rw [Bool.and_eq_true] at z
      have l2 := shp_lay 60 _ z.2
      simp only [D.py, PyData.canLay0] at l2
      exact ⟨a.py, pys ds, RQ.dp z.1 ra, .inl (by have := RQ.dp z.2 rb; simpa only [D.py] using this), shp_lay 60 _ z.1, l2.1, by rw [any_pys]; exact post.val R xt q rdB⟩
  | tup ds =>
    cases z : shp 60 a && shp 60 (.tup ds) with
    | false => simp [opIn, z, post] at q
    | true =>
      rw [opIn, if_pos z] at q
      rw [Bool.and_eq_true] at z
      have l2 := shp_lay 60 _ z.2
      simp only [D.py, PyData.canLay0] at l2
      exact ⟨a.py, pys ds, RQ.dp z.1 ra, .inr (by have := RQ.dp z.2 rb; simpa only [D.py] using this), shp_lay 60 _ z.1, l2.1, by rw [any_pys]; exact post.val R xt q rdB⟩
  | _ => cases a <;> exact (show False from q).elim
theorem jc_in (hu : X.A.units + 64 < cLine) : JC X B Wx .In (opIn false) := ⟨_, op_inE hu, sem_in⟩
theorem jc_notin (hu : X.A.units + 64 < cLine) : JC X B Wx .NotIn (opIn true) := ⟨_, op_notInE hu, sem_in⟩
theorem o_inL {neg : Bool} {ds : List D} {d : D} {st : Sto} {Q : D → Sto → Prop} {E : Str → Option (Str × D) → Sto → Prop} : RsP (opIn neg d (.lst ds) st) Q E = (shp 60 d = true ∧ shp 60 (.lst ds) = true ∧ Q (.bl (neg ^^ ds.any fun z => eqv z d)) st) := by
  simp only [opIn]
  cases shp 60 d <;> cases shp 60 (.lst ds) <;> simp [RsP]
theorem o_inT {neg : Bool} {ds : List D} {d : D} {st : Sto} {Q : D → Sto → Prop} {E : Str → Option (Str × D) → Sto → Prop} : RsP (opIn neg d (.tup ds) st) Q E = (shp 60 d = true ∧ shp 60 (.tup ds) = true ∧ Q (.bl (neg ^^ ds.any fun z => eqv z d)) st) := by
  simp only [opIn]
  cases shp 60 d <;> cases shp 60 (.tup ds) <;> simp [RsP]
end
end Sm

/-! Sim18: small plain data; the equality of data. -/
namespace Sm
open PySem L2
noncomputable def eqD (a b : D) : Bool := @decide (a = b) (Classical.propDecidable _)
theorem eqD_iff {a b : D} : eqD a b = true ↔ a = b := by
  unfold eqD
  exact @decide_eq_true_iff (a = b) (Classical.propDecidable _)
theorem eqD_of {a b : D} {c : Bool} (h : c = true ↔ a = b) : eqD a b = c := by
  rw [Bool.eq_iff_iff, eqD_iff]
  exact h.symm
/-- flat data -/
def flD : D → Prop
  | .non => True
  | .bl _ => True
  | .int _ => True
  | .str x => PyData.strOk x = true
  | _ => False
def smD : Nat → D → Prop
  | 0 => flD
  | n + 1 => fun d => match d with
    | .tup xs => xs.length ≤ LIM ∧ ∀ x ∈ xs, smD n x
    | .lst xs => xs.length ≤ LIM ∧ ∀ x ∈ xs, smD n x
    | d => flD d
theorem smD_int {n : Nat} {i : Int} : smD n (.int i) := by cases n <;> trivial
theorem smD_bl {n : Nat} {i : Bool} : smD n (.bl i) := by cases n <;> trivial
theorem smD_non {n : Nat} : smD n .non := by cases n <;> trivial
theorem smD_str {n : Nat} {x : Str} : smD n (.str x) ↔ PyData.strOk x = true := by cases n <;> exact Iff.rfl
theorem smD_tup {n : Nat} {xs : List D} : smD (n + 1) (.tup xs) ↔ xs.length ≤ LIM ∧ ∀ x ∈ xs, smD n x := Iff.rfl
theorem smD_lst {n : Nat} {xs : List D} : smD (n + 1) (.lst xs) ↔ xs.length ≤ LIM ∧ ∀ x ∈ xs, smD n x := Iff.rfl
theorem smD_shp : ∀ (n m : Nat) (d : D), n ≤ m → smD n d → shp m d = true
  | n, m, .non, _, _ => shp_non
  | n, m, .bl _, _, _ => shp_bl
  | n, m, .int _, _, _ => shp_int
  | n, m, .str x, _, h => by rw [shp_str]; exact smD_str.mp h
  | 0, m, .tup xs, _, h => h.elim
  | n + 1, 0, .tup xs, hn, h => absurd hn (by omega)
  | n + 1, m + 1, .tup xs, hn, h => by
    rw [shp_tup, List.all_eq_true]
    exact fun x hx => smD_shp n m x (by omega) ((smD_tup.mp h).2 x hx)
  | 0, m, .lst xs, _, h => h.elim
  | n + 1, 0, .lst xs, hn, h => absurd hn (by omega)
  | n + 1, m + 1, .lst xs, hn, h => by
    rw [shp_lst, List.all_eq_true]
    exact fun x hx => smD_shp n m x (by omega) ((smD_lst.mp h).2 x hx)
  | n, m, .dct _ _, _, h => by cases n <;> exact (show False from h).elim
  | n, m, .ref _, _, h => by cases n <;> exact (show False from h).elim
  | n, m, .exc _ _, _, h => by cases n <;> exact (show False from h).elim
  | n, m, .frg _, _, h => by cases n <;> exact (show False from h).elim
theorem smD_dP {n : Nat} {p} : smD (n + 1) (dP p) := by
  unfold dP
  rw [smD_tup]
  refine ⟨by simp [LIM], ?_⟩
  intro x hx
  simp only [List.mem_cons, List.not_mem_nil, or_false] at hx
  rcases hx with rfl | rfl <;> exact smD_int
theorem smD_dT {n : Nat} {l} (h : l.length ≤ LIM) : smD (n + 1) (dT l) := by
  unfold dT
  rw [smD_tup]
  refine ⟨by rw [List.length_map]; exact h, ?_⟩
  intro x hx
  obtain ⟨i, _, rfl⟩ := List.mem_map.mp hx
  exact smD_int
theorem smD_dW {n : Nat} {w} (h : w.length ≤ LIM) : smD (n + 2) (dW w) := by
  unfold dW
  rw [smD_tup]
  refine ⟨by rw [List.length_map]; exact h, ?_⟩
  intro x hx
  obtain ⟨i, _, rfl⟩ := List.mem_map.mp hx
  exact smD_dP
theorem smD_dWs {n : Nat} {w} (h : w.length ≤ LIM) (h2 : ∀ x ∈ w, x.length ≤ LIM) : smD (n + 3) (dWs w) := by
  unfold dWs
  rw [smD_lst]
  refine ⟨by rw [List.length_map]; exact h, ?_⟩
  intro x hx
  obtain ⟨i, hi, rfl⟩ := List.mem_map.mp hx
  exact smD_dW (h2 i hi)
theorem all_eqD : ∀ (xs ys : List D), xs.length = ys.length → (((xs.zip ys).all fun q => eqD q.1 q.2) = true ↔ xs = ys)
  | [], [], _ => by simp
  | [], y :: ys, h => by simp at h
  | x :: xs, [], h => by simp at h
  | x :: xs, y :: ys, h => by
    simp only [List.length_cons, Nat.add_right_cancel_iff] at h
    simp only [List.zip_cons_cons, List.all_cons, Bool.and_eq_true, eqD_iff, all_eqD xs ys h, List.cons.injEq]
theorem no_false {α : Type} {xs : List α} {g : α → Bool} : (true ^^ (xs.map fun q => D.bl (g q)).any fun z => eqv z (.bl false)) = xs.all g := by
  rw [Bool.true_xor]
  induction xs with
  | nil => rfl
  | cons a xs ih => simp only [List.map_cons, List.any_cons, List.all_cons, Bool.not_or, ih, eqv_bl]; cases g a <;> rfl
theorem filt_t {α : Type} (xs : List α) : xs.filter (fun _ => true) = xs := List.filter_eq_self.mpr fun _ _ => rfl
theorem filt_f {α : Type} (xs : List α) : xs.filter (fun _ => false) = [] := by rw [List.filter_eq_nil_iff]; simp
theorem zipd_map {α β : Type} {f : α → D} {g : β → D} : ∀ (xs : List α) (ys : List β), zipd (xs.map f) (ys.map g) = (xs.zip ys).map fun q => .tup [f q.1, g q.2]
  | [], _ => by simp [zipd]
  | x :: xs, [] => by simp [zipd]
  | x :: xs, y :: ys => by simp [zipd, zipd_map xs ys]
theorem zipd_id (xs ys : List D) : zipd xs ys = (xs.zip ys).map fun q => .tup [q.1, q.2] := by
  have := zipd_map (f := fun x : D => x) (g := fun x : D => x) xs ys
  simpa using this
theorem tn_ni : isTN "NoneType" "int" = false := by decide
theorem tn_nb : isTN "NoneType" "bool" = false := by decide
theorem tn_ns : isTN "NoneType" "str" = false := by decide
theorem tn_nt : isTN "NoneType" "tuple" = false := by decide
theorem tn_nl : isTN "NoneType" "list" = false := by decide
theorem tn_nd : isTN "NoneType" "dict" = false := by decide
theorem tn_bi : isTN "bool" "int" = true := by decide
theorem tn_bb : isTN "bool" "bool" = true := by decide
theorem tn_bs : isTN "bool" "str" = false := by decide
theorem tn_bt : isTN "bool" "tuple" = false := by decide
theorem tn_bl : isTN "bool" "list" = false := by decide
theorem tn_bd : isTN "bool" "dict" = false := by decide
theorem tn_ii : isTN "int" "int" = true := by decide
theorem tn_ib : isTN "int" "bool" = false := by decide
theorem tn_is : isTN "int" "str" = false := by decide
theorem tn_it : isTN "int" "tuple" = false := by decide
theorem tn_il : isTN "int" "list" = false := by decide
theorem tn_id : isTN "int" "dict" = false := by decide
theorem tn_si : isTN "str" "int" = false := by decide
theorem tn_sb : isTN "str" "bool" = false := by decide
theorem tn_ss : isTN "str" "str" = true := by decide
theorem tn_st : isTN "str" "tuple" = false := by decide
theorem tn_sl : isTN "str" "list" = false := by decide
theorem tn_sd : isTN "str" "dict" = false := by decide
theorem tn_ti : isTN "tuple" "int" = false := by decide
theorem tn_tb : isTN "tuple" "bool" = false := by decide
theorem tn_ts : isTN "tuple" "str" = false := by decide
theorem tn_tt : isTN "tuple" "tuple" = true := by decide
theorem tn_tl : isTN "tuple" "list" = false := by decide
theorem tn_td : isTN "tuple" "dict" = false := by decide
theorem tn_li : isTN "list" "int" = false := by decide
theorem tn_lb : isTN "list" "bool" = false := by decide
theorem tn_ls : isTN "list" "str" = false := by decide
theorem tn_lt : isTN "list" "tuple" = false := by decide
theorem tn_ll : isTN "list" "list" = true := by decide
theorem tn_ld : isTN "list" "dict" = false := by decide
theorem eqD_nn : eqD .non .non = true := eqD_of (by simp)
theorem eqD_nb {y : Bool} : eqD .non (.bl y) = false := eqD_of (by simp)
theorem eqD_ni {y : Int} : eqD .non (.int y) = false := eqD_of (by simp)
theorem eqD_ns {y : Str} : eqD .non (.str y) = false := eqD_of (by simp)
theorem eqD_nt {y : List D} : eqD .non (.tup y) = false := eqD_of (by simp)
theorem eqD_nl {y : List D} : eqD .non (.lst y) = false := eqD_of (by simp)
theorem eqD_bn {x : Bool} : eqD (.bl x) .non = false := eqD_of (by simp)
theorem eqD_bb {x : Bool} {y : Bool} : eqD (.bl x) (.bl y) = (x == y) := eqD_of (by simp)
theorem eqD_bi {x : Bool} {y : Int} : eqD (.bl x) (.int y) = false := eqD_of (by simp)
theorem eqD_bs {x : Bool} {y : Str} : eqD (.bl x) (.str y) = false := eqD_of (by simp)
theorem eqD_bt {x : Bool} {y : List D} : eqD (.bl x) (.tup y) = false := eqD_of (by simp)
theorem eqD_bl {x : Bool} {y : List D} : eqD (.bl x) (.lst y) = false := eqD_of (by simp)
theorem eqD_in {x : Int} : eqD (.int x) .non = false := eqD_of (by simp)
theorem eqD_ib {x : Int} {y : Bool} : eqD (.int x) (.bl y) = false := eqD_of (by simp)
theorem eqD_ii {x : Int} {y : Int} : eqD (.int x) (.int y) = decide (x = y) := eqD_of (by simp)
theorem eqD_is {x : Int} {y : Str} : eqD (.int x) (.str y) = false := eqD_of (by simp)
theorem eqD_it {x : Int} {y : List D} : eqD (.int x) (.tup y) = false := eqD_of (by simp)
theorem eqD_il {x : Int} {y : List D} : eqD (.int x) (.lst y) = false := eqD_of (by simp)
theorem eqD_sn {x : Str} : eqD (.str x) .non = false := eqD_of (by simp)
theorem eqD_sb {x : Str} {y : Bool} : eqD (.str x) (.bl y) = false := eqD_of (by simp)
theorem eqD_si {x : Str} {y : Int} : eqD (.str x) (.int y) = false := eqD_of (by simp)
theorem eqD_ss {x : Str} {y : Str} : eqD (.str x) (.str y) = decide (x = y) := eqD_of (by simp)
theorem eqD_st {x : Str} {y : List D} : eqD (.str x) (.tup y) = false := eqD_of (by simp)
theorem eqD_sl {x : Str} {y : List D} : eqD (.str x) (.lst y) = false := eqD_of (by simp)
theorem eqD_tn {x : List D} : eqD (.tup x) .non = false := eqD_of (by simp)
theorem eqD_tb {x : List D} {y : Bool} : eqD (.tup x) (.bl y) = false := eqD_of (by simp)
theorem eqD_ti {x : List D} {y : Int} : eqD (.tup x) (.int y) = false := eqD_of (by simp)
theorem eqD_ts {x : List D} {y : Str} : eqD (.tup x) (.str y) = false := eqD_of (by simp)
theorem eqD_tl {x : List D} {y : List D} : eqD (.tup x) (.lst y) = false := eqD_of (by simp)
theorem eqD_ln {x : List D} : eqD (.lst x) .non = false := eqD_of (by simp)
theorem eqD_lb {x : List D} {y : Bool} : eqD (.lst x) (.bl y) = false := eqD_of (by simp)
theorem eqD_li {x : List D} {y : Int} : eqD (.lst x) (.int y) = false := eqD_of (by simp)
theorem eqD_ls {x : List D} {y : Str} : eqD (.lst x) (.str y) = false := eqD_of (by simp)
theorem eqD_lt {x : List D} {y : List D} : eqD (.lst x) (.tup y) = false := eqD_of (by simp)
theorem eqx_nb {y : Bool} : eqv .non (.bl y) = false := by simp [eqv, D.py, PyData.eqv]
theorem eqx_ni {y : Int} : eqv .non (.int y) = false := by simp [eqv, D.py, PyData.eqv]
theorem eqx_ns {y : Str} : eqv .non (.str y) = false := by simp [eqv, D.py, PyData.eqv]
theorem eqx_nt {y : List D} : eqv .non (.tup y) = false := by simp [eqv, D.py, PyData.eqv]
theorem eqx_nl {y : List D} : eqv .non (.lst y) = false := by simp [eqv, D.py, PyData.eqv]
theorem eqx_bn {x : Bool} : eqv (.bl x) .non = false := by simp [eqv, D.py, PyData.eqv]
theorem eqx_bs {x : Bool} {y : Str} : eqv (.bl x) (.str y) = false := by simp [eqv, D.py, PyData.eqv]
theorem eqx_bt {x : Bool} {y : List D} : eqv (.bl x) (.tup y) = false := by simp [eqv, D.py, PyData.eqv]
theorem eqx_bl {x : Bool} {y : List D} : eqv (.bl x) (.lst y) = false := by simp [eqv, D.py, PyData.eqv]
theorem eqx_in {x : Int} : eqv (.int x) .non = false := by simp [eqv, D.py, PyData.eqv]
theorem eqx_is {x : Int} {y : Str} : eqv (.int x) (.str y) = false := by simp [eqv, D.py, PyData.eqv]
theorem eqx_it {x : Int} {y : List D} : eqv (.int x) (.tup y) = false := by simp [eqv, D.py, PyData.eqv]
theorem eqx_il {x : Int} {y : List D} : eqv (.int x) (.lst y) = false := by simp [eqv, D.py, PyData.eqv]
theorem eqx_sn {x : Str} : eqv (.str x) .non = false := by simp [eqv, D.py, PyData.eqv]
theorem eqx_sb {x : Str} {y : Bool} : eqv (.str x) (.bl y) = false := by simp [eqv, D.py, PyData.eqv]
theorem eqx_si {x : Str} {y : Int} : eqv (.str x) (.int y) = false := by simp [eqv, D.py, PyData.eqv]
theorem eqx_st {x : Str} {y : List D} : eqv (.str x) (.tup y) = false := by simp [eqv, D.py, PyData.eqv]
theorem eqx_sl {x : Str} {y : List D} : eqv (.str x) (.lst y) = false := by simp [eqv, D.py, PyData.eqv]
theorem eqx_tn {x : List D} : eqv (.tup x) .non = false := by simp [eqv, D.py, PyData.eqv]
theorem eqx_tb {x : List D} {y : Bool} : eqv (.tup x) (.bl y) = false := by simp [eqv, D.py, PyData.eqv]
theorem eqx_ti {x : List D} {y : Int} : eqv (.tup x) (.int y) = false := by simp [eqv, D.py, PyData.eqv]
theorem eqx_ts {x : List D} {y : Str} : eqv (.tup x) (.str y) = false := by simp [eqv, D.py, PyData.eqv]
theorem eqx_tl {x : List D} {y : List D} : eqv (.tup x) (.lst y) = false := by simp [eqv, D.py, PyData.eqv]
theorem eqx_ln {x : List D} : eqv (.lst x) .non = false := by simp [eqv, D.py, PyData.eqv]
theorem eqx_lb {x : List D} {y : Bool} : eqv (.lst x) (.bl y) = false := by simp [eqv, D.py, PyData.eqv]
theorem eqx_li {x : List D} {y : Int} : eqv (.lst x) (.int y) = false := by simp [eqv, D.py, PyData.eqv]
theorem eqx_ls {x : List D} {y : Str} : eqv (.lst x) (.str y) = false := by simp [eqv, D.py, PyData.eqv]
theorem eqx_lt {x : List D} {y : List D} : eqv (.lst x) (.tup y) = false := by simp [eqv, D.py, PyData.eqv]
end Sm

/-! Sim19: wishes and letters, plain. -/
namespace Sm
open PySem L2
/-- a wish of f fields -/
def WOk (f : Nat) (w : List (Int × Int)) : Prop := w.length = f ∧ ∀ p ∈ w, 0 ≤ p.1 ∧ p.1 ≤ p.2 ∧ p.2 ≤ 9
theorem WOk.at {f : Nat} {w : List (Int × Int)} {i : Int} (hw : WOk f w) (h0 : 0 ≤ i) (h1 : i < f) : ∃ p, atI w i = some p ∧ 0 ≤ p.1 ∧ p.1 ≤ p.2 ∧ p.2 ≤ 9 := by
  obtain ⟨p, e, m⟩ := atI_in (xs := w) h0 (by rw [hw.1]; exact h1)
  exact ⟨p, e, hw.2 p m⟩
def hasL (w : List (Int × Int)) (l : List Int) : Bool := (l.zip w).all fun q => decide (q.2.1 ≤ q.1) && decide (q.1 ≤ q.2.2)
def covL (a b : List (Int × Int)) : Bool := (a.zip b).all fun q => decide (q.1.1 ≤ q.2.1) && decide (q.2.2 ≤ q.1.2)
def inC (a b : List (Int × Int)) : List (Int × Int) := (a.zip b).map fun q => (max q.1.1 q.2.1, min q.1.2 q.2.2)
def okC (a : List (Int × Int)) : Bool := a.all fun p => decide (p.1 ≤ p.2)
def rng (p : Int × Int) : List Int := (List.range (p.2 + 1 - p.1).toNat).map fun (i : Nat) => p.1 + (i : Int)
theorem rng_len {p : Int × Int} (h0 : 0 ≤ p.1) (h1 : p.2 ≤ 9) : (rng p).length ≤ 10 := by
  unfold rng; simp; omega
theorem rng_length {p : Int × Int} : (rng p).length = (p.2 + 1 - p.1).toNat := by unfold rng; simp
theorem mem_rng {p : Int × Int} {n : Int} : n ∈ rng p ↔ p.1 ≤ n ∧ n ≤ p.2 := by
  unfold rng
  simp only [List.mem_map, List.mem_range]
  constructor
  · rintro ⟨i, hi, rfl⟩; omega
  · rintro ⟨h1, h2⟩; exact ⟨(n - p.1).toNat, by omega, by omega⟩
theorem rng_cons {a b : Int} (h : a ≤ b) : rng (a, b) = a :: rng (a + 1, b) := by
  unfold rng
  simp only
  have e : (b + 1 - a).toNat = (b + 1 - (a + 1)).toNat + 1 := by omega
  rw [e, List.range_succ_eq_map, List.map_cons, List.map_map]
  congr 1
  · simp
  · apply List.map_congr_left
    intro i _
    simp only [Function.comp]
    omega
theorem rng_nil {a b : Int} (h : b < a) : rng (a, b) = [] := by
  unfold rng
  simp only
  rw [show (b + 1 - a).toNat = 0 by omega]
  rfl
theorem rng_filter (c d : Int) : ∀ (n : Nat) (a b : Int), (b + 1 - a).toNat = n → (rng (a, b)).filter (fun x => decide (c ≤ x) && decide (x ≤ d)) = rng (max a c, min b d)
  | 0, a, b, h => by
    rw [rng_nil (by omega), rng_nil (by omega)]
    rfl
  | n + 1, a, b, h => by
    rw [rng_cons (by omega)]
    have ih := rng_filter c d n (a + 1) b (by omega)
    by_cases h1 : c ≤ a ∧ a ≤ d
    · rw [List.filter_cons_of_pos (by simp [h1.1, h1.2]), ih, show max a c = a by omega, show max (a + 1) c = a + 1 by omega, rng_cons (a := a) (b := min b d) (by omega)]
    · rw [List.filter_cons_of_neg (by simp; omega), ih]
      by_cases h2 : a < c
      · rw [show max (a + 1) c = max a c by omega]
      · rw [rng_nil (by omega), rng_nil (by omega)]
def stepL (found : List (List Int)) (p : Int × Int) : List (List Int) := found.flatMap fun l => (rng p).map fun n => l ++ [n]
theorem stepL_len {f : List (List Int)} {p : Int × Int} : (stepL f p).length = f.length * (rng p).length := by
  unfold stepL
  induction f with
  | nil => simp
  | cons a f ih => rw [List.flatMap_cons, List.length_append, ih, List.length_map, List.length_cons, Nat.succ_mul, Nat.add_comm]
/-- the letters of a wish -/
def lets : List (Int × Int) → List (List Int)
  | [] => [[]]
  | p :: w => (rng p).flatMap fun n => (lets w).map fun l => n :: l
theorem lets_cons {p : Int × Int} {w : List (Int × Int)} : lets (p :: w) = (rng p).flatMap fun n => (lets w).map fun l => n :: l := rfl
theorem fold_lets : ∀ (w : List (Int × Int)) (fs : List (List Int)), w.foldl stepL fs = fs.flatMap fun l => (lets w).map fun m => l ++ m
  | [], fs => by simp [lets]
  | p :: w, fs => by
    rw [List.foldl_cons, fold_lets w (stepL fs p)]
    unfold stepL
    rw [lets_cons, List.flatMap_assoc]
    congr 1
    funext l
    rw [List.flatMap_map, List.map_flatMap]
    congr 1
    funext n
    rw [List.map_map]
    congr 1
    funext m
    simp
theorem letters_eq (w : List (Int × Int)) : w.foldl stepL [[]] = lets w := by
  rw [fold_lets]; simp
theorem mem_lets_len : ∀ {w : List (Int × Int)} {l : List Int}, l ∈ lets w → l.length = w.length
  | [], l, h => by simp [lets] at h; simp [h]
  | p :: w, l, h => by
    simp only [lets, List.mem_flatMap, List.mem_map] at h
    obtain ⟨n, _, m, hm, rfl⟩ := h
    simp [mem_lets_len hm]
theorem mem_lets : ∀ {w : List (Int × Int)} {l : List Int}, l ∈ lets w ↔ l.length = w.length ∧ hasL w l = true
  | [], l => by
    cases l <;> simp [lets, hasL]
  | p :: w, [] => by simp [lets]
  | p :: w, n :: l => by
    have ih := mem_lets (w := w) (l := l)
    simp only [lets, List.mem_flatMap, List.mem_map, List.length_cons, hasL, List.zip_cons_cons, List.all_cons, Bool.and_eq_true, decide_eq_true_eq, Nat.add_right_cancel_iff]
    unfold hasL at ih
    constructor
    · rintro ⟨k, hk, m, hm, e⟩
      cases e
      have := ih.mp hm
      exact ⟨this.1, mem_rng.mp hk, this.2⟩
    · rintro ⟨h1, h2, h3⟩
      exact ⟨n, mem_rng.mpr h2, l, ih.mpr ⟨h1, h3⟩, rfl⟩
theorem lets_in : ∀ (a b : List (Int × Int)), a.length = b.length → (lets a).filter (hasL b) = if okC (inC a b) then lets (inC a b) else []
  | [], [], _ => by simp [lets, inC, okC, hasL]
  | [], q :: b, h => by simp at h
  | p :: a, [], h => by simp at h
  | p :: a, q :: b, h => by
    have ih := lets_in a b (by simpa using h)
    have e1 : okC (inC (p :: a) (q :: b)) = (decide (max p.1 q.1 ≤ min p.2 q.2) && okC (inC a b)) := by simp [okC, inC]
    have e2 : inC (p :: a) (q :: b) = (max p.1 q.1, min p.2 q.2) :: inC a b := by simp [inC]
    have e3 : (lets (p :: a)).filter (hasL (q :: b)) = ((rng p).filter fun n => decide (q.1 ≤ n) && decide (n ≤ q.2)).flatMap fun n => ((lets a).filter (hasL b)).map fun l => n :: l := by
      rw [lets_cons]
      induction rng p with
      | nil => rfl
      | cons n r ihr =>
        rw [List.flatMap_cons, List.filter_append, ihr]
        have hh : ∀ l, hasL (q :: b) (n :: l) = ((decide (q.1 ≤ n) && decide (n ≤ q.2)) && hasL b l) := fun l => by simp [hasL]
        have hf : ((lets a).map fun l => n :: l).filter (hasL (q :: b)) = if (decide (q.1 ≤ n) && decide (n ≤ q.2)) then ((lets a).filter (hasL b)).map fun l => n :: l else [] := by
          rw [List.filter_map]
          have : (hasL (q :: b) ∘ fun l => n :: l) = fun l => ((decide (q.1 ≤ n) && decide (n ≤ q.2)) && hasL b l) := funext hh
          rw [this]
          cases (decide (q.1 ≤ n) && decide (n ≤ q.2)) <;> simp
        rw [hf]
        cases z : (decide (q.1 ≤ n) && decide (n ≤ q.2)) with
        | true => rw [List.filter_cons_of_pos (by exact z), List.flatMap_cons]; simp
        | false => rw [List.filter_cons_of_neg (by rw [z]; simp)]; simp
    rw [e3, e1, e2, ih, rng_filter q.1 q.2 _ p.1 p.2 rfl]
    by_cases z : max p.1 q.1 ≤ min p.2 q.2
    · simp only [z, decide_true, Bool.true_and]
      by_cases y : okC (inC a b) = true
      · simp [y, lets]
      · simp [y]
    · rw [rng_nil (by omega)]
      simp [z]
theorem lets_ne : ∀ (w : List (Int × Int)), okC w = true → lets w ≠ []
  | [], _ => by simp [lets]
  | p :: w, h => by
    simp only [okC, List.all_cons, Bool.and_eq_true, decide_eq_true_eq] at h
    have ih := lets_ne w h.2
    rw [lets_cons, rng_cons (a := p.1) (b := p.2) h.1, List.flatMap_cons]
    intro z
    have := (List.append_eq_nil_iff.mp z).1
    exact ih (by simpa using this)
theorem lets_len : ∀ (p : Int × Int) (w : List (Int × Int)), (lets (p :: w)).length = (rng p).length * (lets w).length := by
  intro p w
  rw [lets_cons]
  induction rng p with
  | nil => simp
  | cons n r ih => rw [List.flatMap_cons, List.length_append, ih, List.length_map, List.length_cons, Nat.succ_mul, Nat.add_comm]
theorem lets_bd {f : Nat} : ∀ {w : List (Int × Int)}, (∀ p ∈ w, 0 ≤ p.1 ∧ p.2 ≤ 9) → (lets w).length ≤ 10 ^ w.length
  | [], _ => by simp [lets]
  | p :: w, h => by
    rw [lets_len, List.length_cons, Nat.pow_succ, Nat.mul_comm]
    have := h p (by simp)
    exact Nat.mul_le_mul (lets_bd (f := f) fun q hq => h q (by simp [hq])) (rng_len this.1 this.2)
theorem inC_len {a b : List (Int × Int)} (h : a.length = b.length) : (inC a b).length = a.length := by
  unfold inC; rw [List.length_map, List.length_zip]; omega
theorem inC_bd {f : Nat} {a b : List (Int × Int)} (ha : WOk f a) (hb : WOk f b) : ∀ p ∈ inC a b, 0 ≤ p.1 ∧ p.2 ≤ 9 := by
  intro p hp
  simp only [inC, List.mem_map] at hp
  obtain ⟨⟨x, y⟩, hq, rfl⟩ := hp
  have hz := List.of_mem_zip hq
  have h1 := ha.2 x hz.1
  have h2 := hb.2 y hz.2
  simp only
  omega
theorem inC_ok {f : Nat} {a b : List (Int × Int)} (ha : WOk f a) (hb : WOk f b) (h : okC (inC a b) = true) : WOk f (inC a b) := by
  refine ⟨by rw [inC_len (by rw [ha.1, hb.1]), ha.1], fun p hp => ?_⟩
  have h1 := inC_bd ha hb p hp
  have h2 := List.all_eq_true.mp h p hp
  simp only [decide_eq_true_eq] at h2
  exact ⟨h1.1, h2, h1.2⟩
def dTs (l : List (List Int)) : D := .lst (l.map dT)
theorem nb_dTs {l} : nb (dTs l) = true := by simp [dTs, nb_lst, nb_dT]
theorem shp_dTs {n : Nat} {l} : shp (n + 2) (dTs l) = true := by simp [dTs, shp_lst, shp_dT]
theorem dTs_inj : ∀ a b, dTs a = dTs b → a = b := fun a b h => map_inj' dT_inj a b (by simpa [dTs] using h)
theorem eqv_dTs {a b} : eqv (dTs a) (dTs b) = decide (a = b) := eqv_dec nb_dTs nb_dTs ⟨dTs_inj a b, fun h => by rw [h]⟩
end Sm

/-! Sim20: things of the store, looked at. -/
namespace Sm
open PySem L2
/-- what stands there now -/
def der (st : Sto) : D → D
  | .ref n => match st[n]? with
    | some (.lst ds) => .lst ds
    | some (.dct ks vs) => .dct ks vs
    | _ => .ref n
  | d => d
theorem RQ.der {G : Cfg} {w : Wd} {st : Sto} {d : D} {v : V} (S : RSt G w st) (h : RQ G w d v) : RQ G w (der st d) v := by
  cases d with
  | ref n =>
    have h' := h.refd
    show RQ G w (match st[n]? with | some (.lst ds) => .lst ds | some (.dct ks vs) => .dct ks vs | _ => .ref n) v
    cases e : st[n]? with
    | none => exact h
    | some so =>
      obtain ⟨al, rfl, _, o⟩ := S.ref h' e
      cases so with
      | lst ds => exact .inr ⟨al, rfl, o⟩
      | dct ks vs => exact .inr ⟨al, rfl, o⟩
      | _ => exact h
  | _ => exact h
def drOp (F : D → D → Sto → Rs) (a b : D) (st : Sto) : Rs := F (der st a) (der st b) st
def drB (F : List D → Sto → Rs) (ds : List D) (st : Sto) : Rs := F (ds.map (der st)) st
def drSl (F : D → Option Int → Option Int → Sto → Rs) (a : D) (lo hi : Option Int) (st : Sto) : Rs := F (der st a) lo hi st
section
variable {X : Cx} {B : Bs} {k : Kd} {Wx : WX} {a b e : Expr} {f g : Ev} {pos : Pos}
theorem SemOp.der {F : D → D → Sto → Rs} {r : R2} (h : SemOp X B k Wx F r) : SemOp X B k Wx (drOp F) r :=
  fun O e s w0 w a b x y st Q R xt ra rb q => h O e s w0 w _ _ x y st Q R xt (ra.der R.sto) (rb.der R.sto) q
theorem JC.der {op : CmpOp} {F : D → D → Sto → Rs} (j : JC X B Wx op F) : JC X B Wx op (drOp F) := let ⟨r, h1, h2⟩ := j.ex; ⟨r, h1, h2.der⟩
theorem RQs.der {G : Cfg} {w : Wd} {st : Sto} (S : RSt G w st) : ∀ {ds : List D} {vs : List V}, RQs G w ds vs → RQs G w (ds.map (der st)) vs
  | [], vs, h => h
  | d :: ds, vs, h => by
    obtain ⟨v, r, e, h1, h2⟩ := h
    exact ⟨v, r, e, h1.der S, RQs.der S h2⟩
theorem SemC.der {F : List D → Sto → Rs} {r : List V → Hp → VK → Prop} (h : SemC X B k Wx F r) : SemC X B k Wx (drB F) r :=
  fun O e s w0 w ds vs st Q R xt rr q => h O e s w0 w _ vs st Q R xt (rr.der R.sto) q
theorem JB.der {v : Value} {F : List D → Sto → Rs} (j : JB X B k Wx v F) : JB X B k Wx v (drB F) := let ⟨r, h1, h2⟩ := j.ex; ⟨r, h1, h2.der⟩
theorem SemSl.der {F : D → Option Int → Option Int → Sto → Rs} {r : V → Option Int → Option Int → Hp → VK → Prop} (h : SemSl X B k Wx F r) : SemSl X B k Wx (drSl F) r :=
  fun O e s w0 w a x lo hi st Q R xt ra q => h O e s w0 w _ x lo hi st Q R xt (ra.der R.sto) q
end
section
variable {X : Cx} {B : Bs} {k : Kd} {Wx : WX} {a b e : Expr} {f g : Ev} {pos : Pos} {r : Env} {st : Sto} {Q : D → Sto → Prop} {E : Str → Option (Str × D) → Sto → Prop}
/-- isinstance, of what stands in the store too -/
def bIsiD (T : String) (f : Ev) : Ev := fun r st => (f r st).bind fun d st1 => match tyN (der st1 d) with
  | some t => .ok (.bl (isTN t T)) st1
  | none => .bad
theorem je_isiD {T : String} {x : Str} {p p2 : Pos} (hg : Gl X "isinstance") (hm : X.mg "isinstance" = none) (hg2 : Gl X x) (hm2 : X.mg x = none) (hv : bootBuiltins x = some (.type T)) (hT : T ∈ TNs) (ha : JE X B .bo Wx a f) (hn : x ≠ "__name__" := by decide) (hdb : (x == ("__debug__" : Str)) = false := by decide)
    (h1 : starEach [a, .Name x p2] X.env = (false, eval a X.env) :: starEach [.Name x p2] X.env := by rfl) (h2 : starEach [.Name x p2] X.env = (false, eval (.Name x p2) X.env) :: starEach [] X.env := by rfl)
    (hpl : (backTo pos (starEach [.Name x p2] X.env)).any (·.1) = false := by rfl) : JE X B .sh Wx (.Call (.Name "isinstance" p) [a, .Name x p2] [] pos) (bIsiD T f) := by
  refine pe_imp (pe_callB call_isi hg hm PyProof.Rows.boot_isinstance (pa_cons ha (pa_cons (pe_bltn (v := .ty T) hg2 hm2 hv rfl hn hdb) pa_nil h2) h1) (by decide) (by decide) h1 hpl) ?_
  rintro s H Q ⟨O, r, st, w, rfl, R, q⟩
  refine ⟨O, r, st, w, rfl, R, (post.bind q).mono ?_⟩
  rintro v H1 ⟨d1, st1, w1, rfl, R1, x1, rr1, q1⟩
  cases z : tyN (der st1 d1) with
  | none => simp only [z] at q1; exact q1.elim
  | some t =>
    simp only [z] at q1
    exact ⟨v, .ty T, .type t, .type T, isTN t T, rfl, .ty T, (rr1.q.der R1.sto).ty z, kit_at z hT, post.val R1 x1 q1 rdB⟩
theorem je_addD (ha : JE X B .bo Wx a f) (hb : JE X B .bo Wx b g) : JE X B .sh Wx (.BinOp a .Add b pos) (bBin (drOp opAdd) f g) := je_bin op_addA sem_add.der ha hb
theorem je_catD (ha : JE X B .bo Wx a f) (hb : JE X B .bo Wx b g) : JE X B .fr Wx (.BinOp a .Add b pos) (bBin (drOp opCat) f g) := je_bin op_cat sem_cat.der ha hb
theorem je_slLD {lo hi : Option Expr} {fl fh : Option Ev} {p2 : Pos} (he : JE X B .bo Wx a f) (hl : JO X B Wx lo fl) (hu : JO X B Wx hi fh) : JE X B .fr Wx (.Subscript a (.Slice lo hi none p2) pos) (bSl (drSl opSlL) f fl fh) := je_sl sl_list sem_slL.der he hl hu
theorem je_slAD {lo hi : Option Expr} {fl fh : Option Ev} {p2 : Pos} (he : JE X B .bo Wx a f) (hl : JO X B Wx lo fl) (hu : JO X B Wx hi fh) : JE X B .sh Wx (.Subscript a (.Slice lo hi none p2) pos) (bSl (drSl opSl) f fl fh) := je_sl (sl_list.or sl_tupA) sem_sl.der he hl hu
/-! rules -/
theorem der_ref {n : Nat} : der st (.ref n) = match st[n]? with | some (.lst ds) => .lst ds | some (.dct ks vs) => .dct ks vs | _ => .ref n := rfl
theorem der_lst {xs : List D} : der st (.lst xs) = .lst xs := rfl
theorem der_tup {xs : List D} : der st (.tup xs) = .tup xs := rfl
theorem der_frg {xs : List D} : der st (.frg xs) = .frg xs := rfl
theorem der_int {i : Int} : der st (.int i) = .int i := rfl
theorem der_bl {i : Bool} : der st (.bl i) = .bl i := rfl
theorem der_str {i : Str} : der st (.str i) = .str i := rfl
theorem der_non : der st .non = .non := rfl
theorem dr_eq {a b : D} : RsP (drOp opEq a b st) Q E = (shp 60 (der st a) = true ∧ shp 60 (der st b) = true ∧ Q (.bl (eqv (der st a) (der st b))) st) := o_eq
theorem dr_ne {a b : D} : RsP (drOp opNe a b st) Q E = (shp 60 (der st a) = true ∧ shp 60 (der st b) = true ∧ Q (.bl (!eqv (der st a) (der st b))) st) := o_ne
/-- what stands there, by its form -/
def derP (st : Sto) (d : D) (P : D → Prop) : Prop := P (der st d)
theorem dp_ref {n : Nat} {P : D → Prop} : derP st (.ref n) P = match st[n]? with | some (.lst ds) => P (.lst ds) | some (.dct ks vs) => P (.dct ks vs) | _ => P (.ref n) := by
  unfold derP der
  simp only
  cases st[n]? with
  | none => rfl
  | some so => cases so <;> rfl
theorem dp_lst {xs : List D} {P : D → Prop} : derP st (.lst xs) P = P (.lst xs) := rfl
theorem dp_tup {xs : List D} {P : D → Prop} : derP st (.tup xs) P = P (.tup xs) := rfl
theorem dp_frg {xs : List D} {P : D → Prop} : derP st (.frg xs) P = P (.frg xs) := rfl
theorem dp_int {i : Int} {P : D → Prop} : derP st (.int i) P = P (.int i) := rfl
theorem dp_bl {i : Bool} {P : D → Prop} : derP st (.bl i) P = P (.bl i) := rfl
theorem dp_str {i : Str} {P : D → Prop} : derP st (.str i) P = P (.str i) := rfl
theorem dp_non {P : D → Prop} : derP st .non P = P .non := rfl
theorem dr_in {neg : Bool} {a b : D} : RsP (drOp (opIn neg) a b st) Q E = derP st b fun b' => RsP (opIn neg (der st a) b' st) Q E := rfl
theorem dr_add {a b : D} : RsP (drOp opAdd a b st) Q E = derP st a fun a' => derP st b fun b' => RsP (opAdd a' b' st) Q E := rfl
theorem dr_cat {a b : D} : RsP (drOp opCat a b st) Q E = derP st a fun a' => derP st b fun b' => RsP (opCat a' b' st) Q E := rfl
theorem dr_b1 {F : List D → Sto → Rs} {d : D} : RsP (drB F [d] st) Q E = derP st d fun d' => RsP (F [d'] st) Q E := rfl
theorem dr_sl {F : D → Option Int → Option Int → Sto → Rs} {d : D} {lo hi : Option Int} : RsP (drSl F d lo hi st) Q E = derP st d fun d' => RsP (F d' lo hi st) Q E := rfl
theorem w_isiD {T : String} : RsP (bIsiD T f r st) Q E = RsP (f r st) (fun d st1 => derP st1 d fun d' => match tyN d' with | some t => Q (.bl (isTN t T)) st1 | none => False) E := by
  unfold bIsiD derP
  rw [w_bind]
  congr 1; funext d st1
  show _ = (match tyN (der st1 d) with | some t => Q (.bl (isTN t T)) st1 | none => False)
  cases tyN (der st1 d) <;> rfl
end
end Sm

/-! Sim21: methods of lists of the store. -/
namespace Sm
open PySem L2
/-- o.append(v), o a list of the store -/
def appK (f : Ev) (r : Env) (o : D) (st1 : Sto) : Rt := match o with
  | .ref n => match st1[n]? with
    | some (.lst _) => ofRs (f r st1) r fun d st2 => match st2[n]? with
      | some (.lst ds) => if ds.length < LIM then .nx r (st2.set n (.lst (ds ++ [d]))) else .bad
      | _ => .bad
    | _ => .bad
  | _ => .bad
def sAppR (h f : Ev) : Sv := fun r st => ofRs (h r st) r (appK f r)
section
variable {X : Cx} {B : Bs} {k : Kd} {fr : Bool} {Wx : WX} {a b c : Expr} {f g h : Ev} {pos : Pos}
theorem js_appR {apos cpos : Pos} (hc : JE X B .sh Wx c h) (ha : JA X B .sh Wx [a] [f])
    (hbase : attributeBase c "append" X.env (eval c X.env) = eval c X.env := by rfl)
    (hfew : ((backTo cpos (starEach [a] X.env)).all (fun x => !x.1) && (backToKw cpos (keywordEach [] X.env)).all (fun x => x.1.isSome) && decide ([a].length + ([] : List Keyword).length + (if ([] : List Keyword).isEmpty then 0 else 1) < 30)) = true := by rfl)
    (hline : (apos.endLine == cpos.line) = true := by rfl) (hst : starEach [a] X.env = (false, eval a X.env) :: starEach [] X.env := by rfl) (hplain : (backTo cpos (starEach [] X.env)).any (·.1) = false := by rfl)
    (hs : swapsWith (.Call (.Attribute c "append" apos) [a] [] cpos) none pos.line X.env = pure false := by rfl) :
    JS X B fr Wx (.Expr (.Call (.Attribute c "append" apos) [a] [] cpos) pos) (sAppR h f) := by
  refine ps_imp (ps_expr (pe_bm PySem.F.plainAttrs_list PySem.F.slot_list_append PySem.F.type_list_append mt_append hc ha hbase hfew hline hst hplain) hs) ?_
  intro D s H q
  obtain ⟨O, r, st, w, e, R, q⟩ := tS_of (k := .sh) (K := appK f) q
  refine ⟨O, r, st, w, e, R, q.mono ?_⟩
  rintro v H1 ⟨O1, r1, w0, d, st1, w1, rfl, R1, x1, ⟨_, R0⟩, rr, q1⟩
  cases d with
  | ref n =>
    have rr : RD (cg X) w1 (.ref n) v := rr
    unfold appK at q1
    cases y : st1[n]? with
    | none => simp only [y] at q1; exact q1.elim
    | some so =>
      obtain ⟨al, rfl, eu, o⟩ := R1.sto.ref rr y
      cases so with
      | lst ds0 =>
        obtain ⟨vs0, hl0, rs0⟩ := o
        simp only [y] at q1
        refine ⟨.inl ⟨rfl, vs0, .of hl0⟩, O1, r1, st1, w1, rfl, R1, ?_⟩
        simp only [evs]
        cases zf : f r1 st1 with
        | ok d st2 =>
          simp only [zf, ofRs] at q1
          intro w2 us R2 x2 rr2
          obtain ⟨v, vr, rfl, rv, ev⟩ := rr2
          have ev : vr = [] := ev
          subst ev
          cases y2 : st2[n]? with
          | none => simp only [y2] at q1; exact q1.elim
          | some so2 =>
            cases so2 with
            | lst ds =>
              simp only [y2] at q1
              have rr3 : RD (cg X) w2 (.ref n) (.ref al) := RD.wk (x2.wk R1.wf) _ _ rr
              obtain ⟨al2, e2, eu2, o2⟩ := R2.sto.ref rr3 y2
              cases e2
              obtain ⟨vs, hl, rs⟩ := o2
              by_cases hz : ds.length < LIM
              · simp only [if_pos hz] at q1
                have lm := LIM_le
                have rl := rs.length
                have m2 := R2.wf.um al (List.mem_of_getElem? eu2)
                refine ⟨al, vs, v, rfl, rfl, hl, by omega, ?_⟩
                refine q1 O1 s (w2.chg al (.lst (vs ++ [v]))) (R2.chgSto y2 eu2 ⟨_, upd_same, ?_⟩) (((x1.wk R0.wf).trans (x2.wk R1.wf)).trans (Wd.chg_wk m2))
                exact RDs.append (RDs.wk (Wd.chg_wk m2) _ _ rs) (RDs.one (RD.wk (Wd.chg_wk m2) _ _ rv))
              · simp only [if_neg hz] at q1
                exact q1.elim
            | _ => simp only [y2] at q1; exact q1.elim
        | err cc aa st2 => simp only [zf, ofRs] at q1; exact fun w' cls dd R' x' rx => q1 O1 s w' cls dd R' rx
        | bad => simp only [zf, ofRs] at q1; exact q1.elim
      | _ => simp only [y] at q1; exact q1.elim
  | _ => exact (show False from q1).elim
end
end Sm

/-! Sim22: sorted(list of plain data). -/
namespace Sm
open PySem L2
def rSortX (K : PySem.W.Frag) : List V → Hp → VK → Prop := fun vs H Q => ∃ (a : Addr) (xs : List V) (ds : List PyData), vs = [.ref a] ∧ SqL K H a xs ∧ DpAll K H xs ds ∧ PySem.W.AllAlike ds ∧ PySem.W.Sortable ds ∧ (∀ d ∈ ds, d.depth ≤ 60) ∧ xs.length ≤ sizeLine ∧
  ∀ p, H p = none → Q (.ref p) (upd H p (.lst (((xs.zip ds).mergeSort (PySem.W.dataLe false (·.2))).map (·.1))))
theorem dpall_len {K : PySem.W.Frag} {H : Hp} : ∀ {xs : List V} {ds : List PyData}, DpAll K H xs ds → xs.length = ds.length
  | [], [], _ => rfl
  | _ :: _, _ :: _, .cons _ t => by simp [dpall_len t]
theorem each_zip {H : Hp} {X : Cx} {pins : List (Addr × Obj)} {σ : L2.St} {s : Shared} (I : Inv X pins σ H s) : ∀ {xs : List V} {ds : List PyData} {us : List Value}, DpAll X.K H xs ds → Vals xs us →
    PySem.W.EachIs (fun u b => RelV b.1 u) us (xs.zip ds) ∧ PySem.W.EachIs (fun u b => ∃ as, Reads s.heap u (Prod.snd b) as) us (xs.zip ds)
  | [], [], _, _, .nil => ⟨.nil, .nil⟩
  | x :: xs, d :: ds, _, .cons h t, .cons r rs => by
    obtain ⟨h1, h2⟩ := each_zip I t rs
    exact ⟨.cons r h1, .cons (Dp.reads I d x _ h r) h2⟩
theorem vals_each : ∀ {us : List Value} {bs : List (V × PyData)}, PySem.W.EachIs (fun u b => RelV b.1 u) us bs → Vals (bs.map (·.1)) us
  | _, _, .nil => .nil
  | _, _, .cons h t => .cons h (vals_each t)
theorem cr_sortX {X : Cx} (hu : X.A.units + 64 < cLine) : CallR X (.builtin "sorted") (rSortX X.K) := by
  intro pins s σ H vs us Q I r h
  obtain ⟨a, xs, ds, rfl, hs, hd, ha, hk, hdp, hz, q⟩ := h
  obtain ⟨its, rv, hl, _⟩ := I.list hs
  rw [Vals.ref1 r]
  obtain ⟨e1, e2⟩ := each_zip I hd rv
  have hm : (xs.zip ds).map Prod.snd = ds := by
    rw [List.map_snd_zip]
    rw [dpall_len hd]
    exact Nat.le_refl _
  have hlz : (xs.zip ds).length = xs.length := by rw [List.length_zip, dpall_len hd]; simp
  refine PySem.W.sorted_data (enc := Prod.snd) (bs := xs.zip ds) hl.isList e1 e2 (by rw [hm]; exact ha) (by rw [hm]; exact hk) (by rw [hlz]; exact hz) (fun b hb => ?_) fun out ho eo => ?_
  · have := hdp b.2 (by rw [← hm]; exact List.mem_map.mpr ⟨b, hb, rfl⟩)
    omega
  · obtain ⟨ep, he'⟩ := PyProof.Rows.sortedAll_at s.heap its out.toArray
    have hlen : (((xs.zip ds).mergeSort (PySem.W.dataLe false (·.2))).map (·.1)).length ≤ sizeLine := by rw [List.length_map, List.length_mergeSort, hlz]; exact hz
    exact ⟨.ref _, upd H (s.heap.objs.size + 1) (.lst (((xs.zip ds).mergeSort (PySem.W.dataLe false (·.2))).map (·.1))), I.laid (t' := s.toks) (fun _ _ => PyProof.Rows.sortedAll_old) (Nat.le_succ _) ⟨hlen, out, ep, vals_each eo, he'⟩, rfl, q _ (I.hok.fresh (Nat.le_succ _))⟩
/-- a list of plain data, sorted -/
noncomputable def sortD (ds : List D) : List D := ds.mergeSort (PySem.W.dataLe false D.py)
open Classical in
noncomputable def fSort : List D → Sto → Rs
  | [.lst ds], st => if (ds.all (shp 60) = true ∧ ds.length ≤ LIM) ∧ PySem.W.AllAlike (pys ds) ∧ PySem.W.Sortable (pys ds) then .ok (.lst (sortD ds)) st else .bad
  | _, _ => .bad
theorem rds_map {G : Cfg} {w : Wd} : ∀ {L : List (D × V)}, (∀ p ∈ L, RD G w p.1 p.2) → RDs G w (L.map (·.1)) (L.map (·.2))
  | [], _ => by unfold RDs; rfl
  | p :: L, h => by
    rw [List.map_cons, List.map_cons]
    unfold RDs
    exact ⟨_, _, rfl, h p List.mem_cons_self, rds_map fun q hq => h q (List.mem_cons_of_mem _ hq)⟩
theorem rds_zip {G : Cfg} {w : Wd} : ∀ {ds : List D} {vs : List V}, RDs G w ds vs → ∀ p ∈ ds.zip vs, RD G w p.1 p.2
  | [], _, _, p, hp => by simp at hp
  | d :: ds, vs, h, p, hp => by
    unfold RDs at h
    obtain ⟨v, r, rfl, h1, h2⟩ := h
    rw [List.zip_cons_cons] at hp
    rcases List.mem_cons.mp hp with rfl | hp
    · exact h1
    · exact rds_zip h2 p hp
theorem sort_rds {G : Cfg} {w : Wd} {ds : List D} {vs : List V} (h : RDs G w ds vs) : RDs G w (sortD ds) (((vs.zip (pys ds)).mergeSort (PySem.W.dataLe false (·.2))).map (·.1)) := by
  have hl := h.length
  have e1 : ds = (ds.zip vs).map (·.1) := by rw [List.map_fst_zip]; omega
  have e2 : vs.zip (pys ds) = (ds.zip vs).map fun p => (p.2, p.1.py) := by
    rw [pys_map]
    clear h e1
    induction ds generalizing vs with
    | nil => simp
    | cons d ds ih =>
      cases vs with
      | nil => simp
      | cons v vs => simp [ih (vs := vs) (by simpa using hl)]
  have s1 : sortD ds = ((ds.zip vs).mergeSort (PySem.W.dataLe false fun p => p.1.py)).map (·.1) := by
    unfold sortD
    have m := List.map_mergeSort (l := ds.zip vs) (f := fun p : D × V => p.1) (r := PySem.W.dataLe false fun p : D × V => p.1.py) (s := PySem.W.dataLe false D.py) (fun a _ b _ => rfl)
    rw [m, ← e1]
  have s2 : ((vs.zip (pys ds)).mergeSort (PySem.W.dataLe false (·.2))).map (·.1) = ((ds.zip vs).mergeSort (PySem.W.dataLe false fun p => p.1.py)).map (·.2) := by
    have m := List.map_mergeSort (l := ds.zip vs) (f := fun p : D × V => (p.2, p.1.py)) (r := PySem.W.dataLe false fun p : D × V => p.1.py) (s := PySem.W.dataLe false fun p : V × PyData => p.2) (fun a _ b _ => rfl)
    rw [e2, ← m, List.map_map]
    rfl
  rw [s1, s2]
  exact rds_map fun p hp => rds_zip h p (List.mem_mergeSort.mp hp)
theorem dpall_of {G : Cfg} {w : Wd} {ds : List D} {vs : List V} (h : RDs G w ds vs) (hs : ds.all (shp 60) = true) : DpAll G.K w.H vs (pys ds) := RDs.dp 60 ds vs (by rw [shps_all]; exact hs) h
theorem jb_sort {X : Cx} {B : Bs} {Wx : WX} (hu : X.A.units + 64 < cLine) : JB X B .fr Wx (.builtin "sorted") fSort := ⟨_, cr_sortX hu, by
  intro O e s w0 w ds vs st Q R xt rr q
  cases ds with
  | nil => exact (show False from q).elim
  | cons d ds1 =>
   cases ds1 with
   | cons _ _ => cases d <;> exact (show False from q).elim
   | nil =>
    obtain ⟨v, rfl, h⟩ := RQs.one rr
    cases d with
    | lst ds =>
      by_cases hz : (ds.all (shp 60) = true ∧ ds.length ≤ LIM) ∧ PySem.W.AllAlike (pys ds) ∧ PySem.W.Sortable (pys ds)
      · simp only [fSort, if_pos hz] at q
        obtain ⟨a, us, rfl, t, r⟩ := h.lst
        have lm := LIM_le
        refine ⟨a, us, pys ds, rfl, .of t, dpall_of r hz.1.1, hz.2.1, hz.2.2, fun d hd => ?_, by rw [← r.length]; omega, fun p hp => post.own R xt q hp fun w' i k => ⟨_, i, RDs.wk k _ _ (sort_rds r)⟩⟩
        rw [pys_map] at hd
        obtain ⟨x, hx, rfl⟩ := List.mem_map.mp hd
        exact (shp_lay 60 x (List.all_eq_true.mp hz.1.1 x hx)).2
      · simp only [fSort, if_neg hz] at q
        exact q.elim
    | _ => exact (show False from q).elim⟩
theorem f_sort {ds : List D} {st : Sto} {Q : D → Sto → Prop} {E : Str → Option (Str × D) → Sto → Prop} : RsP (fSort [.lst ds] st) Q E = (((ds.all (shp 60) = true ∧ ds.length ≤ LIM) ∧ PySem.W.AllAlike (pys ds) ∧ PySem.W.Sortable (pys ds)) ∧ Q (.lst (sortD ds)) st) := by
  by_cases hz : (ds.all (shp 60) = true ∧ ds.length ≤ LIM) ∧ PySem.W.AllAlike (pys ds) ∧ PySem.W.Sortable (pys ds)
  · rw [fSort, if_pos hz]; simp only [RsP, hz, and_self, true_and]
  · rw [fSort, if_neg hz]; simp only [RsP, hz, false_and]
end Sm

/-! Sim23: lists turned about. -/
namespace Sm
open PySem L2
def bRev (f : Ev) : Ev := fun r st => (f r st).bind fun d st1 => match der st1 d with
  | .lst ds => .ok (.lst ds.reverse) st1
  | _ => .bad
theorem RDs.rev {G : Cfg} {w : Wd} : ∀ {ds : List D} {vs : List V}, RDs G w ds vs → RDs G w ds.reverse vs.reverse
  | [], vs, h => by unfold RDs at h; subst h; unfold RDs; rfl
  | d :: ds, vs, h => by
    unfold RDs at h
    obtain ⟨v, r, rfl, h1, h2⟩ := h
    rw [List.reverse_cons, List.reverse_cons]
    exact RDs.append (RDs.rev h2) (RDs.one h1)
section
variable {X : Cx} {B : Bs} {Wx : WX} {a : Expr} {f : Ev} {pos : Pos}
theorem je_rev {k : Nat} {p1 p2 p3 : Pos} (ha : JE X B .bo Wx a f) : JE X B .fr Wx (.Subscript a (.Slice none none (some (.UnaryOp .USub (.Constant (.int 1) k p1) p2)) p3) pos) (bRev f) := by
  refine pe_imp (pe_revL ha) ?_
  rintro s H Q ⟨O, r, st, w, rfl, R, q⟩
  refine ⟨O, r, st, w, rfl, R, (post.bind q).mono ?_⟩
  rintro v H1 ⟨d1, st1, w1, rfl, R1, x1, rr1, q1⟩
  have h := rr1.q.der R1.sto
  cases z : der st1 d1 with
  | lst ds =>
    rw [z] at h
    simp only [z] at q1
    obtain ⟨p, vs, rfl, t, r⟩ := h.lst
    exact ⟨p, vs, rfl, .of t, fun p2 hp => post.own R1 x1 q1 hp fun w' i k => ⟨_, i, RDs.rev (RDs.wk k _ _ r)⟩⟩
  | _ => simp only [z] at q1; exact q1.elim
theorem w_rev {r : Env} {st : Sto} {Q : D → Sto → Prop} {E : Str → Option (Str × D) → Sto → Prop} : RsP (bRev f r st) Q E = RsP (f r st) (fun d st1 => derP st1 d fun d' => match d' with | .lst ds => Q (.lst ds.reverse) st1 | _ => False) E := by
  unfold bRev
  rw [w_bind]
  congr 1; funext d st1
  show _ = (match der st1 d with | .lst ds => Q (.lst ds.reverse) st1 | _ => False)
  cases der st1 d <;> rfl
theorem w_appR {h : Ev} {r : Env} {st : Sto} {N : Env → Sto → Prop} {R : D → Sto → Prop} {L : Bool → Env → Sto → Prop} {E : Str → Option (Str × D) → Env → Sto → Prop} : RtP (sAppR h f r st) N R L E = RsP (h r st) (fun o st1 => match o with
    | .ref n => (match st1[n]? with
      | some (.lst _) => RsP (f r st1) (fun d st2 => match st2[n]? with | some (.lst ds) => ds.length < LIM ∧ N r (st2.set n (.lst (ds ++ [d]))) | _ => False) (fun c a st => E c a r st)
      | _ => False)
    | _ => False) (fun c a st => E c a r st) := by
  unfold sAppR
  rw [w_of]
  congr 1; funext o st1
  cases o <;> try rfl
  rename_i n
  show RtP (match st1[n]? with
    | some (.lst _) => ofRs (f r st1) r fun d st2 => match st2[n]? with
      | some (.lst ds) => if ds.length < LIM then .nx r (st2.set n (.lst (ds ++ [d]))) else .bad
      | _ => .bad
    | _ => .bad) N R L E = (match st1[n]? with
      | some (.lst _) => RsP (f r st1) (fun d st2 => match st2[n]? with | some (.lst ds) => ds.length < LIM ∧ N r (st2.set n (.lst (ds ++ [d]))) | _ => False) (fun c a st => E c a r st)
      | _ => False)
  cases st1[n]? with
  | none => rfl
  | some so =>
    cases so <;> try rfl
    simp only
    rw [w_of]
    congr 1; funext d st2
    cases st2[n]? with
    | none => rfl
    | some so =>
      cases so <;> try rfl
      rename_i ds
      simp only
      by_cases z : ds.length < LIM <;> simp [z, RtP]
end
end Sm

/-! Sim24: plain: sorted, each once, roofs, what wishes have together, cuts. -/
namespace Sm
open PySem
/-- keys that tell their owners apart and can be compared -/
structure OKey {α : Type} (k : α → PyData) : Prop where
  al : ∀ a b, PySem.W.alike (k a) (k b) = true
  inj : ∀ a b, PyData.eqv (k a) (k b) = true → a = b
section
variable {α : Type} {k : α → PyData}
def leE (k : α → PyData) : α → α → Bool := PySem.W.dataLe false k
theorem leE_tot (k : α → PyData) : PySem.W.TotalLe (leE k) := PySem.W.sortLe_total (PyProof.Rows.listOrd PyProof.Rows.itemOrd) false (fun b => PySem.W.keyToks (k b))
theorem leE_anti (h : OKey k) {a b : α} (h1 : leE k a b = true) (h2 : leE k b a = true) : a = b := by
  apply h.inj
  have e : PySem.W.keyToks (k a) = PySem.W.keyToks (k b) := by
    have h1' : (!(PyProof.Rows.listOrd PyProof.Rows.itemOrd).blt (PySem.W.keyToks (k b)) (PySem.W.keyToks (k a))) = true := h1
    have h2' : (!(PyProof.Rows.listOrd PyProof.Rows.itemOrd).blt (PySem.W.keyToks (k a)) (PySem.W.keyToks (k b))) = true := h2
    rw [Bool.not_eq_true'] at h1' h2'
    exact (PyProof.Rows.listOrd PyProof.Rows.itemOrd).total _ _ h2' h1'
  cases z : PyData.eqv (k a) (k b) with
  | true => rfl
  | false =>
    have q := (PySem.W.toks_eqv (k a) (k b) (h.al a b)).2 z
    rw [e] at q
    have q1 := q [] [Sum.inl 0]
    have q2 := q [Sum.inl 0] []
    rw [PySem.W.lex_pre] at q1 q2
    rw [← q2] at q1
    have c1 : PyProof.Rows.lexLt PyProof.Rows.itemOrd ([] : List (Int ⊕ List Nat)) [Sum.inl 0] = true := rfl
    have c2 : PyProof.Rows.lexLt PyProof.Rows.itemOrd [Sum.inl 0] ([] : List (Int ⊕ List Nat)) = false := rfl
    rw [c1, c2] at q1
    cases q1
def srt (k : α → PyData) (xs : List α) : List α := xs.mergeSort (leE k)
theorem srt_perm (xs : List α) : (srt k xs).Perm xs := List.mergeSort_perm _ _
theorem mem_srt {xs : List α} {a : α} : a ∈ srt k xs ↔ a ∈ xs := (srt_perm xs).mem_iff
theorem srt_pw (xs : List α) : (srt k xs).Pairwise (fun a b => leE k a b = true) := PySem.W.sort_pairwise (leE_tot k) xs
theorem srt_len (xs : List α) : (srt k xs).length = xs.length := (srt_perm xs).length_eq
theorem srt_uniq (h : OKey k) {xs ys : List α} (p : xs.Perm ys) (q : xs.Pairwise (fun a b => leE k a b = true)) : xs = srt k ys :=
  List.Perm.eq_of_pairwise (fun a b _ _ h1 h2 => leE_anti h h1 h2) q (srt_pw ys) (p.trans (srt_perm ys).symm)
theorem srt_congr (h : OKey k) {xs ys : List α} (p : xs.Perm ys) : srt k xs = srt k ys := srt_uniq h ((srt_perm xs).trans p) (srt_pw xs)
theorem srt_of (h : OKey k) {xs : List α} (q : xs.Pairwise (fun a b => leE k a b = true)) : srt k xs = xs := List.mergeSort_of_pairwise q
/-- strictly before -/
def ltE (k : α → PyData) (a b : α) : Prop := leE k a b = true ∧ a ≠ b
/-- rising lists with the same members are one -/
theorem rise_uniq (h : OKey k) {xs ys : List α} (p : xs.Pairwise (ltE k)) (q : ys.Pairwise (ltE k)) (e : ∀ a, a ∈ xs ↔ a ∈ ys) : xs = ys := by
  have nx : xs.Nodup := p.imp fun z => z.2
  have ny : ys.Nodup := q.imp fun z => z.2
  have pp : xs.Perm ys := (List.perm_ext_iff_of_nodup nx ny).mpr e
  exact List.Perm.eq_of_pairwise (le := fun a b => leE k a b = true) (fun a b _ _ h1 h2 => leE_anti h h1 h2) (p.imp fun z => z.1) (q.imp fun z => z.1) pp
end
end Sm
namespace Sm
open PySem
section
variable {α : Type} [DecidableEq α] {k : α → PyData}
/-- each once, of a sorted list -/
def dd : List α → List α
  | [] => []
  | a :: l => a :: (dd l).filter fun b => decide (b ≠ a)
theorem mem_dd {a : α} : ∀ {l : List α}, a ∈ dd l ↔ a ∈ l
  | [] => Iff.rfl
  | b :: l => by
    have ih := mem_dd (a := a) (l := l)
    simp only [dd, List.mem_cons, List.mem_filter, decide_eq_true_eq, ih]
    by_cases e : a = b
    · simp [e]
    · simp [e]
theorem dd_pw : ∀ {l : List α}, l.Pairwise (fun a b => leE k a b = true) → (dd l).Pairwise (ltE k)
  | [], _ => .nil
  | a :: l, h => by
    have h' := List.pairwise_cons.mp h
    refine List.pairwise_cons.mpr ⟨fun b hb => ?_, (dd_pw h'.2).filter _⟩
    have hb' := List.mem_filter.mp hb
    exact ⟨h'.1 b (mem_dd.mp hb'.1), fun e => (by simpa using hb'.2 : b ≠ a) e.symm⟩
theorem dd_len : ∀ {l : List α}, (dd l).length ≤ l.length
  | [] => Nat.le_refl _
  | a :: l => Nat.succ_le_succ (Nat.le_trans (List.length_filter_le ..) dd_len)
def once (k : α → PyData) (xs : List α) : List α := dd (srt k xs)
theorem mem_once {xs : List α} {a : α} : a ∈ once k xs ↔ a ∈ xs := mem_dd.trans mem_srt
theorem once_pw {xs : List α} : (once k xs).Pairwise (ltE k) := dd_pw (srt_pw xs)
theorem once_len {xs : List α} : (once k xs).length ≤ (srt k xs).length := dd_len
theorem once_eq (h : OKey k) {xs ys : List α} (p : ys.Pairwise (ltE k)) (e : ∀ a, a ∈ ys ↔ a ∈ xs) : ys = once k xs :=
  rise_uniq h p once_pw fun a => (e a).trans mem_once.symm
/-- those that no other one covers, rising -/
def roofE (k : α → PyData) (cov : α → α → Bool) (xs : List α) : List α := (once k xs).filter fun w => !(once k xs).any fun o => decide (o ≠ w) && cov o w
variable {cov : α → α → Bool}
theorem mem_roofE {xs : List α} {w : α} : w ∈ roofE k cov xs ↔ w ∈ xs ∧ ∀ o ∈ xs, o ≠ w → cov o w = false := by
  unfold roofE
  rw [List.mem_filter, mem_once]
  simp only [Bool.not_eq_true', List.any_eq_false, mem_once, Bool.and_eq_true, decide_eq_true_eq, not_and, Bool.not_eq_true]
theorem roofE_pw {xs : List α} : (roofE k cov xs).Pairwise (ltE k) := once_pw.filter _
theorem roofE_eq (h : OKey k) {xs ys : List α} (p : ys.Pairwise (ltE k)) (e : ∀ w, w ∈ ys ↔ w ∈ xs ∧ ∀ o ∈ xs, o ≠ w → cov o w = false) : ys = roofE k cov xs :=
  rise_uniq h p roofE_pw fun a => (e a).trans mem_roofE.symm
theorem roofE_congr (h : OKey k) {xs ys : List α} (e : ∀ a, a ∈ xs ↔ a ∈ ys) : roofE k cov xs = roofE k cov ys :=
  roofE_eq h roofE_pw fun w => by
    rw [mem_roofE, e w]
    constructor
    · rintro ⟨h1, h2⟩; exact ⟨h1, fun o ho => h2 o ((e o).mpr ho)⟩
    · rintro ⟨h1, h2⟩; exact ⟨h1, fun o ho => h2 o ((e o).mp ho)⟩
theorem ltE_nodup {xs : List α} (h : xs.Pairwise (ltE k)) : xs.Nodup := h.imp fun z => z.2
end
/-! ### wishes -/
abbrev Wi := List (Int × Int)
theorem covL_corner : ∀ {a b : Wi}, (∀ p ∈ b, p.1 ≤ p.2) → covL a b = (hasL a (b.map (·.1)) && hasL a (b.map (·.2)))
  | a, [], _ => by simp [covL, hasL]
  | [], q :: b, _ => by simp [covL, hasL]
  | p :: a, q :: b, h => by
    have ih := covL_corner (a := a) (b := b) fun p hp => h p (List.mem_cons_of_mem _ hp)
    have hq := h q (List.mem_cons_self ..)
    simp only [covL, hasL, List.zip_cons_cons, List.map_cons, List.all_cons] at *
    rw [ih, Bool.eq_iff_iff]
    simp only [Bool.and_eq_true, decide_eq_true_eq]
    constructor
    · rintro ⟨⟨h1, h2⟩, h3, h4⟩; exact ⟨⟨⟨h1, by omega⟩, h3⟩, ⟨by omega, h2⟩, h4⟩
    · rintro ⟨⟨⟨h1, _⟩, h3⟩, ⟨_, h2⟩, h4⟩; exact ⟨⟨h1, h2⟩, h3, h4⟩
theorem hasL_fst : ∀ {b : Wi}, (∀ p ∈ b, p.1 ≤ p.2) → hasL b (b.map (·.1)) = true
  | [], _ => by simp [hasL]
  | q :: b, h => by
    have ih := hasL_fst (b := b) fun p hp => h p (List.mem_cons_of_mem _ hp)
    have hq := h q (List.mem_cons_self ..)
    simp only [hasL, List.map_cons, List.zip_cons_cons, List.all_cons] at *
    simp [ih, hq]
theorem hasL_snd : ∀ {b : Wi}, (∀ p ∈ b, p.1 ≤ p.2) → hasL b (b.map (·.2)) = true
  | [], _ => by simp [hasL]
  | q :: b, h => by
    have ih := hasL_snd (b := b) fun p hp => h p (List.mem_cons_of_mem _ hp)
    have hq := h q (List.mem_cons_self ..)
    simp only [hasL, List.map_cons, List.zip_cons_cons, List.all_cons] at *
    simp [ih, hq]
theorem covL_has : ∀ {a b : Wi} {l : List Int}, a.length = b.length → l.length = b.length → covL a b = true → hasL b l = true → hasL a l = true
  | [], b, l, h, h', _, _ => by simp [hasL]
  | p :: a, [], l, h, _, _, _ => by simp at h
  | p :: a, q :: b, [], h, _, _, _ => by simp [hasL]
  | p :: a, q :: b, n :: l, h, h', c, s => by
    have ih := covL_has (a := a) (b := b) (l := l) (by simpa using h) (by simpa using h')
    simp only [covL, hasL, List.zip_cons_cons, List.all_cons, Bool.and_eq_true, decide_eq_true_eq] at *
    exact ⟨⟨by omega, by omega⟩, ih c.2 s.2⟩
theorem covL_iff {f : Nat} {a b : Wi} (ha : a.length = f) (hb : WOk f b) : covL a b = true ↔ ∀ l, l.length = f → hasL b l = true → hasL a l = true := by
  have hv : ∀ p ∈ b, p.1 ≤ p.2 := fun p hp => (hb.2 p hp).2.1
  constructor
  · intro c l hl s
    exact covL_has (by rw [ha, hb.1]) (by rw [hl, hb.1]) c s
  · intro h
    rw [covL_corner hv, h _ (by rw [List.length_map, hb.1]) (hasL_fst hv), h _ (by rw [List.length_map, hb.1]) (hasL_snd hv)]
    rfl
theorem covL_refl : ∀ (a : Wi), covL a a = true
  | [] => rfl
  | p :: a => by
    have := covL_refl a
    simp only [covL, List.zip_cons_cons, List.all_cons] at *
    simp [this]
theorem covL_trans : ∀ {a b c : Wi}, a.length = b.length → b.length = c.length → covL a b = true → covL b c = true → covL a c = true
  | [], _, c, _, _, _, _ => by simp [covL]
  | p :: a, [], c, h, _, _, _ => by simp at h
  | p :: a, q :: b, [], _, h, _, _ => by simp at h
  | p :: a, q :: b, s :: c, h, h', x, y => by
    have ih := covL_trans (a := a) (b := b) (c := c) (by simpa using h) (by simpa using h')
    simp only [covL, List.zip_cons_cons, List.all_cons, Bool.and_eq_true, decide_eq_true_eq] at *
    exact ⟨⟨by omega, by omega⟩, ih x.2 y.2⟩
theorem covL_anti : ∀ {a b : Wi}, a.length = b.length → covL a b = true → covL b a = true → a = b
  | [], [], _, _, _ => rfl
  | p :: a, [], h, _, _ => by simp at h
  | [], q :: b, h, _, _ => by simp at h
  | p :: a, q :: b, h, x, y => by
    have ih := covL_anti (a := a) (b := b) (by simpa using h)
    simp only [covL, List.zip_cons_cons, List.all_cons, Bool.and_eq_true, decide_eq_true_eq] at *
    rw [ih x.2 y.2]
    have : p = q := Prod.ext (by omega) (by omega)
    rw [this]
def wid (w : Wi) : Nat := (w.map fun p => (p.2 - p.1).toNat).sum
theorem wid_le : ∀ {a b : Wi}, a.length = b.length → (∀ p ∈ b, p.1 ≤ p.2) → covL a b = true → wid b ≤ wid a ∧ (wid a = wid b → a = b)
  | [], [], _, _, _ => ⟨Nat.le_refl _, fun _ => rfl⟩
  | p :: a, [], h, _, _ => by simp at h
  | [], q :: b, h, _, _ => by simp at h
  | p :: a, q :: b, h, v, x => by
    have hq := v q (List.mem_cons_self ..)
    have x' : (p.1 ≤ q.1 ∧ q.2 ≤ p.2) ∧ covL a b = true := by
      simp only [covL, List.zip_cons_cons, List.all_cons, Bool.and_eq_true, decide_eq_true_eq] at x ⊢
      exact x
    have ih := wid_le (a := a) (b := b) (by simpa using h) (fun p hp => v p (List.mem_cons_of_mem _ hp)) x'.2
    have e1 : wid (p :: a) = (p.2 - p.1).toNat + wid a := by simp [wid]
    have e2 : wid (q :: b) = (q.2 - q.1).toNat + wid b := by simp [wid]
    rw [e1, e2]
    refine ⟨by omega, fun e => ?_⟩
    have hw : wid a = wid b := by omega
    rw [ih.2 hw]
    have : p = q := Prod.ext (by omega) (by omega)
    rw [this]
theorem wid_bd : ∀ {f : Nat} {w : Wi}, WOk f w → wid w ≤ 9 * f
  | f, [], h => by simp [wid]
  | 0, p :: w, h => by have := h.1; simp at this
  | f + 1, p :: w, h => by
    have ih := wid_bd (f := f) (w := w) ⟨by have := h.1; simpa using this, fun q hq => h.2 q (List.mem_cons_of_mem _ hq)⟩
    have hp := h.2 p (List.mem_cons_self ..)
    have e1 : wid (p :: w) = (p.2 - p.1).toNat + wid w := by simp [wid]
    rw [e1]
    omega
section
variable {k : Wi → PyData} {f : Nat}
def roofW (k : Wi → PyData) (ws : List Wi) : List Wi := roofE k covL ws
theorem roofW_ok {ws : List Wi} (h : ∀ w ∈ ws, WOk f w) : ∀ w ∈ roofW k ws, WOk f w := fun w hw => h w (mem_roofE.mp hw).1
theorem roof_max {ws : List Wi} (h : ∀ w ∈ ws, WOk f w) {w : Wi} (hw : w ∈ ws) : ∃ m ∈ roofW k ws, covL m w = true := by
  have key : ∀ (n : Nat) (w : Wi), w ∈ ws → 9 * f - wid w ≤ n → ∃ m ∈ roofW k ws, covL m w = true := by
    intro n
    induction n with
    | zero =>
      intro w hw hn
      refine ⟨w, mem_roofE.mpr ⟨hw, fun o ho ne => ?_⟩, covL_refl w⟩
      cases z : covL o w with
      | false => rfl
      | true =>
        have q := wid_le (by rw [(h o ho).1, (h w hw).1]) (fun p hp => ((h w hw).2 p hp).2.1) z
        have b := wid_bd (h o ho)
        exact absurd (q.2 (by omega)) ne
    | succ n ih =>
      intro w hw hn
      by_cases z : ∃ o ∈ ws, o ≠ w ∧ covL o w = true
      · obtain ⟨o, ho, ne, c⟩ := z
        have q := wid_le (by rw [(h o ho).1, (h w hw).1]) (fun p hp => ((h w hw).2 p hp).2.1) c
        have : wid o ≠ wid w := fun e => ne (q.2 e)
        have b := wid_bd (h o ho)
        obtain ⟨m, hm, cm⟩ := ih o ho (by omega)
        have hm' := (mem_roofE.mp hm).1
        exact ⟨m, hm, covL_trans (by rw [(h m hm').1, (h o ho).1]) (by rw [(h o ho).1, (h w hw).1]) cm c⟩
      · refine ⟨w, mem_roofE.mpr ⟨hw, fun o ho ne => ?_⟩, covL_refl w⟩
        cases c : covL o w with
        | false => rfl
        | true => exact absurd ⟨o, ho, ne, c⟩ z
  exact key _ w hw (Nat.le_refl _)
theorem roof_idem (hk : OKey k) {ws : List Wi} : roofW k (roofW k ws) = roofW k ws := by
  symm
  refine roofE_eq hk roofE_pw fun w => ⟨fun hw => ⟨hw, fun o ho ne => ?_⟩, fun hw => hw.1⟩
  exact (mem_roofE.mp hw).2 o (mem_roofE.mp ho).1 ne
/-- the roof of two lists is that of their roofs -/
theorem roof_join (hk : OKey k) {xs ys xs' ys' : List Wi} (hx : ∀ w ∈ xs, WOk f w) (hy : ∀ w ∈ ys, WOk f w) (sx : ∀ w ∈ xs', w ∈ xs) (sy : ∀ w ∈ ys', w ∈ ys)
    (cx : ∀ w ∈ xs, ∃ m ∈ xs', covL m w = true) (cy : ∀ w ∈ ys, ∃ m ∈ ys', covL m w = true) : roofW k (xs ++ ys) = roofW k (xs' ++ ys') := by
  have all : ∀ w ∈ xs ++ ys, WOk f w := fun w hw => (List.mem_append.mp hw).elim (hx w) (hy w)
  have sub : ∀ w ∈ xs' ++ ys', w ∈ xs ++ ys := fun w hw => List.mem_append.mpr ((List.mem_append.mp hw).imp (sx w) (sy w))
  have mx : ∀ w ∈ xs ++ ys, ∃ m ∈ xs' ++ ys', covL m w = true := fun w hw => by
    rcases List.mem_append.mp hw with z | z
    · obtain ⟨m, h1, h2⟩ := cx w z; exact ⟨m, List.mem_append.mpr (.inl h1), h2⟩
    · obtain ⟨m, h1, h2⟩ := cy w z; exact ⟨m, List.mem_append.mpr (.inr h1), h2⟩
  refine roofE_eq hk roofE_pw fun w => ?_
  refine Iff.trans mem_roofE ⟨?_, ?_⟩
  · rintro ⟨h1, h2⟩
    obtain ⟨m, hm, cm⟩ := mx w h1
    have e : m = w := Classical.byContradiction fun ne => by
      have := h2 m (sub m hm) ne
      rw [cm] at this; cases this
    exact ⟨e ▸ hm, fun o ho ne => h2 o (sub o ho) ne⟩
  · rintro ⟨h1, h2⟩
    refine ⟨sub w h1, fun o ho ne => ?_⟩
    cases c : covL o w with
    | false => rfl
    | true =>
      obtain ⟨m, hm, cm⟩ := mx o ho
      have lo := (all o ho).1
      have lm := (all m (sub m hm)).1
      have lw := (all w (sub w h1)).1
      by_cases e : m = w
      · subst e
        exact absurd (covL_anti (by rw [lo, lm]) c cm) ne
      · have := h2 m hm e
        rw [covL_trans (by rw [lm, lo]) (by rw [lo, lw]) cm c] at this
        cases this
/-! ### together -/
def hadL (ws : List Wi) (l : List Int) : Bool := ws.any fun o => hasL o l
def allHad (ws : List Wi) (w : Wi) : Bool := (lets w).all (hadL ws)
theorem allHad_iff {f : Nat} {ws : List Wi} {w : Wi} (hw : w.length = f) : allHad ws w = true ↔ ∀ l, l.length = f → hasL w l = true → hadL ws l = true := by
  unfold allHad
  rw [List.all_eq_true]
  subst hw
  exact ⟨fun h l h1 h2 => h l (mem_lets.mpr ⟨h1, h2⟩), fun h l hl => h l (mem_lets.mp hl).1 (mem_lets.mp hl).2⟩
theorem hadL_iff {ws : List Wi} {l : List Int} : hadL ws l = true ↔ ∃ o ∈ ws, hasL o l = true := by unfold hadL; rw [List.any_eq_true]
theorem hadL_roof {ws : List Wi} (h : ∀ w ∈ ws, WOk f w) {l : List Int} (hl : l.length = f) : hadL (roofW k ws) l = hadL ws l := by
  rw [Bool.eq_iff_iff, hadL_iff, hadL_iff]
  constructor
  · rintro ⟨o, ho, c⟩; exact ⟨o, (mem_roofE.mp ho).1, c⟩
  · rintro ⟨o, ho, c⟩
    obtain ⟨m, hm, cm⟩ := roof_max (k := k) h ho
    exact ⟨m, hm, (covL_iff (h m (mem_roofE.mp hm).1).1 (h o ho)).mp cm l hl c⟩
def leftL (ws : List Wi) (w : Wi) : Option (List Int) := (lets w).find? fun l => !hadL ws l
theorem leftL_none {ws : List Wi} {w : Wi} : leftL ws w = none ↔ allHad ws w = true := by
  unfold leftL allHad
  rw [List.find?_eq_none, List.all_eq_true]
  exact forall_congr' fun l => forall_congr' fun _ => by simp
/-- those that the others of the list cover together are left out, one by one -/
def spareF : List Wi → List Wi → List Wi
  | kept, [] => kept
  | kept, w :: r => if allHad (kept.filter fun o => decide (o ≠ w)) w = true then spareF (kept.filter fun o => decide (o ≠ w)) r else spareF kept r
def spareW (k : Wi → PyData) (ws : List Wi) : List Wi := spareF (roofW k ws) (roofW k ws)
theorem spareF_sub : ∀ (todo kept : List Wi), (spareF kept todo).Sublist kept
  | [], kept => List.Sublist.refl _
  | w :: r, kept => by
    unfold spareF
    split
    · exact (spareF_sub r _).trans (List.filter_sublist ..)
    · exact spareF_sub r _
theorem spareF_had : ∀ (todo kept : List Wi), (∀ w ∈ kept, w.length = f) → (∀ w ∈ todo, w.length = f) → ∀ l, l.length = f → hadL (spareF kept todo) l = hadL kept l
  | [], kept, _, _, l, _ => rfl
  | w :: r, kept, hk, ht, l, hl => by
    have ih := spareF_had r
    unfold spareF
    have ht' : ∀ w ∈ r, w.length = f := fun x hx => ht x (List.mem_cons_of_mem _ hx)
    split
    · rename_i z
      rw [ih _ (fun x hx => hk x (List.mem_filter.mp hx).1) ht' l hl, Bool.eq_iff_iff, hadL_iff, hadL_iff]
      constructor
      · rintro ⟨o, ho, c⟩; exact ⟨o, (List.mem_filter.mp ho).1, c⟩
      · rintro ⟨o, ho, c⟩
        by_cases e : o = w
        · subst e
          exact hadL_iff.mp ((allHad_iff (hk o ho)).mp z l hl c)
        · exact ⟨o, List.mem_filter.mpr ⟨ho, by simpa using e⟩, c⟩
    · exact ih _ hk ht' l hl
theorem spareF_irr : ∀ (todo kept : List Wi) (w : Wi), w ∈ spareF kept todo → w ∈ todo → allHad ((spareF kept todo).filter fun o => decide (o ≠ w)) w = false
  | [], kept, w, _, h => by cases h
  | v :: r, kept, w, hw, ht => by
    have mono : ∀ (xs ys : List Wi), (∀ o ∈ xs, o ∈ ys) → allHad xs w = true → allHad ys w = true := by
      intro xs ys s h
      unfold allHad at *
      rw [List.all_eq_true] at *
      intro l hl
      obtain ⟨o, ho, c⟩ := hadL_iff.mp (h l hl)
      exact hadL_iff.mpr ⟨o, s o ho, c⟩
    unfold spareF at hw ⊢
    split
    · rename_i z
      rw [if_pos z] at hw
      rcases List.mem_cons.mp ht with e | e
      · subst e
        have := (spareF_sub r _).subset hw
        simp at this
      · exact spareF_irr r _ w hw e
    · rename_i z
      rw [if_neg z] at hw
      rcases List.mem_cons.mp ht with e | e
      · subst e
        cases y : allHad ((spareF kept r).filter fun o => decide (o ≠ w)) w with
        | false => rfl
        | true =>
          refine absurd (mono _ _ (fun o ho => ?_) y) z
          have := List.mem_filter.mp ho
          exact List.mem_filter.mpr ⟨(spareF_sub r _).subset this.1, this.2⟩
      · exact spareF_irr r _ w hw e
theorem spareF_id : ∀ (todo kept : List Wi), (∀ w ∈ todo, allHad (kept.filter fun o => decide (o ≠ w)) w = false) → spareF kept todo = kept
  | [], kept, _ => rfl
  | w :: r, kept, h => by
    unfold spareF
    rw [h w (List.mem_cons_self ..)]
    exact spareF_id r kept fun x hx => h x (List.mem_cons_of_mem _ hx)
theorem spareW_pw {ws : List Wi} : (spareW k ws).Pairwise (ltE k) := List.Pairwise.sublist (spareF_sub _ _) roofE_pw
theorem spareW_sub {ws : List Wi} : ∀ w ∈ spareW k ws, w ∈ roofW k ws := fun w hw => (spareF_sub _ _).subset hw
theorem spareW_irr {ws : List Wi} : ∀ w ∈ spareW k ws, allHad ((spareW k ws).filter fun o => decide (o ≠ w)) w = false := fun w hw => spareF_irr _ _ w hw (spareW_sub w hw)
theorem spareW_had {ws : List Wi} (h : ∀ w ∈ ws, WOk f w) {l : List Int} (hl : l.length = f) : hadL (spareW k ws) l = hadL ws l := by
  have hr : ∀ w ∈ roofW k ws, w.length = f := fun w hw => (roofW_ok h w hw).1
  unfold spareW
  rw [spareF_had _ _ hr hr l hl, hadL_roof h hl]
theorem roof_of_sub (hk : OKey k) {ws : List Wi} {ks : List Wi} (p : ks.Pairwise (ltE k)) (s : ∀ w ∈ ks, w ∈ roofW k ws) : roofW k ks = ks := by
  symm
  refine roofE_eq hk p fun w => ⟨fun hw => ⟨hw, fun o ho ne => ?_⟩, fun hw => hw.1⟩
  exact (mem_roofE.mp (s w hw)).2 o (mem_roofE.mp (s o ho)).1 ne
theorem spare_idem (hk : OKey k) {ws : List Wi} : spareW k (spareW k ws) = spareW k ws := by
  have e : roofW k (spareW k ws) = spareW k ws := roof_of_sub hk spareW_pw spareW_sub
  show spareF (roofW k (spareW k ws)) (roofW k (spareW k ws)) = _
  rw [e]
  exact spareF_id _ _ spareW_irr
end
end Sm
namespace Sm
open PySem
/-! ### trees of cuts -/
theorem set_cov : ∀ {w : Wi} {i : Nat} {p q : Int × Int}, w[i]? = some p → p.1 ≤ q.1 → q.2 ≤ p.2 → covL w (w.set i q) = true
  | [], i, p, q, h, _, _ => by simp at h
  | x :: w, 0, p, q, h, h1, h2 => by
    simp at h; subst h
    have := covL_refl w
    simp only [covL, List.set_cons_zero, List.zip_cons_cons, List.all_cons] at *
    simp [this, h1, h2]
  | x :: w, i + 1, p, q, h, h1, h2 => by
    have ih := set_cov (w := w) (i := i) (by simpa using h) h1 h2
    simp only [covL, List.set_cons_succ, List.zip_cons_cons, List.all_cons] at *
    simp [ih]
theorem set_wid : ∀ {w : Wi} {i : Nat} {p q : Int × Int}, w[i]? = some p → (q.2 - q.1).toNat < (p.2 - p.1).toNat → wid (w.set i q) < wid w
  | [], i, p, q, h, _ => by simp at h
  | x :: w, 0, p, q, h, h1 => by
    simp at h; subst h
    simp only [wid, List.set_cons_zero, List.map_cons, List.sum_cons]
    omega
  | x :: w, i + 1, p, q, h, h1 => by
    have ih := set_wid (w := w) (i := i) (q := q) (by simpa using h) h1
    simp only [wid, List.set_cons_succ, List.map_cons, List.sum_cons] at *
    omega
theorem set_ok {f : Nat} {w : Wi} {i : Nat} {q : Int × Int} (hw : WOk f w) (hq : 0 ≤ q.1 ∧ q.1 ≤ q.2 ∧ q.2 ≤ 9) : WOk f (w.set i q) :=
  ⟨by rw [List.length_set]; exact hw.1, fun p hp => (List.mem_or_eq_of_mem_set hp).elim (hw.2 p) fun e => e ▸ hq⟩
/-- parts of a wish: fewer letters -/
theorem half_ok {f : Nat} {w : Wi} {i : Nat} {p : Int × Int} {a : Int} (hw : WOk f w) (h : w[i]? = some p) (h1 : p.1 ≤ a) (h2 : a < p.2) :
    (WOk f (w.set i (p.1, a)) ∧ covL w (w.set i (p.1, a)) = true ∧ wid (w.set i (p.1, a)) < wid w) ∧ (WOk f (w.set i (a + 1, p.2)) ∧ covL w (w.set i (a + 1, p.2)) = true ∧ wid (w.set i (a + 1, p.2)) < wid w) := by
  have hp := hw.2 p (List.mem_of_getElem? h)
  refine ⟨⟨set_ok hw ⟨hp.1, h1, by show a ≤ 9; omega⟩, set_cov h (Int.le_refl _) (by show a ≤ p.2; omega), set_wid h (by show (a - p.1).toNat < _; omega)⟩, set_ok hw ⟨by show 0 ≤ a + 1; omega, by show a + 1 ≤ p.2; omega, hp.2.2⟩, set_cov h (by show p.1 ≤ a + 1; omega) (Int.le_refl _), set_wid h (by show (p.2 - (a + 1)).toNat < _; omega)⟩
theorem allHad_cov {f : Nat} {ws : List Wi} {w v : Wi} (hw : w.length = f) (hv : WOk f v) (c : covL w v = true) (h : allHad ws w = true) : allHad ws v = true :=
  (allHad_iff hv.1).mpr fun l hl s => (allHad_iff hw).mp h l hl ((covL_iff hw hv).mp c l hl s)
inductive Tr where
  | «by» (k : Int) | cut (f a : Int) (x y : Tr)
def isC (ws : List Wi) : Wi → Tr → Bool
  | w, .by k => decide (0 ≤ k ∧ k < ws.length) && (match ws[k.toNat]? with | some o => covL o w | none => false)
  | w, .cut f a x y => decide (0 ≤ f ∧ f < w.length) && (match w[f.toNat]? with | some p => decide (p.1 ≤ a ∧ a < p.2) && (isC ws (w.set f.toNat (p.1, a)) x && isC ws (w.set f.toNat (a + 1, p.2)) y) | none => false)
/-- where nothing of w is outside of o, o covers w -/
theorem cov_of_in : ∀ {o w : Wi}, o.length = w.length → (∀ (i : Nat) p q, o[i]? = some p → w[i]? = some q → p.1 ≤ q.1 ∧ q.2 ≤ p.2) → covL o w = true
  | [], w, _, _ => by simp [covL]
  | x :: o, [], h, _ => by simp at h
  | x :: o, y :: w, h, g => by
    have ih := cov_of_in (o := o) (w := w) (by simpa using h) fun i p q h1 h2 => g (i + 1) p q (by simpa using h1) (by simpa using h2)
    have := g 0 x y rfl rfl
    simp only [covL, List.zip_cons_cons, List.all_cons] at *
    simp [ih, this]
theorem in_at : ∀ {o w : Wi} {i : Nat} {p q : Int × Int}, okC (inC o w) = true → o[i]? = some p → w[i]? = some q → max p.1 q.1 ≤ min p.2 q.2
  | [], w, i, p, q, _, h, _ => by simp at h
  | x :: o, [], i, p, q, _, _, h => by simp at h
  | x :: o, y :: w, 0, p, q, h, h1, h2 => by
    simp at h1 h2; subst h1 h2
    simp only [okC, inC, List.zip_cons_cons, List.map_cons, List.all_cons, Bool.and_eq_true, decide_eq_true_eq] at h
    exact h.1
  | x :: o, y :: w, i + 1, p, q, h, h1, h2 => by
    refine in_at (o := o) (w := w) (i := i) ?_ (by simpa using h1) (by simpa using h2)
    simp only [okC, inC, List.zip_cons_cons, List.map_cons, List.all_cons, Bool.and_eq_true, decide_eq_true_eq] at h ⊢
    exact h.2
/-- a wish that has letters has one in common with another that has one of them -/
theorem in_of_has : ∀ {o w : Wi} {l : List Int}, o.length = w.length → l.length = w.length → hasL o l = true → hasL w l = true → okC (inC o w) = true
  | [], w, l, _, _, _, _ => by simp [okC, inC]
  | x :: o, [], l, h, _, _, _ => by simp at h
  | x :: o, y :: w, [], _, h, _, _ => by simp at h
  | x :: o, y :: w, n :: l, h, h', h1, h2 => by
    have ih := in_of_has (o := o) (w := w) (l := l) (by simpa using h) (by simpa using h')
    simp only [okC, inC, hasL, List.zip_cons_cons, List.map_cons, List.all_cons, Bool.and_eq_true, decide_eq_true_eq] at *
    exact ⟨by omega, ih h1.2 h2.2⟩
theorem meets {f : Nat} {ws : List Wi} {w : Wi} (hs : ∀ o ∈ ws, WOk f o) (hw : WOk f w) (h : allHad ws w = true) : ∃ o ∈ ws, okC (inC o w) = true := by
  have s := hasL_fst (b := w) fun p hp => (hw.2 p hp).2.1
  have hl : (w.map (·.1)).length = f := by rw [List.length_map, hw.1]
  obtain ⟨o, ho, c⟩ := hadL_iff.mp ((allHad_iff hw.1).mp h _ hl s)
  exact ⟨o, ho, in_of_has (by rw [(hs o ho).1, hw.1]) (by rw [hl, hw.1]) c s⟩
end Sm
namespace Sm
open PySem
section
variable {α : Type} [DecidableEq α] {k : α → PyData}
theorem atI_lst {xs : List α} : xs.getLast? = xs[xs.length - 1]? := List.getLast?_eq_getElem?
structure Onc (k : α → PyData) (acc done : List α) : Prop where
  pw : acc.Pairwise (ltE k)
  mem : ∀ x, x ∈ acc ↔ x ∈ done
  last : acc.getLast? = done.getLast?
theorem Onc.nil : Onc k ([] : List α) [] := ⟨.nil, fun _ => Iff.rfl, rfl⟩
theorem Onc.skip {acc done : List α} {a : α} (h : Onc k acc done) (e : acc.getLast? = some a) : Onc k acc (done ++ [a]) :=
  ⟨h.pw, fun x => by
    have : a ∈ acc := List.mem_of_getLast? e
    rw [List.mem_append, List.mem_singleton, h.mem]
    exact ⟨.inl, fun z => z.elim id fun z => by rw [z]; exact (h.mem a).mp this⟩, by rw [e]; simp⟩
theorem rise_add {acc : List α} {a : α} (h : acc.Pairwise (ltE k)) (s : ∀ x ∈ acc, leE k x a = true) (n : a ∉ acc) : (acc ++ [a]).Pairwise (ltE k) :=
  List.pairwise_append.mpr ⟨h, List.pairwise_singleton .., fun x hx y hy => by
    rw [List.mem_singleton.mp hy]
    exact ⟨s x hx, fun e => n (e ▸ hx)⟩⟩
theorem Onc.add (hk : OKey k) {acc done : List α} {a : α} (h : Onc k acc done) (s : (done ++ [a]).Pairwise (fun a b => leE k a b = true)) (e : acc.getLast? ≠ some a) : Onc k (acc ++ [a]) (done ++ [a]) := by
  have hs := List.pairwise_append.mp s
  refine ⟨rise_add h.pw (fun x hx => hs.2.2 x ((h.mem x).mp hx) a (by simp)) ?_, fun x => by rw [List.mem_append, List.mem_append, h.mem], by simp⟩
  intro ha
  have hd := (h.mem a).mp ha
  have hne : done ≠ [] := fun z => by rw [z] at hd; cases hd
  obtain ⟨init, y, rfl⟩ : ∃ init y, done = init ++ [y] := ⟨done.dropLast, done.getLast hne, (List.dropLast_concat_getLast hne).symm⟩
  rw [h.last] at e
  simp only [List.getLast?_concat, ne_eq, Option.some.injEq] at e
  have h1 : leE k y a = true := hs.2.2 y (by simp) a (by simp)
  rcases List.mem_append.mp hd with z | z
  · have h2 : leE k a y = true := (List.pairwise_append.mp hs.1).2.2 a z y (by simp)
    exact e (leE_anti hk h1 h2)
  · exact e (List.mem_singleton.mp z).symm
theorem Onc.fin (hk : OKey k) {acc xs : List α} (h : Onc k acc (srt k xs)) : acc = once k xs := once_eq hk h.pw fun a => (h.mem a).trans mem_srt
theorem srt_split {xs done rest : List α} {a : α} (e : srt k xs = done ++ a :: rest) : (done ++ [a]).Pairwise (fun a b => leE k a b = true) ∧ (∀ x ∈ done, leE k x a = true) := by
  have h := srt_pw (k := k) xs
  rw [e] at h
  have h' := List.pairwise_append.mp h
  refine ⟨List.pairwise_append.mpr ⟨h'.1, List.pairwise_singleton .., fun x hx y hy => ?_⟩, fun x hx => h'.2.2 x hx a (by simp)⟩
  rw [List.mem_singleton.mp hy]
  exact h'.2.2 x hx a (by simp)
end
end Sm

/-! Sim25: sorting wishes, letters, pairs, numbers. -/
namespace Sm
open PySem L2
theorem sortD_enc {α : Type} {enc : α → D} {xs : List α} : sortD (xs.map enc) = (srt (fun a => (enc a).py) xs).map enc :=
  (List.map_mergeSort (f := enc) (r := leE fun a => (enc a).py) (s := PySem.W.dataLe false D.py) (l := xs) fun _ _ _ _ => rfl).symm
theorem sort_okE {α : Type} {enc : α → D} {xs : List α} (hs : ∀ a ∈ xs, shp 60 (enc a) = true) (hl : xs.length ≤ LIM) (ha : ∀ a b, PySem.W.alike (enc a).py (enc b).py = true)
    (ht : (∀ a ∈ xs, ∃ x r, (enc a).py = .tuple (x :: r)) ∨ (∀ a ∈ xs, (enc a).py ≠ .none ∧ ∀ ys, (enc a).py ≠ .tuple ys)) :
    ((xs.map enc).length ≤ LIM ∧ PySem.W.AllAlike (pys (xs.map enc)) ∧ PySem.W.Sortable (pys (xs.map enc))) := by
  rw [pys_map, List.map_map]
  refine ⟨by rw [List.length_map]; exact hl, ?_, ?_⟩
  · intro x hx y hy
    obtain ⟨a, _, rfl⟩ := List.mem_map.mp hx
    obtain ⟨b, _, rfl⟩ := List.mem_map.mp hy
    exact ha a b
  · rcases ht with h | h
    · refine .inl fun x hx => ?_
      obtain ⟨a, h', rfl⟩ := List.mem_map.mp hx
      exact h a h'
    · refine .inr fun x hx => ?_
      obtain ⟨a, h', rfl⟩ := List.mem_map.mp hx
      exact h a h'
theorem al_all : ∀ (xs ys : List D), (∀ x ∈ xs, ∀ y ∈ ys, PySem.W.alike x.py y.py = true) → PySem.W.alikeAll (pys xs) (pys ys) = true
  | [], ys, _ => by cases ys <;> simp [pys, PySem.W.alikeAll]
  | x :: xs, [], _ => by simp [pys, PySem.W.alikeAll]
  | x :: xs, y :: ys, h => by
    simp only [pys, PySem.W.alikeAll]
    rw [h x (by simp) y (by simp), al_all xs ys fun a ha b hb => h a (by simp [ha]) b (by simp [hb])]
    rfl
theorem al_int {i j : Int} : PySem.W.alike (D.int i).py (D.int j).py = true := by simp [D.py, PySem.W.alike]
theorem al_tup {xs ys : List D} (h : ∀ x ∈ xs, ∀ y ∈ ys, PySem.W.alike x.py y.py = true) : PySem.W.alike (D.tup xs).py (D.tup ys).py = true := by
  simp only [D.py, PySem.W.alike]
  exact al_all xs ys h
theorem al_dT (a b : List Int) : PySem.W.alike (dT a).py (dT b).py = true := al_tup fun x hx y hy => by
  obtain ⟨i, _, rfl⟩ := List.mem_map.mp hx
  obtain ⟨j, _, rfl⟩ := List.mem_map.mp hy
  exact al_int
theorem dP_dT (p : Int × Int) : dP p = dT [p.1, p.2] := rfl
theorem al_dP (a b : Int × Int) : PySem.W.alike (dP a).py (dP b).py = true := al_dT [a.1, a.2] [b.1, b.2]
theorem al_dW (a b : List (Int × Int)) : PySem.W.alike (dW a).py (dW b).py = true := al_tup fun x hx y hy => by
  obtain ⟨i, _, rfl⟩ := List.mem_map.mp hx
  obtain ⟨j, _, rfl⟩ := List.mem_map.mp hy
  exact al_dP _ _
theorem okey_of {α : Type} {enc : α → D} (ha : ∀ a b, PySem.W.alike (enc a).py (enc b).py = true) (hn : ∀ a, nb (enc a) = true) (hi : ∀ a b, enc a = enc b → a = b) : OKey fun a => (enc a).py :=
  ⟨ha, fun a b h => hi a b ((eqv_nb (hn a) (hn b)).mp h)⟩
def kW (w : Wi) : PyData := (dW w).py
def kT (l : List Int) : PyData := (dT l).py
def kP (l : Int × Int) : PyData := (dP l).py
def kI (l : Int) : PyData := (D.int l).py
theorem okW : OKey kW := okey_of al_dW (fun _ => nb_dW) dW_inj
theorem okT : OKey kT := okey_of al_dT (fun _ => nb_dT) dT_inj
theorem okP : OKey kP := okey_of al_dP (fun _ => nb_dP) dP_inj
theorem okI : OKey kI := okey_of (fun _ _ => al_int) (fun _ => nb_int) (fun _ _ h => D.int.inj h)
theorem sortW {ws : List Wi} : sortD (ws.map dW) = (srt kW ws).map dW := sortD_enc
theorem sortT {ws : List (List Int)} : sortD (ws.map dT) = (srt kT ws).map dT := sortD_enc
theorem sortP {ws : List (Int × Int)} : sortD (ws.map dP) = (srt kP ws).map dP := sortD_enc
theorem sortI {ws : List Int} : sortD (ws.map D.int) = (srt kI ws).map D.int := sortD_enc
theorem sortW_ok {ws : List Wi} (hw : ∀ w ∈ ws, w ≠ []) (hl : ws.length ≤ LIM) : ((ws.map dW).length ≤ LIM ∧ PySem.W.AllAlike (pys (ws.map dW)) ∧ PySem.W.Sortable (pys (ws.map dW))) :=
  sort_okE (fun _ _ => shp_dW) hl al_dW (.inl fun a h => by
    cases a with
    | nil => exact absurd rfl (hw _ h)
    | cons p w => exact ⟨(dP p).py, pys (w.map dP), by simp [dW, D.py, pys]⟩)
theorem sortT_ok {ws : List (List Int)} (hw : ∀ w ∈ ws, w ≠ []) (hl : ws.length ≤ LIM) : ((ws.map dT).length ≤ LIM ∧ PySem.W.AllAlike (pys (ws.map dT)) ∧ PySem.W.Sortable (pys (ws.map dT))) :=
  sort_okE (fun _ _ => shp_dT) hl al_dT (.inl fun a h => by
    cases a with
    | nil => exact absurd rfl (hw _ h)
    | cons p w => exact ⟨(D.int p).py, pys (w.map D.int), by simp [dT, D.py, pys]⟩)
theorem sortP_ok {ws : List (Int × Int)} (hl : ws.length ≤ LIM) : ((ws.map dP).length ≤ LIM ∧ PySem.W.AllAlike (pys (ws.map dP)) ∧ PySem.W.Sortable (pys (ws.map dP))) :=
  sort_okE (fun _ _ => shp_dP) hl al_dP (.inl fun a h => ⟨(D.int a.1).py, [(D.int a.2).py], by simp [dP, D.py, pys]⟩)
theorem sortI_ok {ws : List Int} (hl : ws.length ≤ LIM) : ((ws.map D.int).length ≤ LIM ∧ PySem.W.AllAlike (pys (ws.map D.int)) ∧ PySem.W.Sortable (pys (ws.map D.int))) :=
  sort_okE (fun _ _ => shp_int) hl (fun _ _ => al_int) (.inr fun a h => by simp [D.py])
/-- numbers sort as numbers -/
theorem leI {a b : Int} : leE kI a b = decide (a ≤ b) := by
  have := congrFun (congrFun (PySem.W.dataLe_int (fun b : Int => b)) a) b
  exact this
theorem leT {a b : List Int} : leE kT a b = decide (a ≤ b) := by
  have h := congrFun (congrFun (PySem.W.dataLe_rows (fun b : List Int => b)) a) b
  have e : ∀ c : List Int, PySem.W.keyToks (kT c) = PySem.W.keyToks (.list (c.map .int)) := fun c => by
    have : pys (c.map D.int) = c.map .int := by rw [pys_map, List.map_map]; rfl
    simp only [kT, dT, D.py, PySem.W.keyToks, this]
  have e2 : leE kT a b = PySem.W.dataLe false (fun b : List Int => .list (b.map .int)) a b := by
    show (!_) = (!_)
    simp only [e]
  rw [e2, h]
theorem leP {a b : Int × Int} : leE kP a b = decide (a.1 < b.1 ∨ (a.1 = b.1 ∧ a.2 ≤ b.2)) := by
  have h := congrFun (congrFun (PySem.W.dataLe_ii (fun b : Int × Int => b.1) (fun b => b.2)) a) b
  have e2 : leE kP a b = PySem.W.dataLe false (fun b : Int × Int => .tuple [.int b.1, .int b.2]) a b := by
    show (!_) = (!_)
    simp only [kP, dP, D.py, pys]
  rw [e2, h]
theorem atI_getLast {α : Type} {xs : List α} : atI xs (-1) = xs.getLast? := by
  unfold atI ixN
  rw [if_neg (by decide)]
  cases xs with
  | nil => rfl
  | cons x xs =>
    rw [if_pos (by simp only [List.length_cons]; omega), List.getLast?_eq_getElem?]
    show (x :: xs)[(-1 + ((x :: xs).length : Int)).toNat]? = _
    congr 1
    simp only [List.length_cons]
    omega
end Sm

/-! Sim26: scopes of comprehensions within comprehensions. -/
namespace Sm
open PySem L2
def relK (o sc : Scope) : Scope := { sc with names := sc.names.map fun (n, k) => if (k == .free && o.kind == .function && o.names.lookup n == some .cell) then (n, .cell) else (n, k) }
theorem relabel_eq (sc : Scope) (env : PySem.Env) : PySem.relabel sc env = relK env.scope sc := rfl
theorem any_enc {α : Type} {enc : α → D} (he : ∀ a b, eqv (enc a) (enc b) = true ↔ a = b) {acc : List α} {a : α} [Decidable (a ∈ acc)] : ((acc.map enc).any fun z => eqv z (enc a)) = decide (a ∈ acc) := by
  rw [List.any_map, Bool.eq_iff_iff, List.any_eq_true, decide_eq_true_eq]
  constructor
  · rintro ⟨b, hb, e⟩
    have : b = a := by simpa [he] using e
    exact this ▸ hb
  · intro h
    exact ⟨a, h, by simp [he]⟩
theorem any_dW {acc : List Wi} {a : Wi} : ((acc.map dW).any fun z => eqv z (dW a)) = decide (a ∈ acc) := any_enc fun _ _ => by simp [eqv_dW]
theorem any_dT {acc : List (List Int)} {a : List Int} : ((acc.map dT).any fun z => eqv z (dT a)) = decide (a ∈ acc) := any_enc fun _ _ => by simp [eqv_dT]
theorem any_dP {acc : List (Int × Int)} {a : Int × Int} : ((acc.map dP).any fun z => eqv z (dP a)) = decide (a ∈ acc) := any_enc fun _ _ => by simp [eqv_dP]
theorem any_int {acc : List Int} {a : Int} : ((acc.map D.int).any fun z => eqv z (D.int a)) = decide (a ∈ acc) := any_enc fun _ _ => by simp [eqv_int]
theorem all_shW {n : Nat} {acc : List Wi} : (acc.map dW).all (shp (n + 2)) = true := by simp [shp_dW]
theorem all_shT {n : Nat} {acc : List (List Int)} : (acc.map dT).all (shp (n + 1)) = true := by simp [shp_dT]
theorem all_shP {n : Nat} {acc : List (Int × Int)} : (acc.map dP).all (shp (n + 1)) = true := by simp [shp_dP]
theorem all_shI {n : Nat} {acc : List Int} : (acc.map D.int).all (shp n) = true := by simp [shp_int]
section
variable {st : Sto} {P : D → Prop}
theorem der_dW {w} : der st (dW w) = dW w := rfl
theorem der_dP {w} : der st (dP w) = dP w := rfl
theorem der_dT {w} : der st (dT w) = dT w := rfl
theorem der_dWs {w} : der st (dWs w) = dWs w := rfl
theorem der_dTs {w} : der st (dTs w) = dTs w := rfl
theorem dp_dW {w} : derP st (dW w) P = P (dW w) := rfl
theorem dp_dP {w} : derP st (dP w) P = P (dP w) := rfl
theorem dp_dT {w} : derP st (dT w) P = P (dT w) := rfl
theorem dp_dWs {w} : derP st (dWs w) P = P (dWs w) := rfl
theorem dp_dTs {w} : derP st (dTs w) P = P (dTs w) := rfl
end
theorem eqv_lW {a b : List Wi} : eqv (.lst (a.map dW)) (.lst (b.map dW)) = decide (a = b) := eqv_dWs
theorem eqv_lT {a b : List (List Int)} : eqv (.lst (a.map dT)) (.lst (b.map dT)) = decide (a = b) := eqv_dTs
theorem eqv_lI {a b : List Int} : eqv (.lst (a.map D.int)) (.lst (b.map D.int)) = decide (a = b) :=
  eqv_dec (by simp [nb_lst, nb_int]) (by simp [nb_lst, nb_int]) ⟨fun h => map_inj' (f := D.int) (fun _ _ h => D.int.inj h) a b (by simpa using h), fun h => by rw [h]⟩
theorem eqv_lP {a b : List (Int × Int)} : eqv (.lst (a.map dP)) (.lst (b.map dP)) = decide (a = b) :=
  eqv_dec (by simp [nb_lst, nb_dP]) (by simp [nb_lst, nb_dP]) ⟨fun h => map_inj' dP_inj a b (by simpa using h), fun h => by rw [h]⟩
theorem map_snoc {α β : Type} {f : α → β} {xs : List α} {a : α} : xs.map f ++ [f a] = (xs ++ [a]).map f := by simp
theorem map_app {α β : Type} {f : α → β} {xs ys : List α} : xs.map f ++ ys.map f = (xs ++ ys).map f := by simp
theorem eqx_nW {w : Wi} : eqv .non (dW w) = false := by simp [dW, eqx_nt]
theorem eqx_Wn {w : Wi} : eqv (dW w) .non = false := by simp [dW, eqx_tn]
theorem inC_comm : ∀ {a b : Wi}, inC a b = inC b a
  | [], b => by cases b <;> simp [inC]
  | p :: a, [] => by simp [inC]
  | p :: a, q :: b => by
    have ih := inC_comm (a := a) (b := b)
    simp only [inC, List.zip_cons_cons, List.map_cons] at *
    rw [ih, Int.max_comm, Int.min_comm]
theorem covL_inC : ∀ {a b : Wi}, a.length = b.length → (covL a b = true ↔ inC a b = b)
  | [], [], _ => by simp [covL, inC]
  | p :: a, [], h => by simp at h
  | [], q :: b, h => by simp at h
  | p :: a, q :: b, h => by
    have ih := covL_inC (a := a) (b := b) (by simpa using h)
    simp only [covL, inC, List.zip_cons_cons, List.map_cons, List.all_cons, Bool.and_eq_true, decide_eq_true_eq, List.cons.injEq] at *
    rw [ih]
    constructor
    · rintro ⟨h1, h2⟩
      exact ⟨Prod.ext (by simp only; omega) (by simp only; omega), h2⟩
    · rintro ⟨h1, h2⟩
      have e1 := congrArg Prod.fst h1
      have e2 := congrArg Prod.snd h1
      simp only at e1 e2
      exact ⟨⟨by omega, by omega⟩, h2⟩
theorem covL_of_inC : ∀ {a b : Wi}, covL a (inC a b) = true
  | [], b => by simp [covL, inC]
  | p :: a, [] => by simp [covL, inC]
  | p :: a, q :: b => by
    have ih := covL_of_inC (a := a) (b := b)
    simp only [covL, inC, List.zip_cons_cons, List.map_cons, List.all_cons, Bool.and_eq_true, decide_eq_true_eq] at *
    exact ⟨⟨by omega, by omega⟩, ih⟩
theorem okC_ok {f : Nat} {w : Wi} (h : WOk f w) : okC w = true := List.all_eq_true.mpr fun p hp => by simpa using (h.2 p hp).2.1
theorem roofW_nil : roofW kW [] = [] := (roofE_eq okW .nil (by simp)).symm
theorem roofW_len {ws : List Wi} : (roofW kW ws).length ≤ ws.length := by
  have h1 : (roofW kW ws).length ≤ (once kW ws).length := List.length_filter_le ..
  have h2 : (once kW ws).length ≤ (srt kW ws).length := once_len
  rw [srt_len] at h2
  omega
theorem sm_dWs {n f : Nat} {ws : List Wi} (hw : ∀ w ∈ ws, WOk f w) (hf : f ≤ 1000) (hl : ws.length ≤ 1000) : smD (n + 3) (.lst (ws.map dW)) :=
  smD_dWs (w := ws) (by simp only [LIM]; omega) fun x hx => by rw [(hw x hx).1]; simp only [LIM]; omega
theorem sm_roof {n f : Nat} {ws : List Wi} (hw : ∀ w ∈ ws, WOk f w) (hf : f ≤ 1000) (hl : ws.length ≤ 1000) : smD (n + 3) (.lst ((roofW kW ws).map dW)) :=
  sm_dWs (fun w h => hw w (mem_roofE.mp h).1) hf (Nat.le_trans roofW_len hl)
end Sm

/-! Sim27: while, plain side. -/
namespace Sm
open PySem L2
section
variable {c : Ev} {F : Sv} {r : Env} {st : Sto} {N : Env → Sto → Prop} {R : D → Sto → Prop} {L : Bool → Env → Sto → Prop} {E : Str → Option (Str × D) → Env → Sto → Prop}
theorem while_rule (I : Nat → Env → Sto → Prop) (m : Nat) (h0 : I m r st)
    (hs : ∀ m r st, I m r st → RsP (c r st) (fun d st1 => bX d (RtP (F r st1) (fun r2 st2 => ∃ k, k < m ∧ I k r2 st2) R (fun b r2 st2 => if b = true then N r2 st2 else ∃ k, k < m ∧ I k r2 st2) E) (N r st1)) (fun c a st => E c a r st)) : RtP (sWhile c F r st) N R L E := by
  have key : ∀ (m : Nat) r st, I m r st → ∃ n x, whN c F n r st = some x ∧ RtP x N R L E := by
    intro m
    induction m using Nat.strongRecOn with
    | ind m ih =>
      intro r st h
      have q := hs m r st h
      cases z : c r st with
      | ok d st1 =>
        rw [z] at q
        cases d with
        | bl b =>
          cases b with
          | true =>
            have q := q.1 rfl
            cases ef : F r st1 with
            | nx r5 st5 =>
              rw [ef] at q
              obtain ⟨k, hk, hI⟩ := q
              obtain ⟨n, x, e, g⟩ := ih k hk r5 st5 hI
              exact ⟨n + 1, x, by unfold whN; rw [z]; simp only [ef]; exact e, g⟩
            | ct r5 st5 =>
              rw [ef] at q
              obtain ⟨k, hk, hI⟩ := (by simpa [RtP] using q : ∃ k, k < m ∧ I k r5 st5)
              obtain ⟨n, x, e, g⟩ := ih k hk r5 st5 hI
              exact ⟨n + 1, x, by unfold whN; rw [z]; simp only [ef]; exact e, g⟩
            | bk r5 st5 =>
              rw [ef] at q
              exact ⟨1, .nx r5 st5, by unfold whN; rw [z]; simp only [ef], by simpa [RtP] using q⟩
            | rt d st5 =>
              rw [ef] at q
              exact ⟨1, .rt d st5, by unfold whN; rw [z]; simp only [ef], q⟩
            | err cc a r5 st5 =>
              rw [ef] at q
              exact ⟨1, .err cc a r5 st5, by unfold whN; rw [z]; simp only [ef], q⟩
            | bad => rw [ef] at q; exact q.elim
          | false =>
            exact ⟨1, .nx r st1, by unfold whN; rw [z], q.2 rfl⟩
        | _ => exact (show False from q).elim
      | err cc a st1 =>
        rw [z] at q
        exact ⟨1, .err cc a r st1, by unfold whN; rw [z], q⟩
      | bad => rw [z] at q; exact q.elim
  obtain ⟨n, x, e, g⟩ := key m r st h0
  rw [sWhile_of e]
  exact g
end
end Sm
namespace Sm
open PySem L2
def leftF (ws : List Wi) (w : Wi) (i : Nat) : Option (List Int) := (lets (w.drop i)).find? fun l => !ws.any fun o => hasL (o.drop i) l
def dO : Option (List Int) → D
  | none => .non
  | some l => dT l
theorem leftF_0 {ws : List Wi} {w : Wi} : leftF ws w 0 = leftL ws w := by
  unfold leftF leftL hadL
  rfl
def inAt (i : Nat) (n : Int) (o : Wi) : Bool := match o[i]? with | some p => decide (p.1 ≤ n) && decide (n ≤ p.2) | none => false
theorem leftF_end {ws : List Wi} {w : Wi} {i : Nat} (h : w.length ≤ i) : leftF ws w i = if ws.isEmpty then some [] else none := by
  unfold leftF
  rw [List.drop_eq_nil_of_le h]
  cases ws with
  | nil => simp [lets]
  | cons o ws => simp [lets, hasL]
theorem leftF_step {ws : List Wi} {w : Wi} {i : Nat} {p : Int × Int} (hp : w[i]? = some p) (hl : ∀ o ∈ ws, i < o.length) :
    leftF ws w i = (rng p).findSome? fun n => (leftF (ws.filter (inAt i n)) w (i + 1)).map fun l => n :: l := by
  have hi : i < w.length := (List.getElem?_eq_some_iff.mp hp).1
  have e : w.drop i = p :: w.drop (i + 1) := by rw [List.drop_eq_getElem_cons hi, (List.getElem?_eq_some_iff.mp hp).2]
  unfold leftF
  rw [e, lets_cons, List.find?_flatMap]
  congr 1
  funext n
  rw [List.find?_map]
  congr 1
  congr 1
  funext l
  simp only [Function.comp]
  congr 1
  rw [List.any_filter, Bool.eq_iff_iff, List.any_eq_true, List.any_eq_true]
  refine exists_congr fun o => and_congr_right fun ho => ?_
  have ho' := hl o ho
  have eo : o.drop i = o[i] :: o.drop (i + 1) := List.drop_eq_getElem_cons ho'
  have eg : o[i]? = some o[i] := List.getElem?_eq_getElem ho'
  have e3 : hasL (o[i] :: o.drop (i + 1)) (n :: l) = ((decide (o[i].1 ≤ n) && decide (n ≤ o[i].2)) && hasL (o.drop (i + 1)) l) := by simp only [hasL, List.zip_cons_cons, List.all_cons]
  rw [eo, e3]
  unfold inAt
  rw [eg]
/-- what is handed in as a list: by value or a thing of the store -/
def LA (st : Sto) (d : D) (ds : List D) : Prop := d = .lst ds ∨ ∃ n, d = .ref n ∧ st[n]? = some (.lst ds)
theorem atI_nat' {α : Type} {xs : List α} {i : Nat} {a : α} (h : xs[i]? = some a) : atI xs (i : Int) = some a := by
  unfold atI
  rw [ixN_in (by omega) (by have := (List.getElem?_eq_some_iff.mp h).1; omega)]
  simpa using h
theorem rng_range {a b : Int} : ((List.range (b + 1 - a).toNat).map fun (i : Nat) => a + (i : Int)) = rng (a, b) := rfl
end Sm
namespace Sm
open PySem L2
/-- the store goes on -/
def Pre (st st' : Sto) : Prop := ∃ l, st' = st ++ l
theorem Pre.refl (st : Sto) : Pre st st := ⟨[], by simp⟩
theorem Pre.trans {a b c : Sto} (x : Pre a b) (y : Pre b c) : Pre a c := by
  obtain ⟨l, rfl⟩ := x
  obtain ⟨m, rfl⟩ := y
  exact ⟨l ++ m, by simp⟩
theorem Pre.push {a b : Sto} {o : List SO} (x : Pre a b) : Pre a (b ++ o) := x.trans ⟨o, rfl⟩
theorem Pre.get {a b : Sto} (x : Pre a b) {n : Nat} {o : SO} (h : a[n]? = some o) : b[n]? = some o := by
  obtain ⟨l, rfl⟩ := x
  rw [List.getElem?_append_left (List.getElem?_eq_some_iff.mp h).1]
  exact h
theorem Pre.len {a b : Sto} (x : Pre a b) : a.length ≤ b.length := by
  obtain ⟨l, rfl⟩ := x
  simp
theorem dO_none {x : Option (List Int)} : isN (dO x) = x.isNone := by cases x <;> simp [dO, isN, dT]
theorem leftL_iff {ws : List Wi} {w : Wi} : (leftF ws w 0).isNone = allHad ws w := by
  rw [leftF_0, Bool.eq_iff_iff, ← leftL_none]
  cases leftL ws w <;> simp
end Sm
namespace Sm
open PySem L2
theorem filter_ne_at {α : Type} [DecidableEq α] {xs : List α} {a : Nat} {w : α} (nd : xs.Nodup) (h : xs[a]? = some w) : (xs.filter fun o => decide (o ≠ w)) = xs.take a ++ xs.drop (a + 1) := by
  have hl := (List.getElem?_eq_some_iff.mp h).1
  have e : xs = xs.take a ++ w :: xs.drop (a + 1) := by
    have := List.drop_eq_getElem_cons hl
    rw [(List.getElem?_eq_some_iff.mp h).2] at this
    rw [← this, List.take_append_drop]
  have nd' := nd
  rw [e] at nd'
  have q := List.nodup_append.mp nd'
  have q2 := List.nodup_cons.mp q.2.1
  conv => lhs; rw [e]
  rw [List.filter_append, List.filter_cons_of_neg (by simp)]
  congr 1
  · rw [List.filter_eq_self]
    intro x hx
    have := q.2.2 x hx w (by simp)
    simpa using this
  · rw [List.filter_eq_self]
    intro x hx
    simp only [decide_eq_true_eq]
    intro z
    exact q2.1 (z ▸ hx)
end Sm

/-! Sim28: a slot's own thing becomes a thing of the store. -/
namespace Sm
open PySem L2
section
variable {X : Cx} {B : Bs} {k : Kd} {fr : Bool} {Wx : WX} {F : Sv} {st1 : Stmt}
theorem Rel.refSlot {i : Nat} {d : D} {so : SO} {O : Nat → Option Addr} {r : Env} {st : Sto} {s : L2.St} {w : Wd} {G : Cfg} (R : Rel G B O r st s w) (e : r i = some (true, d)) (hc : ∀ w a, RC G w a d → RSO G w a so) :
    ∃ O' w', w'.H = w.H ∧ Rel G B O' (r.set i (some (false, .ref st.length))) (st ++ [so]) s w' ∧ Wk w w' := by
  have q := R.env i
  rw [e] at q
  obtain ⟨a, o, e1, c⟩ := q
  have own := R.own i a o
  have ho : ∀ j, setO O i none j ≠ some a := fun j z => by
    unfold setO at z
    by_cases h : j = i
    · rw [if_pos h] at z; cases z
    · rw [if_neg h] at z; exact h (R.inj j i a z o)
  refine ⟨setO O i none, w.lay a, rfl, ?_, w.lay_wk a⟩
  have R2 := (R.drop (i := i)).lay (p := a) (so := so) own.1 own.2.1 own.2.2 ho (hc _ _ c)
  have hi : i < B.L := by
    rw [← R.ln]
    exact (List.getElem?_eq_some_iff.mp e1).1
  have rd : RD G (w.lay a) (.ref st.length) (.ref a) := by
    unfold RD
    refine ⟨a, rfl, ?_⟩
    show (w.u ++ [a])[st.length]? = some a
    rw [R.sto.len, List.getElem?_append_right (Nat.le_refl _)]
    simp
  have R3 := R2.put hi rd
  have es : s.set i (some (V.ref a)) = s := by
    refine List.ext_getElem? fun j => ?_
    by_cases h : i = j
    · subst h
      rw [List.getElem?_set_self (by rw [R.ln]; exact hi), e1]
    · rw [List.getElem?_set_ne h]
  rw [es] at R3
  have eo : setO (setO O i none) i none = setO O i none := by
    funext j; unfold setO; split <;> rfl
  have er : (r.set i none).set i (some (false, .ref st.length)) = r.set i (some (false, .ref st.length)) := by
    funext j; unfold Env.set; split <;> rfl
  rw [eo, er] at R3
  exact R3
def sRefA (i : Nat) (F : Sv) : Sv := fun r st => match F r st with
  | .nx r1 st1 => (match r1 i with
    | some (true, .lst ds) => .nx (r1.set i (some (false, .ref st1.length))) (st1 ++ [.lst ds])
    | some (true, .dct ks vs) => .nx (r1.set i (some (false, .ref st1.length))) (st1 ++ [.dct ks vs])
    | _ => .bad)
  | x => x
theorem js_refA {i : Nat} (h1 : JS X B fr Wx st1 F) : JS X B fr Wx st1 (sRefA i F) := by
  refine ps_imp h1 ?_
  rintro D s H ⟨O, r, st, w, rfl, R, q⟩
  refine ⟨O, r, st, w, rfl, R, ?_⟩
  unfold sRefA at q
  cases z : F r st with
  | nx r1 st1 =>
    rw [z] at q
    simp only at q
    intro O1 s1 w1 R1 k1
    match y : r1 i, q with
    | some (true, .lst ds), q =>
      obtain ⟨O', w', e, R', k'⟩ := R1.refSlot (so := .lst ds) y (fun _ _ c => c)
      have := q O' s1 w' R' (k1.trans k')
      rw [e] at this
      exact this
    | some (true, .dct ks vs), q =>
      obtain ⟨O', w', e, R', k'⟩ := R1.refSlot (so := .dct ks vs) y (fun _ _ c => c)
      have := q O' s1 w' R' (k1.trans k')
      rw [e] at this
      exact this
    | none, q => exact q.elim
    | some (false, _), q => exact q.elim
    | some (true, .non), q => exact q.elim
    | some (true, .bl _), q => exact q.elim
    | some (true, .int _), q => exact q.elim
    | some (true, .str _), q => exact q.elim
    | some (true, .tup _), q => exact q.elim
    | some (true, .ref _), q => exact q.elim
    | some (true, .exc _ _), q => exact q.elim
    | some (true, .frg _), q => exact q.elim
  | bk r1 st1 => rw [z] at q; exact q
  | ct r1 st1 => rw [z] at q; exact q
  | rt d st1 => rw [z] at q; exact q
  | err c a r1 st1 => rw [z] at q; exact q
  | bad => rw [z] at q; exact q
variable {r : Env} {st : Sto} {N : Env → Sto → Prop} {R : D → Sto → Prop} {L : Bool → Env → Sto → Prop} {E : Str → Option (Str × D) → Env → Sto → Prop}
theorem w_refA {i : Nat} : RtP (sRefA i F r st) N R L E = RtP (F r st) (fun r1 st1 => match r1 i with
    | some (true, .lst ds) => N (r1.set i (some (false, .ref st1.length))) (st1 ++ [.lst ds])
    | some (true, .dct ks vs) => N (r1.set i (some (false, .ref st1.length))) (st1 ++ [.dct ks vs])
    | _ => False) R L E := by
  unfold sRefA
  cases F r st with
  | nx r1 st1 =>
    simp only [RtP]
    rcases r1 i with _ | ⟨_ | _, d⟩
    · rfl
    · rfl
    · cases d <;> rfl
  | _ => rfl
end
end Sm
namespace Sm
open PySem L2
def dTr : Tr → D
  | .by k => .tup [.str "by", .int k]
  | .cut f a x y => .tup [.str "cut", .int f, .int a, dTr x, dTr y]
def tdep : Tr → Nat
  | .by _ => 0
  | .cut _ _ x y => max (tdep x) (tdep y) + 1
theorem kin_lW {ws : List Wi} : D.lst (ws.map dW) = .lst ((ws.map fun w => w.map dP).map D.tup) := by simp [dW, Function.comp_def]
theorem set_split {α : Type} {xs : List α} {i : Nat} {a : α} (h : i < xs.length) : xs.take i ++ [a] ++ xs.drop (i + 1) = xs.set i a := by
  rw [List.set_eq_take_append_cons_drop, if_pos h]
  simp
theorem o_isBB {neg x y : Bool} {st : Sto} {Q : D → Sto → Prop} {E : Str → Option (Str × D) → Sto → Prop} : RsP (opIs neg (.bl x) (.bl y) st) Q E = Q (.bl (neg ^^ (x == y))) st := rfl
end Sm
namespace Sm
open PySem L2
theorem shp_dTr : ∀ (t : Tr) (n : Nat), tdep t ≤ n → shp (n + 1) (dTr t) = true
  | .by k, n, _ => by simp [dTr, shp_tup, shp_int, shp_str]; decide +kernel
  | .cut f a x y, n, h => by
    simp only [tdep] at h
    obtain ⟨m, rfl⟩ : ∃ m, n = m + 1 := ⟨n - 1, by omega⟩
    have hx := shp_dTr x m (by omega)
    have hy := shp_dTr y m (by omega)
    simp [dTr, shp_tup, shp_int, shp_str, hx, hy]
    decide +kernel
end Sm

/-! Sim29: a def of no parameters is called. -/
namespace Sm
open PySem L2
section
variable {X : Cx} {B : Bs} {Wx : WX} {pos : Pos}
theorem je_call0 {j : Nat} {fr : Bool} {gF : Fn} {fA : Addr} {fd : FuncData} {ps : List Str} {x : Str} {p : Pos} (tk : Takes X Wx) (F : FnOk X.prog X.w X.K X.mg X.base (L2.CX X.prog X.w) j fA fd ps (spF (cg X) 0 fr gF)) (hr : Room j X.A) (hg : Gl X x) (hm : X.mg x = some (.ref fA)) (hk : PySem.W.keepIn X.K (.ref fA) = true)
    (hb : Binds X.K fd ps []) (hdb : (x == ("__debug__" : Str)) = false := by decide) :
    JE X B (kdF fr) Wx (.Call (.Name x p) [] [] pos) (bCall gF []) := by
  refine pe_imp (t := tCallS (spF (cg X) 0 fr gF) (WE Wx) (tA (cg X) B .sh Wx [])) ?_ fun _ _ _ q => tE_call rfl q
  refine ⟨fun pins s σ H Q I h => ?_⟩
  refine wpAny_Call_Name_kw (ld_glob I hg hm ?_ hdb)
  obtain ⟨O, r, st, w1, rfl, R, q⟩ := h
  have q' : spF (cg X) 0 fr gF [] w1.H Q (WE Wx σ) := q w1 [] R (Ext.refl w1) rfl
  exact PySem.W.callWith_K0 I.kIn hk (run_fnS (us := []) F hr hb (passAt tk σ) I .nil q')
end
end Sm

/-! Sim30: min, max of a list or tuple of plain data. -/
namespace Sm
open PySem L2
def rBest (K : PySem.W.Frag) (F : PyData → List PyData → PyData) : List V → Hp → VK → Prop := fun vs H Q => ∃ (a : Addr) (xs : List V) (d : PyData) (ds : List PyData), vs = [.ref a] ∧ (SqL K H a xs ∨ SqT K H a xs) ∧ DpAll K H xs (d :: ds) ∧ PySem.W.AlikeAll (d :: ds) ∧ (∀ z ∈ d :: ds, z.depth ≤ 60) ∧
  ∀ (i : Nat) x z, xs[i]? = some x → (d :: ds)[i]? = some z → z = F d ds → Q x H
theorem depthAll_le : ∀ {ds : List PyData}, (∀ z ∈ ds, z.depth ≤ 60) → PyData.depthAll ds ≤ 60
  | [], _ => by simp [PyData.depthAll]
  | d :: ds, h => by
    have h1 := h d (by simp)
    have h2 := depthAll_le (ds := ds) fun z hz => h z (by simp [hz])
    simp only [PyData.depthAll]
    omega
theorem minD_mem : ∀ (xs : List PyData) (x : PyData), PySem.W.minD x xs ∈ x :: xs
  | [], x => by simp [PySem.W.minD]
  | y :: xs, x => by
    have e : PySem.W.minD x (y :: xs) = PySem.W.minD (if PySem.W.dataLt y x then y else x) xs := rfl
    rw [e]
    have := minD_mem xs (if PySem.W.dataLt y x then y else x)
    rcases List.mem_cons.mp this with z | z
    · rw [z]; split <;> simp
    · simp [z]
theorem maxD_mem : ∀ (xs : List PyData) (x : PyData), PySem.W.maxD x xs ∈ x :: xs
  | [], x => by simp [PySem.W.maxD]
  | y :: xs, x => by
    have e : PySem.W.maxD x (y :: xs) = PySem.W.maxD (if PySem.W.dataLt x y then y else x) xs := rfl
    rw [e]
    have := maxD_mem xs (if PySem.W.dataLt x y then y else x)
    rcases List.mem_cons.mp this with z | z
    · rw [z]; split <;> simp
    · simp [z]
theorem each_dp {H : Hp} {X : Cx} {pins : List (Addr × Obj)} {σ : L2.St} {s : Shared} (I : Inv X pins σ H s) : ∀ {xs : List V} {ds : List PyData} {us : List Value}, DpAll X.K H xs ds → Vals xs us → ∃ as, ReadsAll s.heap us ds as
  | [], [], _, _, .nil => ⟨_, .nil⟩
  | x :: xs, d :: ds, _, .cons h t, .cons r rs => by
    obtain ⟨as, h1⟩ := Dp.reads I d x _ h r
    obtain ⟨bs, h2⟩ := each_dp I t rs
    exact ⟨_, .cons h1 h2⟩
theorem vals_at : ∀ {xs : List V} {us : List Value} {i : Nat} {u : Value}, Vals xs us → us[i]? = some u → ∃ x, xs[i]? = some x ∧ RelV x u
  | _, _, i, u, .nil, h => by simp at h
  | _, _, 0, u, .cons r _, h => by simp at h; subst h; exact ⟨_, rfl, r⟩
  | _, _, i + 1, u, .cons _ rs, h => by
    obtain ⟨x, e, r⟩ := vals_at (i := i) rs (by simpa using h)
    exact ⟨x, by simpa using e, r⟩
end Sm
namespace Sm
open PySem L2
section
variable {X : Cx} {B : Bs} {Wx : WX}
theorem best_end {pins : List (Addr × Obj)} {σ : L2.St} {H : Hp} {s : Shared} {xs : List V} {d : PyData} {ds : List PyData} {its : List Value} {F : PyData → List PyData → PyData} {Q : VK} (I : Inv X pins σ H s) (rv : Vals xs its) (hd : DpAll X.K H xs (d :: ds)) (ha : PySem.W.AlikeAll (d :: ds)) (hF : F d ds ∈ d :: ds)
    (q : ∀ (i : Nat) x z, xs[i]? = some x → (d :: ds)[i]? = some z → z = F d ds → Q x H) {i : Nat} {v : Value} {h' : Heap} {tk : Nat} {bs : List Addr} (hv : its.toArray[i]? = some v) (hr : Reads h' v (F d ds) bs) (hk : ∀ b o, s.heap.get? b = some o → h'.get? b = some o) :
    ∃ x H', Inv X pins σ H' { s with heap := h', toks := tk } ∧ RelV x v ∧ Q x H' := by
  obtain ⟨as, ra⟩ := each_dp I hd rv
  have hv' : its[i]? = some v := by simpa using hv
  obtain ⟨x, hx, rx⟩ := vals_at rv hv'
  obtain ⟨cs, r1, hlt, hm, _⟩ := PySem.W.readsAll_at ra i v hv'
  have e : (d :: ds).getD i .none = F d ds := PySem.W.alike_unique _ _ v _ _ (ha.1 _ hm _ hF) (PySem.W.reads_keeps hk r1) hr
  refine ⟨x, H, I.kept hk, rx, q i x _ hx ?_ e⟩
  rw [List.getD_eq_getElem?_getD, List.getElem?_eq_getElem hlt]
  simp
theorem cr_best_min (hc : X.calm = true) (hu : X.A.units + 64 < cLine) : CallR X (.builtin "min") (rBest X.K PySem.W.minD) := by
  intro pins s σ H vs us Q I r h
  obtain ⟨a, xs, d, ds, rfl, hs, hd, ha, hdp, q⟩ := h
  rw [Vals.ref1 r]
  have hD := depthAll_le hdp
  rcases hs with hs | hs
  · obtain ⟨its, rv, hl, _⟩ := I.list hs
    obtain ⟨as, ra⟩ := each_dp I hd rv
    refine PySem.W.min_list_data (I.ok.hd hc) hl.isList (by simpa using ra) ha (by omega) fun i v h' tk bs hv hr hk => ?_
    obtain ⟨x, H', I', rx, q'⟩ := best_end (tk := tk) I rv hd ha (minD_mem _ _) q hv hr hk
    exact ⟨x, H', I', rx, q'⟩
  · obtain ⟨its, rv, hl, _⟩ := I.tuple hs
    obtain ⟨as, ra⟩ := each_dp I hd rv
    refine PySem.W.min_tuple_data (I.ok.hd hc) (let ⟨o, e, c, n, d⟩ := hl; ⟨o, e, c, n, d⟩) (by simpa using ra) ha (by omega) fun i v h' tk bs hv hr hk => ?_
    obtain ⟨x, H', I', rx, q'⟩ := best_end (tk := tk) I rv hd ha (minD_mem _ _) q hv hr hk
    exact ⟨x, H', I', rx, q'⟩
theorem cr_best_max (hc : X.calm = true) (hu : X.A.units + 64 < cLine) : CallR X (.builtin "max") (rBest X.K PySem.W.maxD) := by
  intro pins s σ H vs us Q I r h
  obtain ⟨a, xs, d, ds, rfl, hs, hd, ha, hdp, q⟩ := h
  rw [Vals.ref1 r]
  have hD := depthAll_le hdp
  rcases hs with hs | hs
  · obtain ⟨its, rv, hl, _⟩ := I.list hs
    obtain ⟨as, ra⟩ := each_dp I hd rv
    refine PySem.W.max_list_data (I.ok.hd hc) hl.isList (by simpa using ra) ha (by omega) fun i v h' tk bs hv hr hk => ?_
    obtain ⟨x, H', I', rx, q'⟩ := best_end (tk := tk) I rv hd ha (maxD_mem _ _) q hv hr hk
    exact ⟨x, H', I', rx, q'⟩
  · obtain ⟨its, rv, hl, _⟩ := I.tuple hs
    obtain ⟨as, ra⟩ := each_dp I hd rv
    refine PySem.W.max_tuple_data (I.ok.hd hc) (let ⟨o, e, c, n, d⟩ := hl; ⟨o, e, c, n, d⟩) (by simpa using ra) ha (by omega) fun i v h' tk bs hv hr hk => ?_
    obtain ⟨x, H', I', rx, q'⟩ := best_end (tk := tk) I rv hd ha (maxD_mem _ _) q hv hr hk
    exact ⟨x, H', I', rx, q'⟩
end
end Sm
namespace Sm
open PySem L2
def bestD (mx : Bool) (d : D) (ds : List D) : D := ds.foldl (fun a y => if (if mx = true then PySem.W.dataLt a.py y.py else PySem.W.dataLt y.py a.py) = true then y else a) d
def bestP (mx : Bool) : PyData → List PyData → PyData := fun x xs => if mx = true then PySem.W.maxD x xs else PySem.W.minD x xs
theorem bestD_py (mx : Bool) : ∀ (ds : List D) (d : D), (bestD mx d ds).py = bestP mx d.py (pys ds)
  | [], d => by cases mx <;> simp [bestD, bestP, pys, PySem.W.maxD, PySem.W.minD]
  | y :: ds, d => by
    have e : bestD mx d (y :: ds) = bestD mx (if (if mx = true then PySem.W.dataLt d.py y.py else PySem.W.dataLt y.py d.py) = true then y else d) ds := rfl
    rw [e, bestD_py mx ds]
    cases mx
    · simp only [bestP, pys, Bool.false_eq_true, if_false]
      show PySem.W.minD _ _ = PySem.W.minD (if PySem.W.dataLt y.py d.py = true then y.py else d.py) (pys ds)
      split <;> rfl
    · simp only [bestP, pys, if_true]
      show PySem.W.maxD _ _ = PySem.W.maxD (if PySem.W.dataLt d.py y.py = true then y.py else d.py) (pys ds)
      split <;> rfl
theorem bestD_mem (mx : Bool) : ∀ (ds : List D) (d : D), bestD mx d ds ∈ d :: ds
  | [], d => by simp [bestD]
  | y :: ds, d => by
    have e : bestD mx d (y :: ds) = bestD mx (if (if mx = true then PySem.W.dataLt d.py y.py else PySem.W.dataLt y.py d.py) = true then y else d) ds := rfl
    rw [e]
    have := bestD_mem mx ds (if (if mx = true then PySem.W.dataLt d.py y.py else PySem.W.dataLt y.py d.py) = true then y else d)
    rcases List.mem_cons.mp this with z | z
    · rw [z]; cases (if mx = true then PySem.W.dataLt d.py y.py else PySem.W.dataLt y.py d.py) <;> simp
    · exact List.mem_cons_of_mem _ (List.mem_cons_of_mem _ z)
open Classical in
noncomputable def fBest (mx : Bool) : List D → Sto → Rs
  | [.lst (d :: ds)], st => if ((d :: ds).all (shp 60) = true ∧ (d :: ds).all nb = true) ∧ PySem.W.AlikeAll (pys (d :: ds)) then .ok (bestD mx d ds) st else .bad
  | [.tup (d :: ds)], st => if ((d :: ds).all (shp 60) = true ∧ (d :: ds).all nb = true) ∧ PySem.W.AlikeAll (pys (d :: ds)) then .ok (bestD mx d ds) st else .bad
  | _, _ => .bad
section
variable {X : Cx} {B : Bs} {Wx : WX}
theorem best_core {G : Cfg} {mx : Bool} {w : Wd} {d : D} {ds : List D} {vs : List V} (h : RDs G w (d :: ds) vs) (hn : (d :: ds).all nb = true) (i : Nat) (x : V) (z : PyData) (hx : vs[i]? = some x) (hz : (pys (d :: ds))[i]? = some z) (e : z = bestP mx d.py (pys ds)) : RD G w (bestD mx d ds) x := by
  rw [pys_map, List.getElem?_map] at hz
  cases y : (d :: ds)[i]? with
  | none => rw [y] at hz; cases hz
  | some dd =>
    rw [y] at hz
    have ez : dd.py = z := by simpa using hz
    obtain ⟨v, e1, r⟩ := h.get y
    rw [hx] at e1
    cases e1
    have hb := bestD_mem mx ds d
    have hm : dd ∈ d :: ds := List.mem_of_getElem? y
    have n1 := List.all_eq_true.mp hn _ hm
    have n2 := List.all_eq_true.mp hn _ hb
    have ep : dd.py = (bestD mx d ds).py := by rw [ez, e, bestD_py]
    have : dd = bestD mx d ds := py_inj _ _ n1 n2 (by rw [ep]; exact py_refl _ n2)
    rw [← this]
    exact r
theorem sem_best (mx : Bool) : SemC X B .sh Wx (fBest mx) (rBest X.K (bestP mx)) := by
  intro O e s w0 w ds vs st Q R xt rr q
  cases ds with
  | nil => exact (show False from q).elim
  | cons d1 ds1 =>
    cases ds1 with
    | cons d2 ds2 =>
      have : fBest mx (d1 :: d2 :: ds2) st = .bad := by
        unfold fBest
        split <;> first | rfl | (rename_i h; cases h)
      rw [this] at q
      exact (show False from q).elim
    | nil =>
      obtain ⟨v, rfl, h⟩ := RQs.one rr
      cases d1 with
      | lst l =>
        cases l with
        | nil => exact (show False from q).elim
        | cons d ds =>
          by_cases hz : ((d :: ds).all (shp 60) = true ∧ (d :: ds).all nb = true) ∧ PySem.W.AlikeAll (pys (d :: ds))
          · simp only [fBest, if_pos hz] at q
            obtain ⟨a, us, rfl, t, r⟩ := h.lst
            refine ⟨a, us, d.py, pys ds, rfl, .inl (.of t), dpall_of r hz.1.1, hz.2, fun z hz' => ?_, fun i x z hx hz' ez => post.val R xt q (best_core r hz.1.2 i x z hx hz' ez)⟩
            have hm : z ∈ pys (d :: ds) := hz'
            rw [pys_map] at hm
            obtain ⟨dd, hdd, rfl⟩ := List.mem_map.mp hm
            exact (shp_lay 60 dd (List.all_eq_true.mp hz.1.1 dd hdd)).2
          · simp only [fBest, if_neg hz] at q
            exact q.elim
      | tup l =>
        cases l with
        | nil => exact (show False from q).elim
        | cons d ds =>
          by_cases hz : ((d :: ds).all (shp 60) = true ∧ (d :: ds).all nb = true) ∧ PySem.W.AlikeAll (pys (d :: ds))
          · simp only [fBest, if_pos hz] at q
            obtain ⟨a, us, rfl, t, r⟩ := h.tup
            refine ⟨a, us, d.py, pys ds, rfl, .inr t, dpall_of r hz.1.1, hz.2, fun z hz' => ?_, fun i x z hx hz' ez => post.val R xt q (best_core r hz.1.2 i x z hx hz' ez)⟩
            have hm : z ∈ pys (d :: ds) := hz'
            rw [pys_map] at hm
            obtain ⟨dd, hdd, rfl⟩ := List.mem_map.mp hm
            exact (shp_lay 60 dd (List.all_eq_true.mp hz.1.1 dd hdd)).2
          · simp only [fBest, if_neg hz] at q
            exact q.elim
      | _ => exact (show False from q).elim
theorem jb_best_min (hc : X.calm = true) (hu : X.A.units + 64 < cLine) : JB X B .sh Wx (.builtin "min") (fBest false) := ⟨_, cr_best_min hc hu, sem_best false⟩
theorem jb_best_max (hc : X.calm = true) (hu : X.A.units + 64 < cLine) : JB X B .sh Wx (.builtin "max") (fBest true) := ⟨_, cr_best_max hc hu, sem_best true⟩
end
end Sm
namespace Sm
open PySem L2
section
variable {α : Type} {enc : α → D}
def bestE (mx : Bool) (enc : α → D) (a : α) (xs : List α) : α := xs.foldl (fun a y => if (if mx = true then PySem.W.dataLt (enc a).py (enc y).py else PySem.W.dataLt (enc y).py (enc a).py) = true then y else a) a
theorem bestD_enc (mx : Bool) : ∀ (xs : List α) (a : α), bestD mx (enc a) (xs.map enc) = enc (bestE mx enc a xs)
  | [], a => rfl
  | y :: xs, a => by
    have e1 : bestD mx (enc a) ((y :: xs).map enc) = bestD mx (if (if mx = true then PySem.W.dataLt (enc a).py (enc y).py else PySem.W.dataLt (enc y).py (enc a).py) = true then enc y else enc a) (xs.map enc) := rfl
    have e2 : bestE mx enc a (y :: xs) = bestE mx enc (if (if mx = true then PySem.W.dataLt (enc a).py (enc y).py else PySem.W.dataLt (enc y).py (enc a).py) = true then y else a) xs := rfl
    rw [e1, e2, ← bestD_enc mx xs]
    congr 1
    cases (if mx = true then PySem.W.dataLt (enc a).py (enc y).py else PySem.W.dataLt (enc y).py (enc a).py) <;> rfl
theorem bestE_mem (mx : Bool) : ∀ (xs : List α) (a : α), bestE mx enc a xs ∈ a :: xs
  | [], a => by simp [bestE]
  | y :: xs, a => by
    have e2 : bestE mx enc a (y :: xs) = bestE mx enc (if (if mx = true then PySem.W.dataLt (enc a).py (enc y).py else PySem.W.dataLt (enc y).py (enc a).py) = true then y else a) xs := rfl
    rw [e2]
    rcases List.mem_cons.mp (bestE_mem mx xs (if (if mx = true then PySem.W.dataLt (enc a).py (enc y).py else PySem.W.dataLt (enc y).py (enc a).py) = true then y else a)) with z | z
    · rw [z]; cases (if mx = true then PySem.W.dataLt (enc a).py (enc y).py else PySem.W.dataLt (enc y).py (enc a).py) <;> simp
    · exact List.mem_cons_of_mem _ (List.mem_cons_of_mem _ z)
abbrev kE (enc : α → D) : α → PyData := fun a => (enc a).py
theorem leE_def {a b : α} : leE (kE enc) a b = !PySem.W.dataLt (enc b).py (enc a).py := rfl
theorem bestE_min : ∀ (xs : List α) (a : α), leE (kE enc) (bestE false enc a xs) a = true ∧ ∀ y ∈ xs, leE (kE enc) (bestE false enc a xs) y = true
  | [], a => ⟨(leE_tot _).refl a, by simp⟩
  | y :: xs, a => by
    have e2 : bestE false enc a (y :: xs) = bestE false enc (if PySem.W.dataLt (enc y).py (enc a).py = true then y else a) xs := rfl
    rw [e2]
    have ih := bestE_min xs (if PySem.W.dataLt (enc y).py (enc a).py = true then y else a)
    have key : leE (kE enc) (if PySem.W.dataLt (enc y).py (enc a).py = true then y else a) a = true ∧ leE (kE enc) (if PySem.W.dataLt (enc y).py (enc a).py = true then y else a) y = true := by
      cases z : PySem.W.dataLt (enc y).py (enc a).py with
      | false => exact ⟨(leE_tot _).refl a, by simp only [Bool.false_eq_true, if_false, leE_def, z, Bool.not_false]⟩
      | true =>
        refine ⟨?_, (leE_tot _).refl y⟩
        rcases (leE_tot (kE enc)).total y a with q | q
        · simpa using q
        · rw [leE_def, z] at q; cases q
    refine ⟨(leE_tot _).trans _ _ _ ih.1 key.1, fun x hx => ?_⟩
    rcases List.mem_cons.mp hx with rfl | hx
    · exact (leE_tot _).trans _ _ _ ih.1 key.2
    · exact ih.2 x hx
theorem bestE_max : ∀ (xs : List α) (a : α), leE (kE enc) a (bestE true enc a xs) = true ∧ ∀ y ∈ xs, leE (kE enc) y (bestE true enc a xs) = true
  | [], a => ⟨(leE_tot _).refl a, by simp⟩
  | y :: xs, a => by
    have e2 : bestE true enc a (y :: xs) = bestE true enc (if PySem.W.dataLt (enc a).py (enc y).py = true then y else a) xs := rfl
    rw [e2]
    have ih := bestE_max xs (if PySem.W.dataLt (enc a).py (enc y).py = true then y else a)
    have key : leE (kE enc) a (if PySem.W.dataLt (enc a).py (enc y).py = true then y else a) = true ∧ leE (kE enc) y (if PySem.W.dataLt (enc a).py (enc y).py = true then y else a) = true := by
      cases z : PySem.W.dataLt (enc a).py (enc y).py with
      | false => exact ⟨(leE_tot _).refl a, by simp only [Bool.false_eq_true, if_false, leE_def, z, Bool.not_false]⟩
      | true =>
        refine ⟨?_, (leE_tot _).refl y⟩
        rcases (leE_tot (kE enc)).total a y with q | q
        · simpa using q
        · rw [leE_def, z] at q; cases q
    refine ⟨(leE_tot _).trans _ _ _ key.1 ih.1, fun x hx => ?_⟩
    rcases List.mem_cons.mp hx with rfl | hx
    · exact (leE_tot _).trans _ _ _ key.2 ih.1
    · exact ih.2 x hx
theorem best_ok {xs : List α} {a : α} (hs : ∀ b ∈ a :: xs, shp 60 (enc b) = true) (hn : ∀ b, nb (enc b) = true) (ha : ∀ b c, PySem.W.alike (enc b).py (enc c).py = true) (h0 : ∀ b, (enc b).py ≠ .none) :
    ((enc a :: xs.map enc).all (shp 60) = true ∧ (enc a :: xs.map enc).all nb = true) ∧ PySem.W.AlikeAll (pys (enc a :: xs.map enc)) := by
  have e : enc a :: xs.map enc = (a :: xs).map enc := rfl
  rw [e, pys_map, List.map_map]
  refine ⟨⟨?_, ?_⟩, ?_, ?_⟩
  · rw [List.all_eq_true]; intro x hx; obtain ⟨b, hb, rfl⟩ := List.mem_map.mp hx; exact hs b hb
  · rw [List.all_eq_true]; intro x hx; obtain ⟨b, hb, rfl⟩ := List.mem_map.mp hx; exact hn b
  · intro x hx y hy; obtain ⟨b, _, rfl⟩ := List.mem_map.mp hx; obtain ⟨c, _, rfl⟩ := List.mem_map.mp hy; exact ha b c
  · intro x hx; obtain ⟨b, _, rfl⟩ := List.mem_map.mp hx; exact h0 b
theorem min_spec {xs : List α} {st : Sto} {Q : D → Sto → Prop} {E} (hne : xs ≠ []) (hs : ∀ b ∈ xs, shp 60 (enc b) = true) (hn : ∀ b, nb (enc b) = true) (ha : ∀ b c, PySem.W.alike (enc b).py (enc c).py = true) (h0 : ∀ b, (enc b).py ≠ .none)
    (h : ∀ m ∈ xs, (∀ y ∈ xs, leE (kE enc) m y = true) → Q (enc m) st) : RsP (fBest false [.lst (xs.map enc)] st) Q E ∧ RsP (fBest false [.tup (xs.map enc)] st) Q E := by
  cases xs with
  | nil => exact absurd rfl hne
  | cons a xs =>
    have k := best_ok (enc := enc) hs hn ha h0
    have m := bestE_min (enc := enc) xs a
    have q := h _ (bestE_mem false xs a) fun y hy => by
      rcases List.mem_cons.mp hy with rfl | hy
      · exact m.1
      · exact m.2 y hy
    rw [← bestD_enc (enc := enc) false xs a] at q
    constructor <;> (rw [List.map_cons]; unfold fBest; simp only; rw [if_pos k]; exact q)
theorem max_spec {xs : List α} {st : Sto} {Q : D → Sto → Prop} {E} (hne : xs ≠ []) (hs : ∀ b ∈ xs, shp 60 (enc b) = true) (hn : ∀ b, nb (enc b) = true) (ha : ∀ b c, PySem.W.alike (enc b).py (enc c).py = true) (h0 : ∀ b, (enc b).py ≠ .none)
    (h : ∀ m ∈ xs, (∀ y ∈ xs, leE (kE enc) y m = true) → Q (enc m) st) : RsP (fBest true [.lst (xs.map enc)] st) Q E ∧ RsP (fBest true [.tup (xs.map enc)] st) Q E := by
  cases xs with
  | nil => exact absurd rfl hne
  | cons a xs =>
    have k := best_ok (enc := enc) hs hn ha h0
    have m := bestE_max (enc := enc) xs a
    have q := h _ (bestE_mem true xs a) fun y hy => by
      rcases List.mem_cons.mp hy with rfl | hy
      · exact m.1
      · exact m.2 y hy
    rw [← bestD_enc (enc := enc) true xs a] at q
    constructor <;> (rw [List.map_cons]; unfold fBest; simp only; rw [if_pos k]; exact q)
end
theorem minI_spec {xs : List Int} {st : Sto} {Q : D → Sto → Prop} {E} (hne : xs ≠ []) (h : ∀ m ∈ xs, (∀ y ∈ xs, m ≤ y) → Q (.int m) st) : RsP (fBest false [.lst (xs.map D.int)] st) Q E :=
  (min_spec hne (fun _ _ => shp_int) (fun _ => nb_int) (fun _ _ => al_int) (fun _ => by simp [D.py]) fun m hm hy => h m hm fun y h' => by have := hy y h'; rw [show kE D.int = kI from rfl, leI] at this; simpa using this).1
theorem maxI_spec {xs : List Int} {st : Sto} {Q : D → Sto → Prop} {E} (hne : xs ≠ []) (h : ∀ m ∈ xs, (∀ y ∈ xs, y ≤ m) → Q (.int m) st) : RsP (fBest true [.lst (xs.map D.int)] st) Q E :=
  (max_spec hne (fun _ _ => shp_int) (fun _ => nb_int) (fun _ _ => al_int) (fun _ => by simp [D.py]) fun m hm hy => h m hm fun y h' => by have := hy y h'; rw [show kE D.int = kI from rfl, leI] at this; simpa using this).1
theorem minT_spec {xs : List (List Int)} {st : Sto} {Q : D → Sto → Prop} {E} (hne : xs ≠ []) (h : ∀ m ∈ xs, (∀ y ∈ xs, m ≤ y) → Q (dT m) st) : RsP (fBest false [.lst (xs.map dT)] st) Q E :=
  (min_spec hne (fun _ _ => shp_dT) (fun _ => nb_dT) al_dT (fun _ => by simp [dT, D.py]) fun m hm hy => h m hm fun y h' => by have := hy y h'; rw [show kE dT = kT from rfl, leT] at this; simpa using this).1
end Sm

/-! Sim31: list(range(..)), constants of the module. -/
namespace Sm
open PySem L2
section
variable {X : Cx} {B : Bs} {Wx : WX} {a b : Expr} {f g : Ev} {pos : Pos}
def bLstR1 (f : Ev) : Ev := fun r st => (f r st).bind fun d st1 => match d with
  | .int j => if -1000000 ≤ j ∧ j ≤ 1000000 then .ok (.lst (rangeD 0 j.toNat)) st1 else .bad
  | _ => .bad
theorem rds_range {G : Cfg} {w : Wd} (lo : Int) : ∀ (l : List Nat), RDs G w (l.map fun (i : Nat) => .int (lo + (i : Int))) (l.map fun i => V.int (lo + (i : Nat)))
  | [] => by unfold RDs; rfl
  | x :: l => by
    rw [List.map_cons, List.map_cons]
    unfold RDs
    exact ⟨_, _, rfl, by unfold RD; rfl, rds_range lo l⟩
theorem je_listR1 {p p2 pos2 : Pos} (hc : X.calm = true) (hg : Gl X "list") (hm : X.mg "list" = none) (hg2 : Gl X "range") (hm2 : X.mg "range" = none) (ha : JE X B .bo Wx a f)
    (na : starEach [a] X.env = (false, eval a X.env) :: starEach [] X.env := by rfl) (na2 : starEach [Expr.Call (.Name "range" p2) [a] [] pos2] X.env = (false, eval (.Call (.Name "range" p2) [a] [] pos2) X.env) :: starEach [] X.env := by rfl) :
    JE X B .fr Wx (.Call (.Name "list" p) [.Call (.Name "range" p2) [a] [] pos2] [] pos) (bLstR1 f) := by
  refine pe_imp (pe_listRg hc hg hm (prg_1 hg2 hm2 ha na) na2) ?_
  rintro s H Q ⟨O, r, st, w, rfl, R, q⟩
  refine ⟨O, r, st, w, rfl, R, (post.bind q).mono ?_⟩
  rintro v H1 ⟨d1, st1, w1, rfl, R1, x1, rr1, q1⟩
  cases d1 with
  | int j =>
    by_cases hz : -1000000 ≤ j ∧ j ≤ 1000000
    · simp only [if_pos hz] at q1
      refine ⟨j, rr1.int, ⟨by omega, by omega, by omega, by omega, by omega⟩, fun p hp => post.own R1 x1 q1 hp fun w2 i k => ⟨_, i, ?_⟩⟩
      have := rds_range (G := cg X) (w := w2) 0 (List.range j.toNat)
      unfold rangeD rgV
      rw [Int.sub_zero]
      exact this
    · simp only [if_neg hz] at q1
      exact q1.elim
  | _ => exact (show False from q1).elim
/-- a module's whole number -/
theorem je_gint {x : Str} {i : Int} {t : Tok} {p : Pos} (hg : Gl X x) (hm : X.mg x = some (.int i t)) (hd : (x == ("__debug__" : Str)) = false := by decide) : JE X B .sh Wx (.Name x p) (bC (.int i)) := je_c (pe_glob (v := .int i) hg hm ⟨_, rfl⟩ hd) fun _ => by unfold RD; rfl
theorem je_gstr {x y : Str} {t : Tok} {p : Pos} (hg : Gl X x) (hm : X.mg x = some (.str y t)) (hd : (x == ("__debug__" : Str)) = false := by decide) : JE X B .sh Wx (.Name x p) (bC (.str y)) := je_c (pe_glob (v := .str y) hg hm ⟨_, rfl⟩ hd) fun _ => by unfold RD; rfl
variable {r : Env} {st : Sto} {Q : D → Sto → Prop} {E : Str → Option (Str × D) → Sto → Prop}
theorem w_listR1 : RsP (bLstR1 f r st) Q E = RsP (f r st) (fun d st1 => match d with | .int j => (-1000000 ≤ j ∧ j ≤ 1000000) ∧ Q (.lst (rangeD 0 j.toNat)) st1 | _ => False) E := by
  unfold bLstR1
  rw [w_bind]
  congr 1
  funext d st1
  cases d with
  | int j =>
    simp only
    by_cases h : -1000000 ≤ j ∧ j ≤ 1000000
    · rw [if_pos h]; simp only [RsP, h, and_self, true_and]
    · rw [if_neg h]; simp only [RsP, h, false_and]
  | _ => rfl
end
end Sm
namespace Sm
open PySem L2
def rLtD (K : PySem.W.Frag) (F : PyData → PyData → Bool) : R2 := fun x y H Q => ∃ d e, Dp K H x d ∧ Dp K H y e ∧ d.depth ≤ 60 ∧ PySem.W.alike d e = true ∧ d ≠ .none ∧ Q (.bl (F d e)) H
open Classical in
noncomputable def opCmp (F : PyData → PyData → Bool) (a b : D) (st : Sto) : Rs := if (shp 60 a = true ∧ shp 60 b = true) ∧ PySem.W.alike a.py b.py = true ∧ a.py ≠ .none then .ok (.bl (F a.py b.py)) st else .bad
def fLt : PyData → PyData → Bool := PySem.W.dataLt
def fGt : PyData → PyData → Bool := fun a b => PySem.W.dataLt b a
def fLe : PyData → PyData → Bool := fun a b => !PySem.W.dataLt b a
def fGe : PyData → PyData → Bool := fun a b => !PySem.W.dataLt a b
section
variable {X : Cx} {B : Bs} {Wx : WX}
theorem op_ltD (hu : X.A.units + 64 < cLine) : OpR X (compareOp .Lt) (rLtD X.K fLt) := by
  intro pins s σ H x y v u Q I rx ry h
  obtain ⟨d, e, hd, he, sd, al, hn, q⟩ := h
  obtain ⟨as, r1⟩ := Dp.reads I d x v hd rx
  obtain ⟨bs, r2⟩ := Dp.reads I e y u he ry
  have h2 : min d.depth e.depth ≤ d.depth := Nat.min_le_left _ _
  exact PySem.W.lt_data r1 r2 al hn (by omega) ⟨.bl _, H, I, rfl, q⟩
theorem op_gtD (hu : X.A.units + 64 < cLine) : OpR X (compareOp .Gt) (rLtD X.K fGt) := by
  intro pins s σ H x y v u Q I rx ry h
  obtain ⟨d, e, hd, he, sd, al, hn, q⟩ := h
  obtain ⟨as, r1⟩ := Dp.reads I d x v hd rx
  obtain ⟨bs, r2⟩ := Dp.reads I e y u he ry
  have h2 : min d.depth e.depth ≤ d.depth := Nat.min_le_left _ _
  exact PySem.W.gt_data r1 r2 al hn (by omega) ⟨.bl _, H, I, rfl, q⟩
theorem op_leD (hu : X.A.units + 64 < cLine) : OpR X (compareOp .LtE) (rLtD X.K fLe) := by
  intro pins s σ H x y v u Q I rx ry h
  obtain ⟨d, e, hd, he, sd, al, hn, q⟩ := h
  obtain ⟨as, r1⟩ := Dp.reads I d x v hd rx
  obtain ⟨bs, r2⟩ := Dp.reads I e y u he ry
  have h2 : min d.depth e.depth ≤ d.depth := Nat.min_le_left _ _
  exact PySem.W.le_data r1 r2 al hn (by omega) ⟨.bl _, H, I, rfl, q⟩
theorem op_geD (hu : X.A.units + 64 < cLine) : OpR X (compareOp .GtE) (rLtD X.K fGe) := by
  intro pins s σ H x y v u Q I rx ry h
  obtain ⟨d, e, hd, he, sd, al, hn, q⟩ := h
  obtain ⟨as, r1⟩ := Dp.reads I d x v hd rx
  obtain ⟨bs, r2⟩ := Dp.reads I e y u he ry
  have h2 : min d.depth e.depth ≤ d.depth := Nat.min_le_left _ _
  exact PySem.W.ge_data r1 r2 al hn (by omega) ⟨.bl _, H, I, rfl, q⟩
theorem sem_cmpD {F : PyData → PyData → Bool} : SemOp X B .sh Wx (opCmp F) (rLtD X.K F) := by
  intro O e s w0 w a b x y st Q R xt ra rb q
  by_cases z : (shp 60 a = true ∧ shp 60 b = true) ∧ PySem.W.alike a.py b.py = true ∧ a.py ≠ .none
  · rw [opCmp, if_pos z] at q
    exact ⟨a.py, b.py, RQ.dp z.1.1 ra, RQ.dp z.1.2 rb, (shp_lay 60 _ z.1.1).2, z.2.1, z.2.2, post.val R xt q rdB⟩
  · rw [opCmp, if_neg z] at q
    exact q.elim
theorem jc_ltD (hu : X.A.units + 64 < cLine) : JC X B Wx .Lt (opCmp fLt) := ⟨_, op_ltD hu, sem_cmpD⟩
theorem jc_gtD (hu : X.A.units + 64 < cLine) : JC X B Wx .Gt (opCmp fGt) := ⟨_, op_gtD hu, sem_cmpD⟩
theorem jc_leD (hu : X.A.units + 64 < cLine) : JC X B Wx .LtE (opCmp fLe) := ⟨_, op_leD hu, sem_cmpD⟩
theorem jc_geD (hu : X.A.units + 64 < cLine) : JC X B Wx .GtE (opCmp fGe) := ⟨_, op_geD hu, sem_cmpD⟩
end
theorem o_cmpD {F : PyData → PyData → Bool} {a b : D} {st : Sto} {Q : D → Sto → Prop} {E : Str → Option (Str × D) → Sto → Prop} : RsP (opCmp F a b st) Q E = (((shp 60 a = true ∧ shp 60 b = true) ∧ PySem.W.alike a.py b.py = true ∧ a.py ≠ .none) ∧ Q (.bl (F a.py b.py)) st) := by
  by_cases z : (shp 60 a = true ∧ shp 60 b = true) ∧ PySem.W.alike a.py b.py = true ∧ a.py ≠ .none
  · rw [opCmp, if_pos z]; simp only [RsP, z, and_self, true_and, ne_eq, not_false_eq_true]
  · rw [opCmp, if_neg z]; simp only [RsP, z, false_and]
theorem dr_cmpD {F : PyData → PyData → Bool} {a b : D} {st : Sto} {Q : D → Sto → Prop} {E : Str → Option (Str × D) → Sto → Prop} : RsP (drOp (opCmp F) a b st) Q E = derP st a fun a' => derP st b fun b' => RsP (opCmp F a' b' st) Q E := rfl
end Sm

/-! Sim32: plain: fewest. -/
namespace Sm
open PySem L2
inductive Ft where
  | left (l : List Int) | meet (l : List Int) (ts : List Ft)
mutual
def dF : Ft → D
  | .left l => .tup [.str "left", dT l]
  | .meet l ts => .tup [.str "meet", dT l, .lst (dFs ts)]
def dFs : List Ft → List D
  | [] => []
  | t :: ts => dF t :: dFs ts
end
theorem dFs_map : ∀ ts : List Ft, dFs ts = ts.map dF
  | [] => by simp [dFs]
  | t :: ts => by simp [dFs, dFs_map ts]
def lackL (ws ch : List Wi) (l : List Int) : Bool := hadL ws l && !hadL ch l
def isS (ws : List Wi) : Nat → List Wi → Ft → Bool
  | 0, ch, .left l => lackL ws ch l
  | 0, _, .meet _ _ => false
  | _ + 1, _, .left _ => false
  | n + 1, ch, .meet l ts => lackL ws ch l && (decide (ts.length = (ws.filter fun o => hasL o l).length) && ((ws.filter fun o => hasL o l).zip ts).all fun q => isS ws n (ch ++ [q.1]) q.2)
def covAll (ws ks : List Wi) : Prop := ∀ w ∈ ws, allHad ks w = true
theorem hadL_mono {xs ys : List Wi} (h : ∀ o ∈ xs, o ∈ ys) {l : List Int} (q : hadL xs l = true) : hadL ys l = true := by
  obtain ⟨o, ho, c⟩ := hadL_iff.mp q
  exact hadL_iff.mpr ⟨o, h o ho, c⟩
theorem allHad_mono {xs ys : List Wi} (h : ∀ o ∈ xs, o ∈ ys) {w : Wi} (q : allHad xs w = true) : allHad ys w = true :=
  List.all_eq_true.mpr fun l hl => hadL_mono h (List.all_eq_true.mp q l hl)
theorem covAll_mono {ws xs ys : List Wi} (h : ∀ o ∈ xs, o ∈ ys) (q : covAll ws xs) : covAll ws ys := fun w hw => allHad_mono h (q w hw)
/-- a tree's letters have as many numbers as the wishes -/
def ltr (f : Nat) : Nat → Ft → Prop
  | _, .left l => l.length = f
  | 0, .meet l _ => l.length = f
  | n + 1, .meet l ts => l.length = f ∧ ∀ t ∈ ts, ltr f n t
theorem shown_sound {f : Nat} {ws : List Wi} (hs : ∀ w ∈ ws, w.length = f) : ∀ (n : Nat) (ch : List Wi) (t : Ft), isS ws n ch t = true → ltr f n t → ∀ ks : List Wi, (∀ k ∈ ks, k ∈ ws) → ks.length ≤ n → ¬ covAll ws (ch ++ ks) := by
  have meet : ∀ (ch ks : List Wi) (l : List Int), l.length = f → lackL ws ch l = true → covAll ws (ch ++ ks) → ∃ k ∈ ks, hasL k l = true := by
    intro ch ks l hl hk hc
    unfold lackL at hk
    rw [Bool.and_eq_true, Bool.not_eq_true'] at hk
    obtain ⟨w, hw, c⟩ := hadL_iff.mp hk.1
    have := (allHad_iff (hs w hw)).mp (hc w hw) l hl c
    obtain ⟨k, hkm, ck⟩ := hadL_iff.mp this
    rcases List.mem_append.mp hkm with z | z
    · rw [hadL_iff.mpr ⟨k, z, ck⟩] at hk
      cases hk.2
    · exact ⟨k, z, ck⟩
  intro n
  induction n with
  | zero =>
    intro ch t h hl ks hk hn hc
    have e : ks = [] := List.length_eq_zero_iff.mp (by omega)
    subst e
    cases t with
    | left l =>
      obtain ⟨k, hk, _⟩ := meet ch [] l hl h hc
      cases hk
    | meet l ts => cases h
  | succ n ih =>
    intro ch t h hl ks hk hn hc
    cases t with
    | left l => cases h
    | meet l ts =>
      unfold isS at h
      simp only [Bool.and_eq_true, decide_eq_true_eq] at h
      obtain ⟨k, hkm, ck⟩ := meet ch ks l hl.1 h.1 hc
      have hkw : k ∈ ws.filter fun o => hasL o l := List.mem_filter.mpr ⟨hk k hkm, ck⟩
      obtain ⟨i, hi, ei⟩ := List.getElem_of_mem hkw
      have hz : (k, ts[i]'(by rw [h.2.1]; exact hi)) ∈ (ws.filter fun o => hasL o l).zip ts := by
        rw [List.mem_iff_getElem]
        exact ⟨i, by rw [List.length_zip]; omega, by rw [List.getElem_zip, ei]⟩
      have h2 := List.all_eq_true.mp h.2.2 _ hz
      refine ih (ch ++ [k]) _ h2 (hl.2 _ (List.getElem_mem _)) (ks.erase k) (fun x hx => hk x (List.mem_of_mem_erase hx)) (by rw [List.length_erase_of_mem hkm]; omega) (covAll_mono (fun o ho => ?_) hc)
      rcases List.mem_append.mp ho with z | z
      · exact List.mem_append.mpr (.inl (List.mem_append.mpr (.inl z)))
      · by_cases e : o = k
        · subst e
          exact List.mem_append.mpr (.inl (by simp))
        · exact List.mem_append.mpr (.inr ((List.mem_erase_of_ne e).mpr z))
/-- what a search tells -/
structure Found (ws : List Wi) (n : Nat) (ch ks : List Wi) : Prop where
  ext : ∃ ex, ks = ch ++ ex ∧ ex.length ≤ n ∧ ∀ k ∈ ex, k ∈ ws
  nd : ks.Nodup
  cov : covAll ws ks
/-- the fewest of a list: how many, which, and that fewer don't -/
structure Few (f : Nat) (ws : List Wi) (k : Nat) (ks : List Wi) (t : Option Ft) : Prop where
  len : ks.length = k
  sub : ∀ o ∈ ks, o ∈ ws
  nd : ks.Nodup
  cov : covAll ws ks
  tr : match t with | none => k = 0 | some t => 1 ≤ k ∧ isS ws (k - 1) [] t = true ∧ ltr f (k - 1) t
theorem Few.least {f : Nat} {ws : List Wi} {k : Nat} {ks : List Wi} {t : Option Ft} (hs : ∀ w ∈ ws, w.length = f) (h : Few f ws k ks t) {ls : List Wi} (hl : ∀ o ∈ ls, o ∈ ws) (hc : covAll ws ls) : k ≤ ls.length := by
  cases t with
  | none => have := h.tr; simp only at this; omega
  | some t =>
    have := h.tr
    simp only at this
    refine Classical.byContradiction fun n => ?_
    exact shown_sound hs (k - 1) [] t this.2.1 this.2.2 ls hl (by omega) (by simpa using hc)
end Sm

/-! Sim33: plain: fewest of lists that are alike. -/
namespace Sm
open PySem L2
theorem few_le {f : Nat} {ws vs : List Wi} {k k' : Nat} {ks ks' : List Wi} {t t' : Option Ft} (φ : Wi → Wi) (ψ : List Int → List Int) (hw : ∀ w ∈ ws, WOk f w) (hv : ∀ w ∈ vs, WOk f w)
    (b : ∀ o ∈ ws, φ o ∈ vs) (c : ∀ w ∈ vs, ∀ l, l.length = f → hasL w l = true → (ψ l).length = f ∧ hadL ws (ψ l) = true) (d : ∀ o ∈ ws, ∀ l, l.length = f → hasL o (ψ l) = true → hasL (φ o) l = true)
    (F : Few f (roofW kW ws) k ks t) (F' : Few f (roofW kW vs) k' ks' t') : k' ≤ k := by
  have hr : ∀ w ∈ roofW kW vs, w.length = f := fun w h => (hv w (mem_roofE.mp h).1).1
  have hrw : ∀ w ∈ roofW kW ws, WOk f w := fun w h => hw w (mem_roofE.mp h).1
  have ex : ∀ o : Wi, ∃ m, o ∈ ws → m ∈ roofW kW vs ∧ covL m (φ o) = true := fun o => by
    by_cases ho : o ∈ ws
    · obtain ⟨m, h1, h2⟩ := roof_max (k := kW) hv (b o ho)
      exact ⟨m, fun _ => ⟨h1, h2⟩⟩
    · exact ⟨[], fun h => absurd h ho⟩
  let g : Wi → Wi := fun o => (ex o).choose
  have hg : ∀ o ∈ ws, g o ∈ roofW kW vs ∧ covL (g o) (φ o) = true := fun o ho => (ex o).choose_spec ho
  have hsub : ∀ o ∈ ks, o ∈ ws := fun o ho => (mem_roofE.mp (F.sub o ho)).1
  have := F'.least hr (ls := ks.map g) (fun o ho => by
    obtain ⟨x, hx, rfl⟩ := List.mem_map.mp ho
    exact (hg x (hsub x hx)).1) fun w hwm => (allHad_iff (hr w hwm)).mpr fun l hl s => by
      have hwv := (mem_roofE.mp hwm).1
      obtain ⟨h1, h2⟩ := c w hwv l hl s
      rw [← hadL_roof (k := kW) hw h1] at h2
      obtain ⟨o, ho, co⟩ := hadL_iff.mp h2
      have h3 := (allHad_iff (hrw o ho).1).mp (F.cov o ho) (ψ l) h1 co
      obtain ⟨x, hx, cx⟩ := hadL_iff.mp h3
      have hxw := hsub x hx
      have h4 := d x hxw l hl cx
      have hgx := hg x hxw
      exact hadL_iff.mpr ⟨g x, List.mem_map.mpr ⟨x, hx, rfl⟩, (covL_iff (hr _ hgx.1) (hv _ (b x hxw))).mp hgx.2 l hl h4⟩
  rw [List.length_map, F.len] at this
  exact this
def turnW (by' : Int) (w : Wi) : Wi := (w.map fun p => (p.1 + by', p.2 + by')).reverse
theorem hasL_map {w : Wi} {b : Int} : ∀ {l : List Int}, hasL (w.map fun p => (p.1 + b, p.2 + b)) l = hasL w (l.map fun n => n - b) := by
  induction w with
  | nil => intro l; cases l <;> simp [hasL]
  | cons p w ih =>
    intro l
    cases l with
    | nil => simp [hasL]
    | cons n l =>
      have := ih (l := l)
      simp only [hasL, List.map_cons, List.zip_cons_cons, List.all_cons] at *
      rw [this]
      congr 1
      rw [Bool.eq_iff_iff]
      simp only [Bool.and_eq_true, decide_eq_true_eq]
      omega
theorem hasL_rev {w : Wi} {l : List Int} (h : l.length = w.length) : hasL w.reverse l.reverse = hasL w l := by
  unfold hasL
  rw [Bool.eq_iff_iff, List.all_eq_true, List.all_eq_true]
  have e : l.reverse.zip w.reverse = (l.zip w).reverse := by
    apply List.ext_getElem
    · simp [h]
    · intro i h1 h2
      simp only [List.length_zip, List.length_reverse] at h1
      simp only [List.getElem_zip, List.getElem_reverse, List.length_zip]
      congr 2 <;> omega
  rw [e]
  exact forall_congr' fun q => by rw [List.mem_reverse]
theorem turn_has {w : Wi} {l : List Int} {b : Int} (h : l.length = w.length) : hasL (turnW b w) l = hasL w (l.reverse.map fun n => n - b) := by
  unfold turnW
  have := hasL_rev (w := w.map fun p => (p.1 + b, p.2 + b)) (l := l.reverse) (by simp [h])
  rw [List.reverse_reverse] at this
  rw [this, hasL_map]
theorem turn_ok {f : Nat} {w : Wi} {b : Int} (h : WOk f w) (h0 : 0 ≤ b) (h1 : ∀ p ∈ w, p.2 + b ≤ 9) : WOk f (turnW b w) := by
  refine ⟨by unfold turnW; simp [h.1], fun p hp => ?_⟩
  unfold turnW at hp
  rw [List.mem_reverse] at hp
  obtain ⟨q, hq, rfl⟩ := List.mem_map.mp hp
  have := h.2 q hq
  have := h1 q hq
  simp only
  omega
theorem turn_turn {w : Wi} {b : Int} : turnW (-b) (turnW b w) = w := by
  unfold turnW
  rw [← List.map_reverse, List.reverse_reverse, List.map_map]
  conv => rhs; rw [← List.map_id w]
  congr 1
  funext p
  exact Prod.ext (by show p.1 + b + -b = p.1; omega) (by show p.2 + b + -b = p.2; omega)
/-- turned lists need as many -/
theorem few_turn {f : Nat} {ws : List Wi} {b : Int} {k k' : Nat} {ks ks' : List Wi} {t t' : Option Ft} (hw : ∀ w ∈ ws, WOk f w) (hv : ∀ w ∈ ws.map (turnW b), WOk f w)
    (F : Few f (roofW kW ws) k ks t) (F' : Few f (roofW kW (ws.map (turnW b))) k' ks' t') : k' = k := by
  have h1 : k' ≤ k := few_le (turnW b) (fun l => l.reverse.map fun n => n - b) hw hv (fun o ho => List.mem_map.mpr ⟨o, ho, rfl⟩) (fun w hwm l hl s => by
    obtain ⟨o, ho, rfl⟩ := List.mem_map.mp hwm
    rw [turn_has (by rw [hl, (hw o ho).1])] at s
    exact ⟨by simp [hl], hadL_iff.mpr ⟨o, ho, s⟩⟩) (fun o ho l hl s => by rw [turn_has (by rw [hl, (hw o ho).1])]; exact s) F F'
  have h2 : k ≤ k' := few_le (turnW (-b)) (fun l => l.reverse.map fun n => n - -b) hv hw (fun o ho => by
    obtain ⟨w, hw', rfl⟩ := List.mem_map.mp ho
    rw [turn_turn]; exact hw') (fun w hwm l hl s => by
    refine ⟨by simp [hl], hadL_iff.mpr ⟨turnW b w, List.mem_map.mpr ⟨w, hwm, rfl⟩, ?_⟩⟩
    rw [turn_has (by simp [hl, (hw w hwm).1])]
    have e : ((l.reverse.map fun n => n - -b).reverse.map fun n => n - b) = l := by
      rw [← List.map_reverse, List.reverse_reverse, List.map_map]
      conv => rhs; rw [← List.map_id l]
      congr 1
      funext n
      simp
    rw [e]
    exact s) (fun o ho l hl s => by
    have := hv o ho
    rw [turn_has (by rw [hl, this.1])]
    exact s) F' F
  omega
theorem few_same {f : Nat} {ws vs : List Wi} {k k' : Nat} {ks ks' : List Wi} {t t' : Option Ft} (hw : ∀ w ∈ ws, WOk f w) (e : ∀ a, a ∈ vs ↔ a ∈ ws) (F : Few f (roofW kW ws) k ks t) (F' : Few f (roofW kW vs) k' ks' t') : k' = k := by
  have hv : ∀ w ∈ vs, WOk f w := fun w h => hw w ((e w).mp h)
  have h1 : k' ≤ k := few_le id id hw hv (fun o ho => (e o).mpr ho) (fun w hwm l hl s => ⟨hl, hadL_iff.mpr ⟨w, (e w).mp hwm, s⟩⟩) (fun _ _ _ _ s => s) F F'
  have h2 : k ≤ k' := few_le id id hv hw (fun o ho => (e o).mp ho) (fun w hwm l hl s => ⟨hl, hadL_iff.mpr ⟨w, (e w).mpr hwm, s⟩⟩) (fun _ _ _ _ s => s) F' F
  omega
theorem few_more {f : Nat} {ws : List Wi} {w1 : Wi} {k k' : Nat} {ks ks' : List Wi} {t t' : Option Ft} (hw : ∀ w ∈ ws, WOk f w) (h1 : WOk f w1) (hc : allHad ws w1 = true) (F : Few f (roofW kW ws) k ks t) (F' : Few f (roofW kW (ws ++ [w1])) k' ks' t') : k' ≤ k :=
  few_le id id hw (fun w h => (List.mem_append.mp h).elim (hw w) fun z => List.mem_singleton.mp z ▸ h1) (fun o ho => List.mem_append.mpr (.inl ho)) (fun w hwm l hl s => ⟨hl, by
    rcases List.mem_append.mp hwm with z | z
    · exact hadL_iff.mpr ⟨w, z, s⟩
    · rw [List.mem_singleton.mp z] at s
      exact (allHad_iff h1.1).mp hc l hl s⟩) (fun _ _ _ _ s => s) F F'
end Sm

/-! Sim34: promises of defs that are called where no repr is under way (the guards are known). -/
namespace Sm
open PySem L2 PyProof.Rows
/-- a promise kept wherever no repr is under way -/
structure FnG (Pr : Program) (W : World) (Kf : PySem.W.Frag) (mm : Str → Option Value) (bs : Heap) (k : Nat) (fA : Addr) (fd : FuncData) (ps : List Str) (spec : Sp) : Prop where
  len : ∀ us Hp0 Qv Ex, spec us Hp0 Qv Ex → us.length = ps.length
  go : ∀ (Ar : Around), Room k Ar → Ar.guards = some [] → ∀ (out : List PySem.Env) (sh : Shared) (Ha : Hp) (ar : Args) (xs : List Value) (us : List V) (Qv : VK) (Ex : XK), Env0 Pr W Kf mm bs Ar out sh Ha → BindsTo sh fd ar (ps.zip xs) → Vals us xs → spec us Ha Qv Ex →
    codeAny (model Pr W) Ar (.call (.ref fA) ar) (CR (L2.CX Pr W) out Pr W Ha sh Qv Ex) sh
theorem FnG.imp {Pr : Program} {W : World} {Kf : PySem.W.Frag} {mm : Str → Option Value} {bs : Heap} {k : Nat} {fA : Addr} {fd : FuncData} {ps : List Str} {spec sp2 : Sp} (F : FnG Pr W Kf mm bs k fA fd ps spec) (h : ∀ us Ha Qv Ex, sp2 us Ha Qv Ex → spec us Ha Qv Ex) :
    FnG Pr W Kf mm bs k fA fd ps sp2 :=
  ⟨fun us Ha Qv Ex q => F.len us Ha Qv Ex (h _ _ _ _ q), fun Ar r g out sh Ha ar xs us Qv Ex e b v q => F.go Ar r g out sh Ha ar xs us Qv Ex e b v (h _ _ _ _ q)⟩
/-- a body's promise -/
theorem fnG_of {Pr : Program} {W : World} {Kf : PySem.W.Frag} {mm : Str → Option Value} {bs : Heap} {nm qual : Str} {sc : Stmt} {k : Nat} {fA : Addr} {fd : FuncData} {N ps : List Str} {spec : Sp} (U : Fun Kf nm qual sc fA fd) (S : FnScope N ps (defScope sc))
    (hlen : ∀ us Ha Qv Ex, spec us Ha Qv Ex → us.length = ps.length)
    (hb : ∀ (cdv : Value) (Ar : Around) (out : List PySem.Env) (sh : Shared) (Ha : Hp) (us : List V) (Qv : VK) (Ex : XK), Room k (Ar.deeper (envOfC qual (defScope sc) sh.heap.objs.size fA cdv)) → Ar.guards = some [] → spec us Ha Qv Ex →
      ∃ t, PSs (cxOf (L2.CX Pr W) Pr W Kf mm bs N qual (defScope sc) fA cdv Ar out sh Ha Ex) (defBody sc) t ∧ t { nx := fun _ H' => Qv .non H', rt := Qv } (start N us) Ha) :
    FnG Pr W Kf mm bs (k + 1) fA fd ps spec := by
  obtain ⟨oc, od, kV, doc, pm, an, cdv, ct, osl, rfl, lk, hcd⟩ := U.ex
  refine ⟨hlen, fun Ar hr hg out sh Ha ar xs us Qv Ex e0 bd rv hq0 => ?_⟩
  have inK : Kf.In sh.heap := e0.mod.kin.keeps (fun b o e => (e0.bs b o e).1)
  have nol : sh.heap.NoLimit := e0.mod.nolimit.keeps (fun b o e => (e0.bs b o e).1)
  refine codeAny_call_function hr.depth (inK _ _ lk) rfl S.co S.gen rfl (PySem.W.codeRec_of inK hcd) (bd _ _ _ _ ?_)
  refine wpAny_newFunctionEnv_cells S.kind (fun z hz => ?_) (fun en he s1 x => ?_)
  · rcases S.par z.1 (List.of_mem_zip (a := z.1) (b := z.2) hz).1 with q | q
    · exact .inl q
    · exact .inr ⟨q, PySem.W.cellsFrom_some _ _ _ (.inl q)⟩
  · subst he
    obtain ⟨t, ht, hq⟩ := hb cdv Ar out sh Ha us Qv Ex (hr.deeper _) hg hq0
    refine ⟨nol.keeps x.toInCall.keep, codeAny_func (wpAny_mono (ht.run [] s1 _ Ha _ (inv_start S hr.hd e0 (hlen _ _ _ _ hq0) rv x) hq) (fun fl s' hs => ?_) (fun _ _ z => z))⟩
    cases fl with
    | ret u =>
      obtain ⟨v, σ', H', J, r2, q⟩ := hs
      exact ⟨v, H', J.os, J.bare, J.base, J.hok, r2, q⟩
    | next =>
      obtain ⟨σ', H', J, q⟩ := hs
      exact ⟨V.non, H', J.os, J.bare, J.base, J.hok, rfl, q⟩
    | brk => exact (hs.choose_spec.choose_spec.2 : False).elim
    | cont => exact (hs.choose_spec.choose_spec.2 : False).elim
section
variable {X : Cx} {B : Bs} {Wx : WX} {pos p : Pos} {a : Expr} {es : List Expr} {f : Ev} {fs : List Ev} {k n : Nat} {fr : Bool} {gF : Fn} {fA : Addr} {fd : FuncData} {ps : List Str} {nm : Str}
theorem run_fnG {spec : Sp} {Ex : L2.St → XK} {pins : List (Addr × Obj)} {σ : L2.St} {Ha : Hp} {sh : Shared} {Qv : VK} {xs : List Value} {us : List V} (F : FnG X.prog X.w X.K X.mg X.base k fA fd ps spec) (hr : Room k X.A) (hgd : X.A.guards = some []) (hb : Binds X.K fd ps []) (hx : PassesAt (L2.CX X.prog X.w) X σ (Ex σ))
    (I : Inv X pins σ Ha sh) (r : Vals us xs) (h : spec us Ha Qv (Ex σ)) : wpAny (model X.prog X.w) X.A (call (.ref fA) xs) (EP X pins σ Qv) X.xe sh := by
  have hl : (xs ++ []).length = ps.length := by rw [List.append_nil, ← r.length]; exact F.len _ _ _ _ h
  have bd := hb sh xs I.kIn hl
  rw [List.append_nil] at bd
  refine wpAny_call (codeAny_mono (F.go X.A hr hgd X.stack sh Ha ⟨xs, []⟩ xs us Qv (Ex σ) I.env0 bd r h) ?_)
  rintro (e | fl) s' hq
  · exact hx pins Ha sh e s' I hq
  · cases fl with
    | ret u => exact I.after hq
    | _ => exact (show False from hq).elim
theorem je_callG (tk : Takes X Wx) (F : FnG X.prog X.w X.K X.mg X.base k fA fd ps (spF (cg X) n fr gF)) (hr : Room k X.A) (hgd : X.A.guards = some []) (hg : Gl X nm) (hm : X.mg nm = some (.ref fA)) (hk : PySem.W.keepIn X.K (.ref fA) = true)
    (hb : Binds X.K fd ps []) (ha : JA X B .sh Wx (a :: es) (f :: fs)) (hn : (f :: fs).length = n := by rfl) (hdb : (nm == ("__debug__" : Str)) = false := by decide) (he : starEach (a :: es) X.env = (false, eval a X.env) :: starEach es X.env := by rfl) (hpl : (backTo pos (starEach es X.env)).any (·.1) = false := by rfl) :
    JE X B (kdF fr) Wx (.Call (.Name nm p) (a :: es) [] pos) (bCall gF (f :: fs)) := by
  refine pe_imp (t := tCallS (spF (cg X) n fr gF) (WE Wx) (tA (cg X) B .sh Wx (f :: fs))) ⟨fun pins s σ H Q I h => ?_⟩ fun _ _ _ q => tE_call hn q
  refine wpAny_Call_Name_kw (ld_glob I hg hm (PySem.W.callWith_K (h₀ := X.base) I.ok.mod.kin hk (thn (ha.run pos pins s σ H _ I h) ?_) he hpl) hdb)
  rintro us s1 ⟨vs, H1, I1, r, q⟩
  exact ⟨I1.kIn, run_fnG F hr hgd hb (passAt tk σ) I1 r q⟩
theorem je_callG0 (tk : Takes X Wx) (F : FnG X.prog X.w X.K X.mg X.base k fA fd ps (spF (cg X) 0 fr gF)) (hr : Room k X.A) (hgd : X.A.guards = some []) (hg : Gl X nm) (hm : X.mg nm = some (.ref fA)) (hk : PySem.W.keepIn X.K (.ref fA) = true)
    (hb : Binds X.K fd ps []) (hdb : (nm == ("__debug__" : Str)) = false := by decide) : JE X B (kdF fr) Wx (.Call (.Name nm p) [] [] pos) (bCall gF []) := by
  refine pe_imp (t := tCallS (spF (cg X) 0 fr gF) (WE Wx) (tA (cg X) B .sh Wx [])) ⟨fun pins s σ H Q I h => ?_⟩ fun _ _ _ q => tE_call rfl q
  obtain ⟨O, r, st, w1, rfl, R, q⟩ := h
  have q' : spF (cg X) 0 fr gF [] w1.H Q (WE Wx σ) := q w1 [] R (Ext.refl w1) rfl
  exact wpAny_Call_Name_kw (ld_glob I hg hm (PySem.W.callWith_K0 I.kIn hk (run_fnG (xs := []) F hr hgd hb (passAt tk σ) I .nil q')) hdb)
end
theorem fjG_of {P : Program} {w : World} {K : PySem.W.Frag} {mg : Str → Option Value} {base : Heap} {x qual : Str} {st : Stmt} {fA : Addr} {fd : FuncData} {N ps : List Str} {j n : Nat} {fr : Bool} {F : Sv} (U : Fun K x qual st fA fd) (S : FnScope N ps (defScope st)) (hn : ps.length = n)
    (hb : ∀ (cdv : Value) (A : Around) (outer : List PySem.Env) (s : Shared) (H : Hp) (E : XK) (B : Bs), Room j (A.deeper (PyProof.Rows.envOfC qual (defScope st) s.heap.objs.size fA cdv)) → A.guards = some [] → B.L = N.length →
      Takes (cxOf (L2.CX P w) P w K mg base N qual (defScope st) fA cdv A outer s H E) (fun cls dd _ H => E cls dd H) →
      JSs (cxOf (L2.CX P w) P w K mg base N qual (defScope st) fA cdv A outer s H E) B fr (fun cls dd _ H => E cls dd H) (defBody st) F) :
    FnG P w K mg base (j + 1) fA fd ps (spF ⟨K, mg, P, w⟩ n fr (mkF fr F)) := by
  subst hn
  refine fnG_of U S (fun vs H Q E h => h.1) fun cdv A outer s H vs Q E hr hg h => ?_
  obtain ⟨hl, wd, ds, sto, rfl, RF, rds, q⟩ := h
  have hpl : ps.length ≤ N.length := by have := congrArg List.length S.pre; rw [List.length_take] at this; omega
  refine ⟨_, hb cdv A outer s wd.H E ⟨wd, N.length⟩ hr hg rfl (takes_of rfl rfl rfl rfl), ?_⟩
  refine ⟨fun _ => none, argEnv ds, sto, wd, rfl, start_rel RF rds (by omega), ?_⟩
  unfold mkF at q
  cases z : F (argEnv ds) sto with
  | nx r st' =>
    rw [z] at q
    cases fr with
    | true => exact (show False from q).elim
    | false => exact fun O s w' R k => q w' .non R.toF R.base (by rw [if_neg (by simp)]; exact rdN)
  | rt d st' =>
    rw [z] at q
    exact fun w' v F' x rr => q w' v F' x rr
  | err c a r st' =>
    rw [z] at q
    exact fun O s w' cls dd R rx => q w' cls dd R.toF R.base rx
  | bk r st' => rw [z] at q; exact q.elim
  | ct r st' => rw [z] at q; exact q.elim
  | bad => rw [z] at q; exact q.elim
theorem fjG_bad {P : Program} {w : World} {K : PySem.W.Frag} {mg : Str → Option Value} {base : Heap} {j : Nat} {fA : Addr} {fd : FuncData} {ps : List Str} {n : Nat} {fr : Bool} {G : Cfg} (hn : ps.length = n := by rfl) : FnG P w K mg base j fA fd ps (spF G n fr (fun _ _ => .bad)) :=
  ⟨fun vs H Q E h => by rw [hn]; exact h.1, fun A hr hg outer s H args us vs Q E e0 hb r h => by
    obtain ⟨_, _, _, _, _, _, _, q⟩ := h
    exact q.elim⟩
end Sm

/-! Sim35: repr of data of any form. -/
namespace Sm
open PySem L2 PyProof.Rows
def stS (x : Str) : Bool := PyData.strOk (reprText x)
mutual
/-- what its text takes at most -/
def wt : D → Nat
  | .non => 4
  | .bl _ => 5
  | .int i => if -I400 < i ∧ i < I400 then 90 else 16777216
  | .str x => if stS x = true then (reprText x).length else 16777216
  | .tup xs => wts xs + 4
  | .lst xs => wts xs + 4
  | _ => 16777216
def wts : List D → Nat
  | [] => 0
  | d :: ds => wt d + 2 + wts ds
end
theorem so_app {a b : Str} : PyData.strOk (a ++ b) = (PyData.strOk a && PyData.strOk b) := by
  unfold PyData.strOk
  show (a.cps ++ b.cps).all _ = _
  rw [Array.all_append]
theorem so_of (s : String) : PyData.strOk (Str.ofString s) = true := by
  rw [Str.ofString_eq_toList]
  unfold PyData.strOk
  simp only [List.all_toArray, List.all_eq_true, List.mem_map, decide_eq_true_eq]
  rintro n ⟨c, _, rfl⟩
  have h := c.valid
  unfold UInt32.isValidChar Nat.isValidChar at h
  show c.val.toNat < _
  omega
theorem so_join : ∀ {ts : List Str}, (∀ t ∈ ts, PyData.strOk t = true) → PyData.strOk (Str.join ", " ts) = true
  | [], _ => so_of ""
  | [x], h => h x List.mem_cons_self
  | x :: y :: r, h => by
    show PyData.strOk (x ++ ", " ++ Str.join ", " (y :: r)) = true
    rw [so_app, so_app, h x List.mem_cons_self, so_of, so_join fun t ht => h t (List.mem_cons_of_mem _ ht)]
    rfl
theorem ln_int {i : Int} (h : -I400 < i ∧ i < I400) : (Str.ofString (toString i)).length ≤ 90 := by
  have h1 : i.natAbs < 10 ^ 80 := by
    obtain ⟨N, hN⟩ : ∃ N : Nat, N = 10 ^ 80 := ⟨_, rfl⟩
    rw [← hN]
    have e : I400 < (N : Int) := by rw [hN]; decide +kernel
    omega
  have := int_text_length_le10 (by decide : 0 < 80) h1
  have e : (Str.ofString (toString i)).length = (toString i).length := by
    rw [Str.ofString_eq_toList]
    show (List.toArray _).size = _
    rw [List.size_toArray, List.length_map]
    rfl
  omega
mutual
theorem wt_py : ∀ d : D, wt d < 16777216 → PyData.showable d.py = true ∧ (PyData.shown d.py).length ≤ wt d ∧ PyData.strOk (PyData.shown d.py) = true ∧ PyData.hasDict d.py = false
  | .non, _ => by
    simp only [D.py, PyData.showable, PyData.shown_none, PyData.hasDict, wt]
    exact ⟨trivial, by decide +kernel, so_of _, trivial⟩
  | .bl b, _ => by
    simp only [D.py, PyData.showable, PyData.shown_bool, PyData.hasDict, wt]
    cases b
    · exact ⟨trivial, by decide +kernel, so_of _, trivial⟩
    · exact ⟨trivial, by decide +kernel, so_of _, trivial⟩
  | .int i, h => by
    simp only [wt] at h
    by_cases z : -I400 < i ∧ i < I400
    · simp only [D.py, PyData.showable, PyData.shown_int, PyData.hasDict, wt, if_pos z, decide_eq_true_eq]
      exact ⟨small_log z, ln_int z, so_of _, trivial⟩
    · rw [if_neg z] at h; omega
  | .str x, h => by
    simp only [wt] at h
    by_cases z : stS x = true
    · simp only [D.py, PyData.showable, PyData.shown_str, PyData.hasDict, wt, if_pos z]
      exact ⟨trivial, Nat.le_refl _, z, trivial⟩
    · rw [if_neg z] at h; omega
  | .tup xs, h => by
    simp only [wt] at h
    obtain ⟨h1, h2, h3, h4⟩ := wts_py xs (by omega)
    simp only [D.py, PyData.showable, PyData.hasDict, wt]
    rw [PyData.shown_tuple]
    have l : (Str.join ", " (PyData.shownAll (pys xs))).length ≤ wts xs := by
      cases e : PyData.shownAll (pys xs) with
      | nil => exact Nat.zero_le _
      | cons t ts =>
        have := join_length_add (t :: ts) (by simp)
        rw [e] at h2
        omega
    refine ⟨h1, ?_, ?_, h4⟩
    · rw [strLen_append, strLen_append]
      have e1 : (("(" : String) : Str).length = 1 := by decide +kernel
      have e2 : ∀ c : Bool, ((if c = true then ",)" else ")" : String) : Str).length ≤ 2 := by intro c; cases c <;> decide +kernel
      have := e2 ((pys xs).length == 1)
      rw [e1]
      omega
    · rw [so_app, so_app, so_of, so_join h3, so_of]
      rfl
  | .lst xs, h => by
    simp only [wt] at h
    obtain ⟨h1, h2, h3, h4⟩ := wts_py xs (by omega)
    simp only [D.py, PyData.showable, PyData.hasDict, wt]
    rw [PyData.shown_list]
    have l : (Str.join ", " (PyData.shownAll (pys xs))).length ≤ wts xs := by
      cases e : PyData.shownAll (pys xs) with
      | nil => exact Nat.zero_le _
      | cons t ts =>
        have := join_length_add (t :: ts) (by simp)
        rw [e] at h2
        omega
    refine ⟨h1, ?_, ?_, h4⟩
    · rw [strLen_append, strLen_append]
      have e1 : (("[" : String) : Str).length = 1 := by decide +kernel
      have e2 : (("]" : String) : Str).length = 1 := by decide +kernel
      rw [e1, e2]
      omega
    · rw [so_app, so_app, so_of, so_join h3, so_of]
      rfl
  | .dct _ _, h => by simp [wt] at h
  | .ref _, h => by simp [wt] at h
  | .exc _ _, h => by simp [wt] at h
  | .frg _, h => by simp [wt] at h
theorem wts_py : ∀ ds : List D, wts ds < 16777216 → PyData.showableAll (pys ds) = true ∧ piled (PyData.shownAll (pys ds)) ≤ wts ds ∧ (∀ t ∈ PyData.shownAll (pys ds), PyData.strOk t = true) ∧ PyData.hasDictAll (pys ds) = false
  | [], _ => by
    simp only [pys, PyData.showableAll, PyData.shownAll, PyData.hasDictAll, wts]
    exact ⟨trivial, Nat.le_refl _, by simp, trivial⟩
  | d :: ds, h => by
    simp only [wts] at h
    obtain ⟨a1, a2, a3, a4⟩ := wt_py d (by omega)
    obtain ⟨b1, b2, b3, b4⟩ := wts_py ds (by omega)
    simp only [pys, PyData.showableAll, PyData.shownAll, PyData.hasDictAll, wts, a1, b1, a4, b4, piled_cons]
    refine ⟨by rfl, by omega, ?_, by rfl⟩
    intro t ht
    rcases List.mem_cons.mp ht with rfl | ht
    · exact a3
    · exact b3 t ht
end
noncomputable def shw (d : D) : Str := PyData.shown d.py
theorem shw_ok {d : D} (h : wt d < 16777216) : PyData.strOk (shw d) = true := (wt_py d h).2.2.1
noncomputable def fReprD : List D → Sto → Rs
  | [d], st => if shp 40 d = true ∧ wt d < 16777216 then .ok (.str (shw d)) st else .bad
  | _, _ => .bad
def rRepr (K : PySem.W.Frag) : List V → Hp → VK → Prop := fun xs H Q => ∃ v d, xs = [v] ∧ Dp K H v d ∧ d.showable = true ∧ d.hasDict = false ∧ d.depth ≤ 60 ∧ d.shown.length ≤ sizeLine ∧ Q (.str d.shown) H
section
variable {X : Cx} {B : Bs} {k : Kd} {Wx : WX} {Q : D → Sto → Prop} {E : Str → Option (Str × D) → Sto → Prop} {st : Sto}
theorem cr_repr (hu : X.A.units + 64 < cLine) (hg : X.A.guards = some []) : CallR X (.builtin "repr") (rRepr X.K) := by
  intro pins s σ H xs us Qv I r h
  obtain ⟨v, d, rfl, dp, s1, s2, s3, s4, q⟩ := h
  cases r with
  | cons rv rn =>
    cases rn
    rename_i u
    obtain ⟨as, rd⟩ := Dp.reads I d v u dp rv
    cases d with
    | none => cases rd; rw [PyData.shown_none] at q; exact PySem.P.repr_of_none ⟨.str _, H, I.tok _, ⟨_, rfl⟩, q⟩
    | bool b => cases rd; rw [PyData.shown_bool] at q; exact PySem.P.repr_of_bool ⟨.str _, H, I.tok _, ⟨_, rfl⟩, q⟩
    | int i => cases rd; rw [PyData.shown_int] at q; exact PySem.P.repr_of_int (by simpa [PyData.showable] using s1) ⟨.str _, H, I.tok _, ⟨_, rfl⟩, q⟩
    | str x => cases rd; rw [PyData.shown_str] at q; exact PySem.P.repr_of_str ⟨.str _, H, I.tok _, ⟨_, rfl⟩, q⟩ (by simpa [PyData.shown] using s4)
    | list ds =>
      cases rd with
      | list e1 e2 e3 e4 => exact repr_of_reads' (.list e1 e2 e3 e4) s1 (PyData.noDict_hsm s2) hg (by omega) (fun _ _ e => e) (fun h' u tk hk => ⟨.str _, H, I.kept hk, ⟨_, rfl⟩, q⟩) s4
    | tuple ds =>
      cases rd with
      | tuple e1 e2 e3 e4 => exact repr_of_reads' (.tuple e1 e2 e3 e4) s1 (PyData.noDict_hsm s2) hg (by omega) (fun _ _ e => e) (fun h' u tk hk => ⟨.str _, H, I.kept hk, ⟨_, rfl⟩, q⟩) s4
    | dict ds => simp [PyData.hasDict] at s2
theorem jb_reprD (hu : X.A.units + 64 < cLine) (hg : X.A.guards = some []) : JB X B .sh Wx (.builtin "repr") fReprD := ⟨_, cr_repr hu hg, by
  intro O e s w0 w ds vs st Q R xt rr q
  cases ds with
  | nil => exact (show False from q).elim
  | cons d ds1 =>
   cases ds1 with
   | cons _ _ => exact (show False from q).elim
   | nil =>
    obtain ⟨v, rfl, h⟩ := RQs.one rr
    by_cases z : shp 40 d = true ∧ wt d < 16777216
    · simp only [fReprD, if_pos z] at q
      obtain ⟨a1, a2, a3, a4⟩ := wt_py d z.2
      have b := shp_lay 40 d z.1
      exact ⟨v, d.py, rfl, h.dp z.1, a1, a4, by omega, by rw [PySem.sizeLine_eq]; omega, post.val R xt q rdS⟩
    · simp only [fReprD, if_neg z] at q
      exact q.elim⟩
theorem f_reprD {d : D} : RsP (fReprD [d] st) Q E = (shp 40 d = true ∧ wt d < 16777216 ∧ Q (.str (shw d)) st) := by
  show RsP (if shp 40 d = true ∧ wt d < 16777216 then .ok (.str (shw d)) st else .bad) Q E = _
  by_cases z : shp 40 d = true ∧ wt d < 16777216
  · rw [if_pos z]
    show Q _ _ = _
    simp only [z, true_and]
  · rw [if_neg z]
    show False = _
    refine propext ⟨False.elim, fun h => z ⟨h.1, h.2.1⟩⟩
end
end Sm

/-! Sim36: the law's entry, for promises that ask for known guards. -/
namespace Sm
open PySem L2 PyProof.Rows
/-- the heap at the law's entry, as a callee sees it -/
theorem entry_env {P : Program} {w : World} {K : PySem.W.Frag} {mg mb : Str → Option Value} {s : Shared} {H : Hp} {a : Addr} {oa : Obj} (inK : K.In s.heap) (gl : s.heap.Ns mainGlobals mg) (bt : s.heap.Ns builtinsNs mb) (bb : ∀ x : Str, x ≠ "__name__" → mb x = bootBuiltins x)
    (nol : s.heap.NoLimit) (ng : s.gens = #[]) (hobj : s.heap.get? a = some oa) (nd : ∀ es ep, oa.data ≠ .dict es ep) (hok : HOk P w H s.heap) (one : ∀ b, H b ≠ none → b = a) (out : H a ≠ none → K.lookup a = none) :
    K.In (hidT s.heap H) ∧ (hidT s.heap H).Ns mainGlobals mg ∧ Env0 P w K mg (hidT s.heap H) callerA [] s H := by
  have free : ∀ (b : Addr), b ≠ a → H b = none := fun b n => by
    cases z : H b with
    | none => rfl
    | some u => exact absurd (one b (by rw [z]; simp)) n
  have k1 : K.In (hidT s.heap H) := fun b o e => hidT_get (inK b o e) (by
    by_cases q : b = a
    · cases z : H b with
      | none => rfl
      | some u =>
        rw [q] at z e
        rw [out (by rw [z]; simp)] at e
        cases e
    · exact free b q)
  have ns : ∀ {c : Addr} {m : Str → Option Value}, s.heap.Ns c m → (hidT s.heap H).Ns c m := by
    rintro c m ⟨o, es, ep, e, d, r⟩
    have q : c ≠ a := by
      rintro rfl
      rw [hobj] at e
      cases e
      exact nd _ _ d
    exact ⟨o, es, ep, hidT_get e (free c q), d, r⟩
  obtain ⟨mc, n1, n2⟩ := nol
  exact ⟨k1, ns gl, rfl, ⟨k1, ns gl, ⟨mb, ns bt, bb⟩, mc, ns n1, n2⟩, fun b o e => of_hidT e, by rw [hidT_size]; exact Nat.le_refl _, trivial, fun b hb => (nomatch hb), hok, .of_eq ng⟩
theorem walk_lawG {l : PySem.W.OpenLaw} {q : Program} {loose : List Str} {XP : (Str → Option Value) → Heap → Prop} {YP : World → Heap → Prop} {d : DefRec} {K : Params → PySem.W.Frag} {L : Nat} {g : Fn} (hn : l.most = some 63) (hdf : d.params.defaults = []) (hr : Room L callerA)
    (hY : ∀ (w : World) (h : Heap), YP w h → (K w.params).In h)
    (F : ∀ (w : World) (mg : Str → Option Value) (fa : Addr) (h : Heap), (K w.params).In h → h.Ns mainGlobals mg → mg d.name = some (.ref fa) →
      ∃ fd : FuncData, (∀ (s : Shared) (u : Value), BindsTo s fd ⟨[u], []⟩ [("script", u)]) ∧ ∀ base : Heap, (K w.params).In base → base.Ns mainGlobals mg → FnG l.prog w (K w.params) mg base L fa fd ["script"] (spF ⟨K w.params, mg, l.prog, w⟩ 1 false g))
    (hL : ∀ ns : List Int, ns.length ≤ 63 → ∃ st, g [.frg (ns.map D.int)] [] = .ok (.bl true) st) :
    PySem.W.WalkO q loose XP YP l.row.toRowW d [] (fun f vs => PySem.call f vs) := by
  refine Att.attach_call hn hdf ?_
  intro w s₀ s mg mb fa o pm cd doc a vs ns G Y ho hd hcd hmg hobj hints hlen hgen
  have inK := hY w _ Y
  obtain ⟨fd, bind, FF⟩ := F w mg fa _ inK G.T.g hmg
  have rvs := vals_ints hints
  have lv := hints.length
  have big : ns.length ≤ sizeLine := Nat.le_trans hlen (by decide)
  have main : ∀ H : Hp, Only H → SqL (K w.params) H a (ns.map V.int) → HOk l.prog w H s.heap → (∀ b, H b ≠ none → b = a) → (H a ≠ none → (K w.params).lookup a = none) →
      codeAny (model l.prog w) callerA (.call (.ref fa) ⟨[.ref a], []⟩) (fun r s' => r = .ok (.ret (.bool true)) ∧ OldK s.heap s'.heap ∧ s'.os = s.os ∧ AllBare s'.gens) s := by
    intro H only sq hok one out
    obtain ⟨b1, b2, e0⟩ := entry_env (w := w) inK G.T.g G.T.b G.T.builtins G.T.nolimit hgen hobj (fun _ _ z => by cases z) hok one out
    have spec := spL_spF (G := ⟨K w.params, mg, l.prog, w⟩) hL [.ref a] H (fun v _ => v = .bl true) (fun _ _ _ => False) ⟨a, ns, rfl, hlen, only, sq, fun _ => rfl⟩
    refine codeAny_mono ((FF _ b1 b2).go callerA hr rfl [] s H ⟨[.ref a], []⟩ [.ref a] [.ref a] _ _ e0 (bind s (.ref a)) (.cons rfl .nil) spec) ?_
    rintro (e | fl) s' z
    · obtain ⟨_, _, _, _, _, _, _, _, _, _, _, _, f⟩ := z
      exact f.elim
    · cases fl with
      | ret u =>
        obtain ⟨v, H', os, bare, un, hok', rv, qv⟩ := z
        obtain rfl : v = .bl true := qv
        obtain rfl : u = Value.bool true := rv
        refine ⟨rfl, .of_keep ?_, os, bare⟩
        intro b ob eb
        rcases only b with z | ⟨of, xs, z⟩
        · exact un.keep b ob eb z (fun m => (nomatch m)) (by simp)
        · have e1 := (hok b _ z).1
          rw [eb] at e1
          cases e1
          exact (hok' b _ (un.frzs b ob _ z)).1
      | _ => exact (show False from z).elim
  cases hk : (K w.params).lookup a with
  | none =>
    refine main (fun b => if b = a then some (.frz { cls := .type "list", data := .seq vs.toArray } (.lst (ns.map V.int))) else none) ?_ (.inl (.inr ⟨_, if_pos rfl⟩)) ?_ ?_ (fun _ => hk)
    · intro b
      by_cases z : b = a
      · exact .inr ⟨_, _, if_pos z⟩
      · exact .inl (if_neg z)
    · intro b u z
      by_cases e : b = a
      · cases (if_pos e).symm.trans z
        rw [e]
        exact ⟨hobj, by rw [List.length_map]; exact big, vs, _, rvs, hobj⟩
      · cases (if_neg e).symm.trans z
    · intro b z
      by_cases e : b = a
      · exact e
      · exact absurd (if_neg e) z
  | some ob =>
    have e := inK a ob hk
    rw [hobj] at e
    cases e
    exact main (fun _ => none) (fun _ => .inl rfl) (.inr ⟨_, vs.toArray, _, hk, rfl, rfl, rfl, by rw [List.size_toArray, lv]; exact big, by simpa using rvs⟩) (fun b u z => nomatch z) (fun b z => absurd rfl z) fun z => absurd rfl z
end Sm

/-! Sim37: tuples turned about, tuples many times. -/
namespace Sm
open PySem L2 PySem.Spec PyProof.Rows HT
section
variable {prog : Program} {w : World} {A : Around} {E : Value → Shared → Prop} {s : Shared}
theorem sliceApplied_rev {sl : Addr} {vs : Value} {n : Nat} {Q : Int × Int × Nat → Shared → Prop} (hs : s.heap.IsSliceOf sl .none .none vs) (ps : IsPart vs (some (-1)))
    (h : Q ((n : Int) - 1, -1, n) s) : wpAny (model prog w) A (Builtin.Slice.sliceApplied (.ref sl) (pure (n : Int))) Q E s := by
  obtain ⟨os, hos, hcs, hds⟩ := id hs
  unfold Builtin.Slice.sliceApplied Builtin.Slice.sliceFields
  refine wpAny_bind (wpAny_bind (wpAny_field hos hds (x := .none) rfl (wpAny_bind (wpAny_field hos hds (x := .none) rfl (wpAny_bind (wpAny_field hos hds (x := vs) rfl (wpAny_pure ?_)))))))
  refine wpAny_bind (slicePart_ ps ?_)
  show wpAny _ _ (if ((-1 : Int) == 0) = true then _ else _) _ _ s
  rw [if_neg (by decide)]
  refine wpAny_bind (slicePart_none (wpAny_bind (slicePart_none (wpAny_bind (wpAny_pure ?_)))))
  show wpAny _ _ (match Builtin.Slice.sliceAdjust none none (-1) (n : Int) with | (lo, hi) => pure (lo, (-1 : Int), Builtin.Slice.slicePlaces lo hi (-1))) _ _ s
  have e : Builtin.Slice.sliceAdjust none none (-1) (n : Int) = ((n : Int) - 1, -1) := by
    unfold Builtin.Slice.sliceAdjust
    simp
  have e2 : Builtin.Slice.slicePlaces ((n : Int) - 1) (-1) (-1) = n := by
    unfold Builtin.Slice.slicePlaces
    have h1 : ¬ ((-1 : Int) > 0) := by omega
    simp only [h1, if_false, show (- -1 : Int) = 1 from rfl, Int.ediv_one]
    split <;> omega
  rw [e]
  show wpAny _ _ (pure ((n : Int) - 1, (-1 : Int), Builtin.Slice.slicePlaces ((n : Int) - 1) (-1) (-1))) _ _ s
  rw [e2]
  exact wpAny_pure h
theorem pick_rev (xs : Array Value) : ((List.range xs.size).filterMap fun (m : Nat) => xs[(((xs.size : Int) - 1) + (m : Int) * (-1)).toNat]?).toArray = xs.toList.reverse.toArray := by
  have e : (fun (m : Nat) => xs[(((xs.size : Int) - 1) + (m : Int) * (-1)).toNat]?) = fun m => xs[xs.size - 1 - m]? := by
    funext m
    have : (((xs.size : Int) - 1) + (m : Int) * (-1)).toNat = xs.size - 1 - m := by omega
    rw [this]
  rw [e]
  have := PySem.W.krv_range xs.size
  have h2 : ((List.range xs.size).filterMap fun (m : Nat) => xs[xs.size - 1 - m]?) = ((List.range xs.size).map fun k => xs.size - 1 - k).filterMap (xs[·]?) := by rw [List.filterMap_map]; rfl
  rw [h2, this, List.filterMap_reverse, PySem.W.krv_all]
theorem getItem_tuple_rev {t sl : Addr} {items : Array Value} {vs : Value} {Q : Value → Shared → Prop} (ht : IsTup s.heap t items) (hs : s.heap.IsSliceOf sl .none .none vs) (ps : IsPart vs (some (-1)))
    (h : Q (.ref s.heap.objs.size) { s with heap := s.heap.push { cls := .type "tuple", data := .seq items.toList.reverse.toArray } })
    (hsz : items.size ≤ sizeLine) : wpAny (model prog w) A (getItem (.ref t) (.ref sl)) Q E s := by
  have htake : sizeOk (.seq items.toList.reverse.toArray) := by
    show items.toList.reverse.toArray.size ≤ sizeLine
    rw [List.size_toArray, List.length_reverse, Array.length_toList]
    omega
  obtain ⟨os, hos, hcs, hds⟩ := id hs
  have hTs : s.TypeIs (.ref sl) "slice" := ⟨os, hos, hcs⟩
  unfold getItem
  try with_reducible refine wpAny_holding ?_
  first | refine wpAny_bind (wpAny_pure ?_) | skip
  refine wpAny_bind (wpAny_sequenceKey ht.typeIs (by decide) ?_)
  refine wpAny_bind (wpAny_callSpecial?_slot (name := Str.ofString "__getitem__") ht.typeIs PyProof.Rows.slot_tuple_getitem
    (wpAny_call_entry PyProof.Rows.slot_tuple_getitem ht.typeIs entry_tuple_getitem ?_ (args_tuple_getitem _ _)))
  show wpAny _ _ (Builtin.Tuple.tupleItemsOf (.ref t) >>= _) _ _ s
  refine wpAny_bind (tupleItemsOf_ ht ?_)
  refine wpAny_bind (wpAny_typeOf hTs ?_)
  rw [if_pos (by decide)]
  refine wpAny_bind (sliceApplied_rev hs ps ?_)
  show wpAny _ _ (if (((items.size : Int) - 1) == 0 && (-1 : Int) == 1 && items.size == items.size) = true then _ else _) _ _ s
  rw [if_neg (by simp), pick_rev]
  first
    | exact wpAny_bind (m := Builtin.Tuple.tupleExact _) (wpAny_newObj_type (wpAny_pure ⟨_, rfl, wpAny_pure h⟩) htake)
    | exact wpAny_bind (m := Builtin.Tuple.tupleExact _) (wpAny_newObj_type (wpAny_bind (wpAny_pure (wpAny_pure ⟨_, rfl, wpAny_pure h⟩))) htake)
    | exact wpAny_bind (wpAny_bind (m := Builtin.Tuple.tupleExact _) (wpAny_newObj_type (wpAny_pure (wpAny_pure ⟨_, rfl, wpAny_pure h⟩)) htake))
    | exact wpAny_bind (wpAny_bind (m := Builtin.Tuple.tupleExact _) (wpAny_newObj_type (wpAny_pure ⟨_, rfl, wpAny_pure h⟩) htake))
end
section
variable {X : Cx} {B : Bs} {Wx : WX} {a b : Expr} {f g : Ev} {pos : Pos}
def tRevA (K : PySem.W.Frag) (te : TE) : TE := fun σ H Q => te σ H fun x H1 => ∃ a xs, x = .ref a ∧ ((SqL K H1 a xs ∧ ∀ p, H1 p = none → Q (.ref p) (upd H1 p (.lst xs.reverse))) ∨ (SqT K H1 a xs ∧ ∀ p, H1 p = none → Q (.ref p) (upd H1 p (.tup xs.reverse))))
theorem pe_revA {e : Expr} {te : TE} {k : Nat} {p1 p2 p3 pos : Pos} (he : PE X e te) : PE X (.Subscript e (.Slice none none (some (.UnaryOp .USub (.Constant (.int 1) k p1) p2)) p3) pos) (tRevA X.K te) := by
  refine ⟨fun pins s σ H Q I h => ?_⟩
  refine Subscript_ (thn (he.run pins s σ H _ I h) fun v s1 ⟨x, H1, I1, r1, q1⟩ => ?_)
  obtain ⟨a, xs, ex, q⟩ := q1
  subst ex
  cases r1
  have hst : PO X (some (.UnaryOp .USub (.Constant (.int 1) k p1) p2)) (tPart (tUn (rU fun i => .int (-i)) (tC (.int 1)))) := po_some (pe_un un_neg pe_int)
  refine wpAny_Slice (thn (po_none.run pins s1 σ H1 (fun o H2 => o = none ∧ H2 = H1) I1 ⟨rfl, rfl⟩) fun vl s2 ⟨l, H2, I2, pl, el, e2⟩ => ?_)
  subst el e2
  refine thn (po_none.run pins s2 σ H2 (fun o H3 => o = none ∧ H3 = H2) I2 ⟨rfl, rfl⟩) fun vu s3 ⟨u, H3, I3, pu, eu, e3⟩ => ?_
  subst eu e3
  refine thn (hst.run pins s3 σ H3 (fun o H4 => o = some (-1) ∧ H4 = H3) I3 ⟨1, rfl, -1, rfl, rfl, rfl⟩) fun vs s4 ⟨o, H4, I4, ps, eo, e4⟩ => ?_
  subst eo e4
  have I5 : Inv X pins σ H4 { s4 with heap := s4.heap.push { cls := .type "slice", data := .fields #[vl, vu, vs] } } := I4.kept (t' := s4.toks) fun b ob q => Heap.get?_push_of_some _ q
  have hsub : subscripted (.Slice none none (some (.UnaryOp .USub (.Constant (.int 1) k p1) p2)) p3) false (.ref a) (.ref s4.heap.objs.size) = operate [.ref a, .ref s4.heap.objs.size] (getItem (.ref a) (.ref s4.heap.objs.size)) := by with_unfolding_all rfl
  rcases q with ⟨hx, q⟩ | ⟨hx, q⟩
  · obtain ⟨its, r, ht, hz⟩ := I5.list hx
    have hlen := r.length
    show wpAny (model X.prog X.w) X.A (subscriptTail e (.Slice none none (some (.UnaryOp .USub (.Constant (.int 1) k p1) p2)) p3) (.ref a) (.ref s4.heap.objs.size)) (EP X pins σ Q) X.xe { s4 with heap := s4.heap.push { cls := .type "slice", data := .fields #[vl, vu, vs] } }
    refine tail_any (ops := [.ref a, .ref s4.heap.objs.size]) ht.isList.typeIs (PySem.slot_list_getitem.lookup) ?_ hsub
    refine wpAny_getItem_list_slice ht.isList (Heap.IsSliceOf.new _ vl vu vs) pl pu ps (by decide) ?_ (by rw [List.size_toArray]; omega)
    rw [PySem.W.krv_pick]
    refine ⟨.ref _, _, I5.laid (t' := s4.toks) (o := .lst xs.reverse) (fun b ob q => Heap.get?_push_of_some _ q) (Nat.le_refl _) ?_, rfl, q _ (I5.hok.fresh (Nat.le_refl _))⟩
    exact ⟨by rw [List.length_reverse]; exact hz, _, 0, r.reverse, Heap.get?_push_size _ rfl⟩
  · obtain ⟨its, r, ht, hz⟩ := I5.tuple hx
    have hlen := r.length
    cases pl
    cases pu
    show wpAny (model X.prog X.w) X.A (subscriptTail e (.Slice none none (some (.UnaryOp .USub (.Constant (.int 1) k p1) p2)) p3) (.ref a) (.ref s4.heap.objs.size)) (EP X pins σ Q) X.xe { s4 with heap := s4.heap.push { cls := .type "slice", data := .fields #[.none, .none, vs] } }
    refine tail_any (ops := [.ref a, .ref s4.heap.objs.size]) ht.typeIs (PyProof.Rows.slot_tuple_getitem.lookup) ?_ ?_
    rotate_left
    · exact hsub
    refine getItem_tuple_rev ht (Heap.IsSliceOf.new _ .none .none vs) ps ?_ (by rw [List.size_toArray]; omega)
    refine ⟨.ref _, _, I5.laid (t' := s4.toks) (o := .tup xs.reverse) (fun b ob q => Heap.get?_push_of_some _ q) (Nat.le_refl _) ?_, rfl, q _ (I5.hok.fresh (Nat.le_refl _))⟩
    exact ⟨by rw [List.length_reverse]; exact hz, _, r.reverse, IsTup.new _ _⟩
/-- a list, a tuple turned about -/
def bRevA (f : Ev) : Ev := fun r st => (f r st).bind fun d st1 => match der st1 d with
  | .lst ds => .ok (.lst ds.reverse) st1
  | .tup ds => .ok (.tup ds.reverse) st1
  | _ => .bad
theorem je_revA {k : Nat} {p1 p2 p3 : Pos} (ha : JE X B .bo Wx a f) : JE X B .sh Wx (.Subscript a (.Slice none none (some (.UnaryOp .USub (.Constant (.int 1) k p1) p2)) p3) pos) (bRevA f) := by
  refine pe_imp (pe_revA ha) ?_
  rintro s H Q ⟨O, r, st, w, rfl, R, q⟩
  refine ⟨O, r, st, w, rfl, R, (post.bind q).mono ?_⟩
  rintro v H1 ⟨d1, st1, w1, rfl, R1, x1, rr1, q1⟩
  have h := rr1.q.der R1.sto
  cases z : der st1 d1 with
  | lst ds =>
    rw [z] at h
    simp only [z] at q1
    obtain ⟨p, vs, rfl, t, r⟩ := h.lst
    exact ⟨p, vs, rfl, .inl ⟨.of t, fun p2 hp => post.new R1 x1 q1 hp fun w' i k => rdL i (RDs.rev (RDs.wk k _ _ r))⟩⟩
  | tup ds =>
    rw [z] at h
    simp only [z] at q1
    obtain ⟨p, vs, rfl, t, r⟩ := h.tup
    exact ⟨p, vs, rfl, .inr ⟨t, fun p2 hp => post.new R1 x1 q1 hp fun w' i k => rdT i (RDs.rev (RDs.wk k _ _ r))⟩⟩
  | _ => simp only [z] at q1; exact q1.elim
def opRepT : D → D → Sto → Rs
  | .tup ds, .int k, st => if ds ≠ [] ∧ (2 ≤ k ∧ k ≤ 1000) ∧ ds.length ≤ 1000 then .ok (.tup (List.replicate k.toNat ds).flatten) st else .bad
  | _, _, _ => .bad
theorem rds_rep {G : Cfg} {w : Wd} {ds : List D} {vs : List V} (h : RDs G w ds vs) : ∀ k : Nat, RDs G w (List.replicate k ds).flatten (List.replicate k vs).flatten
  | 0 => by simp only [List.replicate, List.flatten]; unfold RDs; rfl
  | k + 1 => by
    simp only [List.replicate, List.flatten]
    exact RDs.append h (rds_rep h k)
theorem sem_repT : SemOp X B .sh Wx opRepT (rRepT X.K) := by
  intro O e s w0 w a b x y st Q R xt ra rb q
  cases a with
  | tup ds =>
    cases b with
    | int k =>
      obtain ⟨p, vs, rfl, t, r⟩ := ra.tup
      have hv := rb.int
      subst hv
      have hl := RDs.length r
      have q : post (cg X) B .sh Wx O e s w0 (if ds ≠ [] ∧ (2 ≤ k ∧ k ≤ 1000) ∧ ds.length ≤ 1000 then .ok (.tup (List.replicate k.toNat ds).flatten) st else .bad) Q := q
      by_cases z : ds ≠ [] ∧ (2 ≤ k ∧ k ≤ 1000) ∧ ds.length ≤ 1000
      · rw [if_pos z] at q
        refine ⟨p, k, vs, rfl, rfl, t, fun e => z.1 (r.nil_of e), z.2.1.1, z.2.1.2, hl ▸ z.2.2, fun p2 hp => post.new R xt q hp fun w' i k2 => ?_⟩
        exact rdT i (rds_rep (RDs.wk k2 _ _ r) k.toNat)
      · rw [if_neg z] at q
        exact q.elim
    | _ => exact (show False from q).elim
  | _ => exact (show False from q).elim
theorem je_repT (ha : JE X B .bo Wx a f) (hb : JE X B .bo Wx b g) : JE X B .sh Wx (.BinOp a .Mult b pos) (bBin opRepT f g) := je_bin op_repT sem_repT ha hb
variable {r : Env} {st : Sto} {Q : D → Sto → Prop} {E : Str → Option (Str × D) → Sto → Prop}
theorem w_revA : RsP (bRevA f r st) Q E = RsP (f r st) (fun d st1 => derP st1 d fun d' => match d' with | .lst ds => Q (.lst ds.reverse) st1 | .tup ds => Q (.tup ds.reverse) st1 | _ => False) E := by
  unfold bRevA
  rw [w_bind]
  congr 1; funext d st1
  show _ = (match der st1 d with | .lst ds => Q (.lst ds.reverse) st1 | .tup ds => Q (.tup ds.reverse) st1 | _ => False)
  cases der st1 d <;> rfl
theorem o_repT {xs : List D} {k : Int} : RsP (opRepT (.tup xs) (.int k) st) Q E = ((xs ≠ [] ∧ (2 ≤ k ∧ k ≤ 1000) ∧ xs.length ≤ 1000) ∧ Q (.tup (List.replicate k.toNat xs).flatten) st) := by
  show RsP (if xs ≠ [] ∧ (2 ≤ k ∧ k ≤ 1000) ∧ xs.length ≤ 1000 then .ok _ st else .bad) Q E = _
  by_cases z : xs ≠ [] ∧ (2 ≤ k ∧ k ≤ 1000) ∧ xs.length ≤ 1000
  · rw [if_pos z]
    show Q _ _ = _
    simp only [z, true_and, ne_eq, not_false_iff, and_true]
  · rw [if_neg z]
    show False = _
    refine propext ⟨False.elim, fun h => z h.1⟩
end
end Sm

/-! Sim38: dicts whose keys are numbers and texts. -/
namespace Sm
open PySem L2 PyProof.Rows
def kOf : D → Option Key
  | .int i => some (.inl i)
  | .str x => some (.inr x)
  | _ => none
def DKs (ks : List D) : Bool := ks.all fun d => (kOf d).isSome
theorem kOf_kD {k : Key} : kOf (kD k) = some k := by cases k <;> rfl
theorem kOf_eq {d : D} {k : Key} (h : kOf d = some k) : d = kD k := by
  cases d <;> simp only [kOf, Option.some.injEq, reduceCtorEq] at h
  · subst h; rfl
  · subst h; rfl
theorem kOf_V {G : Cfg} {w : Wd} {d : D} {k : Key} {v : V} (h : kOf d = some k) (r : RQ G w d v) : v = kV k := by
  have e := kOf_eq h
  subst e
  cases k with
  | inl i => exact r.int
  | inr x => exact r.str
theorem DcO.k {G : Cfg} {ks : List D} {vs : List V} {o : HO} (h : DcO G ks vs o) (hk : DKs ks = true) : ∃ kvs : List (Key × V), o = .dK kvs ∧ ks = kvs.map (fun p => kD p.1) ∧ vs = kvs.map (·.2) := by
  rcases h with h | ⟨kvs, rfl, rfl, _⟩
  · exact h
  · simp [DKs, kOf] at hk
theorem RQ.dct {G : Cfg} {w : Wd} {ks ds : List D} {v : V} (h : RQ G w (.dct ks ds) v) : ∃ a vs o, v = .ref a ∧ Rd w.H a o ∧ DcO G ks vs o ∧ RDs G w ds vs := by
  rcases h with h | ⟨a, rfl, c⟩
  · unfold RD at h
    obtain ⟨a, vs, rfl, ⟨o, ob, i, q⟩, r⟩ := h
    exact ⟨a, vs, o, rfl, .inr ⟨ob, i.1⟩, q, r⟩
  · obtain ⟨o, vs, e, q, r⟩ := c
    exact ⟨a, vs, o, rfl, .inl e, q, r⟩
theorem RQ.dk {G : Cfg} {w : Wd} {ks ds : List D} {v : V} (h : RQ G w (.dct ks ds) v) (hk : DKs ks = true) : ∃ a kvs, v = .ref a ∧ Rd w.H a (.dK kvs) ∧ ks = kvs.map (fun p => kD p.1) ∧ RDs G w ds (kvs.map (·.2)) := by
  obtain ⟨a, vs, o, rfl, e, q, r⟩ := h.dct
  obtain ⟨kvs, rfl, e1, rfl⟩ := q.k hk
  exact ⟨a, kvs, rfl, e, e1, r⟩
def dgetL (ks ds : List D) (k : Key) : Option D := ((ks.zip ds).find? fun p => decide (kOf p.1 = some k)).map (·.2)
def dputK (ks : List D) (k : Key) : List D := if (ks.any fun a => decide (kOf a = some k)) = true then ks else ks ++ [kD k]
def dputV (ks ds : List D) (k : Key) (d : D) : List D := if (ks.any fun a => decide (kOf a = some k)) = true then (ks.zip ds).map (fun p => if kOf p.1 = some k then d else p.2) else ds ++ [d]
theorem get_rds {G : Cfg} {w : Wd} {k : Key} : ∀ {kvs : List (Key × V)} {ds : List D}, RDs G w ds (kvs.map (·.2)) →
    (∀ d, dgetL (kvs.map fun p => kD p.1) ds k = some d → ∃ v, valV kvs k = some v ∧ RD G w d v) ∧ (dgetL (kvs.map fun p => kD p.1) ds k = none → valV kvs k = none)
  | [], ds, h => ⟨fun d e => by simp [dgetL] at e, fun _ => rfl⟩
  | p :: kvs, [], h => by unfold RDs at h; cases h
  | p :: kvs, d :: ds, h => by
    unfold RDs at h
    obtain ⟨v, r, e, h1, h2⟩ := h
    simp only [List.map_cons, List.cons.injEq] at e
    obtain ⟨rfl, rfl⟩ := e
    have ih := get_rds (k := k) h2
    by_cases z : p.1 = k
    · have e1 : dgetL ((p :: kvs).map fun p => kD p.1) (d :: ds) k = some d := by simp [dgetL, List.find?_cons, kOf_kD, z]
      rw [e1, valV_pos z]
      exact ⟨fun d' q => by cases q; exact ⟨_, rfl, h1⟩, fun q => by cases q⟩
    · have e1 : dgetL ((p :: kvs).map fun p => kD p.1) (d :: ds) k = dgetL (kvs.map fun p => kD p.1) ds k := by simp [dgetL, List.find?_cons, kOf_kD, z]
      rw [e1, valV_neg z]
      exact ih
theorem any_kD {kvs : List (Key × V)} {k : Key} : ((kvs.map fun p => kD p.1).any fun a => decide (kOf a = some k)) = kvs.any fun kv => decide (kv.1 = k) := by
  rw [List.any_map]
  congr 1; funext p
  simp [kOf_kD]
theorem put_rds {G : Cfg} {w : Wd} {k : Key} {d : D} {v : V} {kvs : List (Key × V)} {ds : List D} (h : RDs G w ds (kvs.map (·.2))) (q : RD G w d v) :
    RDs G w (dputV (kvs.map fun p => kD p.1) ds k d) ((putK kvs k v).map (·.2)) ∧ dputK (kvs.map fun p => kD p.1) k = (putK kvs k v).map fun p => kD p.1 := by
  unfold dputV dputK putK
  rw [any_kD]
  by_cases z : (kvs.any fun kv => decide (kv.1 = k)) = true
  · rw [if_pos z, if_pos z, if_pos z]
    constructor
    · rw [List.map_map]
      clear z
      induction kvs generalizing ds with
      | nil => simp; unfold RDs; rfl
      | cons p kvs ih =>
        cases ds with
        | nil => unfold RDs at h; cases h
        | cons a ds =>
          unfold RDs at h
          obtain ⟨u, r, e, h1, h2⟩ := h
          simp only [List.map_cons, List.cons.injEq] at e
          obtain ⟨rfl, rfl⟩ := e
          simp only [List.map_cons, List.zip_cons_cons, kOf_kD, Option.some.injEq, Function.comp]
          unfold RDs
          refine ⟨_, _, rfl, ?_, ih h2⟩
          by_cases z : p.1 = k
          · simp only [z, if_true]; exact q
          · simp only [z, if_false]; exact h1
    · rw [List.map_map]
      apply List.map_congr_left
      intro p _
      simp only [Function.comp]
      split <;> rfl
  · rw [if_neg z, if_neg z, if_neg z]
    refine ⟨?_, by simp⟩
    rw [List.map_append]
    exact RDs.append h (RDs.one q)
/-! ### looked at -/
def opDget : D → D → Sto → Rs
  | .dct ks ds, j, st => match kOf j with
    | some k => if DKs ks = true then (match dgetL ks ds k with | some d => .ok d st | none => .bad) else .bad
    | none => .bad
  | _, _, _ => .bad
def opInK (neg : Bool) (a b : D) (st : Sto) : Rs := match b with
  | .dct ks ds => (match kOf a with
    | some k => if DKs ks = true then .ok (.bl (neg ^^ (dgetL ks ds k).isSome)) st else .bad
    | none => .bad)
  | _ => .bad
def rInK (neg : Bool) : R2 := fun x y H Q => ∃ a o, y = .ref a ∧ DGet H a x o ∧ Q (.bl (neg ^^ o.isSome)) H
section
variable {X : Cx} {B : Bs} {Wx : WX} {a b c : Expr} {f g h : Ev} {pos : Pos}
theorem op_inK (hu : X.A.units + 1 < cLine) : OpR X (compareOp .In) (rInK false) := by
  intro pins s σ H x y v u Q I rx ry q
  obtain ⟨a, o, rfl, gt, q⟩ := q
  obtain rfl : u = Value.ref a := ry
  exact d_in hu I gt rx fun s1 I1 => ⟨.bl o.isSome, H, I1, rfl, by simpa using q⟩
theorem op_notInK (hu : X.A.units + 1 < cLine) : OpR X (compareOp .NotIn) (rInK true) := by
  intro pins s σ H x y v u Q I rx ry q
  obtain ⟨a, o, rfl, gt, q⟩ := q
  obtain rfl : u = Value.ref a := ry
  exact d_notIn hu I gt rx fun s1 I1 => ⟨.bl (!o.isSome), H, I1, rfl, by simpa using q⟩
theorem dget_of {G : Cfg} {w : Wd} {ks ds : List D} {x v : V} {d : D} {k : Key} (rd : RQ G w (.dct ks ds) v) (hk : DKs ks = true) (ek : kOf d = some k) (rk : RQ G w d x) :
    ∃ a o, v = .ref a ∧ DGet w.H a x o ∧ (∀ d', dgetL ks ds k = some d' → ∃ u, o = some u ∧ RD G w d' u) ∧ (dgetL ks ds k = none → o = none) := by
  obtain ⟨a, kvs, rfl, e, rfl, r⟩ := rd.dk hk
  have ev := kOf_V ek rk
  subst ev
  obtain ⟨h1, h2⟩ := get_rds (k := k) r
  exact ⟨a, valV kvs k, rfl, .inl ⟨kvs, k, e, rfl, rfl⟩, h1, h2⟩
theorem sem_inK {neg : Bool} : SemOp X B .sh Wx (opInK neg) (rInK neg) := by
  intro O e s w0 w a b x y st Q R xt ra rb q
  cases b with
  | dct ks ds =>
    have q : post (cg X) B .sh Wx O e s w0 (match kOf a with | some k => if DKs ks = true then .ok (.bl (neg ^^ (dgetL ks ds k).isSome)) st else .bad | none => .bad) Q := q
    cases ek : kOf a with
    | none => rw [ek] at q; exact q.elim
    | some k =>
      simp only [ek] at q
      by_cases hk : DKs ks = true
      · rw [if_pos hk] at q
        obtain ⟨p, o, rfl, gt, h1, h2⟩ := dget_of rb hk ek ra
        refine ⟨p, o, rfl, gt, ?_⟩
        have eo : o.isSome = (dgetL ks ds k).isSome := by
          cases z : dgetL ks ds k with
          | none => rw [h2 z]; rfl
          | some d' => obtain ⟨u, rfl, _⟩ := h1 d' z; rfl
        rw [eo]
        exact post.val R xt q rdB
      · rw [if_neg hk] at q; exact q.elim
  | _ => exact (show False from q).elim
theorem jc_inK (hu : X.A.units + 64 < cLine) : JC X B Wx .In (opInK false) := ⟨_, op_inK (by omega), sem_inK⟩
theorem jc_notinK (hu : X.A.units + 64 < cLine) : JC X B Wx .NotIn (opInK true) := ⟨_, op_notInK (by omega), sem_inK⟩
theorem je_dget (hu : X.A.units + 64 < cLine) (ha : JE X B .bo Wx a f) (hb : JE X B .bo Wx b g) (hs : NoSl b := by intro _ _; rfl) : JE X B .sh Wx (.Subscript a b pos) (bBin (drOp opDget) f g) := by
  refine pe_imp (pe_dget (pos := pos) (by omega) ha hb hs) ?_
  rintro s H Q ⟨O, e, st, w, rfl, R, q⟩
  refine ⟨O, e, st, w, rfl, R, (post.bind q).mono ?_⟩
  rintro v H1 ⟨d1, st1, w1, rfl, R1, x1, rr1, q1⟩
  refine ⟨O, e, st1, w1, rfl, R1, (post.bind (q1.rebase x1)).mono ?_⟩
  rintro v2 H2 ⟨d2, st2, w2, rfl, R2, x2, rr2, q2⟩
  have ra := ((rr1.ext R1.wf x2).q).der R2.sto
  have rb := (rr2.q).der R2.sto
  unfold drOp at q2
  cases z : der st2 d1 with
  | dct ks ds =>
    rw [z] at q2 ra
    have q3 : post (cg X) B .sh Wx O e s w1 (match kOf (der st2 d2) with | some k => if DKs ks = true then (match dgetL ks ds k with | some d => .ok d st2 | none => .bad) else .bad | none => .bad) Q := q2
    cases ek : kOf (der st2 d2) with
    | none => rw [ek] at q3; exact q3.elim
    | some k =>
      simp only [ek] at q3
      by_cases hk : DKs ks = true
      · rw [if_pos hk] at q3
        obtain ⟨p, o, rfl, gt, h1, h2⟩ := dget_of ra hk ek rb
        cases zd : dgetL ks ds k with
        | none => rw [zd] at q3; exact q3.elim
        | some d' =>
          rw [zd] at q3
          obtain ⟨u, rfl, ru⟩ := h1 d' zd
          exact ⟨p, u, rfl, gt, q3 w2 u R2 x2 ru⟩
      · rw [if_neg hk] at q3; exact q3.elim
  | _ => rw [z] at q2; exact (show False from q2).elim
/-- d.get(k, x) -/
def isDK (st : Sto) (a : D) : Bool := match der st a with | .dct ks _ => DKs ks | _ => false
def getD (a j z : D) (st : Sto) : Rs := match der st a with
  | .dct ks ds => (match kOf j with
    | some k => if DKs ks = true then .ok ((dgetL ks ds k).getD z) st else .bad
    | none => .bad)
  | _ => .bad
def bDget2 (f g h : Ev) : Ev := fun r st => (f r st).bind fun a st1 => if isDK st1 a = true then (g r st1).bind fun j st2 => (h r st2).bind fun z st3 => getD a j z st3 else .bad
theorem je_dget2 {apos : Pos} (hu : X.A.units + 64 < cLine) (ha : JE X B .bo Wx a f) (hb : JE X B .sh Wx b g) (hc : JE X B .sh Wx c h)
    (m : M2 X a "get" apos b c pos := by exact ⟨by rfl, by rfl, by rfl, by rfl⟩) : JE X B .sh Wx (.Call (.Attribute a "get" apos) [b, c] [] pos) (bDget2 f g h) := by
  refine pe_imp (pe_dget2 (by omega) ha hb hc m) ?_
  rintro s H Q ⟨O, e, st, w, rfl, R, q⟩
  refine ⟨O, e, st, w, rfl, R, (post.bind q).mono ?_⟩
  rintro v H1 ⟨d1, st1, w1, rfl, R1, x1, rr1, q1⟩
  have ra1 := (rr1.q).der R1.sto
  by_cases hz : isDK st1 d1 = true
  · rw [if_pos hz] at q1
    unfold isDK at hz
    cases z1 : der st1 d1 with
    | dct ks1 ds1 =>
      rw [z1] at hz ra1
      obtain ⟨p, kvs, rfl, e1, _⟩ := ra1.dk hz
      refine ⟨p, rfl, .inl ⟨kvs, e1⟩, O, e, st1, w1, rfl, R1, (post.bind (q1.rebase x1)).mono ?_⟩
      rintro v2 H2 ⟨d2, st2, w2, rfl, R2, x2, rr2, q2⟩
      refine ⟨O, e, st2, w2, rfl, R2, (post.bind (q2.rebase x2)).mono ?_⟩
      rintro v3 H3 ⟨d3, st3, w3, rfl, R3, x3, rr3, q3⟩
      have ra := (((rr1.ext R1.wf x2).ext R2.wf x3).q).der R3.sto
      have rb : RQ (cg X) w3 d2 v2 := .inl (RD.wk (x3.wk R2.wf) _ _ rr2)
      unfold getD at q3
      cases z : der st3 d1 with
      | dct ks ds =>
        rw [z] at q3 ra
        cases ek : kOf d2 with
        | none => rw [ek] at q3; exact q3.elim
        | some k =>
          simp only [ek] at q3
          by_cases hk : DKs ks = true
          · rw [if_pos hk] at q3
            obtain ⟨p', o, ep, gt, h1, h2⟩ := dget_of ra hk ek rb
            cases ep
            refine ⟨o, gt, ?_⟩
            cases zd : dgetL ks ds k with
            | none =>
              rw [zd] at q3
              rw [h2 zd]
              exact q3 w3 v3 R3 x3 rr3
            | some d' =>
              rw [zd] at q3
              obtain ⟨u, rfl, ru⟩ := h1 d' zd
              exact q3 w3 u R3 x3 ru
          · rw [if_neg hk] at q3; exact q3.elim
      | _ => rw [z] at q3; exact (show False from q3).elim
    | _ => rw [z1] at hz; cases hz
  · rw [if_neg hz] at q1; exact q1.elim
end
end Sm

/-! Sim39: dicts: made, put into, walked, sorted, min, max. -/
namespace Sm
open PySem L2 PyProof.Rows
section
variable {X : Cx} {B : Bs} {k : Kd} {fr : Bool} {Wx : WX} {a b c tg iter : Expr} {f g h : Ev} {pos : Pos}
def bDct0 : Ev := fun _ st => .ok (.dct [] []) st
theorem je_dct0 : JE X B .fr Wx (.Dict [] [] pos) bDct0 := by
  refine pe_imp pe_dnewK ?_
  rintro s H Q ⟨O, r, st, w, rfl, R, q⟩ p hp
  exact post.own R (Ext.refl w) q hp fun w' e k => ⟨.dK [], [], e, .inl ⟨[], rfl, rfl, rfl⟩, by unfold RDs; rfl⟩
def bDct1 (f g : Ev) : Ev := fun r st => (f r st).bind fun j st1 => (g r st1).bind fun d st2 => match kOf j with
  | some k => .ok (.dct [kD k] [d]) st2
  | none => .bad
theorem je_dct1 (ha : JE X B .sh Wx a f) (hb : JE X B .sh Wx b g) : JE X B .fr Wx (.Dict [some a] [b] pos) (bDct1 f g) := by
  refine pe_imp (pe_disp (pos := pos) (pps_cons ha hb pps_nil) rfl rfl (by simp) (Nat.le_of_ble_eq_true rfl)) ?_
  rintro s H Q ⟨O, r, st, w, rfl, R, q⟩ p hp
  have R0 := R.add (p := p) (o := .dK []) (b := true) hp
  have x0 : Ext w (w.add p (.dK []) true) := Wd.add_ext hp
  have np : p ∉ w.u := fun m => R.wf.mh p (R.wf.um p m) hp
  refine ⟨O, r, st, w.add p (.dK []) true, rfl, R0, ?_⟩
  unfold bDct1 at q
  cases z : f r st with
  | bad => rw [z] at q; exact q.elim
  | err cc aa st1 => rw [z] at q; exact fun w' cls dd R' x' rx => q w' cls dd R' (x0.trans x') rx
  | ok d1 st1 =>
    rw [z] at q
    intro w1 v1 R1 x1 rr1
    refine ⟨O, r, st1, w1, rfl, R1, ?_⟩
    have q : post (cg X) B .fr Wx O r s w ((g r st1).bind fun d st2 => match kOf d1 with | some k => .ok (.dct [kD k] [d]) st2 | none => .bad) Q := q
    cases z2 : g r st1 with
    | bad => rw [z2] at q; exact q.elim
    | err cc aa st2 => rw [z2] at q; exact fun w' cls dd R' x' rx => q w' cls dd R' ((x0.trans x1).trans x') rx
    | ok d2 st2 =>
      rw [z2] at q
      intro w2 v2 R2 x2 rr2
      have q : post (cg X) B .fr Wx O r s w (match kOf d1 with | some k => .ok (.dct [kD k] [d2]) st2 | none => .bad) Q := q
      cases ek : kOf d1 with
      | none => rw [ek] at q; exact q.elim
      | some k =>
        rw [ek] at q
        have x02 := x1.trans x2
        have hp0 : (w.add p (.dK []) true).H p = some (.dK []) := upd_same
        have hp2 : w2.H p = some (.dK []) := (x02.hk p (by rw [hp0]; simp) np).trans hp0
        have m2 : w2.M p := x02.mt p (.inr ⟨rfl, rfl⟩)
        have u2 : p ∉ w2.u := by
          obtain ⟨l, el, fl⟩ := x02.mu
          rw [el]
          intro hm
          rcases List.mem_append.mp hm with hm | hm
          · exact np hm
          · have := fl p hm
            rw [hp0] at this; cases this
        have ev := kOf_V ek (.inl (RD.wk (x2.wk R1.wf) _ _ rr1))
        subst ev
        refine ⟨hp2, [(k, v2)], rfl, by simp, ?_⟩
        show Q (.ref p) (upd w2.H p (.dK (mergeK [] [(k, v2)])))
        have em : mergeK [] [(k, v2)] = [(k, v2)] := rfl
        rw [em]
        have xw : Ext w w2 := x0.trans x02
        have kc := Wd.chg_wk (o := .dK [(k, v2)]) m2
        refine q (w2.chg p (.dK [(k, v2)])) (.ref p) (R.ofF ⟨Wd.chg_wf R2.wf, R2.sto.chg m2 u2⟩ (xw.chg hp)) (xw.chg hp) ⟨p, rfl, hp, m2, u2, .dK [(k, v2)], [v2], upd_same, .inl ⟨[(k, v2)], rfl, rfl, rfl⟩, RDs.one (RD.wk kc _ _ rr2)⟩
/-! ### d[k] = v, d one's own -/
def sPutD (i : Nat) (g f : Ev) : Sv := fun r st => ofRs (f r st) r fun d st1 => match r i with
  | some (true, .dct ks ds) => ofRs (g r st1) r fun j st2 => (match kOf j with
    | some k => if DKs ks = true ∧ ks.length < LIM then .nx (r.set i (some (true, .dct (dputK ks k) (dputV ks ds k d)))) st2 else .bad
    | none => .bad)
  | _ => .bad
theorem js_dput {i : Nat} {x : Str} {p tp : Pos} (hu : X.A.units + 64 < cLine) (hN : X.N[i]? = some x) (hv : Vis X.env.scope x) (he : JE X B .sh Wx a f) (hb : JE X B .sh Wx b g) (hd : (x == ("__debug__" : Str)) = false := by decide) (hcd : (x == ("__classdict__" : Str)) = false := by decide)
    (hs : swapsWith a (some (.Subscript (.Name x p) b tp)) pos.line X.env = pure false := by rfl) :
    JS X B fr Wx (.Assign [.Subscript (.Name x p) b tp] a pos) (sPutD i g f) := by
  refine ps_imp (ps_dput (by omega) (pe_var (pos := p) hN hv hd hcd) hb he hs) ?_
  intro D s H q
  obtain ⟨O, r, st, w, e, R, q⟩ := tS_of (k := .sh) q
  refine ⟨O, r, st, w, e, R, q.mono ?_⟩
  rintro v H1 ⟨O1, r1, w0, d, st1, w1, rfl, R1, x1, ⟨_, R0⟩, rr, q1⟩
  have en := R1.env i
  cases z : r1 i with
  | none => rw [z] at q1; exact q1.elim
  | some bd =>
    obtain ⟨bb, d0⟩ := bd
    cases bb with
    | false => rw [z] at q1; exact (show False from q1).elim
    | true =>
      cases d0 with
      | dct ks ds =>
        rw [z] at q1 en
        obtain ⟨al, oi, es, o0, vs, hl, dq, rs⟩ := en
        have q2 : postS (cg X) B fr Wx w0 (ofRs (g r1 st1) r1 fun j st2 => (match kOf j with
          | some k => if DKs ks = true ∧ ks.length < LIM then .nx (r1.set i (some (true, .dct (dputK ks k) (dputV ks ds k d)))) st2 else .bad
          | none => .bad)) D := q1
        refine ⟨.ref al, es, O1, r1, st1, w1, rfl, R1, ?_⟩
        cases zg : g r1 st1 with
        | ok j st2 =>
          rw [zg] at q2
          intro w2 u R2 x2 rj
          have q2 : postS (cg X) B fr Wx w0 (match kOf j with
            | some k => if DKs ks = true ∧ ks.length < LIM then .nx (r1.set i (some (true, .dct (dputK ks k) (dputV ks ds k d)))) st2 else .bad
            | none => .bad) D := q2
          have own1 := R1.own i al oi
          have own2 := R2.own i al oi
          have hl2 : w2.H al = some o0 := (x2.hk al (by rw [hl]; simp) own1.2.1).trans hl
          cases ek : kOf j with
          | none => rw [ek] at q2; exact q2.elim
          | some k =>
            simp only [ek] at q2
            by_cases hk : DKs ks = true ∧ ks.length < LIM
            · rw [if_pos hk] at q2
              obtain ⟨kvs, rfl, rfl, rfl⟩ := dq.k hk.1
              have lm := LIM_le
              have hz := hk.2
              rw [List.length_map] at hz
              have ev := kOf_V ek (.inl rj)
              subst ev
              have m2 := own2.1
              have kk := (x2.wk R1.wf).trans (Wd.chg_wk (o := .dK (putK kvs k v)) m2)
              have pr := put_rds (k := k) (RDs.wk kk _ _ rs) (RD.wk kk _ _ rr)
              refine ⟨al, _, rfl, .inl ⟨kvs, k, hl2, rfl, by omega, rfl⟩, ?_⟩
              exact q2 O1 s (w2.chg al (.dK (putK kvs k v))) (R2.chgOwn z oi ⟨.dK (putK kvs k v), _, upd_same, .inl ⟨putK kvs k v, rfl, pr.2, rfl⟩, pr.1⟩) (((x1.wk R0.wf).trans (x2.wk R1.wf)).trans (Wd.chg_wk m2))
            · rw [if_neg hk] at q2; exact q2.elim
        | err cc aa st2 => rw [zg] at q2; exact fun w' cls dd R' x' rx => q2 O1 s w' cls dd R' rx
        | bad => rw [zg] at q2; exact q2.elim
      | _ => rw [z] at q1; exact (show False from q1).elim
/-! ### walked -/
theorem rd_kD {G : Cfg} {w : Wd} {k : Key} : RD G w (kD k) (kV k) := by
  cases k
  · exact rdI
  · exact rdS
theorem wks_keys {G : Cfg} {w : Wd} {a : Addr} {o : Obj} {kvs : List (Key × V)} (h : Im w a (.frz o (.dK kvs))) : Wks G w (Itk a o kvs) (kvs.map fun p => kD p.1) [] := by
  intro w2 k f g i
  have h2 := k.im _ _ h
  refine ⟨fun d e => ⟨⟨h2.1, ?_⟩, ?_⟩, fun le => ⟨h2.1, by simpa using le⟩⟩
  · have := (List.getElem?_eq_some_iff.mp e).1
    simpa using this
  · rintro x H' ⟨rfl, kk, vv, e1, rfl⟩
    rw [List.getElem?_map, e1] at e
    cases e
    exact ⟨w2, rfl, Ext.refl w2, f, rfl, fun _ _ => rfl, rd_kD⟩
def itKeys (f : Ev) : Iv := fun r st => match f r st with
  | .ok d st1 => match d with
    | .dct ks _ => if DKs ks = true then .ok ks [] st1 else .bad
    | _ => .bad
  | .err c a st1 => .err c a st1
  | .bad => .bad
theorem ji_keys (he : JE X B .sh Wx iter f) : JI X B Wx tg iter (itKeys f) := by
  refine pi_imp (pi_keys he) ?_
  rintro s H R' ⟨O, r, st, w, rfl, R, q⟩
  refine ⟨O, r, st, w, rfl, R, ?_⟩
  unfold itKeys at q
  cases z : f r st with
  | ok d st1 =>
    rw [z] at q
    intro w1 v R1 x1 rr
    cases d with
    | dct ks ds =>
      have rr : RD (cg X) w1 (.dct ks ds) v := rr
      unfold RD at rr
      obtain ⟨a, vs, rfl, ⟨o, ob, i, dq⟩, rs⟩ := rr
      by_cases hk : DKs ks = true
      · obtain ⟨kvs, rfl, rfl, rfl⟩ := dq.k hk
        simp only [if_pos hk] at q
        exact ⟨a, ob, rfl, .inl ⟨kvs, i.1, q _ w1 R1 x1 (wks_keys i)⟩⟩
      · simp only [if_neg hk] at q
    | _ => exact (show False from q).elim
  | err c a st1 => rw [z] at q; exact q
  | bad => rw [z] at q; exact q.elim
/-! ### list(d), len(d) -/
def fListK : List D → Sto → Rs
  | [.dct ks _], st => if DKs ks = true then .ok (.lst ks) st else .bad
  | _, _ => .bad
theorem rds_keys {G : Cfg} {w : Wd} : ∀ kvs : List (Key × V), RDs G w (kvs.map fun p => kD p.1) (kvs.map fun p => kV p.1)
  | [] => by simp only [List.map_nil]; unfold RDs; rfl
  | p :: kvs => by
    simp only [List.map_cons]
    unfold RDs
    exact ⟨_, _, rfl, rd_kD, rds_keys kvs⟩
theorem jb_listK (hc : X.calm = true) : JB X B .fr Wx (.type "list") fListK := ⟨_, call_listD hc, by
  intro O e s w0 w ds vs st Q R xt rr q
  cases ds with
  | nil => exact (show False from q).elim
  | cons d ds1 =>
   cases ds1 with
   | cons _ _ => cases d <;> exact (show False from q).elim
   | nil =>
    obtain ⟨v, rfl, h⟩ := RQs.one rr
    cases d with
    | dct ks dd =>
      by_cases hk : DKs ks = true
      · obtain ⟨a, kvs, rfl, e, rfl, r⟩ := h.dk hk
        simp only [fListK, if_pos hk] at q
        exact ⟨a, kvs, rfl, e, fun p hp => post.own R xt q hp fun w' e2 k2 => ⟨_, e2, rds_keys kvs⟩⟩
      · simp only [fListK, if_neg hk] at q
        exact q.elim
    | _ => exact (show False from q).elim⟩
end
end Sm

/-! Sim40: sorted, min, max of dicts whose keys are numbers. -/
namespace Sm
open PySem L2 PyProof.Rows
section
variable {X : Cx} {B : Bs} {Wx : WX}
def rSortK (K : PySem.W.Frag) : List V → Hp → VK → Prop := fun xs H Q => ∃ (a : Addr) (kvs : List (Key × V)) (ks : List Int), xs = [.ref a] ∧ Rd H a (.dK kvs) ∧ kvs.map (·.1) = ks.map Sum.inl ∧
    ∀ (ys : List Int) (p : Addr), ys.Perm ks → ys.Pairwise (· ≤ ·) → H p = none → Q (.ref p) (upd H p (.lst (ys.map V.int)))
theorem call_sortedK (hcalm : X.calm = true) : CallR X (.builtin "sorted") (rSortK X.K) := by
  intro pins s σ H xs us Q I r q
  obtain ⟨a, kvs, ks, ex, hd, hks, q⟩ := q
  subst ex
  obtain ⟨u, eu, rx⟩ := vals1 r
  subst eu
  cases rx
  obtain ⟨z, lo, vs, rel, dd⟩ := dk_rd I.hok hd
  obtain ⟨ep, hat⟩ := dd.dictAt
  have hkeys : vs.map (·.1) = ks.map Sum.inl := rel.keys.symm.trans hks
  have hl : vs.length = ks.length := by
    have e := congrArg List.length hkeys
    rw [List.length_map, List.length_map] at e
    exact e
  have h16 : vs.length ≤ sizeLine := by rw [← rel.length]; exact z
  refine Calls.call_function_entry PyProof.Rows.kind_sorted PyProof.Rows.plain_sorted PyProof.Rows.entry_sorted (PyProof.Rows.args_sorted1 _) ?_
  unfold Builtin.«sorted»
  refine wpAny_bind (m := checkCount "sorted" 1 1 _) (wpAny_pure ?_)
  refine wpAny_bind (PySem.W.kdu_collect (A := X.A.in1) (PySem.W.kdl_dict (knd := mixKind X.prog X.w) (kvs := vs) (ep := ep) lo) (I.ok.hd hcalm) hat h16 fun h' tk acc hk hacc => ?_)
  have hal : acc.toList.length = ks.length := by rw [Array.length_toList, hacc.1, hl]
  have hS : IntsAre acc.toList ks := ints_each hal fun j v e => by
    obtain ⟨k, x, e1, e2⟩ := hacc.2 j v (by rw [← Array.getElem?_toList]; exact e)
    have e3 : (vs.map (·.1))[j]? = some k := by rw [List.getElem?_map, e1]; rfl
    rw [hkeys, List.getElem?_map] at e3
    cases e4 : ks[j]? with
    | none => rw [e4] at e3; cases e3
    | some y =>
      rw [e4] at e3
      have e5 : Sum.inl y = k := Option.some.inj e3
      subst e5
      rcases keyIs_shape (show keyIs (Sum.inl y) v = true from e2) with ⟨i, t, ek, ev⟩ | ⟨z, t, ek, ev⟩
      · cases ek
        exact ⟨y, t, rfl, ev⟩
      · cases ek
  have I1 : Inv X pins σ H { s with heap := h', toks := tk } := I.kept hk
  refine wpAny_bind (wpAny_newList ?_ (by rw [hal, ← hl]; exact h16))
  have hoL : (h'.push (seqObj "list" acc.toList.toArray 0)).get? h'.objs.size = some (seqObj "list" acc.toList.toArray 0) := Heap.get?_push_size _ rfl
  show wpAny _ _ _ _ _ { s with heap := h'.push (seqObj "list" acc.toList.toArray 0), toks := tk }
  refine wpAny_bind (wpAny_holding (wpAny_call_entry PyProof.Rows.slot_list_sort ⟨_, hoL, rfl⟩ PyProof.Rows.entry_list_sort
    (SrtO.list_sort_ord SrtO.swo_int (s := { s with heap := h'.push (seqObj "list" acc.toList.toArray 0), toks := tk }) hoL (by rw [hal, ← hl]; exact h16) (fun h2 => SrtO.ints_sortable hS h2) fun out h1 h2 => ⟨.none, rfl, ?_⟩) (PyProof.Rows.args_list_sort _)))
  obtain ⟨k1, k2, k3⟩ := SrtO.ints_out hS h1 h2
  obtain ⟨e', he'⟩ := PyProof.Rows.sortedHeap_at (vs := acc.toList) (out := out.toArray) hoL
  have hlen : ((out.map SrtO.iv).map V.int).length ≤ sizeLine := by
    rw [List.length_map, k2.length_eq, ← hl]
    exact h16
  refine wpAny_pure ⟨_, rfl, .ref h'.objs.size, upd H h'.objs.size (.lst ((out.map SrtO.iv).map V.int)), I1.laid (t' := tk) (fun b u e => ?_) (Nat.le_refl _)
    (show ObjOk X.prog X.w _ _ _ (.lst ((out.map SrtO.iv).map V.int)) from ⟨hlen, out, e', vals_of_ints k1, he'⟩), rfl, q _ _ k2 k3 (I1.hok.fresh (Nat.le_refl _))⟩
  have hb : b < h'.objs.size := Heap.lt_size e
  rw [PyProof.Rows.sortedHeap_old (Nat.ne_of_lt hb) (by rw [size_push']; exact Nat.lt_succ_of_lt hb)]
  exact Heap.get?_push_of_some _ e
def fSortK : List D → Sto → Rs
  | [.dct ks _], st => match intsOf ks with
    | some ns => .ok (.lst ((srt kI ns).map D.int)) st
    | none => .bad
  | _, _ => .bad
theorem ints_keys : ∀ {kvs : List (Key × V)} {ns : List Int}, intsOf (kvs.map fun p => kD p.1) = some ns → kvs.map (·.1) = ns.map Sum.inl
  | [], ns, h => by simp [intsOf] at h; subst h; rfl
  | p :: kvs, ns, h => by
    obtain ⟨k, v⟩ := p
    cases k with
    | inl i =>
      simp only [List.map_cons, kD, intsOf, Option.map_eq_some_iff] at h
      obtain ⟨ms, h1, rfl⟩ := h
      simp [ints_keys h1]
    | inr x => simp [kD, intsOf] at h
theorem ints_DKs : ∀ {ks : List D} {ns : List Int}, intsOf ks = some ns → DKs ks = true ∧ ks = ns.map D.int
  | [], ns, h => by simp [intsOf] at h; subst h; exact ⟨rfl, rfl⟩
  | d :: ks, ns, h => by
    cases d with
    | int i =>
      simp only [intsOf, Option.map_eq_some_iff] at h
      obtain ⟨ms, h1, rfl⟩ := h
      obtain ⟨a, b⟩ := ints_DKs h1
      exact ⟨by simp only [DKs, List.all_cons, kOf, Option.isSome_some, Bool.true_and]; exact a, by rw [b]; rfl⟩
    | _ => simp [intsOf] at h
theorem rds_intl {G : Cfg} {w : Wd} (ns : List Int) : RDs G w (ns.map D.int) (ns.map V.int) := rds_ints ns
theorem jb_sortK (hc : X.calm = true) : JB X B .fr Wx (.builtin "sorted") fSortK := ⟨_, call_sortedK hc, by
  intro O e s w0 w ds vs st Q R xt rr q
  cases ds with
  | nil => exact (show False from q).elim
  | cons d ds1 =>
   cases ds1 with
   | cons _ _ => cases d <;> exact (show False from q).elim
   | nil =>
    obtain ⟨v, rfl, h⟩ := RQs.one rr
    cases d with
    | dct ks dd =>
      have q2 : post (cg X) B .fr Wx O e s w0 (match intsOf ks with | some ns => .ok (.lst ((srt kI ns).map D.int)) st | none => .bad) Q := q
      cases z : intsOf ks with
      | none => rw [z] at q2; exact q2.elim
      | some ns =>
        rw [z] at q2
        obtain ⟨a, kvs, rfl, e, rfl, r⟩ := h.dk (ints_DKs z).1
        refine ⟨a, kvs, ns, rfl, e, ints_keys z, fun ys p h1 h2 hp => ?_⟩
        have ey : ys = srt kI ns := srt_uniq okI h1 (h2.imp fun {a b} h => by rw [leI]; exact decide_eq_true h)
        subst ey
        exact post.own R xt q2 hp fun w' e2 k2 => ⟨_, e2, rds_intl _⟩
    | _ => exact (show False from q).elim⟩
end
end Sm

/-! Sim41: min, max of dicts whose keys are numbers. -/
namespace Sm
open PySem L2 PyProof.Rows PySem.W
section
variable {prog : Program} {w : World} {A : Around} {E : Value → Shared → Prop} {s : Shared}
theorem iter_dictW {d : Addr} {es : Array DictEntry} {ep : Nat} {Q : Value → Shared → Prop} (hh : A.handled = none) (hs : (d == sysModules) = false) (hm : s.heap.DictRaw d es ep)
    (h : ∀ s₂ : Shared, s₂ = { s with heap := s.heap.push { cls := .type "dict_keyiterator", data := .fields #[.ref d, .int 0 0, .int es.size 0, .int ep 0] } } →
      WalksS prog w A s.heap.objs.size [s.heap.objs.size, d] [s.heap.objs.size] (fun a b => b = a) es.size (fun i v => (es.map (·.key))[i]? = some v) (fun i s' => s'.heap.IsKeyIter s.heap.objs.size d i es.size ep ∧ s'.heap.DictRaw d es ep) →
      (s₂.heap.IsKeyIter s.heap.objs.size d 0 es.size ep ∧ s₂.heap.DictRaw d es ep) → (∀ b ∈ [s.heap.objs.size, d], b < s₂.heap.objs.size) → (∀ b o, s.heap.get? b = some o → b ∉ [s.heap.objs.size]) → (∀ b o, s.heap.get? b = some o → s₂.heap.get? b = some o) → Q (.ref s.heap.objs.size) s₂) :
    wpAny (model prog w) A (pyIter (.ref d)) Q E s := by
  have hlt : d < s.heap.objs.size := by obtain ⟨_, e, _⟩ := hm; exact Heap.lt_size e
  have W := (Walks.rawKeys (A := A) (prog := prog) (w := w) hh s.heap.objs.size d (Nat.ne_of_lt hlt) es ep).mono_item (P' := fun i v => (es.map (·.key))[i]? = some v) fun i v hi h => by
    obtain ⟨hi', e⟩ := h
    rw [e]; simp [hi']
  refine wpAny_pyIter_dict_raw hs hm (h _ rfl W.toS ⟨⟨_, Heap.get?_push_size _ rfl, rfl, rfl⟩, hm.at fun o e => Heap.get?_push_of_some _ e⟩ (fun b hb => ?_) (fun b o e hb => ?_) fun b o e => Heap.get?_push_of_some _ e)
  · show b < (s.heap.push _).objs.size
    rw [Heap.size_push]
    rcases List.mem_cons.mp hb with rfl | hb
    · exact Nat.lt_succ_self _
    · rcases List.mem_cons.mp hb with rfl | hb
      · exact Nat.lt_succ_of_lt hlt
      · cases hb
  · exact absurd (Heap.lt_size e) ((List.mem_singleton.mp hb) ▸ Nat.lt_irrefl _)
theorem min_dict_data {l : Addr} {es : Array DictEntry} {ep : Nat} {x : PyData} {xs : List PyData} {as : List Addr} {Q : Value → Shared → Prop} (hh : A.handled = none) (hs : (l == sysModules) = false) (hl : s.heap.DictRaw l es ep) (hr : ReadsAll s.heap (es.map (·.key)).toList (x :: xs) as) (ha : AlikeAll (x :: xs)) (hu : A.units + 1 + PyData.depthAll (x :: xs) < cLine)
    (h : ∀ (i : Nat) v h' tk bs, (es.map (·.key))[i]? = some v → Reads h' v (minD x xs) bs → (∀ b o, s.heap.get? b = some o → h'.get? b = some o) → Q v { s with heap := h', toks := tk }) :
    wpAny (model prog w) A (call (.builtin "min") [.ref l]) Q E s := by
  have hn : (es.map (·.key)).size = xs.length + 1 := readsAll_len hr
  have hn2 : es.size = xs.length + 1 := by rw [← hn]; simp
  refine call_min_walkH (iter_dictW (A := A.in1) hh hs hl fun s₂ e W st hfp hw hk => ?_)
  refine ⟨_, _, _, _, _, _, _, s.heap, _, rfl, W, st, hfp, by omega, hw, hk, cmpIn_lt (A := A.in1) hr ha (by show A.units + 1 + _ < _; exact hu), fun v s' hP m => ?_⟩
  obtain ⟨h', tk, rfl, hk'⟩ := moved_old e rfl m
  obtain ⟨bs, r, _, _, _⟩ := readsAll_atA hr _ v hP
  have e1 : es.size - 1 = xs.length := by omega
  have e2 := (argBest_fold dataLt PyData.none x xs xs.length (Nat.le_refl _)).2
  rw [List.take_length] at e2
  rw [e1] at r
  exact h _ v h' tk bs hP (reads_keeps hk' (by unfold minD; rw [← e2]; exact r)) hk'
theorem max_dict_data {l : Addr} {es : Array DictEntry} {ep : Nat} {x : PyData} {xs : List PyData} {as : List Addr} {Q : Value → Shared → Prop} (hh : A.handled = none) (hs : (l == sysModules) = false) (hl : s.heap.DictRaw l es ep) (hr : ReadsAll s.heap (es.map (·.key)).toList (x :: xs) as) (ha : AlikeAll (x :: xs)) (hu : A.units + 1 + PyData.depthAll (x :: xs) < cLine)
    (h : ∀ (i : Nat) v h' tk bs, (es.map (·.key))[i]? = some v → Reads h' v (maxD x xs) bs → (∀ b o, s.heap.get? b = some o → h'.get? b = some o) → Q v { s with heap := h', toks := tk }) :
    wpAny (model prog w) A (call (.builtin "max") [.ref l]) Q E s := by
  have hn : (es.map (·.key)).size = xs.length + 1 := readsAll_len hr
  have hn2 : es.size = xs.length + 1 := by rw [← hn]; simp
  refine call_max_walkH (iter_dictW (A := A.in1) hh hs hl fun s₂ e W st hfp hw hk => ?_)
  refine ⟨_, _, _, _, _, _, _, s.heap, _, rfl, W, st, hfp, by omega, hw, hk, cmpIn_gt (A := A.in1) hr ha (by show A.units + 1 + _ < _; exact hu), fun v s' hP m => ?_⟩
  obtain ⟨h', tk, rfl, hk'⟩ := moved_old e rfl m
  obtain ⟨bs, r, _, _, _⟩ := readsAll_atA hr _ v hP
  have e1 : es.size - 1 = xs.length := by omega
  have e2 := (argBest_fold (fun a b => dataLt b a) PyData.none x xs xs.length (Nat.le_refl _)).2
  rw [List.take_length] at e2
  rw [e1] at r
  exact h _ v h' tk bs hP (reads_keeps hk' (by unfold maxD; rw [← e2]; exact r)) hk'
end
theorem alike_ints (ns : List Int) : AlikeAll (ns.map PyData.int) := by
  refine ⟨fun x hx y hy => ?_, fun x hx => ?_⟩
  · obtain ⟨i, _, rfl⟩ := List.mem_map.mp hx
    obtain ⟨j, _, rfl⟩ := List.mem_map.mp hy
    rfl
  · obtain ⟨i, _, rfl⟩ := List.mem_map.mp hx
    exact fun h => nomatch h
theorem depth_ints : ∀ ns : List Int, PyData.depthAll (ns.map PyData.int) = 0
  | [] => rfl
  | n :: ns => by simp [PyData.depthAll, PyData.depth, depth_ints ns]
section
variable {X : Cx} {B : Bs} {Wx : WX}
def rBestK (mx : Bool) : List V → Hp → VK → Prop := fun xs H Q => ∃ (a : Addr) (kvs : List (Key × V)) (n : Int) (ns : List Int), xs = [.ref a] ∧ Rd H a (.dK kvs) ∧ kvs.map (·.1) = (n :: ns).map Sum.inl ∧ Q (.int (if mx = true then ns.foldl max n else ns.foldl min n)) H
theorem cr_bestK (mx : Bool) (hc : X.calm = true) (hu : X.A.units + 64 < cLine) : CallR X (.builtin (if mx = true then "max" else "min")) (rBestK mx) := by
  intro pins s σ H xs us Q I r q
  obtain ⟨a, kvs, n, ns, rfl, hd, hks, q⟩ := q
  obtain ⟨u, rfl, rx⟩ := vals1 r
  cases rx
  obtain ⟨z, lo, vs, rel, dd⟩ := dk_rd I.hok hd
  obtain ⟨es, ep, hraw, hsz, hent⟩ := dd.raw
  have hkeys : vs.map (·.1) = (n :: ns).map Sum.inl := rel.keys.symm.trans hks
  have hl : vs.length = (n :: ns).length := by
    have e := congrArg List.length hkeys
    rw [List.length_map, List.length_map] at e
    exact e
  have hS : IntsAre (es.map (·.key)).toList (n :: ns) := ints_each (by simp only [Array.toList_map, List.length_map, Array.length_toList]; omega) fun j v e => by
    rw [Array.toList_map, List.getElem?_map] at e
    cases e0 : es.toList[j]? with
    | none => rw [e0] at e; cases e
    | some en =>
      rw [e0] at e
      cases e
      rw [Array.getElem?_toList] at e0
      obtain ⟨hj, ej⟩ := Array.getElem?_eq_some_iff.mp e0
      have hj' : j < vs.length := by omega
      obtain ⟨h1, h2⟩ := hent j hj (vs[j]'hj').1 (vs[j]'hj').2 (List.getElem?_eq_getElem hj')
      have e3 : (vs.map (·.1))[j]? = some (vs[j]'hj').1 := by rw [List.getElem?_map, List.getElem?_eq_getElem hj']; rfl
      rw [hkeys, List.getElem?_map] at e3
      cases e4 : (n :: ns)[j]? with
      | none => rw [e4] at e3; cases e3
      | some y =>
        rw [e4] at e3
        have e5 : Sum.inl y = (vs[j]'hj').1 := Option.some.inj e3
        rw [← e5, ej] at h1
        rcases keyIs_shape (show keyIs (Sum.inl y) en.key = true from h1) with ⟨i, t, ek, ev⟩ | ⟨z, t, ek, ev⟩
        · cases ek
          exact ⟨y, t, rfl, ev⟩
        · cases ek
  have hr : ReadsAll s.heap (es.map (·.key)).toList (.int n :: ns.map .int) [] := hS.reads s.heap
  have hdep : X.A.units + 1 + PyData.depthAll (.int n :: ns.map .int) < cLine := by
    have := depth_ints (n :: ns)
    simp only [List.map_cons] at this
    rw [this]; omega
  cases mx with
  | false =>
    refine min_dict_data (I.ok.hd hc) lo hraw hr (alike_ints (n :: ns)) hdep fun i v h' tk bs hv hre hk => ?_
    rw [minD_ints] at hre
    cases hre
    exact ⟨.int (ns.foldl min n), H, I.kept hk, ⟨_, rfl⟩, q⟩
  | true =>
    refine max_dict_data (I.ok.hd hc) lo hraw hr (alike_ints (n :: ns)) hdep fun i v h' tk bs hv hre hk => ?_
    rw [maxD_ints] at hre
    cases hre
    exact ⟨.int (ns.foldl max n), H, I.kept hk, ⟨_, rfl⟩, q⟩
def fBestK (mx : Bool) : List D → Sto → Rs
  | [.dct ks _], st => match intsOf ks with
    | some (n :: ns) => .ok (.int (if mx = true then ns.foldl max n else ns.foldl min n)) st
    | _ => .bad
  | _, _ => .bad
theorem sem_bestK (mx : Bool) : SemC X B .sh Wx (fBestK mx) (rBestK mx) := by
  intro O e s w0 w ds vs st Q R xt rr q
  cases ds with
  | nil => exact (show False from q).elim
  | cons d ds1 =>
   cases ds1 with
   | cons _ _ => cases d <;> exact (show False from q).elim
   | nil =>
    obtain ⟨v, rfl, h⟩ := RQs.one rr
    cases d with
    | dct ks dd =>
      have q2 : post (cg X) B .sh Wx O e s w0 (match intsOf ks with | some (n :: ns) => .ok (.int (if mx = true then ns.foldl max n else ns.foldl min n)) st | _ => .bad) Q := q
      cases z : intsOf ks with
      | none => rw [z] at q2; exact q2.elim
      | some nn =>
        rw [z] at q2
        cases nn with
        | nil => exact q2.elim
        | cons n ns =>
          obtain ⟨a, kvs, rfl, e, rfl, r⟩ := h.dk (ints_DKs z).1
          exact ⟨a, kvs, n, ns, rfl, e, ints_keys z, post.val R xt q2 rdI⟩
    | _ => exact (show False from q).elim
theorem jb_minK (hc : X.calm = true) (hu : X.A.units + 64 < cLine) : JB X B .sh Wx (.builtin "min") (fBestK false) := ⟨_, cr_bestK false hc hu, sem_bestK false⟩
theorem jb_maxK (hc : X.calm = true) (hu : X.A.units + 64 < cLine) : JB X B .sh Wx (.builtin "max") (fBestK true) := ⟨_, cr_bestK true hc hu, sem_bestK true⟩
end
end Sm

/-! Sim42: pop, insert, clear of one's own lists; a slot's own thing becomes a ref ahead of a statement. -/
namespace Sm
open PySem L2 PyProof.Rows
/-- x = xs.pop() -/
def sPop (i j : Nat) : Sv := fun r st => match r j with
  | some (true, .lst ds) => (match ds.getLast? with
    | some d => .nx ((r.set j (some (true, .lst ds.dropLast))).set i (some (false, d))) st
    | none => .bad)
  | _ => .bad
/-- x = xs.pop(0) -/
def sPop0 (i j : Nat) : Sv := fun r st => match r j with
  | some (true, .lst (d :: ds)) => .nx ((r.set j (some (true, .lst ds))).set i (some (false, d))) st
  | _ => .bad
/-- xs.insert(p, y) -/
def insL (ds : List D) (p d : D) (k : List D → Rt) : Rt := match p with
  | .int z => if (0 ≤ z ∧ z < B62) ∧ ds.length < LIM then k (ds.take z.toNat ++ [d] ++ ds.drop z.toNat) else .bad
  | _ => .bad
def sIns (i : Nat) (g f : Ev) : Sv := fun r st => match r i with
  | some (true, .lst ds) => ofRs (g r st) r fun p st1 => ofRs (f r st1) r fun d st2 => insL ds p d fun es => .nx (r.set i (some (true, .lst es))) st2
  | _ => .bad
/-- a slot's own thing becomes a thing of the store, ahead of a statement -/
def sRefP (i : Nat) (F : Sv) : Sv := fun r st => match r i with
  | some (true, .lst ds) => F (r.set i (some (false, .ref st.length))) (st ++ [.lst ds])
  | some (true, .dct ks vs) => F (r.set i (some (false, .ref st.length))) (st ++ [.dct ks vs])
  | some (false, _) => F r st
  | _ => .bad
/-- p.clear(), p a list of the store -/
def sClrR (p : Ev) : Sv := fun r st => ofRs (p r st) r fun o st1 => match o with
  | .ref n => (match st1[n]? with
    | some (.lst _) => .nx r (st1.set n (.lst []))
    | _ => .bad)
  | _ => .bad
theorem RDs.dropLast {G : Cfg} {w : Wd} {ds : List D} {vs : List V} (h : RDs G w ds vs) : RDs G w ds.dropLast vs.dropLast := by
  rw [List.dropLast_eq_take, List.dropLast_eq_take, h.length]
  exact RDs.take _ h
section
variable {X : Cx} {B : Bs} {k : Kd} {fr : Bool} {Wx : WX} {a b c tg iter : Expr} {f g h : Ev} {pos : Pos} {st1 : Stmt} {F : Sv}
theorem js_refP {i : Nat} (h1 : JS X B fr Wx st1 F) : JS X B fr Wx st1 (sRefP i F) := by
  refine ps_imp h1 ?_
  rintro D s H ⟨O, r, st, w, rfl, R, q⟩
  unfold sRefP at q
  match z : r i, q with
  | some (true, .lst ds), q =>
    obtain ⟨O', w', e, R', k'⟩ := R.refSlot (so := .lst ds) z (fun _ _ c => c)
    exact ⟨O', _, _, w', e, R', postS.weak k' q⟩
  | some (true, .dct ks vs), q =>
    obtain ⟨O', w', e, R', k'⟩ := R.refSlot (so := .dct ks vs) z (fun _ _ c => c)
    exact ⟨O', _, _, w', e, R', postS.weak k' q⟩
  | some (false, _), q => exact ⟨O, r, st, w, rfl, R, q⟩
  | none, q => exact q.elim
  | some (true, .non), q => exact q.elim
  | some (true, .bl _), q => exact q.elim
  | some (true, .int _), q => exact q.elim
  | some (true, .str _), q => exact q.elim
  | some (true, .tup _), q => exact q.elim
  | some (true, .ref _), q => exact q.elim
  | some (true, .exc _ _), q => exact q.elim
  | some (true, .frg _), q => exact q.elim
theorem js_pop {i j : Nat} {x y : Str} {p apos cpos pos' : Pos} (hN : X.N.Nodup) (hi : X.N[i]? = some y) (hy : Loc X.env.scope y) (hL : B.L = X.N.length) (hj : X.N[j]? = some x) (hv : Vis X.env.scope x) (hd : (x == ("__debug__" : Str)) = false := by decide) (hcd : (x == ("__classdict__" : Str)) = false := by decide)
    (hbase : attributeBase (.Name x p) "pop" X.env (eval (.Name x p) X.env) = eval (.Name x p) X.env := by rfl) (hline : (apos.endLine == cpos.line) = true := by rfl)
    (hs : swapsWith (.Call (.Attribute (.Name x p) "pop" apos) [] [] cpos) (some (.Name y pos')) pos.line X.env = pure false := by rfl) (hf : X.fn y = true ∨ X.env.scope.names.lookup y = some .local := by first | exact .inl rfl | exact .inr rfl) :
    JS X B fr Wx (.Assign [.Name y pos'] (.Call (.Attribute (.Name x p) "pop" apos) [] [] cpos) pos) (sPop i j) := by
  refine ps_imp (ps_set hN hi hy (pe_bm0 PySem.F.plainAttrs_list PySem.F.slot_list_pop PySem.F.type_list_pop mt_pop (pe_var (pos := p) hj hv hd hcd) hbase hline) hs hf) ?_
  rintro D s H ⟨O, r, st, w, rfl, R, q⟩
  have en := R.env j
  unfold sPop at q
  cases z : r j with
  | none => rw [z] at q; exact q.elim
  | some bd =>
    obtain ⟨bb, d0⟩ := bd
    cases bb with
    | false => rw [z] at q; exact (show False from q).elim
    | true =>
      cases d0 with
      | lst ds =>
        rw [z] at q en
        obtain ⟨al, oj, es, vs, hl, rs⟩ := en
        have own := R.own j al oj
        cases zl : ds.getLast? with
        | none => simp only [zl] at q; exact q.elim
        | some d =>
          simp only [zl] at q
          have hl2 := rs.length
          rw [List.getLast?_eq_getElem?] at zl
          obtain ⟨v, e1, e2⟩ := RDs.get rs zl
          have li : i < B.L := by rw [hL]; exact (List.getElem?_eq_some_iff.mp hi).1
          have kc := Wd.chg_wk (o := .lst vs.dropLast) own.1
          have R1 := R.chgOwn (d := .lst ds.dropLast) (o := .lst vs.dropLast) z oj ⟨_, upd_same, RDs.dropLast (RDs.wk kc _ _ rs)⟩
          have R2 := R1.put li (e2.wk kc)
          refine ⟨.ref al, es, .inl ⟨rfl, vs, .of hl⟩, al, vs, v, rfl, rfl, hl, by rw [← hl2]; exact e1, ?_⟩
          exact q _ _ _ R2 kc
      | _ => rw [z] at q; exact (show False from q).elim
theorem js_pop0 {i j kk : Nat} {x y : Str} {p p2 apos cpos pos' : Pos} (hN : X.N.Nodup) (hi : X.N[i]? = some y) (hy : Loc X.env.scope y) (hL : B.L = X.N.length) (hj : X.N[j]? = some x) (hv : Vis X.env.scope x) (hd : (x == ("__debug__" : Str)) = false := by decide) (hcd : (x == ("__classdict__" : Str)) = false := by decide)
    (hbase : attributeBase (.Name x p) "pop" X.env (eval (.Name x p) X.env) = eval (.Name x p) X.env := by rfl)
    (hfew : ((backTo cpos (starEach [.Constant (.int 0) kk p2] X.env)).all (fun x => !x.1) && (backToKw cpos (keywordEach [] X.env)).all (fun x => x.1.isSome) && decide (([.Constant (.int 0) kk p2] : List Expr).length + ([] : List Keyword).length + (if ([] : List Keyword).isEmpty then 0 else 1) < 30)) = true := by rfl)
    (hline : (apos.endLine == cpos.line) = true := by rfl) (hst : starEach [.Constant (.int 0) kk p2] X.env = (false, eval (.Constant (.int 0) kk p2) X.env) :: starEach [] X.env := by rfl) (hplain : (backTo cpos (starEach [] X.env)).any (·.1) = false := by rfl)
    (hs : swapsWith (.Call (.Attribute (.Name x p) "pop" apos) [.Constant (.int 0) kk p2] [] cpos) (some (.Name y pos')) pos.line X.env = pure false := by rfl) (hf : X.fn y = true ∨ X.env.scope.names.lookup y = some .local := by first | exact .inl rfl | exact .inr rfl) :
    JS X B fr Wx (.Assign [.Name y pos'] (.Call (.Attribute (.Name x p) "pop" apos) [.Constant (.int 0) kk p2] [] cpos) pos) (sPop0 i j) := by
  refine ps_imp (ps_set hN hi hy (pe_bm PySem.F.plainAttrs_list PySem.F.slot_list_pop PySem.F.type_list_pop mt_popAt (pe_var (pos := p) hj hv hd hcd) (pa_cons pe_int pa_nil hst) hbase hfew hline hst hplain) hs hf) ?_
  rintro D s H ⟨O, r, st, w, rfl, R, q⟩
  have en := R.env j
  unfold sPop0 at q
  cases z : r j with
  | none => rw [z] at q; exact q.elim
  | some bd =>
    obtain ⟨bb, d0⟩ := bd
    cases bb with
    | false => rw [z] at q; exact (show False from q).elim
    | true =>
      cases d0 with
      | lst ds =>
        cases ds with
        | nil => rw [z] at q; exact (show False from q).elim
        | cons d ds =>
          rw [z] at q en
          obtain ⟨al, oj, es, vs, hl, rs⟩ := en
          have own := R.own j al oj
          have rs' := rs
          unfold RDs at rs'
          obtain ⟨v, vr, rfl, e2, rs2⟩ := rs'
          have li : i < B.L := by rw [hL]; exact (List.getElem?_eq_some_iff.mp hi).1
          have kc := Wd.chg_wk (o := .lst vr) own.1
          have R1 := R.chgOwn (d := .lst ds) (o := .lst vr) z oj ⟨_, upd_same, RDs.wk kc _ _ rs2⟩
          have R2 := R1.put li (e2.wk kc)
          refine ⟨.ref al, es, .inl ⟨rfl, v :: vr, .of hl⟩, al, v :: vr, 0, 0, v, rfl, rfl, hl, by decide, by decide, ?_, rfl, ?_⟩
          · unfold seqIndex?
            simp
          · exact q _ _ _ R2 kc
      | _ => rw [z] at q; exact (show False from q).elim
theorem js_ins {i : Nat} {x : Str} {p apos cpos : Pos} (hN : X.N[i]? = some x) (hv : Vis X.env.scope x) (ha : JA X B .sh Wx [a, b] [g, f]) (hd : (x == ("__debug__" : Str)) = false := by decide) (hcd : (x == ("__classdict__" : Str)) = false := by decide)
    (hbase : attributeBase (.Name x p) "insert" X.env (eval (.Name x p) X.env) = eval (.Name x p) X.env := by rfl)
    (hfew : ((backTo cpos (starEach [a, b] X.env)).all (fun x => !x.1) && (backToKw cpos (keywordEach [] X.env)).all (fun x => x.1.isSome) && decide ([a, b].length + ([] : List Keyword).length + (if ([] : List Keyword).isEmpty then 0 else 1) < 30)) = true := by rfl)
    (hline : (apos.endLine == cpos.line) = true := by rfl) (hst : starEach [a, b] X.env = (false, eval a X.env) :: starEach [b] X.env := by rfl) (hplain : (backTo cpos (starEach [b] X.env)).any (·.1) = false := by rfl)
    (hs : swapsWith (.Call (.Attribute (.Name x p) "insert" apos) [a, b] [] cpos) none pos.line X.env = pure false := by rfl) :
    JS X B fr Wx (.Expr (.Call (.Attribute (.Name x p) "insert" apos) [a, b] [] cpos) pos) (sIns i g f) := by
  refine ps_imp (ps_expr (pe_bm PySem.F.plainAttrs_list PySem.F.slot_list_insert PySem.F.type_list_insert mt_insert (pe_var (pos := p) hN hv hd hcd) ha hbase hfew hline hst hplain) hs) ?_
  rintro D s H ⟨O, r, st, w, rfl, R, q⟩
  have en := R.env i
  unfold sIns at q
  cases z : r i with
  | none => rw [z] at q; exact q.elim
  | some bd =>
    obtain ⟨bb, d0⟩ := bd
    cases bb with
    | false => rw [z] at q; exact (show False from q).elim
    | true =>
      cases d0 with
      | lst ds =>
        rw [z] at q en
        obtain ⟨al, oi, es, c⟩ := en
        obtain ⟨vs, hl, rs⟩ := c
        have own := R.own i al oi
        refine ⟨.ref al, es, .inl ⟨rfl, vs, .of hl⟩, O, r, st, w, rfl, R, ?_⟩
        simp only [evs]
        have q : postS (cg X) B fr Wx w (ofRs (g r st) r fun pp st1 => ofRs (f r st1) r fun d st2 => insL ds pp d fun es => .nx (r.set i (some (true, .lst es))) st2) D := q
        cases zg : g r st with
        | bad => rw [zg] at q; exact q.elim
        | err cc aa st1 => rw [zg] at q; exact fun w' cls dd R' x' rx => q O s w' cls dd R' rx
        | ok pp st1 =>
          rw [zg] at q
          have q : postS (cg X) B fr Wx w (ofRs (f r st1) r fun d st2 => insL ds pp d fun es => .nx (r.set i (some (true, .lst es))) st2) D := q
          cases zf : f r st1 with
          | bad => rw [zf] at q; exact q.elim
          | err cc aa st2 => rw [zf] at q; simp only [Rs.bindL, RsL.bindL, zf]; exact fun w' cls dd R' x' rx => q O s w' cls dd R' rx
          | ok d st2 =>
            rw [zf] at q
            simp only [Rs.bindL, RsL.bindL, zf]
            intro w1 us R1 x1 rr
            obtain ⟨vp, vr, rfl, rp, v, vr2, rfl, rv, ev⟩ := rr
            have ev : vr2 = [] := ev
            subst ev
            have hl1 : w1.H al = some (.lst vs) := (x1.hk al (by rw [hl]; simp) own.2.1).trans hl
            have own1 := R1.own i al oi
            cases pp with
            | int zz =>
              have q : postS (cg X) B fr Wx w (if (0 ≤ zz ∧ zz < B62) ∧ ds.length < LIM then .nx (r.set i (some (true, .lst (ds.take zz.toNat ++ [d] ++ ds.drop zz.toNat)))) st2 else .bad) D := q
              by_cases hz : (0 ≤ zz ∧ zz < B62) ∧ ds.length < LIM
              · rw [if_pos hz] at q
                have lm := LIM_le
                have rl := rs.length
                have m1 : w1.M al := own1.1
                have rp2 : vp = .int zz := by
                  have rp' : RD (cg X) w1 (.int zz) vp := rp
                  unfold RD at rp'; exact rp'
                subst rp2
                refine ⟨al, vs, zz, v, rfl, rfl, hl1, by omega, hz.1.1, by have := hz.1.2; simp only [B62] at this; omega, ?_⟩
                have kk := (x1.wk R.wf).trans (Wd.chg_wk (o := .lst (vs.take zz.toNat ++ [v] ++ vs.drop zz.toNat)) m1)
                refine q O s (w1.chg al (.lst (vs.take zz.toNat ++ [v] ++ vs.drop zz.toNat))) (R1.chgOwn z oi ⟨_, upd_same, ?_⟩) kk
                exact RDs.append (RDs.append (RDs.take _ (RDs.wk kk _ _ rs)) (RDs.one (RD.wk (Wd.chg_wk m1) _ _ rv))) (RDs.drop _ (RDs.wk kk _ _ rs))
              · rw [if_neg hz] at q
                exact q.elim
            | _ => exact (show False from q).elim
      | _ => rw [z] at q; exact (show False from q).elim
theorem js_clrR {apos cpos : Pos} (ho : JE X B .sh Wx a f) (hbase : attributeBase a "clear" X.env (eval a X.env) = eval a X.env := by rfl) (hline : (apos.endLine == cpos.line) = true := by rfl)
    (hs : swapsWith (.Call (.Attribute a "clear" apos) [] [] cpos) none pos.line X.env = pure false := by rfl) :
    JS X B fr Wx (.Expr (.Call (.Attribute a "clear" apos) [] [] cpos) pos) (sClrR f) := by
  refine ps_imp (ps_expr (pe_bm0 PySem.F.plainAttrs_list PySem.F.slot_list_clear PySem.F.type_list_clear mt_clear ho hbase hline) hs) ?_
  intro D s H q
  obtain ⟨O, r, st, w, e, R, q⟩ := tS_of (k := .sh) q
  refine ⟨O, r, st, w, e, R, q.mono ?_⟩
  rintro v H1 ⟨O1, r1, w0, d, st1, w1, rfl, R1, x1, ⟨_, R0⟩, rr, q1⟩
  cases d with
  | ref n =>
    have rr : RD (cg X) w1 (.ref n) v := rr
    have q2 : postS (cg X) B fr Wx w0 (match st1[n]? with | some (.lst _) => .nx r1 (st1.set n (.lst [])) | _ => .bad) D := q1
    cases zs : st1[n]? with
    | none => rw [zs] at q2; exact q2.elim
    | some so =>
      cases so with
      | lst ds =>
        rw [zs] at q2
        obtain ⟨al, rfl, ea, c⟩ := R1.sto.ref rr zs
        obtain ⟨vs, hl, rs⟩ := c
        have m1 := R1.wf.um al (List.mem_of_getElem? ea)
        refine ⟨.inl ⟨rfl, vs, .of hl⟩, al, vs, rfl, rfl, hl, ?_⟩
        exact q2 O1 s (w1.chg al (.lst [])) (R1.chgSto zs ea ⟨[], upd_same, by unfold RDs; rfl⟩) ((x1.wk R0.wf).trans (Wd.chg_wk m1))
      | _ => rw [zs] at q2; exact q2.elim
  | _ => exact (show False from q1).elim
end
end Sm

/-! Sim43: dicts, pop, insert: rules for the plain side. -/
namespace Sm
open PySem L2
section
variable {x : Rt} {N : Env → Sto → Prop} {R : D → Sto → Prop} {L : Bool → Env → Sto → Prop} {E : Str → Option (Str × D) → Env → Sto → Prop} {r : Env} {st : Sto} {f g h : Ev} {Q : D → Sto → Prop} {E' : Str → Option (Str × D) → Sto → Prop}
theorem w_dct0 : RsP (bDct0 r st) Q E' = Q (.dct [] []) st := rfl
theorem w_dct1 : RsP (bDct1 f g r st) Q E' = RsP (f r st) (fun j st1 => RsP (g r st1) (fun d st2 => ∃ k, kOf j = some k ∧ Q (.dct [kD k] [d]) st2) E') E' := by
  unfold bDct1
  rw [w_bind]
  congr 1; funext j st1
  rw [w_bind]
  congr 1; funext d st2
  cases kOf j with
  | none => simp [RsP]
  | some k => simp [RsP]
theorem o_dget {ks ds : List D} {j : D} : RsP (opDget (.dct ks ds) j st) Q E' = ∃ k, kOf j = some k ∧ DKs ks = true ∧ ∃ d, dgetL ks ds k = some d ∧ Q d st := by
  show RsP (match kOf j with | some k => if DKs ks = true then (match dgetL ks ds k with | some d => .ok d st | none => .bad) else .bad | none => .bad) Q E' = _
  cases kOf j with
  | none => simp [RsP]
  | some k =>
    by_cases hk : DKs ks = true
    · simp only [hk, if_true]
      cases z : dgetL ks ds k <;> simp [RsP, z]
    · simp [hk, RsP]
theorem dr_dget {a b : D} : RsP (drOp opDget a b st) Q E' = derP st a fun a' => RsP (opDget a' (der st b) st) Q E' := rfl
theorem o_inK {neg : Bool} {ks ds : List D} {j : D} : RsP (opInK neg j (.dct ks ds) st) Q E' = ∃ k, kOf j = some k ∧ DKs ks = true ∧ Q (.bl (neg ^^ (dgetL ks ds k).isSome)) st := by
  unfold opInK
  cases kOf j with
  | none => simp [RsP]
  | some k =>
    by_cases hk : DKs ks = true
    · simp [hk, RsP]
    · simp [hk, RsP]
theorem dr_inK {neg : Bool} {a b : D} : RsP (drOp (opInK neg) a b st) Q E' = derP st b fun b' => RsP (opInK neg (der st a) b' st) Q E' := rfl
theorem o_getD {ks ds : List D} {j z : D} : RsP (getD (.dct ks ds) j z st) Q E' = ∃ k, kOf j = some k ∧ DKs ks = true ∧ Q ((dgetL ks ds k).getD z) st := by
  unfold getD
  show RsP (match kOf j with | some k => if DKs ks = true then .ok ((dgetL ks ds k).getD z) st else .bad | none => .bad) Q E' = _
  cases kOf j with
  | none => simp [RsP]
  | some k =>
    by_cases hk : DKs ks = true
    · simp [hk, RsP]
    · simp [hk, RsP]
theorem w_dget2 : RsP (bDget2 f g h r st) Q E' = RsP (f r st) (fun a st1 => isDK st1 a = true ∧ RsP (g r st1) (fun j st2 => RsP (h r st2) (fun z st3 => RsP (getD a j z st3) Q E') E') E') E' := by
  unfold bDget2
  rw [w_bind]
  congr 1; funext a st1
  by_cases z : isDK st1 a = true
  · rw [if_pos z, w_bind]
    simp only [z, true_and]
    congr 1; funext j st2
    rw [w_bind]
  · rw [if_neg z]
    simp [z, RsP]
theorem isDK_d {ks ds : List D} : isDK st (.dct ks ds) = DKs ks := rfl
theorem m_putD {i : Nat} : RtP (sPutD i g f r st) N R L E = RsP (f r st) (fun d st1 => match r i with
    | some (true, .dct ks ds) => RsP (g r st1) (fun j st2 => ∃ k, kOf j = some k ∧ (DKs ks = true ∧ ks.length < LIM) ∧ N (r.set i (some (true, .dct (dputK ks k) (dputV ks ds k d)))) st2) (fun c a st => E c a r st)
    | _ => False) (fun c a st => E c a r st) := by
  unfold sPutD
  rw [w_of]
  congr 1; funext d st1
  cases r i with
  | none => rfl
  | some bd =>
    obtain ⟨b, d0⟩ := bd
    cases b with
    | false => rfl
    | true =>
      cases d0 <;> try rfl
      rename_i ks ds
      simp only
      rw [w_of]
      congr 1; funext j st2
      cases kOf j with
      | none => simp [RtP]
      | some k =>
        by_cases hk : DKs ks = true ∧ ks.length < LIM
        · simp [hk, RtP]
        · simp only [if_neg hk, Option.some.injEq, exists_eq_left', hk, false_and]
          rfl
theorem wi_keys {QL : List D → Gd → Sto → Prop} : RsIP (itKeys f r st) QL E' = RsP (f r st) (fun d st1 => match d with | .dct ks _ => DKs ks = true ∧ QL ks [] st1 | _ => False) E' := by
  unfold itKeys
  cases f r st with
  | bad => rfl
  | err c a st1 => rfl
  | ok d st1 =>
    cases d <;> try rfl
    rename_i ks ds
    simp only [RsP]
    by_cases hk : DKs ks = true
    · simp [hk, RsIP]
    · simp [hk, RsIP]
theorem f_listK {ks ds : List D} : RsP (fListK [.dct ks ds] st) Q E' = (DKs ks = true ∧ Q (.lst ks) st) := by
  unfold fListK
  by_cases hk : DKs ks = true
  · simp [hk, RsP]
  · simp [hk, RsP]
theorem f_sortK {ks ds : List D} : RsP (fSortK [.dct ks ds] st) Q E' = ∃ ns, intsOf ks = some ns ∧ Q (.lst ((srt kI ns).map D.int)) st := by
  show RsP (match intsOf ks with | some ns => .ok (.lst ((srt kI ns).map D.int)) st | none => .bad) Q E' = _
  cases intsOf ks <;> simp [RsP]
theorem f_bestK {mx : Bool} {ks ds : List D} : RsP (fBestK mx [.dct ks ds] st) Q E' = ∃ n ns, intsOf ks = some (n :: ns) ∧ Q (.int (if mx = true then ns.foldl max n else ns.foldl min n)) st := by
  show RsP (match intsOf ks with | some (n :: ns) => .ok (.int (if mx = true then ns.foldl max n else ns.foldl min n)) st | _ => .bad) Q E' = _
  cases intsOf ks with
  | none => simp [RsP]
  | some nn =>
    cases nn with
    | nil => simp [RsP]
    | cons n ns =>
      show Q _ _ = _
      refine propext ⟨fun h => ⟨n, ns, rfl, h⟩, fun ⟨n', ns', e, h⟩ => ?_⟩
      cases e
      exact h
theorem m_pop {i j : Nat} : RtP (sPop i j r st) N R L E = match r j with
    | some (true, .lst ds) => ∃ d, ds.getLast? = some d ∧ N ((r.set j (some (true, .lst ds.dropLast))).set i (some (false, d))) st
    | _ => False := by
  unfold sPop
  cases r j with
  | none => rfl
  | some bd =>
    obtain ⟨b, d0⟩ := bd
    cases b with
    | false => rfl
    | true =>
      cases d0 <;> try rfl
      rename_i ds
      simp only
      cases ds.getLast? <;> simp [RtP]
theorem m_pop0 {i j : Nat} : RtP (sPop0 i j r st) N R L E = match r j with
    | some (true, .lst (d :: ds)) => N ((r.set j (some (true, .lst ds))).set i (some (false, d))) st
    | _ => False := by
  unfold sPop0
  cases r j with
  | none => rfl
  | some bd =>
    obtain ⟨b, d0⟩ := bd
    cases b with
    | false => rfl
    | true =>
      cases d0 <;> try rfl
      rename_i ds
      cases ds <;> rfl
theorem m_insL {ds : List D} {z : Int} {d : D} {k : List D → Rt} : RtP (insL ds (.int z) d k) N R L E = (((0 ≤ z ∧ z < B62) ∧ ds.length < LIM) ∧ RtP (k (ds.take z.toNat ++ [d] ++ ds.drop z.toNat)) N R L E) := by
  unfold insL
  by_cases h : (0 ≤ z ∧ z < B62) ∧ ds.length < LIM
  · simp only [h, if_true, and_self, true_and]
  · simp only [h, if_false, false_and]; rfl
theorem m_ins {i : Nat} : RtP (sIns i g f r st) N R L E = match r i with
    | some (true, .lst ds) => RsP (g r st) (fun p st1 => RsP (f r st1) (fun d st2 => RtP (insL ds p d fun es => .nx (r.set i (some (true, .lst es))) st2) N R L E) (fun c a st => E c a r st)) (fun c a st => E c a r st)
    | _ => False := by
  unfold sIns
  cases r i with
  | none => rfl
  | some bd =>
    obtain ⟨b, d0⟩ := bd
    cases b with
    | false => rfl
    | true =>
      cases d0 <;> try rfl
      simp only
      rw [w_of]
      congr 1; funext p st1
      rw [w_of]
theorem m_refP {i : Nat} {F : Sv} : RtP (sRefP i F r st) N R L E = match r i with
    | some (true, .lst ds) => RtP (F (r.set i (some (false, .ref st.length))) (st ++ [.lst ds])) N R L E
    | some (true, .dct ks vs) => RtP (F (r.set i (some (false, .ref st.length))) (st ++ [.dct ks vs])) N R L E
    | some (false, _) => RtP (F r st) N R L E
    | _ => False := by
  unfold sRefP
  cases r i with
  | none => rfl
  | some bd =>
    obtain ⟨b, d0⟩ := bd
    cases b with
    | false => rfl
    | true => cases d0 <;> rfl
theorem w_clrR {p : Ev} : RtP (sClrR p r st) N R L E = RsP (p r st) (fun o st1 => match o with
    | .ref n => (match st1[n]? with | some (.lst _) => N r (st1.set n (.lst [])) | _ => False)
    | _ => False) (fun c a st => E c a r st) := by
  unfold sClrR
  rw [w_of]
  congr 1; funext o st1
  cases o <;> try rfl
  rename_i n
  simp only
  cases st1[n]? with
  | none => rfl
  | some so => cases so <;> rfl
theorem dp_dct {ks ds : List D} {P : D → Prop} : derP st (.dct ks ds) P = P (.dct ks ds) := rfl
theorem der_dct {ks ds : List D} : der st (.dct ks ds) = .dct ks ds := rfl
theorem kOf_int {i : Int} : kOf (.int i) = some (.inl i) := rfl
theorem kOf_str {i : Str} : kOf (.str i) = some (.inr i) := rfl
theorem kD_int {i : Int} : kD (.inl i) = .int i := rfl
end
/-! ### keys that are numbers -/
section
variable {α : Type} {l : List (Int × α)} {enc : α → D} {i : Int}
theorem DKs_nil : DKs [] = true := rfl
theorem DKs_I {β : Type} {f : β → Int} {l : List β} : DKs (l.map fun p => D.int (f p)) = true := by
  simp [DKs, kOf]
theorem DKs_int {l : List Int} : DKs (l.map D.int) = true := by
  simp [DKs, kOf]
def lkp : List (Int × α) → Int → Option α
  | [], _ => none
  | p :: l, i => if p.1 = i then some p.2 else lkp l i
theorem dget_int : dgetL (l.map fun p => D.int p.1) (l.map fun p => enc p.2) (.inl i) = (lkp l i).map enc := by
  unfold dgetL
  induction l with
  | nil => rfl
  | cons p l ih =>
    unfold lkp
    by_cases e : p.1 = i
    · simp [e, kOf]
    · rw [if_neg e, ← ih]
      simp [e, kOf]
def iput (l : List (Int × α)) (i : Int) (x : α) : List (Int × α) := if (l.any fun p => decide (p.1 = i)) = true then l.map (fun p => if p.1 = i then (p.1, x) else p) else l ++ [(i, x)]
theorem any_int' : ((l.map fun p => D.int p.1).any fun a => decide (kOf a = some (.inl i))) = l.any fun p => decide (p.1 = i) := by
  rw [List.any_map]
  congr 1; funext p
  simp [kOf]
theorem zip_map' {β γ : Type} {f : α → β} {g : α → γ} : ∀ l : List α, (l.map f).zip (l.map g) = l.map fun p => (f p, g p)
  | [] => rfl
  | a :: l => by simp [zip_map' l]
theorem dput_int {x : α} : dputK (l.map fun p => D.int p.1) (.inl i) = (iput l i x).map (fun p => D.int p.1) ∧ dputV (l.map fun p => D.int p.1) (l.map fun p => enc p.2) (.inl i) (enc x) = (iput l i x).map (fun p => enc p.2) := by
  unfold dputK dputV iput
  rw [any_int']
  by_cases z : (l.any fun p => decide (p.1 = i)) = true
  · rw [if_pos z, if_pos z, if_pos z, zip_map', List.map_map, List.map_map, List.map_map]
    constructor
    · apply List.map_congr_left
      intro p _
      simp only [Function.comp]
      split <;> rfl
    · apply List.map_congr_left
      intro p _
      simp only [Function.comp, kOf, Option.some.injEq, Sum.inl.injEq]
      split <;> rfl
  · rw [if_neg z, if_neg z, if_neg z]
    simp [kD]
theorem lkp_map {x : α} {j : Int} : ∀ l : List (Int × α), lkp (l.map fun p => if p.1 = i then (p.1, x) else p) j = (lkp l j).map fun y => if j = i then x else y
  | [] => rfl
  | p :: l => by
    rw [List.map_cons]
    unfold lkp
    rw [lkp_map l]
    by_cases h1 : p.1 = i
    · by_cases h2 : i = j
      · subst h2; simp [h1]
      · have h3 : ¬ p.1 = j := fun e => h2 (h1.symm.trans e)
        simp only [h1, if_true, h2, if_false]
    · simp only [if_neg h1]
      by_cases h2 : p.1 = j
      · have h3 : ¬ j = i := fun e => h1 (h2.trans e)
        simp [h2, h3]
      · simp [h2]
theorem lkp_snoc {x : α} {j : Int} : ∀ l : List (Int × α), (∀ p ∈ l, p.1 ≠ i) → lkp (l ++ [(i, x)]) j = if j = i then some x else lkp l j
  | [], _ => by
    simp only [List.nil_append, lkp]
    by_cases h : j = i
    · simp [h]
    · have h2 : ¬ i = j := fun e => h e.symm
      simp [h, h2]
  | p :: l, h => by
    have ih := lkp_snoc (x := x) (j := j) l fun q hq => h q (List.mem_cons_of_mem _ hq)
    have hp := h p List.mem_cons_self
    rw [List.cons_append]
    unfold lkp
    rw [ih]
    by_cases h2 : p.1 = j
    · have h3 : ¬ j = i := fun e => hp (h2.trans e)
      simp [h2, h3]
    · simp [h2]
theorem lkp_some {j : Int} : ∀ {l : List (Int × α)}, (∃ p ∈ l, p.1 = j) → ∃ x, lkp l j = some x
  | [], ⟨p, h, _⟩ => nomatch h
  | q :: l, ⟨p, h, e⟩ => by
    unfold lkp
    by_cases hq : q.1 = j
    · exact ⟨_, if_pos hq⟩
    · rw [if_neg hq]
      rcases List.mem_cons.mp h with rfl | h
      · exact absurd e hq
      · exact lkp_some ⟨p, h, e⟩
theorem lkp_iput {x : α} {j : Int} : lkp (iput l i x) j = if j = i then some x else lkp l j := by
  unfold iput
  by_cases z : (l.any fun p => decide (p.1 = i)) = true
  · rw [if_pos z, lkp_map]
    by_cases h : j = i
    · obtain ⟨p, hp, e⟩ := List.any_eq_true.mp z
      obtain ⟨y, hy⟩ := lkp_some (j := j) ⟨p, hp, (of_decide_eq_true e).trans h.symm⟩
      rw [hy]; simp [h]
    · simp [h]
  · rw [if_neg z]
    exact lkp_snoc l fun p hp e => z (List.any_eq_true.mpr ⟨p, hp, decide_eq_true e⟩)
theorem keys_iput {x : α} : (iput l i x).map (·.1) = if i ∈ l.map (·.1) then l.map (·.1) else l.map (·.1) ++ [i] := by
  unfold iput
  have e : (l.any fun p => decide (p.1 = i)) = true ↔ i ∈ l.map (·.1) := by
    rw [List.any_eq_true]
    simp
  by_cases z : (l.any fun p => decide (p.1 = i)) = true
  · rw [if_pos z, if_pos (e.mp z), List.map_map]
    apply List.map_congr_left
    intro p _
    simp only [Function.comp]
    split <;> rfl
  · rw [if_neg z, if_neg fun q => z (e.mpr q)]
    simp
theorem lkp_mem {j : Int} : (lkp l j).isSome = decide (j ∈ l.map (·.1)) := by
  induction l with
  | nil => rfl
  | cons p l ih =>
    unfold lkp
    by_cases e : p.1 = j
    · simp [e]
    · rw [if_neg e, ih]
      have : ¬ j = p.1 := fun z => e z.symm
      simp [this]
theorem intsOf_I {β : Type} {f : β → Int} : ∀ {l : List β}, intsOf (l.map fun p => D.int (f p)) = some (l.map f)
  | [] => rfl
  | p :: l => by simp [intsOf, intsOf_I (l := l)]
theorem intsOf_int : ∀ {l : List Int}, intsOf (l.map D.int) = some l
  | [] => rfl
  | p :: l => by simp [intsOf, intsOf_int (l := l)]
end
/-! ### numbers, each with True -/
def dS (l : List Int) : D := .dct (l.map D.int) (l.map fun _ => .bl true)
theorem dS_get {l : List Int} {i : Int} : dgetL (l.map D.int) (l.map fun _ => D.bl true) (.inl i) = if i ∈ l then some (.bl true) else none := by
  have := dget_int (l := l.map fun i => (i, ())) (enc := fun _ => D.bl true) (i := i)
  simp only [List.map_map] at this
  have e1 : (l.map D.int) = l.map ((fun p : Int × Unit => D.int p.1) ∘ fun i => (i, ())) := rfl
  have e2 : (l.map fun _ => D.bl true) = l.map ((fun _ : Int × Unit => D.bl true) ∘ fun i => (i, ())) := rfl
  rw [e1, e2, this]
  have e3 := lkp_mem (l := l.map fun i => (i, ())) (j := i)
  simp only [List.map_map, Function.comp_def, List.map_id'] at e3
  by_cases z : i ∈ l
  · rw [if_pos z]
    rw [decide_eq_true z] at e3
    obtain ⟨u, hu⟩ := Option.isSome_iff_exists.mp e3
    rw [hu]; rfl
  · rw [if_neg z]
    rw [decide_eq_false z] at e3
    rw [Option.isSome_eq_false_iff, Option.isNone_iff_eq_none] at e3
    rw [e3]; rfl
def addN (l : List Int) (i : Int) : List Int := if i ∈ l then l else l ++ [i]
theorem mem_addN {l : List Int} {i j : Int} : j ∈ addN l i ↔ j ∈ l ∨ j = i := by
  unfold addN
  by_cases z : i ∈ l
  · rw [if_pos z]
    exact ⟨.inl, fun h => h.elim id fun e => e ▸ z⟩
  · rw [if_neg z]; simp
theorem addN_nodup {l : List Int} {i : Int} (h : l.Nodup) : (addN l i).Nodup := by
  unfold addN
  by_cases z : i ∈ l
  · rw [if_pos z]; exact h
  · rw [if_neg z, List.nodup_append]
    refine ⟨h, by simp, fun a ha b hb => ?_⟩
    rw [List.mem_singleton.mp hb]
    exact fun e => z (e ▸ ha)
theorem dS_put {l : List Int} {i : Int} : dputK (l.map D.int) (.inl i) = (addN l i).map D.int ∧ dputV (l.map D.int) (l.map fun _ => D.bl true) (.inl i) (.bl true) = (addN l i).map fun _ => D.bl true := by
  have e : ((l.map D.int).any fun a => decide (kOf a = some (.inl i))) = decide (i ∈ l) := by
    rw [List.any_map]
    simp only [Function.comp_def, kOf, Option.some.injEq, Sum.inl.injEq]
    rw [Bool.eq_iff_iff]
    simp
  unfold dputK dputV addN
  rw [e]
  by_cases z : i ∈ l
  · simp only [z, decide_true, if_true, true_and]
    rw [zip_map', List.map_map]
    apply List.map_congr_left
    intro p _
    simp only [Function.comp]
    split <;> rfl
  · simp [z, kD]
end Sm

/-! Sim44: a op b op c op d, as a test. -/
namespace Sm
open PySem L2 PyProof.Rows PySem.Spec PySem.W
def tChain3 (r r' r'' : R2) (ta tb tc td : TE) : TE := fun σ H Q => ta σ H fun x H1 => tb σ H1 fun y H2 => r x y H2 fun z H3 => ∃ k, z = .bl k ∧
  (if k = true then tc σ H3 fun w' H4 => r' y w' H4 fun z2 H5 => ∃ k2, z2 = .bl k2 ∧ (if k2 = true then td σ H5 fun u' H6 => r'' w' u' H6 Q else Q (.bl false) H5) else Q (.bl false) H3)
section
variable {X : Cx} {B : Bs} {Wx : WX} {a b c d : Expr} {f g h i : Ev} {pos : Pos} {ta tb tc td : TE}
theorem pt_chain3 {op op' op'' : CmpOp} {r r' r'' : R2} (ho : OpR X (compareOp op) r) (ho' : OpR X (compareOp op') r') (ho'' : OpR X (compareOp op'') r'') (ha : PE X a ta) (hb : PE X b tb) (hc : PE X c tc) (hd : PE X d td)
    (hm : lastMarks [op, op', op''] [b, c, d] = false := by with_unfolding_all rfl) : PT X (.Compare a [op, op', op''] [b, c, d] pos) (tTest (tChain3 r r' r'' ta tb tc td)) := by
  refine ⟨fun pins s σ H Q I h => ?_⟩
  refine isTrue_chain (thn (ha.run pins s σ H _ I h) fun v s1 ⟨x, H1, I1, r1, q1⟩ => test_link (thn (hb.run pins s1 σ H1 _ I1 q1) fun u s2 ⟨y, H2, I2, r2, q2⟩ =>
    thn (ho pins s2 σ H2 x y v u _ I2 r1 r2 q2) fun d s3 ⟨z, H3, I3, r3, k, e, q3⟩ => ?_)) hm
  subst e
  cases r3
  refine wpAny_truthy_bool ?_
  cases k with
  | false =>
    obtain ⟨k', e', q'⟩ := q3
    cases e'
    exact ite_ff ⟨H3, I3, q'⟩
  | true =>
    refine ite_tt (test_link (thn (hc.run pins s3 σ H3 _ I3 q3) fun w' s4 ⟨z', H4, I4, r4, q4⟩ => thn (ho' pins s4 σ H4 y z' u w' _ I4 r2 r4 q4) fun d' s5 ⟨z2, H5, I5, r5, k2, e2, q5⟩ => ?_))
    subst e2
    cases r5
    refine wpAny_truthy_bool ?_
    cases k2 with
    | false =>
      obtain ⟨k', e', q'⟩ := q5
      cases e'
      exact ite_ff ⟨H5, I5, q'⟩
    | true =>
      refine ite_tt (test_last (thn (hd.run pins s5 σ H5 _ I5 q5) fun w2 s6 ⟨z6, H6, I6, r6, q6⟩ => thn (ho'' pins s6 σ H6 z' z6 w' w2 _ I6 r4 r6 q6) fun d' s7 ⟨z7, H7, I7, r7, k7, e7, q7⟩ => ?_))
      subst e7
      cases r7
      exact wpAny_truthy_bool ⟨H7, I7, q7⟩
def bChain3 (F F' F'' : D → D → Sto → Rs) (f g h i : Ev) : Ev := fun r st => (f r st).bind fun a st1 => (g r st1).bind fun b st2 => (F a b st2).bind fun z st3 => match z with
  | .bl true => (h r st3).bind fun c st4 => (F' b c st4).bind fun z2 st5 => (match z2 with
    | .bl true => (i r st5).bind fun d st6 => F'' c d st6
    | .bl false => .ok (.bl false) st5
    | _ => .bad)
  | .bl false => .ok (.bl false) st3
  | _ => .bad
theorem tE_chain3 {F F' F'' : D → D → Sto → Rs} {r r' r'' : R2} (s1 : SemOp X B .sh Wx F r) (s2 : SemOp X B .sh Wx F' r') (s3 : SemOp X B .sh Wx F'' r'') {s : L2.St} {H : Hp} {Q : VK} (q : tE (cg X) B .sh Wx (bChain3 F F' F'' f g h i) s H Q) :
    tChain3 r r' r'' (tE (cg X) B .bo Wx f) (tE (cg X) B .bo Wx g) (tE (cg X) B .bo Wx h) (tE (cg X) B .bo Wx i) s H Q := by
  obtain ⟨O, e, st, w, rfl, R, q⟩ := q
  refine ⟨O, e, st, w, rfl, R, (post.bind q).mono ?_⟩
  rintro v H1 ⟨d1, st1, w1, rfl, R1, x1, rr1, q1⟩
  refine ⟨O, e, st1, w1, rfl, R1, (post.bind (q1.rebase x1)).mono ?_⟩
  rintro v2 H2 ⟨d2, st2, w2, rfl, R2, x2, rr2, q2⟩
  refine s1 O e s w2 w2 d1 d2 v v2 st2 _ R2 (Ext.refl _) (rr1.ext R1.wf x2).q rr2.q ((post.bind (k1 := .sh) (q2.rebase x2)).mono ?_)
  rintro v3 H3 ⟨d3, st3, w3, rfl, R3, x3, rr3, q3⟩
  cases d3 with
  | bl z =>
    have e3 : v3 = .bl z := by
      have u : RD (cg X) w3 (.bl z) v3 := rr3
      unfold RD at u; exact u
    refine ⟨z, e3, ?_⟩
    cases z with
    | false => exact post.val R3 x3 q3 rdB
    | true =>
      refine ⟨O, e, st3, w3, rfl, R3, (post.bind (q3.rebase x3)).mono ?_⟩
      rintro v4 H4 ⟨d4, st4, w4, rfl, R4, x4, rr4, q4⟩
      refine s2 O e s w4 w4 d2 d4 v2 v4 st4 _ R4 (Ext.refl _) (rr2.ext R2.wf (x3.trans x4)).q rr4.q ((post.bind (k1 := .sh) (q4.rebase x4)).mono ?_)
      rintro v5 H5 ⟨d5, st5, w5, rfl, R5, x5, rr5, q5⟩
      cases d5 with
      | bl z =>
        have e5 : v5 = .bl z := by
          have u : RD (cg X) w5 (.bl z) v5 := rr5
          unfold RD at u; exact u
        refine ⟨z, e5, ?_⟩
        cases z with
        | false => exact post.val R5 x5 q5 rdB
        | true =>
          refine ⟨O, e, st5, w5, rfl, R5, (post.bind (q5.rebase x5)).mono ?_⟩
          rintro v6 H6 ⟨d6, st6, w6, rfl, R6, x6, rr6, q6⟩
          exact s3 O e s w5 w6 d4 d6 v4 v6 st6 Q R6 x6 (rr4.ext R4.wf (x5.trans x6)).q rr6.q q6
      | _ => exact (show False from q5).elim
  | _ => exact (show False from q3).elim
theorem jt_chain3 {op op' op'' : CmpOp} {F F' F'' : D → D → Sto → Rs} (j : JC X B Wx op F) (j' : JC X B Wx op' F') (j'' : JC X B Wx op'' F'') (ha : JE X B .bo Wx a f) (hb : JE X B .bo Wx b g) (hc : JE X B .bo Wx c h) (hd : JE X B .bo Wx d i) (hm : lastMarks [op, op', op''] [b, c, d] = false := by with_unfolding_all rfl) :
    JT X B Wx (.Compare a [op, op', op''] [b, c, d] pos) (bChain3 F F' F'' f g h i) :=
  let ⟨_, h1, h2⟩ := j.ex; let ⟨_, h3, h4⟩ := j'.ex; let ⟨_, h5, h6⟩ := j''.ex; pt_imp (pt_chain3 h1 h3 h5 ha hb hc hd hm) fun _ _ _ q => tE_chain3 h2 h4 h6 q
theorem w_chain3 {F F' F'' : D → D → Sto → Rs} {r : Env} {st : Sto} {Q : D → Sto → Prop} {E' : Str → Option (Str × D) → Sto → Prop} : RsP (bChain3 F F' F'' f g h i r st) Q E' = RsP (f r st) (fun a st1 => RsP (g r st1) (fun b st2 => RsP (F a b st2) (fun z st3 => bX z (RsP (h r st3) (fun c st4 => RsP (F' b c st4) (fun z2 st5 => bX z2 (RsP (i r st5) (fun d st6 => RsP (F'' c d st6) Q E') E') (Q (.bl false) st5)) E') E') (Q (.bl false) st3)) E') E') E' := by
  unfold bChain3
  rw [w_bind]; congr 1; funext a st1
  rw [w_bind]; congr 1; funext b st2
  rw [w_bind]; congr 1; funext z st3
  cases z <;> try rfl
  rename_i z
  cases z
  · simp [bX, RsP]
  · simp only [bX, true_implies, reduceCtorEq, false_implies, and_true]
    rw [w_bind]; congr 1; funext c st4
    rw [w_bind]; congr 1; funext z st5
    cases z <;> try rfl
    rename_i z
    cases z
    · simp [bX, RsP]
    · simp only [bX, true_implies, reduceCtorEq, false_implies, and_true]
      rw [w_bind]
end
end Sm

/-! Sim45: plain: stretches, parts, gaps. -/
namespace Sm
open PySem L2
theorem rng_split {a m : Int} : ∀ (k : Nat) (b : Int), (m + 1 - a).toNat = k → a ≤ m + 1 → m ≤ b → rng (a, b) = rng (a, m) ++ rng (m + 1, b) := by
  intro k
  induction k generalizing a with
  | zero =>
    intro b h h1 h2
    have e : a = m + 1 := by omega
    subst e
    rw [rng_nil (a := m + 1) (b := m) (by omega)]
    rfl
  | succ k ih =>
    intro b h h1 h2
    rw [rng_cons (a := a) (b := b) (by omega), rng_cons (a := a) (b := m) (by omega), ih b (by omega) (by omega) h2]
    rfl
theorem rng_cut {a m b : Int} (h1 : a ≤ m + 1) (h2 : m ≤ b) : rng (a, b) = rng (a, m) ++ rng (m + 1, b) := rng_split _ b rfl h1 h2
theorem rng_one {a : Int} : rng (a, a) = [a] := by rw [rng_cons (Int.le_refl a), rng_nil (by omega)]
theorem rng_snoc {a b : Int} (h : a ≤ b) : rng (a, b) = rng (a, b - 1) ++ [b] := by
  rw [rng_cut (m := b - 1) (by omega) (by omega), Int.sub_add_cancel, rng_one]
theorem rng_pw {p : Int × Int} : (rng p).Pairwise (· < ·) := by
  unfold rng
  rw [List.pairwise_map]
  refine List.pairwise_lt_range.imp fun {a b} h => ?_
  omega
def runStep (f : List (Int × Int)) (n : Int) : List (Int × Int) := match f.getLast? with
  | some p => if p.2 = n - 1 then f.dropLast ++ [(p.1, n)] else f ++ [(n, n)]
  | none => [(n, n)]
def runs (S : List Int) : List (Int × Int) := S.foldl runStep []
structure Prt (P : List (Int × Int)) (S : List Int) : Prop where
  ok : ∀ p ∈ P, p.1 ≤ p.2
  ap : P.Pairwise (fun p q => p.2 + 1 < q.1)
  nm : P.flatMap rng = S
theorem Prt.nil : Prt [] [] := ⟨by simp, .nil, rfl⟩
theorem last_split {α : Type} {f : List α} {p : α} (h : f.getLast? = some p) : f = f.dropLast ++ [p] := by
  obtain ⟨hne, e⟩ := List.getLast?_eq_some_iff.mp h
  rw [e]; simp
theorem Prt.step {P : List (Int × Int)} {S : List Int} {n : Int} (h : Prt P S) (hn : ∀ s ∈ S, s < n) : Prt (runStep P n) (S ++ [n]) := by
  have up : ∀ p ∈ P, p.2 < n := fun p hp => hn p.2 (by rw [← h.nm]; exact List.mem_flatMap.mpr ⟨p, hp, mem_rng.mpr ⟨h.ok p hp, Int.le_refl _⟩⟩)
  unfold runStep
  cases z : P.getLast? with
  | none =>
    have e : P = [] := List.getLast?_eq_none_iff.mp z
    subst e
    have hs : S = [] := h.nm.symm
    subst hs
    refine ⟨by simp, List.pairwise_singleton _ _, ?_⟩
    simp [rng_one]
  | some p =>
    have e := last_split z
    generalize P.dropLast = P0 at e
    subst e
    have hp := h.ok p (by simp)
    have ap := List.pairwise_append.mp h.ap
    have nm := h.nm
    simp only [List.flatMap_append, List.flatMap_cons, List.flatMap_nil, List.append_nil] at nm
    simp only
    by_cases e : p.2 = n - 1
    · rw [if_pos e]
      refine ⟨fun q hq => ?_, List.pairwise_append.mpr ⟨ap.1, List.pairwise_singleton _ _, fun a ha b hb => ?_⟩, ?_⟩
      · rcases List.mem_append.mp hq with hq | hq
        · exact h.ok q (List.mem_append_left _ hq)
        · rw [List.mem_singleton.mp hq]; simp only; omega
      · rw [List.mem_singleton.mp hb]
        exact ap.2.2 a ha p (by simp)
      · simp only [List.flatMap_append, List.flatMap_cons, List.flatMap_nil, List.append_nil]
        rw [rng_snoc (a := p.1) (b := n) (by omega), ← nm, List.append_assoc, ← e]
    · rw [if_neg e]
      refine ⟨fun q hq => ?_, List.pairwise_append.mpr ⟨h.ap, List.pairwise_singleton _ _, fun a ha b hb => ?_⟩, ?_⟩
      · rcases List.mem_append.mp hq with hq | hq
        · exact h.ok q hq
        · rw [List.mem_singleton.mp hq]; exact Int.le_refl _
      · rw [List.mem_singleton.mp hb]
        simp only
        rcases List.mem_append.mp ha with ha | ha
        · have h1 := ap.2.2 a ha p (by simp)
          have h2 := up p (by simp)
          omega
        · rw [List.mem_singleton.mp ha]
          have h2 := up p (by simp)
          omega
      · simp only [List.flatMap_append, List.flatMap_cons, List.flatMap_nil, List.append_nil, rng_one]
        rw [← nm]
theorem Prt.fold : ∀ (T : List Int) {P : List (Int × Int)} {S : List Int}, Prt P S → (S ++ T).Pairwise (· < ·) → Prt (T.foldl runStep P) (S ++ T)
  | [], P, S, h, _ => by simpa using h
  | n :: T, P, S, h, hp => by
    rw [List.foldl_cons]
    have e : S ++ n :: T = (S ++ [n]) ++ T := by simp
    rw [e] at hp ⊢
    refine Prt.fold T (h.step fun s hs => ?_) hp
    exact (List.pairwise_append.mp (List.pairwise_append.mp hp).1).2.2 s hs n (by simp)
theorem runs_prt {S : List Int} (h : S.Pairwise (· < ·)) : Prt (runs S) S := by
  have := Prt.fold S Prt.nil (by simpa using h)
  simpa [runs] using this
theorem Prt.ne {P : List (Int × Int)} {S : List Int} (h : Prt P S) (hs : S ≠ []) : P ≠ [] := fun e => hs (by rw [← h.nm, e]; rfl)
/-! ### weights -/
def cAt (cs : List Int) (n : Int) : Int := (cs[n.toNat]?).getD 0
def wsum (cs : List Int) (l : List Int) : Int := (l.map (cAt cs)).sum
theorem wsum_app {cs a b : List Int} : wsum cs (a ++ b) = wsum cs a + wsum cs b := by unfold wsum; rw [List.map_append, List.sum_append]
theorem wsum_nil {cs : List Int} : wsum cs [] = 0 := rfl
theorem wsum_cons {cs l : List Int} {n : Int} : wsum cs (n :: l) = cAt cs n + wsum cs l := by unfold wsum; rw [List.map_cons, List.sum_cons]
def gapW (cs : List Int) (p q : Int × Int) : Int := wsum cs (rng (p.2 + 1, q.1 - 1))
def gapsW (cs : List Int) : List (Int × Int) → List Int
  | p :: q :: r => gapW cs p q :: gapsW cs (q :: r)
  | _ => []
theorem gapsW_zip {cs : List Int} : ∀ P : List (Int × Int), gapsW cs P = (P.zip P.tail).map fun q => gapW cs q.1 q.2
  | [] => rfl
  | [p] => rfl
  | p :: q :: r => by
    unfold gapsW
    rw [gapsW_zip (q :: r)]
    rfl
theorem slice_sum {cs : List Int} {a b : Int} (h0 : 0 ≤ a) (h1 : a ≤ b) (h2 : b ≤ cs.length) : cut cs (some a) (some b) = (rng (a, b - 1)).map (cAt cs) := by
  unfold cut
  rw [sIx_eq h0 (by omega), sIx_eq (by omega) h2]
  refine List.ext_getElem? fun i => ?_
  unfold rng
  rw [List.map_map, List.getElem?_map, List.getElem?_take, List.getElem?_drop]
  by_cases z : i < b.toNat - a.toNat
  · rw [if_pos z, List.getElem?_range (by omega)]
    have hl : a.toNat + i < cs.length := by omega
    simp only [Option.map_some, Function.comp, cAt]
    have e : (a + (i : Int)).toNat = a.toNat + i := by omega
    rw [e, List.getElem?_eq_getElem hl]
    rfl
  · rw [if_neg z, List.getElem?_eq_none (by simp; omega)]
    rfl
/-! ### gaps, one number after the other -/
def gstep (had : Int → Bool) (cs : List Int) (s : List Int × Option Int) (n : Int) : List Int × Option Int :=
  if had n = true then (match s.2 with | some w => (s.1 ++ [w], none) | none => s) else (s.1, some (match s.2 with | some w => w + cAt cs n | none => cAt cs n))
section
variable {had : Int → Bool} {cs : List Int}
theorem g_had : ∀ {l acc : List Int}, (∀ n ∈ l, had n = true) → l.foldl (gstep had cs) (acc, none) = (acc, none)
  | [], acc, _ => rfl
  | n :: l, acc, h => by
    rw [List.foldl_cons]
    have : gstep had cs (acc, none) n = (acc, none) := by simp [gstep, h n List.mem_cons_self]
    rw [this]
    exact g_had fun m hm => h m (List.mem_cons_of_mem _ hm)
theorem g_some : ∀ {l acc : List Int} {w : Int}, (∀ n ∈ l, had n = false) → l.foldl (gstep had cs) (acc, some w) = (acc, some (w + wsum cs l))
  | [], acc, w, _ => by simp [wsum_nil]
  | n :: l, acc, w, h => by
    rw [List.foldl_cons]
    have : gstep had cs (acc, some w) n = (acc, some (w + cAt cs n)) := by simp [gstep, h n List.mem_cons_self]
    rw [this, g_some fun m hm => h m (List.mem_cons_of_mem _ hm), wsum_cons, Int.add_assoc]
theorem g_gap {l acc : List Int} (hne : l ≠ []) (h : ∀ n ∈ l, had n = false) : l.foldl (gstep had cs) (acc, none) = (acc, some (wsum cs l)) := by
  cases l with
  | nil => exact absurd rfl hne
  | cons n l =>
    rw [List.foldl_cons]
    have : gstep had cs (acc, none) n = (acc, some (cAt cs n)) := by simp [gstep, h n List.mem_cons_self]
    rw [this, g_some fun m hm => h m (List.mem_cons_of_mem _ hm), wsum_cons]
theorem gaps_fold : ∀ (P : List (Int × Int)) (p : Int × Int) (acc : List Int) (last : Int), (∀ q ∈ p :: P, q.1 ≤ q.2) → (p :: P).Pairwise (fun p q => p.2 + 1 < q.1) → (∀ q ∈ p :: P, ∀ n ∈ rng q, had n = true) →
    (∀ n, p.1 ≤ n → n ≤ last → had n = true → ∃ q ∈ p :: P, n ∈ rng q) → ((p :: P).getLast?.map (·.2)) = some last →
    (rng (p.1, last)).foldl (gstep had cs) (acc, none) = (acc ++ gapsW cs (p :: P), none)
  | [], p, acc, last, ho, ha, hh, hn, hl => by
    simp only [List.getLast?_singleton, Option.map_some, Option.some.injEq] at hl
    subst hl
    rw [g_had (hh p (by simp))]
    simp [gapsW]
  | q :: P, p, acc, last, ho, ha, hh, hn, hl => by
    have hp := ho p (by simp)
    have hq := ho q (by simp)
    have hpq : p.2 + 1 < q.1 := (List.pairwise_cons.mp ha).1 q (by simp)
    have ha2 := (List.pairwise_cons.mp ha).2
    have hl2 : ((q :: P).getLast?.map (·.2)) = some last := by rw [← hl]; simp [List.getLast?_cons_cons]
    have hql : q.2 ≤ last := by
      have gen : ∀ (P : List (Int × Int)) (q : Int × Int), (∀ x ∈ q :: P, x.1 ≤ x.2) → (q :: P).Pairwise (fun p q => p.2 + 1 < q.1) → ((q :: P).getLast?.map (·.2)) = some last → q.2 ≤ last := by
        intro P
        induction P with
        | nil =>
          intro q _ _ h
          simp only [List.getLast?_singleton, Option.map_some, Option.some.injEq] at h
          omega
        | cons x P ih =>
          intro q h1 h2 h3
          have := ih x (fun y hy => h1 y (List.mem_cons_of_mem _ hy)) (List.pairwise_cons.mp h2).2 (by rw [← h3]; simp [List.getLast?_cons_cons])
          have h4 := (List.pairwise_cons.mp h2).1 x (by simp)
          have h5 := h1 x (by simp)
          omega
      exact gen P q (fun y hy => ho y (List.mem_cons_of_mem _ hy)) ha2 hl2
    rw [rng_cut (a := p.1) (m := p.2) (b := last) (by omega) (by omega), rng_cut (a := p.2 + 1) (m := q.1 - 1) (b := last) (by omega) (by omega), List.foldl_append, List.foldl_append]
    rw [g_had (hh p (by simp))]
    have hgap : ∀ n ∈ rng (p.2 + 1, q.1 - 1), had n = false := fun n hm => by
      have h1 := mem_rng.mp hm
      simp only at h1
      refine Bool.eq_false_iff.mpr fun z => ?_
      obtain ⟨x, hx, hxn⟩ := hn n (by omega) (by omega) z
      have h2 := mem_rng.mp hxn
      rcases List.mem_cons.mp hx with rfl | hx
      · omega
      · rcases List.mem_cons.mp hx with rfl | hx
        · omega
        · have := (List.pairwise_cons.mp ha2).1 x hx
          omega
    have hne : rng (p.2 + 1, q.1 - 1) ≠ [] := by rw [rng_cons (by omega)]; simp
    rw [g_gap hne hgap, show q.1 - 1 + 1 = q.1 by omega]
    have hq1 : had q.1 = true := hh q (by simp) q.1 (mem_rng.mpr ⟨Int.le_refl _, hq⟩)
    have sw : ∀ w : Int, (rng (q.1, last)).foldl (gstep had cs) (acc, some w) = (rng (q.1, last)).foldl (gstep had cs) (acc ++ [w], none) := fun w => by
      rw [rng_cons (a := q.1) (b := last) (by omega), List.foldl_cons, List.foldl_cons]
      simp [gstep, hq1]
    rw [sw, gaps_fold P q _ last (fun y hy => ho y (List.mem_cons_of_mem _ hy)) ha2 (fun y hy => hh y (List.mem_cons_of_mem _ hy)) (fun n h1 h2 h3 => ?_) hl2]
    · simp [gapsW, gapW]
    · obtain ⟨x, hx, hxn⟩ := hn n (by omega) h2 h3
      rcases List.mem_cons.mp hx with rfl | hx
      · have := mem_rng.mp hxn
        omega
      · exact ⟨x, hx, hxn⟩
end
/-! ### joined parts -/
def mg : Int × Int → List (Bool × (Int × Int)) → List (Int × Int)
  | cur, [] => [cur]
  | cur, (true, p) :: r => cur :: mg p r
  | cur, (false, p) :: r => mg (cur.1, p.2) r
theorem mg_len : ∀ (r : List (Bool × (Int × Int))) (cur : Int × Int), (mg cur r).length = 1 + (r.filter (·.1)).length
  | [], cur => rfl
  | (true, p) :: r, cur => by simp [mg, mg_len r]; omega
  | (false, p) :: r, cur => by simp [mg, mg_len r]
/-- what is needless of some numbers -/
def ndl (had : Int → Bool) (cs l : List Int) : Int := wsum cs (l.filter fun n => !had n)
theorem ndl_app {had : Int → Bool} {cs a b : List Int} : ndl had cs (a ++ b) = ndl had cs a + ndl had cs b := by unfold ndl; rw [List.filter_append, wsum_app]
theorem ndl_had {had : Int → Bool} {cs l : List Int} (h : ∀ n ∈ l, had n = true) : ndl had cs l = 0 := by
  unfold ndl
  rw [List.filter_eq_nil_iff.mpr fun n hn => by simp [h n hn]]
  rfl
theorem ndl_not {had : Int → Bool} {cs l : List Int} (h : ∀ n ∈ l, had n = false) : ndl had cs l = wsum cs l := by
  unfold ndl
  rw [List.filter_eq_self.mpr fun n hn => by simp [h n hn]]
structure Mgd (cur : Int × Int) (r : List (Bool × (Int × Int))) (F : List (Int × Int)) (had : Int → Bool) (cs : List Int) (hi : Int) : Prop where
  ok : ∀ p ∈ F, p.1 ≤ p.2
  ap : F.Pairwise (fun p q => p.2 < q.1)
  lo : ∀ p ∈ F, cur.1 ≤ p.1
  up : ∀ p ∈ F, p.2 ≤ hi
  all : ∀ q ∈ (cur :: r.map (·.2)), ∀ n ∈ rng q, n ∈ F.flatMap rng
theorem mg_ok {had : Int → Bool} {cs : List Int} {hi : Int} : ∀ (r : List (Bool × (Int × Int))) (cur : Int × Int), cur.1 ≤ cur.2 → cur.2 ≤ hi → (∀ q ∈ r, q.2.1 ≤ q.2.2 ∧ q.2.2 ≤ hi) → (∀ q ∈ r, cur.2 + 1 < q.2.1) → r.Pairwise (fun p q => p.2.2 + 1 < q.2.1) →
    Mgd cur r (mg cur r) had cs hi
  | [], cur, h1, h2, _, _, _ => ⟨by simp [mg, h1], by simp [mg], by simp [mg], by simp [mg, h2], by simp [mg]⟩
  | (true, p) :: r, cur, h1, h2, h3, h4, h5 => by
    have hp := h3 (true, p) (by simp)
    have hcp := h4 (true, p) (by simp)
    simp only at hp hcp
    have ih := mg_ok (had := had) (cs := cs) r p hp.1 hp.2 (fun q hq => h3 q (by simp [hq])) (fun q hq => (List.pairwise_cons.mp h5).1 q hq) (List.pairwise_cons.mp h5).2
    unfold mg
    refine ⟨fun q hq => ?_, List.pairwise_cons.mpr ⟨fun q hq => ?_, ih.ap⟩, fun q hq => ?_, fun q hq => ?_, fun q hq n hn => ?_⟩
    · rcases List.mem_cons.mp hq with rfl | hq
      · exact h1
      · exact ih.ok q hq
    · have := ih.lo q hq; omega
    · rcases List.mem_cons.mp hq with rfl | hq
      · exact Int.le_refl _
      · have := ih.lo q hq; omega
    · rcases List.mem_cons.mp hq with rfl | hq
      · exact h2
      · exact ih.up q hq
    · rw [List.flatMap_cons]
      rcases List.mem_cons.mp hq with rfl | hq
      · exact List.mem_append_left _ hn
      · exact List.mem_append_right _ (ih.all q hq n hn)
  | (false, p) :: r, cur, h1, h2, h3, h4, h5 => by
    have hp := h3 (false, p) (by simp)
    have hcp := h4 (false, p) (by simp)
    simp only at hp hcp
    have ih := mg_ok (had := had) (cs := cs) r (cur.1, p.2) (by simp only; omega) hp.2 (fun q hq => h3 q (by simp [hq])) (fun q hq => (List.pairwise_cons.mp h5).1 q hq) (List.pairwise_cons.mp h5).2
    unfold mg
    refine ⟨ih.ok, ih.ap, ih.lo, ih.up, fun q hq n hn => ?_⟩
    have wide : ∀ n, cur.1 ≤ n → n ≤ p.2 → n ∈ (mg (cur.1, p.2) r).flatMap rng := fun n a b => ih.all (cur.1, p.2) (by simp) n (mem_rng.mpr ⟨a, b⟩)
    rcases List.mem_cons.mp hq with rfl | hq
    · have := mem_rng.mp hn
      exact wide n this.1 (by omega)
    · rw [List.map_cons] at hq
      rcases List.mem_cons.mp hq with rfl | hq
      · have := mem_rng.mp hn
        exact wide n (by have h9 := this.1; omega) this.2
      · exact ih.all q (List.mem_cons_of_mem _ hq) n hn
/-- the weights of the gaps that are no more -/
def lostW (cs : List Int) : Int × Int → List (Bool × (Int × Int)) → Int
  | _, [] => 0
  | prev, (b, p) :: r => (if b = true then 0 else gapW cs prev p) + lostW cs p r
theorem mg_ndl {had : Int → Bool} {cs : List Int} : ∀ (r : List (Bool × (Int × Int))) (cur prev : Int × Int), cur.1 ≤ cur.2 → cur.2 = prev.2 → (∀ q ∈ r, q.2.1 ≤ q.2.2) → (∀ q ∈ r, cur.2 + 1 < q.2.1) → r.Pairwise (fun p q => p.2.2 + 1 < q.2.1) →
    (∀ q ∈ r, ∀ n ∈ rng q.2, had n = true) → (∀ n, cur.2 < n → had n = true → ∃ q ∈ r, n ∈ rng q.2) →
    ndl had cs ((mg cur r).flatMap rng) = ndl had cs (rng cur) + lostW cs prev r
  | [], cur, prev, _, _, _, _, _, _, _ => by simp [mg, lostW]
  | (true, p) :: r, cur, prev, h1, he, h3, h4, h5, hh, hn => by
    have hp := h3 (true, p) (by simp)
    have hcp := h4 (true, p) (by simp)
    simp only at hp hcp
    have ih := mg_ndl (had := had) (cs := cs) r p p hp rfl (fun q hq => h3 q (by simp [hq])) (fun q hq => (List.pairwise_cons.mp h5).1 q hq) (List.pairwise_cons.mp h5).2 (fun q hq => hh q (by simp [hq])) (fun n a b => by
      obtain ⟨q, hq, hqn⟩ := hn n (by omega) b
      rcases List.mem_cons.mp hq with rfl | hq
      · have := mem_rng.mp hqn; simp only at this; omega
      · exact ⟨q, hq, hqn⟩)
    unfold mg lostW
    rw [List.flatMap_cons, ndl_app, ih, ndl_had (l := rng p) (hh (true, p) (by simp))]
    simp
  | (false, p) :: r, cur, prev, h1, he, h3, h4, h5, hh, hn => by
    have hp := h3 (false, p) (by simp)
    have hcp := h4 (false, p) (by simp)
    simp only at hp hcp
    have ih := mg_ndl (had := had) (cs := cs) r (cur.1, p.2) p (by simp only; omega) rfl (fun q hq => h3 q (by simp [hq])) (fun q hq => (List.pairwise_cons.mp h5).1 q hq) (List.pairwise_cons.mp h5).2 (fun q hq => hh q (by simp [hq])) (fun n a b => by
      simp only at a
      obtain ⟨q, hq, hqn⟩ := hn n (by omega) b
      rcases List.mem_cons.mp hq with rfl | hq
      · have := mem_rng.mp hqn; simp only at this; omega
      · exact ⟨q, hq, hqn⟩)
    unfold mg lostW
    rw [ih, rng_cut (a := cur.1) (m := cur.2) (b := p.2) (by omega) (by omega), rng_cut (a := cur.2 + 1) (m := p.1 - 1) (b := p.2) (by omega) (by omega), ndl_app, ndl_app, show p.1 - 1 + 1 = p.1 by omega]
    have e1 : ndl had cs (rng (p.1, p.2)) = 0 := ndl_had (hh (false, p) (by simp))
    have e2 : ndl had cs (rng (cur.2 + 1, p.1 - 1)) = gapW cs prev p := by
      rw [ndl_not fun n hm => ?_]
      · unfold gapW; rw [he]
      · have h1 := mem_rng.mp hm
        simp only at h1
        refine Bool.eq_false_iff.mpr fun z => ?_
        obtain ⟨q, hq, hqn⟩ := hn n (by omega) z
        have h2 := mem_rng.mp hqn
        rcases List.mem_cons.mp hq with rfl | hq
        · simp only at h2; omega
        · have := (List.pairwise_cons.mp h5).1 q hq
          simp only at this
          omega
    rw [e1, e2, show rng (cur.1, cur.2) = rng cur from rfl]
    simp
    omega
end Sm

/-! Sim46: plain: the heaviest gaps. -/
namespace Sm
open PySem L2
theorem perm_sum {α : Type} {f : α → Int} {a b : List α} (h : a.Perm b) : (a.map f).sum = (b.map f).sum := by
  induction h with
  | nil => rfl
  | cons x _ ih => simp [ih]
  | swap x y l => simp only [List.map_cons, List.sum_cons]; omega
  | trans _ _ i1 i2 => exact i1.trans i2
theorem sum_rev (l : List Int) : l.reverse.sum = l.sum := by
  have := perm_sum (f := id) (List.reverse_perm l)
  simpa using this
def ordP (hv : List Int) : List (Int × Int) := srt kP (hv.zipIdx.map fun q => (0 - q.1, (q.2 : Int)))
def keptL (hv : List Int) (m : Nat) : List Int := ((ordP hv).take m).map (·.2)
def restL (hv : List Int) (m : Nat) : List Int := ((ordP hv).drop m).map fun q => 0 - q.1
theorem ordP_perm (hv : List Int) : (ordP hv).Perm (hv.zipIdx.map fun q => (0 - q.1, (q.2 : Int))) := srt_perm _
theorem ordP_len (hv : List Int) : (ordP hv).length = hv.length := by rw [(ordP_perm hv).length_eq]; simp
theorem ordP_pw (hv : List Int) : (ordP hv).Pairwise fun a b => a.1 ≤ b.1 := by
  refine (srt_pw (k := kP) _).imp fun {a b} h => ?_
  rw [leP] at h
  have := of_decide_eq_true h
  omega
theorem ordP_w (hv : List Int) : ((ordP hv).map fun q => 0 - q.1).Perm hv := by
  have := (ordP_perm hv).map fun q => 0 - q.1
  rw [List.map_map] at this
  have e : (hv.zipIdx.map ((fun q : Int × Int => 0 - q.1) ∘ fun q => (0 - q.1, (q.2 : Int)))) = hv := by
    have e1 : ((fun q : Int × Int => 0 - q.1) ∘ fun q : Int × Nat => (0 - q.1, (q.2 : Int))) = fun q => q.1 := by
      funext q
      simp only [Function.comp]
      omega
    rw [e1]
    exact List.zipIdx_map_fst 0 hv
  rw [e] at this
  exact this
theorem ordP_srt (hv : List Int) : ((ordP hv).map fun q => 0 - q.1).reverse = srt kI hv := by
  refine srt_uniq okI ((List.reverse_perm _).trans (ordP_w hv)) ?_
  rw [List.pairwise_reverse, List.pairwise_map]
  refine (ordP_pw hv).imp fun {a b} h => ?_
  rw [leI]
  exact decide_eq_true (by omega)
theorem rest_sum (hv : List Int) (m : Nat) : (restL hv m).sum = ((srt kI hv).take (hv.length - m)).sum := by
  rw [← ordP_srt, List.take_reverse, sum_rev, List.length_map, ordP_len]
  unfold restL
  rw [← List.map_drop]
  by_cases z : m ≤ hv.length
  · rw [show hv.length - (hv.length - m) = m by omega]
  · rw [List.drop_eq_nil_of_le (by rw [ordP_len]; omega), List.drop_eq_nil_of_le (by rw [ordP_len]; omega)]
theorem ordP_nd (hv : List Int) : ((ordP hv).map (·.2)).Nodup := by
  refine ((ordP_perm hv).map (·.2)).nodup_iff.mpr ?_
  rw [List.map_map]
  have e1 : (((fun q : Int × Int => q.2) ∘ fun q : Int × Nat => (0 - q.1, (q.2 : Int)))) = (fun n : Nat => (n : Int)) ∘ fun q => q.2 := rfl
  rw [e1, ← List.map_map, List.zipIdx_map_snd]
  rw [List.nodup_iff_pairwise_ne, List.pairwise_map]
  exact (List.nodup_iff_pairwise_ne.mp (List.nodup_range' (s := 0) (n := hv.length) (step := 1))).imp fun {a b} h e => h (by omega)
theorem drop_kept {hv : List Int} {m : Nat} {q : Int × Int} (h : q ∈ (ordP hv).drop m) : q.2 ∉ keptL hv m := by
  intro z
  obtain ⟨p, hp, e⟩ := List.mem_map.mp z
  have nd := ordP_nd hv
  rw [← List.take_append_drop m (ordP hv), List.map_append, List.nodup_append] at nd
  exact nd.2.2 p.2 (List.mem_map_of_mem hp) q.2 (List.mem_map_of_mem h) e
/-- a sum over the gaps, by their order -/
theorem ord_sum (hv : List Int) (g : Int → Int → Int) : ((hv.zipIdx).map fun q => g q.1 (q.2 : Int)).sum = ((ordP hv).map fun q => g (0 - q.1) q.2).sum := by
  rw [perm_sum (ordP_perm hv), List.map_map]
  congr 1
  apply List.map_congr_left
  intro q _
  simp only [Function.comp]
  rw [show 0 - (0 - q.1) = q.1 by omega]
theorem lost_sum (hv : List Int) (m : Nat) : ((hv.zipIdx).map fun q => if (q.2 : Int) ∈ keptL hv m then 0 else q.1).sum = (restL hv m).sum := by
  rw [ord_sum hv (fun w k => if k ∈ keptL hv m then 0 else w)]
  conv => lhs; rw [← List.take_append_drop m (ordP hv)]
  rw [List.map_append, List.sum_append]
  have e1 : ((ordP hv).take m).map (fun q => if q.2 ∈ keptL hv m then 0 else 0 - q.1) = ((ordP hv).take m).map fun _ => (0 : Int) := by
    apply List.map_congr_left
    intro q hq
    rw [if_pos (show q.2 ∈ keptL hv m from List.mem_map_of_mem (f := fun q : Int × Int => q.2) hq)]
  have e2 : ((ordP hv).drop m).map (fun q => if q.2 ∈ keptL hv m then 0 else 0 - q.1) = restL hv m := by
    unfold restL
    apply List.map_congr_left
    intro q hq
    rw [if_neg (drop_kept hq)]
  rw [e1, e2]
  have e3 : ∀ l : List (Int × Int), (l.map fun _ => (0 : Int)).sum = 0 := fun l => by induction l <;> simp_all
  rw [e3]; omega
theorem kept_len (hv : List Int) (m : Nat) : (keptL hv m).length ≤ m := by
  unfold keptL
  rw [List.length_map, List.length_take]; omega
theorem kept_nd (hv : List Int) (m : Nat) : (keptL hv m).Nodup := by
  unfold keptL
  have nd := ordP_nd hv
  rw [← List.take_append_drop m (ordP hv), List.map_append, List.nodup_append] at nd
  exact nd.1
theorem rest_mem {hv : List Int} {m : Nat} {w : Int} (h : w ∈ restL hv m) : w ∈ hv := by
  have : w ∈ (ordP hv).map fun q => 0 - q.1 := by
    obtain ⟨q, hq, e⟩ := List.mem_map.mp h
    exact List.mem_map.mpr ⟨q, List.mem_of_mem_drop hq, e⟩
  exact (ordP_w hv).mem_iff.mp this
theorem mark_sum {hv : List Int} {m : Nat} {mark : Int} (h0 : ∀ w ∈ hv, 0 ≤ w) (hm : mark ∈ restL hv m ++ [0]) (hM : ∀ w ∈ restL hv m ++ [0], w ≤ mark) : (hv.map fun w => min w mark).sum - (m : Int) * mark = (restL hv m).sum := by
  have e0 : (hv.zipIdx.map fun q => min q.1 mark).sum = ((ordP hv).map fun q => min (0 - q.1) mark).sum := ord_sum hv (fun w _ => min w mark)
  have e1 : (hv.zipIdx.map fun q => min q.1 mark).sum = (hv.map fun w => min w mark).sum := by
    have : (hv.zipIdx.map fun q => min q.1 mark) = (hv.zipIdx.map (·.1)).map fun w => min w mark := by rw [List.map_map]; rfl
    rw [this]
    rw [show hv.zipIdx.map (·.1) = hv from List.zipIdx_map_fst 0 hv]
  rw [e1] at e0
  rw [e0]
  conv => lhs; rw [← List.take_append_drop m (ordP hv)]
  rw [List.map_append, List.sum_append]
  have mk0 : 0 ≤ mark := hM 0 (by simp)
  have e2 : ((ordP hv).drop m).map (fun q => min (0 - q.1) mark) = restL hv m := by
    unfold restL
    apply List.map_congr_left
    intro q hq
    have : 0 - q.1 ≤ mark := hM _ (List.mem_append_left _ (List.mem_map_of_mem (f := fun q : Int × Int => 0 - q.1) hq))
    omega
  have e3 : ((ordP hv).take m).map (fun q => min (0 - q.1) mark) = ((ordP hv).take m).map fun _ => mark := by
    apply List.map_congr_left
    intro q hq
    have hw : mark ≤ 0 - q.1 := by
      rcases List.mem_append.mp hm with h | h
      · obtain ⟨p, hp, e⟩ := List.mem_map.mp h
        have pw := ordP_pw hv
        rw [← List.take_append_drop m (ordP hv)] at pw
        have := (List.pairwise_append.mp pw).2.2 q hq p hp
        omega
      · rw [List.mem_singleton.mp h]
        have : 0 - q.1 ∈ hv := (ordP_w hv).mem_iff.mp (List.mem_map_of_mem (f := fun q : Int × Int => 0 - q.1) (List.mem_of_mem_take hq))
        exact h0 _ this
    omega
  have e4 : ∀ l : List (Int × Int), (l.map fun _ => mark).sum = (l.length : Int) * mark := fun l => by
    induction l with
    | nil => simp
    | cons x l ih => simp only [List.map_cons, List.sum_cons, ih, List.length_cons]; rw [Int.natCast_add, Int.add_mul]; omega
  rw [e2, e3, e4]
  by_cases z : m ≤ hv.length
  · rw [List.length_take, ordP_len, Nat.min_eq_left z]; omega
  · have e5 : restL hv m = [] := by
      unfold restL
      rw [List.drop_eq_nil_of_le (by rw [ordP_len]; omega)]
      rfl
    rw [e5] at hm
    have e6 : mark = 0 := by simpa using hm
    rw [e5, e6]; simp
/-! ### the gaps of parts, by their numbers -/
def flags (kept : List Int) : Nat → List (Int × Int) → List (Bool × (Int × Int))
  | _, [] => []
  | k, p :: r => (decide ((k : Int) ∈ kept), p) :: flags kept (k + 1) r
theorem flags_snd {kept : List Int} : ∀ (k : Nat) (P : List (Int × Int)), (flags kept k P).map (·.2) = P
  | _, [] => rfl
  | k, p :: r => by simp [flags, flags_snd (k + 1) r]
theorem lost_flags {kept cs : List Int} : ∀ (P : List (Int × Int)) (p : Int × Int) (k : Nat), lostW cs p (flags kept k P) = ((gapsW cs (p :: P)).zipIdx k |>.map fun q => if (q.2 : Int) ∈ kept then 0 else q.1).sum
  | [], p, k => by simp [flags, lostW, gapsW]
  | q :: P, p, k => by
    unfold flags lostW gapsW
    rw [lost_flags P q (k + 1)]
    simp only [List.zipIdx_cons, List.map_cons, List.sum_cons, decide_eq_true_eq]
theorem flags_len {kept : List Int} : ∀ (P : List (Int × Int)) (k : Nat), kept.Nodup → ((flags kept k P).filter (·.1)).length ≤ (kept.filter fun i => decide ((k : Int) ≤ i)).length
  | [], k, _ => by simp [flags]
  | p :: P, k, h => by
    have ih := flags_len P (k + 1) h
    unfold flags
    by_cases z : (k : Int) ∈ kept
    · simp only [z, decide_true, List.filter_cons_of_pos, List.length_cons]
      have hsub : ((k : Int) :: kept.filter fun i => decide (((k + 1 : Nat) : Int) ≤ i)).length ≤ (kept.filter fun i => decide ((k : Int) ≤ i)).length := by
        refine List.Nodup.length_le_of_subset (List.nodup_cons.mpr ⟨fun hm => ?_, h.filter _⟩) fun i hi => ?_
        · have := of_decide_eq_true (List.mem_filter.mp hm).2
          omega
        · rcases List.mem_cons.mp hi with rfl | hi
          · exact List.mem_filter.mpr ⟨z, by simp⟩
          · have := List.mem_filter.mp hi
            exact List.mem_filter.mpr ⟨this.1, decide_eq_true (by have := of_decide_eq_true this.2; omega)⟩
      simp only [List.length_cons] at hsub
      omega
    · simp only [z, decide_false, Bool.false_eq_true, not_false_iff, List.filter_cons_of_neg]
      refine Nat.le_trans ih ?_
      have : ((kept.filter fun i => decide (((k + 1 : Nat) : Int) ≤ i))).length ≤ (kept.filter fun i => decide ((k : Int) ≤ i)).length := by
        refine List.Nodup.length_le_of_subset (h.filter _) fun i hi => ?_
        have := List.mem_filter.mp hi
        exact List.mem_filter.mpr ⟨this.1, decide_eq_true (by have := of_decide_eq_true this.2; omega)⟩
      exact this
theorem gapsW_len {cs : List Int} : ∀ (P : List (Int × Int)) (p : Int × Int), (gapsW cs (p :: P)).length = P.length
  | [], _ => rfl
  | q :: P, p => by unfold gapsW; rw [List.length_cons, gapsW_len P q, List.length_cons]
theorem wsum_nonneg {cs l : List Int} (h : ∀ c ∈ cs, 0 ≤ c) : 0 ≤ wsum cs l := by
  induction l with
  | nil => simp [wsum]
  | cons n l ih =>
    rw [wsum_cons]
    have : 0 ≤ cAt cs n := by
      unfold cAt
      cases z : cs[n.toNat]? with
      | none => simp
      | some c => exact h c (List.mem_of_getElem? z)
    omega
theorem gapsW_nonneg {cs : List Int} (h : ∀ c ∈ cs, 0 ≤ c) : ∀ (P : List (Int × Int)), ∀ w ∈ gapsW cs P, 0 ≤ w := by
  intro P w hw
  rw [gapsW_zip] at hw
  obtain ⟨q, _, rfl⟩ := List.mem_map.mp hw
  exact wsum_nonneg h
/-- no sum over different places is more than the whole -/
theorem wsum_le {cs : List Int} (h : ∀ c ∈ cs, 0 ≤ c) {a b : Int} (h0 : 0 ≤ a) (h1 : b < cs.length) : wsum cs (rng (a, b)) ≤ cs.sum := by
  by_cases z : a ≤ b + 1
  · have e := slice_sum (cs := cs) (a := a) (b := b + 1) h0 z (by omega)
    rw [Int.add_sub_cancel] at e
    unfold wsum
    rw [← e]
    have nn : ∀ l : List Int, (∀ c ∈ l, 0 ≤ c) → 0 ≤ l.sum := fun l hl => by
      induction l with
      | nil => simp
      | cons c l ih =>
        have := ih fun d hd => hl d (List.mem_cons_of_mem _ hd)
        have := hl c List.mem_cons_self
        simp only [List.sum_cons]; omega
    unfold cut
    have e1 : ∀ (k : Nat) (l : List Int), (∀ c ∈ l, 0 ≤ c) → (l.take k).sum ≤ l.sum := fun k l hl => by
      conv => rhs; rw [← List.take_append_drop k l, List.sum_append]
      have := nn (l.drop k) fun c hc => hl c (List.mem_of_mem_drop hc)
      omega
    have e2 : ∀ (k : Nat) (l : List Int), (∀ c ∈ l, 0 ≤ c) → (l.drop k).sum ≤ l.sum := fun k l hl => by
      conv => rhs; rw [← List.take_append_drop k l, List.sum_append]
      have := nn (l.take k) fun c hc => hl c (List.mem_of_mem_take hc)
      omega
    exact Int.le_trans (e1 _ _ fun c hc => h c (List.mem_of_mem_drop hc)) (e2 _ _ h)
  · rw [rng_nil (by omega)]
    have nn : ∀ l : List Int, (∀ c ∈ l, 0 ≤ c) → 0 ≤ l.sum := fun l hl => by
      induction l with
      | nil => simp
      | cons c l ih =>
        have := ih fun d hd => hl d (List.mem_cons_of_mem _ hd)
        have := hl c List.mem_cons_self
        simp only [List.sum_cons]; omega
    simpa [wsum] using nn cs h
end Sm

/-! Sim47: texts: str(int), int(..), join, split, f'..', signs. -/
namespace Sm
open PySem L2
section
variable {X : Cx} {B : Bs} {k : Kd} {Wx : WX} {a b c e iter tg : Expr} {es : List Expr} {fs : List Ev} {f g h : Ev} {pos : Pos} {Q : D → Sto → Prop} {E' : Str → Option (Str × D) → Sto → Prop} {st : Sto} {r : Env}
/-- str(i) -/
def fStrI : List D → Sto → Rs
  | [.int i], st => if -I400 < i ∧ i < I400 then .ok (.str (toString i)) st else .bad
  | _, _ => .bad
theorem jb_str : JB X B .sh Wx (.type "str") fStrI := ⟨_, call_str_int, by
  intro O e s w0 w ds vs st Q R xt rr q
  cases ds with
  | nil => exact (show False from q).elim
  | cons d ds1 =>
   cases ds1 with
   | cons _ _ => cases d <;> exact (show False from q).elim
   | nil =>
    obtain ⟨v, rfl, h⟩ := RQs.one rr
    cases d with
    | int i =>
      by_cases hz : -I400 < i ∧ i < I400
      · simp only [fStrI, if_pos hz] at q
        exact ⟨i, by rw [h.int], small_log hz, post.val R xt q rdS⟩
      · simp only [fStrI, if_neg hz] at q
        exact q.elim
    | _ => exact (show False from q).elim⟩
theorem f_strI {i : Int} : RsP (fStrI [.int i] st) Q E' = ((-I400 < i ∧ i < I400) ∧ Q (.str (toString i)) st) := by
  by_cases hz : -I400 < i ∧ i < I400 <;> simp [fStrI, hz, RsP]
/-- int(text), int(truth), int(int) -/
def fIntA : List D → Sto → Rs
  | [.int i], st => .ok (.int i) st
  | [.bl b], st => .ok (.int (if b then 1 else 0)) st
  | [.str x], st => if x.length ≤ 640 then (match PySem.intText? x with | some n => .ok (.int n) st | none => .bad) else .bad
  | _, _ => .bad
def rIntA : List V → Hp → VK → Prop := fun xs H Q => ((∃ i, xs = [.int i] ∧ Q (.int i) H) ∨ ∃ k, xs = [.bl k] ∧ Q (.int (if k then 1 else 0)) H) ∨ ∃ a n, xs = [.str a] ∧ PySem.intText? a = some n ∧ a.length ≤ 640 ∧ Q (.int n) H
theorem cr_intA : CallR X (.type "int") rIntA := by
  intro pins s σ H xs us Q I r h
  rcases h with h | h
  · exact call_int1 pins s σ H xs us Q I r h
  · exact call_int_str pins s σ H xs us Q I r h
theorem jb_int : JB X B .sh Wx (.type "int") fIntA := ⟨_, cr_intA, by
  intro O e s w0 w ds vs st Q R xt rr q
  cases ds with
  | nil => exact (show False from q).elim
  | cons d ds1 =>
   cases ds1 with
   | cons _ _ => cases d <;> exact (show False from q).elim
   | nil =>
    obtain ⟨v, rfl, h⟩ := RQs.one rr
    cases d with
    | int i => exact .inl (.inl ⟨i, by rw [h.int], post.val R xt q rdI⟩)
    | bl b => exact .inl (.inr ⟨b, by rw [h.bl], post.val R xt q rdI⟩)
    | str x =>
      by_cases hz : x.length ≤ 640
      · simp only [fIntA, if_pos hz] at q
        cases zn : PySem.intText? x with
        | none => rw [zn] at q; exact q.elim
        | some n =>
          rw [zn] at q
          exact .inr ⟨x, n, by rw [h.str], zn, hz, post.val R xt q rdI⟩
      · simp only [fIntA, if_neg hz] at q
        exact q.elim
    | _ => exact (show False from q).elim⟩
theorem f_intI {i : Int} : RsP (fIntA [.int i] st) Q E' = Q (.int i) st := rfl
theorem f_intB {b : Bool} : RsP (fIntA [.bl b] st) Q E' = Q (.int (if b then 1 else 0)) st := rfl
theorem f_intS {x : Str} : RsP (fIntA [.str x] st) Q E' = (x.length ≤ 640 ∧ ∃ n, PySem.intText? x = some n ∧ Q (.int n) st) := by
  by_cases hz : x.length ≤ 640
  · simp only [fIntA, if_pos hz]
    cases PySem.intText? x <;> simp [RsP, hz]
  · simp [fIntA, if_neg hz, RsP, hz]
/-- the texts of a list -/
def strsOf : List D → Option (List Str)
  | [] => some []
  | .str x :: ds => (strsOf ds).map (x :: ·)
  | _ :: _ => none
theorem strsOf_rds {G : Cfg} {w : Wd} : ∀ {ds : List D} {vs : List V} {ys : List Str}, RDs G w ds vs → strsOf ds = some ys → vs = ys.map V.str
  | [], vs, ys, h, e => by
    cases e
    unfold RDs at h
    exact h
  | d :: ds, vs, ys, h, e => by
    cases d with
    | str x =>
      unfold RDs at h
      obtain ⟨v, r, rfl, h1, h2⟩ := h
      unfold strsOf at e
      cases z : strsOf ds with
      | none => rw [z] at e; cases e
      | some zs =>
        rw [z] at e
        cases e
        have e2 := strsOf_rds h2 z
        have e1 := RQ.str (.inl h1)
        rw [e1, e2]; rfl
    | _ => cases e
theorem strsOf_map : ∀ {ys : List Str}, strsOf (ys.map D.str) = some ys
  | [] => rfl
  | y :: ys => by simp [strsOf, strsOf_map (ys := ys)]
theorem rds_strs {G : Cfg} {w : Wd} : ∀ {ys : List Str}, RDs G w (ys.map D.str) (ys.map V.str)
  | [] => by unfold RDs; rfl
  | y :: ys => by
    rw [List.map_cons, List.map_cons]
    unfold RDs
    exact ⟨_, _, rfl, rdS, rds_strs⟩
end
end Sm

/-! Sim48: join, split. -/
namespace Sm
open PySem L2
section
variable {X : Cx} {B : Bs} {k : Kd} {Wx : WX} {a b c e iter tg o : Expr} {es : List Expr} {fs : List Ev} {f g h : Ev} {pos apos : Pos} {Q : D → Sto → Prop} {E' : Str → Option (Str × D) → Sto → Prop} {st : Sto} {r : Env}
def fJoin (x : Str) (d : D) (st : Sto) : Rs := match d with
  | .lst ds => (match strsOf ds with | some ys => if (ys.map (·.length)).sum + ys.length * x.length ≤ 16777216 then .ok (.str (Txt.join x ys)) st else .bad | none => .bad)
  | .tup ds => (match strsOf ds with | some ys => if (ys.map (·.length)).sum + ys.length * x.length ≤ 16777216 then .ok (.str (Txt.join x ys)) st else .bad | none => .bad)
  | _ => .bad
def bJoin (f g : Ev) : Ev := fun r st => (f r st).bind fun a st1 => match a with
  | .str x => (g r st1).bind fun b st2 => fJoin x (der st2 b) st2
  | _ => .bad
theorem je_join (ho : JE X B .sh Wx o f) (he : JE X B .bo Wx e g) (hs : starEach [e] X.env = [(false, eval e X.env)] := by rfl) (hbase : attributeBase o "join" X.env (eval o X.env) = eval o X.env := by rfl) (hline : (apos.endLine == pos.line) = true := by rfl) :
    JE X B .sh Wx (.Call (.Attribute o "join" apos) [e] [] pos) (bJoin f g) := by
  refine pe_imp (pe_join ho he hs hbase hline) ?_
  rintro s H Q ⟨O, en, st, w, rfl, R, q⟩
  refine ⟨O, en, st, w, rfl, R, (post.bind q).mono ?_⟩
  rintro v H1 ⟨d1, st1, w1, rfl, R1, x1, rr1, q1⟩
  cases d1 with
  | str x =>
    have ev : v = .str x := RQ.str (G := cg X) (w := w1) (.inl rr1)
    subst ev
    refine ⟨⟨x, rfl⟩, O, en, st1, w1, rfl, R1, (post.bind (q1.rebase x1)).mono ?_⟩
    rintro v2 H2 ⟨d2, st2, w2, rfl, R2, x2, rr2, q2⟩
    have rb := (rr2.q).der R2.sto
    cases z : der st2 d2 with
    | lst ds =>
      rw [z] at q2 rb
      obtain ⟨p, vs, rfl, t, rs⟩ := rb.lst
      cases zs : strsOf ds with
      | none => simp only [fJoin, zs] at q2; exact q2.elim
      | some ys =>
        by_cases hz : (ys.map (·.length)).sum + ys.length * x.length ≤ 16777216
        · simp only [fJoin, zs, if_pos hz] at q2
          have evs := strsOf_rds rs zs
          subst evs
          exact ⟨x, p, ys, rfl, rfl, .inl (.of t), hz, post.val R2 x2 q2 rdS⟩
        · simp only [fJoin, zs, if_neg hz] at q2; exact q2.elim
    | tup ds =>
      rw [z] at q2 rb
      obtain ⟨p, vs, rfl, t, rs⟩ := rb.tup
      cases zs : strsOf ds with
      | none => simp only [fJoin, zs] at q2; exact q2.elim
      | some ys =>
        by_cases hz : (ys.map (·.length)).sum + ys.length * x.length ≤ 16777216
        · simp only [fJoin, zs, if_pos hz] at q2
          have evs := strsOf_rds rs zs
          subst evs
          exact ⟨x, p, ys, rfl, rfl, .inr t, hz, post.val R2 x2 q2 rdS⟩
        · simp only [fJoin, zs, if_neg hz] at q2; exact q2.elim
    | _ => rw [z] at q2; exact (show False from q2).elim
  | _ => exact (show False from q1).elim
def fSplit (x : Str) (d : D) (st : Sto) : Rs := match d with
  | .str y => if (y.length == 0) = false ∧ x.length ≤ LIM then .ok (.lst ((Txt.split x y).map D.str)) st else .bad
  | _ => .bad
def bSplit (f g : Ev) : Ev := fun r st => (f r st).bind fun a st1 => match a with
  | .str x => (g r st1).bind fun b st2 => fSplit x b st2
  | _ => .bad
theorem lim2 : LIM + 2 ≤ sizeLine := by decide
theorem je_split (ho : JE X B .sh Wx o f) (he : JE X B .sh Wx e g) (hs : starEach [e] X.env = [(false, eval e X.env)] := by rfl) (hbase : attributeBase o "split" X.env (eval o X.env) = eval o X.env := by rfl) (hline : (apos.endLine == pos.line) = true := by rfl) :
    JE X B .fr Wx (.Call (.Attribute o "split" apos) [e] [] pos) (bSplit f g) := by
  refine pe_imp (pe_split ho he hs hbase hline) ?_
  rintro s H Q ⟨O, en, st, w, rfl, R, q⟩
  refine ⟨O, en, st, w, rfl, R, (post.bind q).mono ?_⟩
  rintro v H1 ⟨d1, st1, w1, rfl, R1, x1, rr1, q1⟩
  cases d1 with
  | str x =>
    have ev : v = .str x := RQ.str (G := cg X) (w := w1) (.inl rr1)
    subst ev
    refine ⟨⟨x, rfl⟩, O, en, st1, w1, rfl, R1, (post.bind (q1.rebase x1)).mono ?_⟩
    rintro v2 H2 ⟨d2, st2, w2, rfl, R2, x2, rr2, q2⟩
    cases d2 with
    | str y =>
      have ev2 : v2 = .str y := RQ.str (G := cg X) (w := w2) (.inl rr2)
      subst ev2
      by_cases hz : (y.length == 0) = false ∧ x.length ≤ LIM
      · simp only [fSplit, if_pos hz] at q2
        have := lim2
        have hz2 := hz.2
        refine ⟨x, y, rfl, rfl, hz.1, by omega, fun p hp => ?_⟩
        exact post.own R2 x2 q2 hp fun w' i k => ⟨_, i, rds_strs⟩
      · simp only [fSplit, if_neg hz] at q2; exact q2.elim
    | _ => exact (show False from q2).elim
  | _ => exact (show False from q1).elim
/-- a sign in a text -/
def opInS (neg : Bool) : D → D → Sto → Rs
  | .str x, .str z, st => (match x.cps.toList with | [c] => .ok (.bl (neg ^^ decide (c ∈ z.cps.toList))) st | _ => .bad)
  | _, _, _ => .bad
theorem one_sign {x : Str} {c : Nat} (h : x.cps.toList = [c]) : x = ⟨#[c]⟩ := by
  cases x with
  | mk cps =>
    have : cps = #[c] := by
      apply Array.ext'
      simpa using h
    rw [this]
theorem sem_inS : SemOp X B .sh Wx (opInS false) (fun x y H Q => ∃ (c : Nat) (z : Str), x = .str ⟨#[c]⟩ ∧ y = .str z ∧ Q (.bl (decide (c ∈ z.cps.toList))) H) := by
  intro O e s w0 w a b x y st Q R xt ra rb q
  cases a with
  | str u =>
    cases b with
    | str z =>
      cases e1 : u.cps.toList with
      | nil => simp only [opInS, e1] at q; exact q.elim
      | cons c l =>
        cases l with
        | nil =>
          simp only [opInS, e1, Bool.false_xor] at q
          have := one_sign e1
          subst this
          exact ⟨c, z, ra.str, rb.str, post.val R xt q rdB⟩
        | cons c2 l => simp only [opInS, e1] at q; exact q.elim
    | _ => exact (show False from q).elim
  | _ => cases b <;> exact (show False from q).elim
theorem jc_inS : JC X B Wx .In (opInS false) := ⟨_, op_in_sign, sem_inS⟩
/-! rules -/
theorem w_join : RsP (bJoin f g r st) Q E' = RsP (f r st) (fun d st1 => match d with | .str x => RsP (g r st1) (fun d2 st2 => derP st2 d2 fun d' => RsP (fJoin x d' st2) Q E') E' | _ => False) E' := by
  unfold bJoin
  rw [w_bind]
  congr 1; funext d st1
  cases d <;> try rfl
  rw [w_bind]; rfl
theorem w_fJoin {x : Str} {ys : List Str} : RsP (fJoin x (.lst (ys.map D.str)) st) Q E' = ((ys.map (·.length)).sum + ys.length * x.length ≤ 16777216 ∧ Q (.str (Txt.join x ys)) st) := by
  simp only [fJoin, strsOf_map]
  by_cases hz : (ys.map (·.length)).sum + ys.length * x.length ≤ 16777216
  · rw [if_pos hz]; simp only [RsP, hz, true_and]
  · rw [if_neg hz]; simp only [RsP, hz, false_and]
theorem w_split : RsP (bSplit f g r st) Q E' = RsP (f r st) (fun d st1 => match d with | .str x => RsP (g r st1) (fun d2 st2 => match d2 with | .str y => ((y.length == 0) = false ∧ x.length ≤ LIM) ∧ Q (.lst ((Txt.split x y).map D.str)) st2 | _ => False) E' | _ => False) E' := by
  unfold bSplit
  rw [w_bind]
  congr 1; funext d st1
  cases d <;> try rfl
  rename_i x
  rw [w_bind]
  congr 1; funext d2 st2
  cases d2 <;> try rfl
  rename_i y
  simp only [fSplit]
  by_cases hz : (y.length == 0) = false ∧ x.length ≤ LIM
  · rw [if_pos hz]; simp only [RsP, hz, and_self, true_and]
  · rw [if_neg hz]; simp only [RsP, hz, false_and]
theorem o_inS {neg : Bool} {x z : Str} : RsP (opInS neg (.str x) (.str z) st) Q E' = ∃ c, x.cps.toList = [c] ∧ Q (.bl (neg ^^ decide (c ∈ z.cps.toList))) st := by
  simp only [opInS]
  cases e1 : x.cps.toList with
  | nil => simp [RsP]
  | cons c l => cases l <;> simp [RsP]
theorem dr_inS {neg : Bool} {a b : D} : RsP (drOp (opInS neg) a b st) Q E' = RsP (opInS neg (der st a) (der st b) st) Q E' := rfl
end
end Sm

/-! Sim49: the signs of a text, f-strings. -/
namespace Sm
open PySem L2
section
variable {X : Cx} {B : Bs} {k : Kd} {Wx : WX} {a b c e iter tg o : Expr} {es : List Expr} {fs : List Ev} {f g h : Ev} {pos apos : Pos} {E' : Str → Option (Str × D) → Sto → Prop} {st : Sto} {r : Env}
def signsD (x : Str) : List D := x.cps.toList.map fun c => .str ⟨#[c]⟩
def itStr (f : Ev) : Iv := fun r st => match f r st with
  | .ok d st1 => match d with
    | .str x => .ok (signsD x) [] st1
    | _ => .bad
  | .err c a st1 => .err c a st1
  | .bad => .bad
theorem wks_str {G : Cfg} {w : Wd} {x : Str} : Wks G w (Its x) (signsD x) [] := by
  intro w2 k2 f2 _ i
  refine ⟨fun d e => ?_, fun e => (show x.cps.size ≤ i by simpa [signsD] using e)⟩
  have hi : i < x.cps.size := by
    have := (List.getElem?_eq_some_iff.mp e).1
    simpa [signsD] using this
  refine ⟨hi, fun v H' y => ?_⟩
  obtain ⟨rfl, c, hc, rfl⟩ := y
  refine ⟨w2, rfl, Ext.refl _, f2, rfl, fun _ _ => rfl, ?_⟩
  have e2 : d = .str ⟨#[c]⟩ := by
    unfold signsD at e
    rw [List.getElem?_map, Array.getElem?_toList, hc] at e
    exact (Option.some.inj e).symm
  subst e2
  exact rdS
theorem ji_str (he : JE X B .sh Wx iter f) : JI X B Wx tg iter (itStr f) := by
  refine pi_imp (pi_str he) ?_
  rintro s H R' ⟨O, r, st, w, rfl, R, q⟩
  refine ⟨O, r, st, w, rfl, R, ?_⟩
  unfold itStr at q
  cases z : f r st with
  | ok d st1 =>
    rw [z] at q
    intro w1 v R1 x1 rr
    cases d with
    | str x =>
      have ev : v = .str x := RQ.str (G := cg X) (w := w1) (.inl rr)
      exact ⟨x, ev, q _ w1 R1 x1 wks_str⟩
    | _ => exact (show False from q).elim
  | err c a st1 => rw [z] at q; exact q
  | bad => rw [z] at q; exact q.elim
/-- {x} -/
def bFmt (f : Ev) : Ev := fun r st => (f r st).bind fun d st1 => match d with
  | .str y => if y.length ≤ LIM then .ok (.str y) st1 else .bad
  | .int i => if -I400 < i ∧ i < I400 then .ok (.str (toString i)) st1 else .bad
  | _ => .bad
theorem je_fmt (he : JE X B .sh Wx e f) : JE X B .sh Wx (.FormattedValue e (-1) none pos) (bFmt f) := by
  refine pe_imp (pe_fmt he) ?_
  rintro s H Q ⟨O, en, st, w, rfl, R, q⟩
  refine ⟨O, en, st, w, rfl, R, (post.bind q).mono ?_⟩
  rintro v H1 ⟨d1, st1, w1, rfl, R1, x1, rr1, q1⟩
  cases d1 with
  | str y =>
    have ev : v = .str y := RQ.str (G := cg X) (w := w1) (.inl rr1)
    by_cases hz : y.length ≤ LIM
    · simp only [if_pos hz] at q1
      have := lim2
      exact .inl ⟨y, ev, by omega, post.val R1 x1 q1 rdS⟩
    · simp only [if_neg hz] at q1; exact q1.elim
  | int i =>
    have ev : v = .int i := RQ.int (G := cg X) (w := w1) (.inl rr1)
    by_cases hz : -I400 < i ∧ i < I400
    · simp only [if_pos hz] at q1
      exact .inr ⟨i, ev, small_log hz, post.val R1 x1 q1 rdS⟩
    · simp only [if_neg hz] at q1; exact q1.elim
  | _ => exact (show False from q1).elim
def bJs : List Ev → Str → Ev
  | [], acc => fun _ st => .ok (.str acc) st
  | f :: fs, acc => fun r st => (f r st).bind fun d st1 => match d with
    | .str y => if (acc ++ y).length ≤ LIM then bJs fs (acc ++ y) r st1 else .bad
    | _ => .bad
inductive JJ (X : Cx) (B : Bs) (Wx : WX) : List Expr → List Ev → Prop where
  | nil : JJ X B Wx [] []
  | cons {e : Expr} {f : Ev} {es : List Expr} {fs : List Ev} (h : JE X B .sh Wx e f) (r : JJ X B Wx es fs) : JJ X B Wx (e :: es) (f :: fs)
theorem JJ.pj {es : List Expr} {fs : List Ev} (h : JJ X B Wx es fs) : PJ X es (fs.map fun f => tE (cg X) B .sh Wx f) := by
  induction h with
  | nil => exact .nil
  | cons h r ih => exact .cons h ih
theorem tE_js {Q : Str → Hp → Prop} : ∀ {fs : List Ev} {acc : Str} {s : L2.St} {H : Hp}, tE (cg X) B .sh Wx (bJs fs acc) s H (fun v H1 => ∀ out, v = .str out → Q out H1) → tJs (fs.map fun f => tE (cg X) B .sh Wx f) acc s H Q
  | [], acc, s, H, ⟨O, en, st, w, e, R, q⟩ => by
    subst e
    exact (post.val R (Ext.refl _) q rdS) acc rfl
  | f :: fs, acc, s, H, ⟨O, en, st, w, e, R, q⟩ => by
    subst e
    refine ⟨O, en, st, w, rfl, R, (post.bind q).mono ?_⟩
    rintro v H1 ⟨d1, st1, w1, rfl, R1, x1, rr1, q1⟩
    cases d1 with
    | str y =>
      have ev : v = .str y := RQ.str (G := cg X) (w := w1) (.inl rr1)
      by_cases hz : (acc ++ y).length ≤ LIM
      · simp only [if_pos hz] at q1
        have := lim2
        exact ⟨y, ev, by omega, tE_js (fs := fs) ⟨O, en, st1, w1, rfl, R1, q1.rebase x1⟩⟩
      · simp only [if_neg hz] at q1; exact q1.elim
    | _ => exact (show False from q1).elim
theorem je_joined {v1 v2 : Expr} {rest : List Expr} {fs : List Ev} (h : JJ X B Wx (v1 :: v2 :: rest) fs) : JE X B .sh Wx (.JoinedStr (v1 :: v2 :: rest) pos) (bJs fs Str.empty) := by
  refine pe_imp (pe_joined h.pj) ?_
  rintro s H Q ⟨O, en, st, w, rfl, R, q⟩
  refine tE_js ⟨O, en, st, w, rfl, R, q.mono ?_⟩
  rintro v H1 q out rfl
  exact q
/-! rules -/
variable {Q : D → Sto → Prop}
theorem wi_str {QL : List D → Gd → Sto → Prop} : RsIP (itStr f r st) QL E' = RsP (f r st) (fun d st1 => match d with | .str x => QL (signsD x) [] st1 | _ => False) E' := by
  unfold itStr
  cases f r st <;> try rfl
  rename_i d st1
  cases d <;> rfl
theorem f_lenS {x : Str} : RsP (fLen [.str x] st) Q E' = (x.length ≤ LIM ∧ Q (.int (x.length : Int)) st) := by
  show RsP (if x.length ≤ LIM then _ else _) Q E' = _
  by_cases hz : x.length ≤ LIM
  · rw [if_pos hz]; simp only [RsP, hz, true_and]
  · rw [if_neg hz]; simp only [RsP, hz, false_and]
theorem o_ixS {x : Str} {i : Int} : RsP (opIx (.str x) (.int i) st) Q E' = (x.length ≤ LIM ∧ ∃ c, atI x.cps.toList i = some c ∧ Q (.str ⟨#[c]⟩) st) := by
  simp only [opIx]
  by_cases hz : x.length ≤ LIM
  · rw [if_pos hz]
    cases atI x.cps.toList i <;> simp [RsP, hz]
  · rw [if_neg hz]; simp only [RsP, hz, false_and]
theorem w_fmt : RsP (bFmt f r st) Q E' = RsP (f r st) (fun d st1 => match d with | .str y => y.length ≤ LIM ∧ Q (.str y) st1 | .int i => (-I400 < i ∧ i < I400) ∧ Q (.str (toString i)) st1 | _ => False) E' := by
  unfold bFmt
  rw [w_bind]
  congr 1; funext d st1
  cases d <;> try rfl
  · rename_i i
    by_cases hz : -I400 < i ∧ i < I400
    · simp only [RsP, hz, and_self, true_and, if_true]
    · simp only [RsP, hz, false_and, if_false]
  · rename_i y
    by_cases hz : y.length ≤ LIM
    · simp only [RsP, hz, true_and, if_true]
    · simp only [RsP, hz, false_and, if_false]
theorem w_jsN {acc : Str} : RsP (bJs [] acc r st) Q E' = Q (.str acc) st := rfl
theorem w_jsC {acc : Str} : RsP (bJs (f :: fs) acc r st) Q E' = RsP (f r st) (fun d st1 => match d with | .str y => (acc ++ y).length ≤ LIM ∧ RsP (bJs fs (acc ++ y) r st1) Q E' | _ => False) E' := by
  show RsP ((f r st).bind _) Q E' = _
  rw [w_bind]
  congr 1; funext d st1
  cases d <;> try rfl
  rename_i y
  simp only
  by_cases hz : (acc ++ y).length ≤ LIM
  · rw [if_pos hz]; simp only [hz, true_and]
  · rw [if_neg hz]; simp only [RsP, hz, false_and]
end
end Sm

namespace K71
open PySem L2 Sm
noncomputable def m_is_count : Fn := mkF false (sRet (bAnd (bIsiD "int" (bVar 0)) (bAnd (bNot (bIsiD "bool" (bVar 0))) (bChain icLe icLe (bVar 1) (bVar 0) (bVar 2)))))
noncomputable def m_is_road : Fn := mkF false (sSq (sIf (bOr (bNot (bIsiD "tuple" (bVar 1))) (bOr (bBin (drOp opNe) (bCall (drB fLen) [(bVar 1)]) (bC (.int 2))) (bNot (bCall (drB fAll) [(bLc (itSeq (bVar 1)) (tgN 2) (bC (.bl true)) (bCall m_is_count [(bVar 2), (bC (.int 0)), (bBin opSub (bVar 0) (bC (.int 1)))]) [2])])))) (sRet (bC (.bl false))) sSkip)
    (sRet (bBin icLt (bBin opIx (bVar 1) (bC (.int 0))) (bBin opIx (bVar 1) (bC (.int 1))))))
noncomputable def m_has_ring : Fn := mkF false (sSq (sSet 2 (bLstR1 (bVar 0)))
    (sSq (sFor (itSeq (bVar 1)) (tgU [(tgN 3), (tgN 4)]) (sSq (sIf (bBin (drOp opEq) (bBin opIx (bVar 2) (bVar 3)) (bBin opIx (bVar 2) (bVar 4))) (sRet (bC (.bl true))) sSkip)
    (sSq (sSet 5 (bBin opIx (bVar 2) (bVar 4)))
    (sSet 2 (bLc (itSeq (bVar 2)) (tgN 6) (bC (.bl true)) (bIf (bBin (drOp opEq) (bVar 6) (bVar 5)) (bBin opIx (bVar 2) (bVar 3)) (bVar 6)) [6])))))
    (sRet (bC (.bl false)))))
noncomputable def m_is_web : Fn := mkF false (sSq (sIf (bOr (bNot (bIsiD "tuple" (bVar 0))) (bOr (bBin (drOp opNe) (bCall (drB fLen) [(bVar 0)]) (bC (.int 2))) (bNot (bCall m_is_count [(bBin opIx (bVar 0) (bC (.int 0))), (bC (.int 1)), (bC (.int 8))])))) (sRet (bC (.bl false))) sSkip)
    (sSq (sTo (tgU [(tgN 1), (tgN 2)]) (bVar 0))
    (sSq (sIf (bOr (bNot (bIsiD "tuple" (bVar 2))) (bNot (bCall (drB fAll) [(bLc (itSeq (bVar 2)) (tgN 3) (bC (.bl true)) (bCall m_is_road [(bVar 1), (bVar 3)]) [3])]))) (sRet (bC (.bl false))) sSkip)
    (sRet (bAnd (bCall (drB fAll) [(bLc (itZip (bVar 2) (bSl (drSl opSl) (bVar 2) (some (bC (.int 1))) none)) (tgU [(tgN 4), (tgN 5)]) (bC (.bl true)) (bBin (drOp (opCmp fLt)) (bVar 4) (bVar 5)) [4, 5])]) (bNot (bCall m_has_ring [(bVar 1), (bVar 2)])))))))
noncomputable def m_show_web : Fn := mkF false (sRet (bJoin (bC (.str " ")) (bBin (drOp opAdd) (bLst [(bCall fStrI [(bBin opIx (bVar 0) (bC (.int 0)))])]) (bLc (itSeq (bBin opIx (bVar 0) (bC (.int 1)))) (tgU [(tgN 1), (tgN 2)]) (bC (.bl true)) (bBin (drOp opAdd) (bBin (drOp opAdd) (bCall fStrI [(bVar 1)]) (bC (.str "-"))) (bCall fStrI [(bVar 2)])) [1, 2]))))
noncomputable def m_number_in : Fn := mkF false (sSq (sIf (bOr (bNot (bChain icLe icLe (bC (.int 1)) (bCall (drB fLen) [(bVar 0)]) (bC (.int 4)))) (bNot (bCall (drB fAll) [(bLc (itStr (bVar 0)) (tgN 1) (bC (.bl true)) (bBin (opInS false) (bVar 1) (bC (.str "0123456789"))) [1])]))) (sRet (bC .non)) sSkip)
    (sRet (bIf (bAnd (bBin icGt (bCall (drB fLen) [(bVar 0)]) (bC (.int 1))) (bBin (drOp opEq) (bBin opIx (bVar 0) (bC (.int 0))) (bC (.str "0")))) (bC .non) (bCall fIntA [(bVar 0)]))))
noncomputable def m_numbers_in : Fn := mkF false (sRet (bCall (drB fTuple) [(bLc (itSeq (bSplit (bVar 0) (bVar 1))) (tgN 2) (bC (.bl true)) (bCall m_number_in [(bVar 2)]) [2])]))
noncomputable def m_read_web : Fn := mkF false (sSq (sSet 1 (bSplit (bVar 0) (bC (.str " "))))
    (sSq (sSet 2 (bTup [(bCall m_number_in [(bBin opIx (bVar 1) (bC (.int 0)))]), (bCall (drB fTuple) [(bLc (itSeq (bSl (drSl opSl) (bVar 1) (some (bC (.int 1))) none)) (tgN 3) (bC (.bl true)) (bCall m_numbers_in [(bVar 3), (bC (.str "-"))]) [3])])]))
    (sSq (sIf (bNot (bCall m_is_web [(bVar 2)])) (sRaise "NoText") sSkip)
    (sRet (bVar 2)))))
noncomputable def m__law_blend : Fn := mkF false (sSq (sIf (bBin icGe (bVar 0) (bBin opPow (bC (.int 10)) (bC (.int 18)))) (sRet (bVar 0)) sSkip)
    (sSq (sSet 2 (bBin opMod (bBin (drOp opAdd) (bBin (drOp opAdd) (bBin opMul (bBin opMod (bVar 0) (bC (.int 998244353))) (bC (.int 40692))) (bBin opMul (bVar 1) (bC (.int 69621)))) (bC (.int 1009))) (bC (.int 2147483399))))
    (sSq (sSet 3 (bBin opMod (bBin (drOp opAdd) (bBin (drOp opAdd) (bBin opMul (bVar 2) (bVar 2)) (bBin opMul (bVar 1) (bC (.int 48271)))) (bBin opMod (bVar 0) (bC (.int 131071)))) (bC (.int 2147483647))))
    (sSq (sSet 4 (bBin opMod (bBin (drOp opAdd) (bBin (drOp opAdd) (bBin opMul (bVar 3) (bVar 3)) (bBin opMul (bVar 2) (bC (.int 17)))) (bC (.int 3))) (bC (.int 2147483629))))
    (sRet (bBin (drOp opAdd) (bBin opMul (bBin (drOp opAdd) (bBin opMul (bVar 2) (bC (.int 2147483647))) (bVar 3)) (bC (.int 2147483629))) (bVar 4)))))))
noncomputable def m__law_pot : Fn := mkF false (sSq (sOwn 1 (bCall (drB fList) [(bSl (drSl opSl) (bVar 0) none (some (bC (.int 12))))]))
    (sSq (sFor (itEnum (bSl (drSl opSl) (bVar 0) (some (bC (.int 12))) (some (bC (.int 63))))) (tgU [(tgN 2), (tgN 3)]) (sPut 1 (bBin opMod (bVar 2) (bC (.int 12))) (bBin (drOp opAdd) (bBin opIx (bPeek 1) (bBin opMod (bVar 2) (bC (.int 12)))) (bVar 3))))
    (sFix 1 (sRet (bRef (bLst [(bVar 1), (bC (.int 0)), (bC (.int 0))]))))))
noncomputable def m__law_pick : Fn := mkF false (sSq (sIf (bBin icLt (bBin opIx (bVar 0) (bC (.int 2))) (bVar 1)) (sSq (sSet 2 (bBin opIx (bVar 0) (bC (.int 1))))
    (sSq (sSet 3 (bBin opMul (bC (.int 11)) (bVar 2)))
    (sSq (sIf (bBin icLt (bVar 2) (bCall (drB fLen) [(bBin opIx (bVar 0) (bC (.int 0)))])) (sSet 3 (bBin opIx (bBin opIx (bVar 0) (bC (.int 0))) (bVar 2))) (sIf (bBin (drOp opNe) (bBin opIx (bVar 0) (bC (.int 0))) (bLst [])) (sSet 3 (bBin opMod (bBin opIx (bBin opIx (bVar 0) (bC (.int 0))) (bBin opMod (bBin (drOp opAdd) (bBin opMul (bVar 2) (bC (.int 7))) (bC (.int 1))) (bCall (drB fLen) [(bBin opIx (bVar 0) (bC (.int 0)))]))) (bBin (drOp opAdd) (bBin opPow (bC (.int 10)) (bC (.int 17))) (bBin opMul (bC (.int 3)) (bVar 2))))) sSkip))
    (sSq (sPutR (bVar 0) (bC (.int 1)) (bBin (drOp opAdd) (bVar 2) (bC (.int 1))))
    (sPutR (bVar 0) (bC (.int 2)) (bCall m__law_blend [(bVar 3), (bVar 2)])))))) sSkip)
    (sSq (sSet 4 (bBin opMod (bBin opIx (bVar 0) (bC (.int 2))) (bVar 1)))
    (sSq (sPutR (bVar 0) (bC (.int 2)) (bBin opFdiv (bBin opIx (bVar 0) (bC (.int 2))) (bVar 1)))
    (sRet (bVar 4)))))
@[irreducible] noncomputable def m__law_same (n : Nat) : Fn := Nat.rec (motive := fun _ => Fn) (fun _ _ => .bad) (fun _ self => mkF false (sSq (sIf (bOr (bBin (opIs false) (bVar 1) (bC .non)) (bIsiD "bool" (bVar 1))) (sRet (bAnd (bBin (drOp opEq) (bIsiD "bool" (bVar 0)) (bIsiD "bool" (bVar 1))) (bBin (drOp opEq) (bVar 0) (bVar 1)))) sSkip)
    (sSq (sIf (bIsiD "str" (bVar 1)) (sRet (bAnd (bIsiD "str" (bVar 0)) (bBin (drOp opEq) (bVar 0) (bVar 1)))) sSkip)
    (sSq (sIf (bIsiD "int" (bVar 1)) (sRet (bAnd (bIsiD "int" (bVar 0)) (bAnd (bNot (bIsiD "bool" (bVar 0))) (bBin (drOp opEq) (bVar 0) (bVar 1))))) sSkip)
    (sSq (sIf (bOr (bBin (drOp opNe) (bIsiD "tuple" (bVar 1)) (bIsiD "tuple" (bVar 0))) (bBin (drOp opNe) (bIsiD "list" (bVar 1)) (bIsiD "list" (bVar 0)))) (sRet (bC (.bl false))) sSkip)
    (sRet (bAnd (bBin (drOp opEq) (bCall (drB fLen) [(bVar 0)]) (bCall (drB fLen) [(bVar 1)])) (bCall (drB fAll) [(bLc (itZip (bVar 0) (bVar 1)) (tgU [(tgN 2), (tgN 3)]) (bC (.bl true)) (bCall self [(bVar 2), (bVar 3)]) [2, 3])])))))))) n
theorem z__law_same : m__law_same 0 = fun _ _ => .bad := by delta m__law_same; rfl
theorem e__law_same {n : Nat} : m__law_same (n + 1) = mkF false (sSq (sIf (bOr (bBin (opIs false) (bVar 1) (bC .non)) (bIsiD "bool" (bVar 1))) (sRet (bAnd (bBin (drOp opEq) (bIsiD "bool" (bVar 0)) (bIsiD "bool" (bVar 1))) (bBin (drOp opEq) (bVar 0) (bVar 1)))) sSkip)
    (sSq (sIf (bIsiD "str" (bVar 1)) (sRet (bAnd (bIsiD "str" (bVar 0)) (bBin (drOp opEq) (bVar 0) (bVar 1)))) sSkip)
    (sSq (sIf (bIsiD "int" (bVar 1)) (sRet (bAnd (bIsiD "int" (bVar 0)) (bAnd (bNot (bIsiD "bool" (bVar 0))) (bBin (drOp opEq) (bVar 0) (bVar 1))))) sSkip)
    (sSq (sIf (bOr (bBin (drOp opNe) (bIsiD "tuple" (bVar 1)) (bIsiD "tuple" (bVar 0))) (bBin (drOp opNe) (bIsiD "list" (bVar 1)) (bIsiD "list" (bVar 0)))) (sRet (bC (.bl false))) sSkip)
    (sRet (bAnd (bBin (drOp opEq) (bCall (drB fLen) [(bVar 0)]) (bCall (drB fLen) [(bVar 1)])) (bCall (drB fAll) [(bLc (itZip (bVar 0) (bVar 1)) (tgU [(tgN 2), (tgN 3)]) (bC (.bl true)) (bCall (m__law_same n) [(bVar 2), (bVar 3)]) [2, 3])]))))))) := by delta m__law_same; rfl
noncomputable def m__law_order : Fn := mkF true (sSq (sOwn 2 (bLst []))
    (sSq (sFor (itR1 (bVar 1)) (tgN 3) (sIns 2 (bCall m__law_pick [(bVar 0), (bBin (drOp opAdd) (bVar 3) (bC (.int 1)))]) (bVar 3)))
    (sRetOwn 2)))
noncomputable def m__law_web : Fn := mkF false (sSq (sSet 2 (bCall m__law_pick [(bVar 0), (bC (.int 4))]))
    (sSq (sSet 3 (bBin (drOp opAdd) (bC (.int 1)) (bCall m__law_pick [(bVar 0), (bVar 1)])))
    (sSq (sSet 4 (bCall m__law_order [(bVar 0), (bVar 3)]))
    (sSq (sOwn 5 (bLst []))
    (sSq (sFor (itR2 (bC (.int 1)) (bVar 3)) (tgN 6) (sIf (bBin icGe (bCall m__law_pick [(bVar 0), (bC (.int 6))]) (bVar 2)) (sSq (sSet 7 (bTup [(bBin opIx (bVar 4) (bVar 6)), (bBin opIx (bVar 4) (bCall m__law_pick [(bVar 0), (bVar 6)]))]))
    (sApp 5 (bTup [(bCall (drB (fBest false)) [(bVar 7)]), (bCall (drB (fBest true)) [(bVar 7)])]))) sSkip))
    (sRet (bTup [(bVar 3), (bCall (drB fTuple) [(bCall (drB fSort) [(bPeek 5)])])])))))))
noncomputable def m__law_web_text : Fn := mkF false (sRet (bJoin (bC (.str " ")) (bBin (drOp opAdd) (bLst [(bCall fStrI [(bBin opIx (bVar 0) (bC (.int 0)))])]) (bLc (itSeq (bBin opIx (bVar 0) (bC (.int 1)))) (tgU [(tgN 1), (tgN 2)]) (bC (.bl true)) (bJs [(bFmt (bVar 1)), (bC (.str "-")), (bFmt (bVar 2))] Str.empty) [1, 2]))))
noncomputable def m_law : Fn := mkF false (sSq (sSet 1 (bCall m__law_pot [(bVar 0)]))
    (sSq (sFor (itR1 (bC (.int 6))) (tgN 2) (sSq (sSet 3 (bCall m__law_web [(bVar 1), (bC (.int 8))]))
    (sSq (sSet 4 (bCall m__law_web_text [(bVar 3)]))
    (sIf (bOr (bNot (bCall (m__law_same 8) [(bCall m_show_web [(bVar 3)]), (bVar 4)])) (bNot (bCall (m__law_same 8) [(bCall m_read_web [(bVar 4)]), (bVar 3)]))) (sRet (bC (.bl false))) sSkip))))
    (sRet (bC (.bl true)))))
end K71

namespace K71
open PySem L2 Sm
theorem blend_spec {i j : Int} {st : Sto} {Q : D → Sto → Prop} {E} (h : ∀ k, Q (.int k) st) : RsP (m__law_blend [.int i, .int j] st) Q E := by
  unfold m__law_blend
  try simp (implicitDefEqProofs := false) only [↓w_ok, ↓w_err, ↓w_bad, ↓wl_ok, ↓w_bind, ↓w_bindL, ↓wl_bind, ↓wl_bindL, ↓w_nx, ↓w_rt, ↓w_bk, ↓w_ct, ↓w_er, ↓w_bd, ↓w_sq, ↓w_of, ↓w_sIf, ↓w_and, ↓w_or, ↓w_bIf, ↓w_mk, ↓w_call, ↓w_tup, ↓w_lst, ↓wl_cons, ↓wl_nil, ↓w_bin, ↓w_not, ↓w_neg, ↓w_chain, ↓w_c, ↓w_set, ↓w_own, ↓w_ex, ↓w_ret, ↓w_retN, ↓w_skip, ↓w_raise, ↓w_to, ↓w_putR, ↓w_ref, ↓w_for, ↓w_lc, ↓wi_seq, ↓wi_r1, ↓wi_r2, ↓wi_enum, ↓m_var, ↓m_peek, ↓m_retOwn, ↓m_fix, ↓m_app, ↓m_ext, ↓m_putL, ↓m_put, ↓m_putR, ↓m_ixR, ↓env_set, ↓env_0, ↓env_s, ↓env_n, ↓env_wp, ↓t_n, ↓t_u, ↓t_0, ↓t_s, ↓bX_bl, ↓o_add, ↓o_addT, ↓o_addL, ↓o_addS, ↓o_cat, ↓o_sub, ↓o_mul, ↓o_mod, ↓o_fdiv, ↓o_pow, ↓o_eq, ↓o_ne, ↓o_ic, ↓o_isN, ↓o_ixL, ↓o_ixT, ↓f_lenL, ↓f_lenT, ↓f_tupL, ↓f_tupT, ↓f_listL, ↓f_listT, ↓f_min2, ↓f_max2, ↓f_reprB, ↓w_sl, ↓w_slA, ↓w_slB, ↓w_slC, ↓o_slL, ↓o_slT, ↓o_slF, ↓o_slLL, ↓o_slLF, ↓wi_zip, ↓wi_ok, ↓src_lst, ↓src_ref, ↓zip_tt, ↓zip_ll, ↓zip_rl, ↓zip_lr, ↓w_isi, ↓o_inL, ↓o_inT, ↓dr_eq, ↓dr_ne, ↓dp_ref, ↓dp_lst, ↓dp_tup, ↓dp_frg, ↓dp_int, ↓dp_bl, ↓dp_str, ↓dp_non, ↓dp_dW, ↓dp_dP, ↓dp_dT, ↓dp_dWs, ↓dp_dTs, ↓dr_in, ↓dr_add, ↓dr_cat, ↓dr_b1, ↓dr_sl, ↓w_isiD, ↓f_sort, ↓w_rev, ↓w_appR, ↓w_refA, ↓w_listR1, ↓o_cmpD, ↓dr_cmpD, ↓w_revA, ↓o_repT, ↓f_reprD, ↓w_dct0, ↓w_dct1, ↓dr_dget, ↓o_dget, ↓dr_inK, ↓o_inK, ↓o_getD, ↓w_dget2, ↓m_putD, ↓wi_keys, ↓f_listK, ↓f_sortK, ↓m_pop, ↓m_pop0, ↓m_insL, ↓m_ins, ↓m_refP, ↓w_clrR, ↓dp_dct, ↓w_chain3, ↓w_join, ↓w_fJoin, ↓w_split, ↓o_inS, ↓dr_inS, ↓wi_str, ↓w_fmt, ↓w_jsN, ↓w_jsC, ↓f_strI, ↓f_intI, ↓f_intB, ↓f_intS, ↓f_lenS, ↓o_ixS, Option.bind_some, Option.bind_none, Option.some.injEq, exists_eq_left', List.map_cons, List.map_nil, if_true, if_false, reduceIte, reduceCtorEq, Nat.reduceEqDiff, List.length_cons, List.length_nil, atI_0, decide_eq_true_eq, decide_eq_false_iff_not, true_and, and_true, false_and, and_false, not_true, not_false_iff, false_implies, true_implies, der_ref, der_lst, der_tup, der_frg, der_int, der_bl, der_str, der_non, der_dW, der_dP, der_dT, der_dWs, der_dTs, der_dct, isDK_d, kOf_int, kOf_str, kD_int, forall_const, not_true_eq_false, not_false_eq_true, exists_eq_left, exists_eq_right, Bool.not_eq_true', Bool.not_eq_false', List.mem_cons, List.not_mem_nil, or_false, false_or, Nat.reduceAdd, Nat.zero_add, List.set_cons_zero, List.set_cons_succ, all_shW, all_shT, all_shP, all_shI, M64]
  generalize e1 : (i % 998244353 * 40692 + j * 69621 + 1009) % 2147483399 = one
  generalize e2 : (one * one + j * 48271 + i % 131071) % 2147483647 = two
  generalize e3 : (two * two + one * 17 + 3) % 2147483629 = three
  have h1 : 0 ≤ one ∧ one < 2147483399 := by omega
  have h2 : 0 ≤ two ∧ two < 2147483647 := by omega
  have h3 : 0 ≤ three ∧ three < 2147483629 := by omega
  repeat' (first | apply And.intro | intro _)
  all_goals first | exact h _ | omega
def Pot (n : Nat) (st : Sto) : Prop := ∃ (cells : List Int) (a c : Int), st[n]? = some (.lst [.lst (cells.map D.int), .int a, .int c]) ∧ 0 ≤ a
/-- all but the pot stays -/
def Oth (n : Nat) (st st' : Sto) : Prop := st'.length = st.length ∧ ∀ m, m ≠ n → st'[m]? = st[m]?
theorem Oth.refl (n : Nat) (st : Sto) : Oth n st st := ⟨rfl, fun _ _ => rfl⟩
theorem Oth.trans {n : Nat} {a b c : Sto} (x : Oth n a b) (y : Oth n b c) : Oth n a c := ⟨y.1.trans x.1, fun m h => (y.2 m h).trans (x.2 m h)⟩
theorem Oth.set {n : Nat} {st st' : Sto} {o : SO} (x : Oth n st st') : Oth n st (st'.set n o) := ⟨by rw [List.length_set]; exact x.1, fun m h => by rw [List.getElem?_set_ne (fun e => h e.symm)]; exact x.2 m h⟩
theorem set_get {n : Nat} {st : Sto} {o o' : SO} (h : st[n]? = some o) : (st.set n o')[n]? = some o' := by
  rw [List.getElem?_set_self (List.getElem?_eq_some_iff.mp h).1]
theorem ixN_1 : ixN 3 1 = some 1 := by decide
theorem ixN_2 : ixN 3 2 = some 2 := by decide
theorem atI_1 {α : Type} {a b : α} {xs : List α} : atI (a :: b :: xs) 1 = some b := by rw [atI_s (by decide), Int.sub_self, atI_0]
theorem atI_2 {α : Type} {a b c : α} {xs : List α} : atI (a :: b :: c :: xs) 2 = some c := by rw [atI_s (by decide)]; exact atI_1
theorem pick_spec {n : Nat} {u : Int} {st : Sto} {Q : D → Sto → Prop} {E} (hp : Pot n st) (h0 : 0 < u) (h1 : u < D40) (h : ∀ k st', 0 ≤ k → k < u → Pot n st' → Oth n st st' → Q (.int k) st') : RsP (m__law_pick [.ref n, .int u] st) Q E := by
  obtain ⟨cells, a, c, hst, ha⟩ := hp
  unfold m__law_pick
  have fin : ∀ (cells : List Int) (a c : Int) (st1 : Sto), st1[n]? = some (.lst [.lst (cells.map D.int), .int a, .int c]) → 0 ≤ a → Oth n st st1 → Q (.int (c % u)) (st1.set n (.lst [.lst (cells.map D.int), .int a, .int (c / u)])) := fun cells a c st1 e z o =>
    h _ _ (Int.emod_nonneg _ (by omega)) (Int.emod_lt_of_pos _ h0) ⟨cells, a, c / u, set_get e, z⟩ o.set
  have st2 : ∀ (x : D), ((st.set n (.lst [.lst (cells.map D.int), .int (a + 1), .int c])).set n (.lst [.lst (cells.map D.int), .int (a + 1), x]))[n]? = some (.lst [.lst (cells.map D.int), .int (a + 1), x]) := fun x => set_get (set_get hst)
  have tail : ∀ x : Int, RsP (m__law_blend [.int x, .int a] (st.set n (.lst [.lst (cells.map D.int), .int (a + 1), .int c]))) (fun d st1 =>
      match st1[n]? with
      | some (SO.lst ds) => ∃ n_2, ixN ds.length 2 = some n_2 ∧ match (List.set st1 n (SO.lst (ds.set n_2 d)))[n]? with
        | some (SO.lst xs) => ∃ d_1, atI xs 2 = some d_1 ∧ RsP (opMod d_1 (D.int u) (List.set st1 n (SO.lst (ds.set n_2 d)))) (fun d st1 => match st1[n]? with
          | some (SO.lst xs) => ∃ d_2, atI xs 2 = some d_2 ∧ RsP (opFdiv d_2 (D.int u) st1) (fun d_3 st1 => match st1[n]? with
            | some (SO.lst ds) => ∃ n_3, ixN ds.length 2 = some n_3 ∧ Q d (List.set st1 n (SO.lst (ds.set n_3 d_3)))
            | x => False) fun c a st => E c a st
          | x => False) fun c a st => E c a st
        | x => False
      | x => False) fun c a st => E c a st := fun x => by
    refine blend_spec fun k => ?_
    try simp (implicitDefEqProofs := false) only [↓w_ok, ↓w_err, ↓w_bad, ↓wl_ok, ↓w_bind, ↓w_bindL, ↓wl_bind, ↓wl_bindL, ↓w_nx, ↓w_rt, ↓w_bk, ↓w_ct, ↓w_er, ↓w_bd, ↓w_sq, ↓w_of, ↓w_sIf, ↓w_and, ↓w_or, ↓w_bIf, ↓w_mk, ↓w_call, ↓w_tup, ↓w_lst, ↓wl_cons, ↓wl_nil, ↓w_bin, ↓w_not, ↓w_neg, ↓w_chain, ↓w_c, ↓w_set, ↓w_own, ↓w_ex, ↓w_ret, ↓w_retN, ↓w_skip, ↓w_raise, ↓w_to, ↓w_putR, ↓w_ref, ↓w_for, ↓w_lc, ↓wi_seq, ↓wi_r1, ↓wi_r2, ↓wi_enum, ↓m_var, ↓m_peek, ↓m_retOwn, ↓m_fix, ↓m_app, ↓m_ext, ↓m_putL, ↓m_put, ↓m_putR, ↓m_ixR, ↓env_set, ↓env_0, ↓env_s, ↓env_n, ↓env_wp, ↓t_n, ↓t_u, ↓t_0, ↓t_s, ↓bX_bl, ↓o_add, ↓o_addT, ↓o_addL, ↓o_addS, ↓o_cat, ↓o_sub, ↓o_mul, ↓o_mod, ↓o_fdiv, ↓o_pow, ↓o_eq, ↓o_ne, ↓o_ic, ↓o_isN, ↓o_ixL, ↓o_ixT, ↓f_lenL, ↓f_lenT, ↓f_tupL, ↓f_tupT, ↓f_listL, ↓f_listT, ↓f_min2, ↓f_max2, ↓f_reprB, ↓w_sl, ↓w_slA, ↓w_slB, ↓w_slC, ↓o_slL, ↓o_slT, ↓o_slF, ↓o_slLL, ↓o_slLF, ↓wi_zip, ↓wi_ok, ↓src_lst, ↓src_ref, ↓zip_tt, ↓zip_ll, ↓zip_rl, ↓zip_lr, ↓w_isi, ↓o_inL, ↓o_inT, ↓dr_eq, ↓dr_ne, ↓dp_ref, ↓dp_lst, ↓dp_tup, ↓dp_frg, ↓dp_int, ↓dp_bl, ↓dp_str, ↓dp_non, ↓dp_dW, ↓dp_dP, ↓dp_dT, ↓dp_dWs, ↓dp_dTs, ↓dr_in, ↓dr_add, ↓dr_cat, ↓dr_b1, ↓dr_sl, ↓w_isiD, ↓f_sort, ↓w_rev, ↓w_appR, ↓w_refA, ↓w_listR1, ↓o_cmpD, ↓dr_cmpD, ↓w_revA, ↓o_repT, ↓f_reprD, ↓w_dct0, ↓w_dct1, ↓dr_dget, ↓o_dget, ↓dr_inK, ↓o_inK, ↓o_getD, ↓w_dget2, ↓m_putD, ↓wi_keys, ↓f_listK, ↓f_sortK, ↓m_pop, ↓m_pop0, ↓m_insL, ↓m_ins, ↓m_refP, ↓w_clrR, ↓dp_dct, ↓w_chain3, ↓w_join, ↓w_fJoin, ↓w_split, ↓o_inS, ↓dr_inS, ↓wi_str, ↓w_fmt, ↓w_jsN, ↓w_jsC, ↓f_strI, ↓f_intI, ↓f_intB, ↓f_intS, ↓f_lenS, ↓o_ixS, Option.bind_some, Option.bind_none, Option.some.injEq, exists_eq_left', List.map_cons, List.map_nil, if_true, if_false, reduceIte, reduceCtorEq, Nat.reduceEqDiff, List.length_cons, List.length_nil, atI_0, decide_eq_true_eq, decide_eq_false_iff_not, true_and, and_true, false_and, and_false, not_true, not_false_iff, false_implies, true_implies, der_ref, der_lst, der_tup, der_frg, der_int, der_bl, der_str, der_non, der_dW, der_dP, der_dT, der_dWs, der_dTs, der_dct, isDK_d, kOf_int, kOf_str, kD_int, forall_const, not_true_eq_false, not_false_eq_true, exists_eq_left, exists_eq_right, Bool.not_eq_true', Bool.not_eq_false', List.mem_cons, List.not_mem_nil, or_false, false_or, Nat.reduceAdd, Nat.zero_add, List.set_cons_zero, List.set_cons_succ, all_shW, all_shT, all_shP, all_shI, hst, set_get hst, st2, ixN_2, atI_2]
    refine ⟨h0, ⟨h0, h1⟩, fin cells (a + 1) k _ (st2 _) (by omega) ((Oth.refl n st).set.set)⟩
  try simp (implicitDefEqProofs := false) only [↓w_ok, ↓w_err, ↓w_bad, ↓wl_ok, ↓w_bind, ↓w_bindL, ↓wl_bind, ↓wl_bindL, ↓w_nx, ↓w_rt, ↓w_bk, ↓w_ct, ↓w_er, ↓w_bd, ↓w_sq, ↓w_of, ↓w_sIf, ↓w_and, ↓w_or, ↓w_bIf, ↓w_mk, ↓w_call, ↓w_tup, ↓w_lst, ↓wl_cons, ↓wl_nil, ↓w_bin, ↓w_not, ↓w_neg, ↓w_chain, ↓w_c, ↓w_set, ↓w_own, ↓w_ex, ↓w_ret, ↓w_retN, ↓w_skip, ↓w_raise, ↓w_to, ↓w_putR, ↓w_ref, ↓w_for, ↓w_lc, ↓wi_seq, ↓wi_r1, ↓wi_r2, ↓wi_enum, ↓m_var, ↓m_peek, ↓m_retOwn, ↓m_fix, ↓m_app, ↓m_ext, ↓m_putL, ↓m_put, ↓m_putR, ↓m_ixR, ↓env_set, ↓env_0, ↓env_s, ↓env_n, ↓env_wp, ↓t_n, ↓t_u, ↓t_0, ↓t_s, ↓bX_bl, ↓o_add, ↓o_addT, ↓o_addL, ↓o_addS, ↓o_cat, ↓o_sub, ↓o_mul, ↓o_mod, ↓o_fdiv, ↓o_pow, ↓o_eq, ↓o_ne, ↓o_ic, ↓o_isN, ↓o_ixL, ↓o_ixT, ↓f_lenL, ↓f_lenT, ↓f_tupL, ↓f_tupT, ↓f_listL, ↓f_listT, ↓f_min2, ↓f_max2, ↓f_reprB, ↓w_sl, ↓w_slA, ↓w_slB, ↓w_slC, ↓o_slL, ↓o_slT, ↓o_slF, ↓o_slLL, ↓o_slLF, ↓wi_zip, ↓wi_ok, ↓src_lst, ↓src_ref, ↓zip_tt, ↓zip_ll, ↓zip_rl, ↓zip_lr, ↓w_isi, ↓o_inL, ↓o_inT, ↓dr_eq, ↓dr_ne, ↓dp_ref, ↓dp_lst, ↓dp_tup, ↓dp_frg, ↓dp_int, ↓dp_bl, ↓dp_str, ↓dp_non, ↓dp_dW, ↓dp_dP, ↓dp_dT, ↓dp_dWs, ↓dp_dTs, ↓dr_in, ↓dr_add, ↓dr_cat, ↓dr_b1, ↓dr_sl, ↓w_isiD, ↓f_sort, ↓w_rev, ↓w_appR, ↓w_refA, ↓w_listR1, ↓o_cmpD, ↓dr_cmpD, ↓w_revA, ↓o_repT, ↓f_reprD, ↓w_dct0, ↓w_dct1, ↓dr_dget, ↓o_dget, ↓dr_inK, ↓o_inK, ↓o_getD, ↓w_dget2, ↓m_putD, ↓wi_keys, ↓f_listK, ↓f_sortK, ↓m_pop, ↓m_pop0, ↓m_insL, ↓m_ins, ↓m_refP, ↓w_clrR, ↓dp_dct, ↓w_chain3, ↓w_join, ↓w_fJoin, ↓w_split, ↓o_inS, ↓dr_inS, ↓wi_str, ↓w_fmt, ↓w_jsN, ↓w_jsC, ↓f_strI, ↓f_intI, ↓f_intB, ↓f_intS, ↓f_lenS, ↓o_ixS, Option.bind_some, Option.bind_none, Option.some.injEq, exists_eq_left', List.map_cons, List.map_nil, if_true, if_false, reduceIte, reduceCtorEq, Nat.reduceEqDiff, List.length_cons, List.length_nil, atI_0, decide_eq_true_eq, decide_eq_false_iff_not, true_and, and_true, false_and, and_false, not_true, not_false_iff, false_implies, true_implies, der_ref, der_lst, der_tup, der_frg, der_int, der_bl, der_str, der_non, der_dW, der_dP, der_dT, der_dWs, der_dTs, der_dct, isDK_d, kOf_int, kOf_str, kD_int, forall_const, not_true_eq_false, not_false_eq_true, exists_eq_left, exists_eq_right, Bool.not_eq_true', Bool.not_eq_false', List.mem_cons, List.not_mem_nil, or_false, false_or, Nat.reduceAdd, Nat.zero_add, List.set_cons_zero, List.set_cons_succ, all_shW, all_shT, all_shP, all_shI, hst, set_get hst, ixN_1, ixN_2, atI_1, atI_2, ↓eqv_nil, ↓shp_lst, ↓shp_int, List.all_map, List.length_map, M64]
  refine ⟨fun hc => ⟨by omega, fun hl => ?_, fun hl => ⟨?_, ?_, fun he => ?_, fun he => ?_⟩⟩, fun hc => ⟨h0, ⟨h0, h1⟩, fin cells a c st hst ha (Oth.refl n st)⟩⟩
  · obtain ⟨x, e, _⟩ := atI_in ha hl
    try simp (implicitDefEqProofs := false) only [↓w_ok, ↓w_err, ↓w_bad, ↓wl_ok, ↓w_bind, ↓w_bindL, ↓wl_bind, ↓wl_bindL, ↓w_nx, ↓w_rt, ↓w_bk, ↓w_ct, ↓w_er, ↓w_bd, ↓w_sq, ↓w_of, ↓w_sIf, ↓w_and, ↓w_or, ↓w_bIf, ↓w_mk, ↓w_call, ↓w_tup, ↓w_lst, ↓wl_cons, ↓wl_nil, ↓w_bin, ↓w_not, ↓w_neg, ↓w_chain, ↓w_c, ↓w_set, ↓w_own, ↓w_ex, ↓w_ret, ↓w_retN, ↓w_skip, ↓w_raise, ↓w_to, ↓w_putR, ↓w_ref, ↓w_for, ↓w_lc, ↓wi_seq, ↓wi_r1, ↓wi_r2, ↓wi_enum, ↓m_var, ↓m_peek, ↓m_retOwn, ↓m_fix, ↓m_app, ↓m_ext, ↓m_putL, ↓m_put, ↓m_putR, ↓m_ixR, ↓env_set, ↓env_0, ↓env_s, ↓env_n, ↓env_wp, ↓t_n, ↓t_u, ↓t_0, ↓t_s, ↓bX_bl, ↓o_add, ↓o_addT, ↓o_addL, ↓o_addS, ↓o_cat, ↓o_sub, ↓o_mul, ↓o_mod, ↓o_fdiv, ↓o_pow, ↓o_eq, ↓o_ne, ↓o_ic, ↓o_isN, ↓o_ixL, ↓o_ixT, ↓f_lenL, ↓f_lenT, ↓f_tupL, ↓f_tupT, ↓f_listL, ↓f_listT, ↓f_min2, ↓f_max2, ↓f_reprB, ↓w_sl, ↓w_slA, ↓w_slB, ↓w_slC, ↓o_slL, ↓o_slT, ↓o_slF, ↓o_slLL, ↓o_slLF, ↓wi_zip, ↓wi_ok, ↓src_lst, ↓src_ref, ↓zip_tt, ↓zip_ll, ↓zip_rl, ↓zip_lr, ↓w_isi, ↓o_inL, ↓o_inT, ↓dr_eq, ↓dr_ne, ↓dp_ref, ↓dp_lst, ↓dp_tup, ↓dp_frg, ↓dp_int, ↓dp_bl, ↓dp_str, ↓dp_non, ↓dp_dW, ↓dp_dP, ↓dp_dT, ↓dp_dWs, ↓dp_dTs, ↓dr_in, ↓dr_add, ↓dr_cat, ↓dr_b1, ↓dr_sl, ↓w_isiD, ↓f_sort, ↓w_rev, ↓w_appR, ↓w_refA, ↓w_listR1, ↓o_cmpD, ↓dr_cmpD, ↓w_revA, ↓o_repT, ↓f_reprD, ↓w_dct0, ↓w_dct1, ↓dr_dget, ↓o_dget, ↓dr_inK, ↓o_inK, ↓o_getD, ↓w_dget2, ↓m_putD, ↓wi_keys, ↓f_listK, ↓f_sortK, ↓m_pop, ↓m_pop0, ↓m_insL, ↓m_ins, ↓m_refP, ↓w_clrR, ↓dp_dct, ↓w_chain3, ↓w_join, ↓w_fJoin, ↓w_split, ↓o_inS, ↓dr_inS, ↓wi_str, ↓w_fmt, ↓w_jsN, ↓w_jsC, ↓f_strI, ↓f_intI, ↓f_intB, ↓f_intS, ↓f_lenS, ↓o_ixS, Option.bind_some, Option.bind_none, Option.some.injEq, exists_eq_left', List.map_cons, List.map_nil, if_true, if_false, reduceIte, reduceCtorEq, Nat.reduceEqDiff, List.length_cons, List.length_nil, atI_0, decide_eq_true_eq, decide_eq_false_iff_not, true_and, and_true, false_and, and_false, not_true, not_false_iff, false_implies, true_implies, der_ref, der_lst, der_tup, der_frg, der_int, der_bl, der_str, der_non, der_dW, der_dP, der_dT, der_dWs, der_dTs, der_dct, isDK_d, kOf_int, kOf_str, kD_int, forall_const, not_true_eq_false, not_false_eq_true, exists_eq_left, exists_eq_right, Bool.not_eq_true', Bool.not_eq_false', List.mem_cons, List.not_mem_nil, or_false, false_or, Nat.reduceAdd, Nat.zero_add, List.set_cons_zero, List.set_cons_succ, all_shW, all_shT, all_shP, all_shI, atI_map, e, Option.map_some]
    exact tail x
  · simp [shp_int]
  · simp
  · have hn : 0 < (cells.length : Int) := by
      cases cells with
      | nil => simp at he
      | cons x xs => simp only [List.length_cons]; omega
    obtain ⟨x, e, _⟩ := atI_in (xs := cells) (Int.emod_nonneg (a * 7 + 1) (by omega)) (Int.emod_lt_of_pos (a * 7 + 1) hn)
    refine ⟨by omega, hn, ?_⟩
    try simp (implicitDefEqProofs := false) only [↓w_ok, ↓w_err, ↓w_bad, ↓wl_ok, ↓w_bind, ↓w_bindL, ↓wl_bind, ↓wl_bindL, ↓w_nx, ↓w_rt, ↓w_bk, ↓w_ct, ↓w_er, ↓w_bd, ↓w_sq, ↓w_of, ↓w_sIf, ↓w_and, ↓w_or, ↓w_bIf, ↓w_mk, ↓w_call, ↓w_tup, ↓w_lst, ↓wl_cons, ↓wl_nil, ↓w_bin, ↓w_not, ↓w_neg, ↓w_chain, ↓w_c, ↓w_set, ↓w_own, ↓w_ex, ↓w_ret, ↓w_retN, ↓w_skip, ↓w_raise, ↓w_to, ↓w_putR, ↓w_ref, ↓w_for, ↓w_lc, ↓wi_seq, ↓wi_r1, ↓wi_r2, ↓wi_enum, ↓m_var, ↓m_peek, ↓m_retOwn, ↓m_fix, ↓m_app, ↓m_ext, ↓m_putL, ↓m_put, ↓m_putR, ↓m_ixR, ↓env_set, ↓env_0, ↓env_s, ↓env_n, ↓env_wp, ↓t_n, ↓t_u, ↓t_0, ↓t_s, ↓bX_bl, ↓o_add, ↓o_addT, ↓o_addL, ↓o_addS, ↓o_cat, ↓o_sub, ↓o_mul, ↓o_mod, ↓o_fdiv, ↓o_pow, ↓o_eq, ↓o_ne, ↓o_ic, ↓o_isN, ↓o_ixL, ↓o_ixT, ↓f_lenL, ↓f_lenT, ↓f_tupL, ↓f_tupT, ↓f_listL, ↓f_listT, ↓f_min2, ↓f_max2, ↓f_reprB, ↓w_sl, ↓w_slA, ↓w_slB, ↓w_slC, ↓o_slL, ↓o_slT, ↓o_slF, ↓o_slLL, ↓o_slLF, ↓wi_zip, ↓wi_ok, ↓src_lst, ↓src_ref, ↓zip_tt, ↓zip_ll, ↓zip_rl, ↓zip_lr, ↓w_isi, ↓o_inL, ↓o_inT, ↓dr_eq, ↓dr_ne, ↓dp_ref, ↓dp_lst, ↓dp_tup, ↓dp_frg, ↓dp_int, ↓dp_bl, ↓dp_str, ↓dp_non, ↓dp_dW, ↓dp_dP, ↓dp_dT, ↓dp_dWs, ↓dp_dTs, ↓dr_in, ↓dr_add, ↓dr_cat, ↓dr_b1, ↓dr_sl, ↓w_isiD, ↓f_sort, ↓w_rev, ↓w_appR, ↓w_refA, ↓w_listR1, ↓o_cmpD, ↓dr_cmpD, ↓w_revA, ↓o_repT, ↓f_reprD, ↓w_dct0, ↓w_dct1, ↓dr_dget, ↓o_dget, ↓dr_inK, ↓o_inK, ↓o_getD, ↓w_dget2, ↓m_putD, ↓wi_keys, ↓f_listK, ↓f_sortK, ↓m_pop, ↓m_pop0, ↓m_insL, ↓m_ins, ↓m_refP, ↓w_clrR, ↓dp_dct, ↓w_chain3, ↓w_join, ↓w_fJoin, ↓w_split, ↓o_inS, ↓dr_inS, ↓wi_str, ↓w_fmt, ↓w_jsN, ↓w_jsC, ↓f_strI, ↓f_intI, ↓f_intB, ↓f_intS, ↓f_lenS, ↓o_ixS, Option.bind_some, Option.bind_none, Option.some.injEq, exists_eq_left', List.map_cons, List.map_nil, if_true, if_false, reduceIte, reduceCtorEq, Nat.reduceEqDiff, List.length_cons, List.length_nil, atI_0, decide_eq_true_eq, decide_eq_false_iff_not, true_and, and_true, false_and, and_false, not_true, not_false_iff, false_implies, true_implies, der_ref, der_lst, der_tup, der_frg, der_int, der_bl, der_str, der_non, der_dW, der_dP, der_dT, der_dWs, der_dTs, der_dct, isDK_d, kOf_int, kOf_str, kD_int, forall_const, not_true_eq_false, not_false_eq_true, exists_eq_left, exists_eq_right, Bool.not_eq_true', Bool.not_eq_false', List.mem_cons, List.not_mem_nil, or_false, false_or, Nat.reduceAdd, Nat.zero_add, List.set_cons_zero, List.set_cons_succ, all_shW, all_shT, all_shP, all_shI, atI_map, e, Option.map_some, hst, set_get hst, ixN_1]
    refine ⟨by decide, by omega, ?_, tail _⟩
    have : (10 : Int) ^ Int.toNat 17 = 100000000000000000 := by decide
    omega
  · exact tail _
theorem Pot.lt {n : Nat} {st : Sto} (h : Pot n st) : n < st.length := by
  obtain ⟨c, a, b, e, _⟩ := h
  exact (List.getElem?_eq_some_iff.mp e).1
theorem Pot.push {n : Nat} {st : Sto} {l : List SO} (h : Pot n st) : Pot n (st ++ l) := by
  have hl := h.lt
  obtain ⟨c, a, b, e, z⟩ := h
  exact ⟨c, a, b, by rw [List.getElem?_append_left hl]; exact e, z⟩
theorem Pot.set {n m : Nat} {st : Sto} {o : SO} (h : Pot n st) (ne : m ≠ n) : Pot n (st.set m o) := by
  obtain ⟨c, a, b, e, z⟩ := h
  exact ⟨c, a, b, by rw [List.getElem?_set_ne ne]; exact e, z⟩
theorem push_at {st : Sto} {o : SO} : (st ++ [o])[st.length]? = some o := by simp
theorem Pot.pre {n : Nat} {st st' : Sto} (h : Pot n st) (x : Pre st st') : Pot n st' := by
  obtain ⟨l, rfl⟩ := x
  exact h.push
theorem numd_map {α : Type} {enc : α → D} : ∀ (k : Nat) (xs : List α), numd k (xs.map enc) = (xs.zipIdx k).map fun q => .tup [.int (q.2 : Int), enc q.1]
  | _, [] => rfl
  | k, x :: xs => by simp [numd, numd_map (k + 1) xs]
theorem pot_spec {ns : List Int} {Q : D → Sto → Prop} {E} (h : ∀ st, Pot 0 st → st.length = 1 → Q (.ref 0) st) : RsP (m__law_pot [.frg (ns.map D.int)] []) Q E := by
  unfold m__law_pot
  try simp (implicitDefEqProofs := false) only [↓w_ok, ↓w_err, ↓w_bad, ↓wl_ok, ↓w_bind, ↓w_bindL, ↓wl_bind, ↓wl_bindL, ↓w_nx, ↓w_rt, ↓w_bk, ↓w_ct, ↓w_er, ↓w_bd, ↓w_sq, ↓w_of, ↓w_sIf, ↓w_and, ↓w_or, ↓w_bIf, ↓w_mk, ↓w_call, ↓w_tup, ↓w_lst, ↓wl_cons, ↓wl_nil, ↓w_bin, ↓w_not, ↓w_neg, ↓w_chain, ↓w_c, ↓w_set, ↓w_own, ↓w_ex, ↓w_ret, ↓w_retN, ↓w_skip, ↓w_raise, ↓w_to, ↓w_putR, ↓w_ref, ↓w_for, ↓w_lc, ↓wi_seq, ↓wi_r1, ↓wi_r2, ↓wi_enum, ↓m_var, ↓m_peek, ↓m_retOwn, ↓m_fix, ↓m_app, ↓m_ext, ↓m_putL, ↓m_put, ↓m_putR, ↓m_ixR, ↓env_set, ↓env_0, ↓env_s, ↓env_n, ↓env_wp, ↓t_n, ↓t_u, ↓t_0, ↓t_s, ↓bX_bl, ↓o_add, ↓o_addT, ↓o_addL, ↓o_addS, ↓o_cat, ↓o_sub, ↓o_mul, ↓o_mod, ↓o_fdiv, ↓o_pow, ↓o_eq, ↓o_ne, ↓o_ic, ↓o_isN, ↓o_ixL, ↓o_ixT, ↓f_lenL, ↓f_lenT, ↓f_tupL, ↓f_tupT, ↓f_listL, ↓f_listT, ↓f_min2, ↓f_max2, ↓f_reprB, ↓w_sl, ↓w_slA, ↓w_slB, ↓w_slC, ↓o_slL, ↓o_slT, ↓o_slF, ↓o_slLL, ↓o_slLF, ↓wi_zip, ↓wi_ok, ↓src_lst, ↓src_ref, ↓zip_tt, ↓zip_ll, ↓zip_rl, ↓zip_lr, ↓w_isi, ↓o_inL, ↓o_inT, ↓dr_eq, ↓dr_ne, ↓dp_ref, ↓dp_lst, ↓dp_tup, ↓dp_frg, ↓dp_int, ↓dp_bl, ↓dp_str, ↓dp_non, ↓dp_dW, ↓dp_dP, ↓dp_dT, ↓dp_dWs, ↓dp_dTs, ↓dr_in, ↓dr_add, ↓dr_cat, ↓dr_b1, ↓dr_sl, ↓w_isiD, ↓f_sort, ↓w_rev, ↓w_appR, ↓w_refA, ↓w_listR1, ↓o_cmpD, ↓dr_cmpD, ↓w_revA, ↓o_repT, ↓f_reprD, ↓w_dct0, ↓w_dct1, ↓dr_dget, ↓o_dget, ↓dr_inK, ↓o_inK, ↓o_getD, ↓w_dget2, ↓m_putD, ↓wi_keys, ↓f_listK, ↓f_sortK, ↓m_pop, ↓m_pop0, ↓m_insL, ↓m_ins, ↓m_refP, ↓w_clrR, ↓dp_dct, ↓w_chain3, ↓w_join, ↓w_fJoin, ↓w_split, ↓o_inS, ↓dr_inS, ↓wi_str, ↓w_fmt, ↓w_jsN, ↓w_jsC, ↓f_strI, ↓f_intI, ↓f_intB, ↓f_intS, ↓f_lenS, ↓o_ixS, Option.bind_some, Option.bind_none, Option.some.injEq, exists_eq_left', List.map_cons, List.map_nil, if_true, if_false, reduceIte, reduceCtorEq, Nat.reduceEqDiff, List.length_cons, List.length_nil, atI_0, decide_eq_true_eq, decide_eq_false_iff_not, true_and, and_true, false_and, and_false, not_true, not_false_iff, false_implies, true_implies, der_ref, der_lst, der_tup, der_frg, der_int, der_bl, der_str, der_non, der_dW, der_dP, der_dT, der_dWs, der_dTs, der_dct, isDK_d, kOf_int, kOf_str, kD_int, forall_const, not_true_eq_false, not_false_eq_true, exists_eq_left, exists_eq_right, Bool.not_eq_true', Bool.not_eq_false', List.mem_cons, List.not_mem_nil, or_false, false_or, Nat.reduceAdd, Nat.zero_add, List.set_cons_zero, List.set_cons_succ, all_shW, all_shT, all_shP, all_shI, cut_map, fList]
  rw [show (cut ns (some 12) (some 63)).map D.int = (cut ns (some 12) (some 63)).map D.int from rfl, numd_map]
  refine for_rule (fun _ _ r st => st = [] ∧ ∃ cells : List Int, r 1 = some (true, .lst (cells.map D.int)) ∧ cells.length = (cut ns none (some 12)).length) ⟨rfl, cut ns none (some 12), by try simp (implicitDefEqProofs := false) only [↓w_ok, ↓w_err, ↓w_bad, ↓wl_ok, ↓w_bind, ↓w_bindL, ↓wl_bind, ↓wl_bindL, ↓w_nx, ↓w_rt, ↓w_bk, ↓w_ct, ↓w_er, ↓w_bd, ↓w_sq, ↓w_of, ↓w_sIf, ↓w_and, ↓w_or, ↓w_bIf, ↓w_mk, ↓w_call, ↓w_tup, ↓w_lst, ↓wl_cons, ↓wl_nil, ↓w_bin, ↓w_not, ↓w_neg, ↓w_chain, ↓w_c, ↓w_set, ↓w_own, ↓w_ex, ↓w_ret, ↓w_retN, ↓w_skip, ↓w_raise, ↓w_to, ↓w_putR, ↓w_ref, ↓w_for, ↓w_lc, ↓wi_seq, ↓wi_r1, ↓wi_r2, ↓wi_enum, ↓m_var, ↓m_peek, ↓m_retOwn, ↓m_fix, ↓m_app, ↓m_ext, ↓m_putL, ↓m_put, ↓m_putR, ↓m_ixR, ↓env_set, ↓env_0, ↓env_s, ↓env_n, ↓env_wp, ↓t_n, ↓t_u, ↓t_0, ↓t_s, ↓bX_bl, ↓o_add, ↓o_addT, ↓o_addL, ↓o_addS, ↓o_cat, ↓o_sub, ↓o_mul, ↓o_mod, ↓o_fdiv, ↓o_pow, ↓o_eq, ↓o_ne, ↓o_ic, ↓o_isN, ↓o_ixL, ↓o_ixT, ↓f_lenL, ↓f_lenT, ↓f_tupL, ↓f_tupT, ↓f_listL, ↓f_listT, ↓f_min2, ↓f_max2, ↓f_reprB, ↓w_sl, ↓w_slA, ↓w_slB, ↓w_slC, ↓o_slL, ↓o_slT, ↓o_slF, ↓o_slLL, ↓o_slLF, ↓wi_zip, ↓wi_ok, ↓src_lst, ↓src_ref, ↓zip_tt, ↓zip_ll, ↓zip_rl, ↓zip_lr, ↓w_isi, ↓o_inL, ↓o_inT, ↓dr_eq, ↓dr_ne, ↓dp_ref, ↓dp_lst, ↓dp_tup, ↓dp_frg, ↓dp_int, ↓dp_bl, ↓dp_str, ↓dp_non, ↓dp_dW, ↓dp_dP, ↓dp_dT, ↓dp_dWs, ↓dp_dTs, ↓dr_in, ↓dr_add, ↓dr_cat, ↓dr_b1, ↓dr_sl, ↓w_isiD, ↓f_sort, ↓w_rev, ↓w_appR, ↓w_refA, ↓w_listR1, ↓o_cmpD, ↓dr_cmpD, ↓w_revA, ↓o_repT, ↓f_reprD, ↓w_dct0, ↓w_dct1, ↓dr_dget, ↓o_dget, ↓dr_inK, ↓o_inK, ↓o_getD, ↓w_dget2, ↓m_putD, ↓wi_keys, ↓f_listK, ↓f_sortK, ↓m_pop, ↓m_pop0, ↓m_insL, ↓m_ins, ↓m_refP, ↓w_clrR, ↓dp_dct, ↓w_chain3, ↓w_join, ↓w_fJoin, ↓w_split, ↓o_inS, ↓dr_inS, ↓wi_str, ↓w_fmt, ↓w_jsN, ↓w_jsC, ↓f_strI, ↓f_intI, ↓f_intB, ↓f_intS, ↓f_lenS, ↓o_ixS, Option.bind_some, Option.bind_none, Option.some.injEq, exists_eq_left', List.map_cons, List.map_nil, if_true, if_false, reduceIte, reduceCtorEq, Nat.reduceEqDiff, List.length_cons, List.length_nil, atI_0, decide_eq_true_eq, decide_eq_false_iff_not, true_and, and_true, false_and, and_false, not_true, not_false_iff, false_implies, true_implies, der_ref, der_lst, der_tup, der_frg, der_int, der_bl, der_str, der_non, der_dW, der_dP, der_dT, der_dWs, der_dTs, der_dct, isDK_d, kOf_int, kOf_str, kD_int, forall_const, not_true_eq_false, not_false_eq_true, exists_eq_left, exists_eq_right, Bool.not_eq_true', Bool.not_eq_false', List.mem_cons, List.not_mem_nil, or_false, false_or, Nat.reduceAdd, Nat.zero_add, List.set_cons_zero, List.set_cons_succ, all_shW, all_shT, all_shP, all_shI], rfl⟩ ?_ ?_
  · rintro done ⟨a, k⟩ rest r st e ⟨rfl, cells, hr, hl⟩
    have hlen : cells.length = 12 := by
      have : 0 < (cut ns (some 12) (some 63)).length := by
        have : ((cut ns (some 12) (some 63)).zipIdx 0).length ≠ 0 := by rw [e]; simp
        simp at this
        cases z : (cut ns (some 12) (some 63)).length with
        | zero => exact absurd (List.length_eq_zero_iff.mp z) this
        | succ n => omega
      rw [hl]
      simp [cut, HT.sIx] at *
      omega
    have hk : ((k : Int) % 12) < cells.length ∧ 0 ≤ (k : Int) % 12 := by omega
    obtain ⟨x, ex, _⟩ := atI_in (xs := cells) hk.2 hk.1
    try simp (implicitDefEqProofs := false) only [↓w_ok, ↓w_err, ↓w_bad, ↓wl_ok, ↓w_bind, ↓w_bindL, ↓wl_bind, ↓wl_bindL, ↓w_nx, ↓w_rt, ↓w_bk, ↓w_ct, ↓w_er, ↓w_bd, ↓w_sq, ↓w_of, ↓w_sIf, ↓w_and, ↓w_or, ↓w_bIf, ↓w_mk, ↓w_call, ↓w_tup, ↓w_lst, ↓wl_cons, ↓wl_nil, ↓w_bin, ↓w_not, ↓w_neg, ↓w_chain, ↓w_c, ↓w_set, ↓w_own, ↓w_ex, ↓w_ret, ↓w_retN, ↓w_skip, ↓w_raise, ↓w_to, ↓w_putR, ↓w_ref, ↓w_for, ↓w_lc, ↓wi_seq, ↓wi_r1, ↓wi_r2, ↓wi_enum, ↓m_var, ↓m_peek, ↓m_retOwn, ↓m_fix, ↓m_app, ↓m_ext, ↓m_putL, ↓m_put, ↓m_putR, ↓m_ixR, ↓env_set, ↓env_0, ↓env_s, ↓env_n, ↓env_wp, ↓t_n, ↓t_u, ↓t_0, ↓t_s, ↓bX_bl, ↓o_add, ↓o_addT, ↓o_addL, ↓o_addS, ↓o_cat, ↓o_sub, ↓o_mul, ↓o_mod, ↓o_fdiv, ↓o_pow, ↓o_eq, ↓o_ne, ↓o_ic, ↓o_isN, ↓o_ixL, ↓o_ixT, ↓f_lenL, ↓f_lenT, ↓f_tupL, ↓f_tupT, ↓f_listL, ↓f_listT, ↓f_min2, ↓f_max2, ↓f_reprB, ↓w_sl, ↓w_slA, ↓w_slB, ↓w_slC, ↓o_slL, ↓o_slT, ↓o_slF, ↓o_slLL, ↓o_slLF, ↓wi_zip, ↓wi_ok, ↓src_lst, ↓src_ref, ↓zip_tt, ↓zip_ll, ↓zip_rl, ↓zip_lr, ↓w_isi, ↓o_inL, ↓o_inT, ↓dr_eq, ↓dr_ne, ↓dp_ref, ↓dp_lst, ↓dp_tup, ↓dp_frg, ↓dp_int, ↓dp_bl, ↓dp_str, ↓dp_non, ↓dp_dW, ↓dp_dP, ↓dp_dT, ↓dp_dWs, ↓dp_dTs, ↓dr_in, ↓dr_add, ↓dr_cat, ↓dr_b1, ↓dr_sl, ↓w_isiD, ↓f_sort, ↓w_rev, ↓w_appR, ↓w_refA, ↓w_listR1, ↓o_cmpD, ↓dr_cmpD, ↓w_revA, ↓o_repT, ↓f_reprD, ↓w_dct0, ↓w_dct1, ↓dr_dget, ↓o_dget, ↓dr_inK, ↓o_inK, ↓o_getD, ↓w_dget2, ↓m_putD, ↓wi_keys, ↓f_listK, ↓f_sortK, ↓m_pop, ↓m_pop0, ↓m_insL, ↓m_ins, ↓m_refP, ↓w_clrR, ↓dp_dct, ↓w_chain3, ↓w_join, ↓w_fJoin, ↓w_split, ↓o_inS, ↓dr_inS, ↓wi_str, ↓w_fmt, ↓w_jsN, ↓w_jsC, ↓f_strI, ↓f_intI, ↓f_intB, ↓f_intS, ↓f_lenS, ↓o_ixS, Option.bind_some, Option.bind_none, Option.some.injEq, exists_eq_left', List.map_cons, List.map_nil, if_true, if_false, reduceIte, reduceCtorEq, Nat.reduceEqDiff, List.length_cons, List.length_nil, atI_0, decide_eq_true_eq, decide_eq_false_iff_not, true_and, and_true, false_and, and_false, not_true, not_false_iff, false_implies, true_implies, der_ref, der_lst, der_tup, der_frg, der_int, der_bl, der_str, der_non, der_dW, der_dP, der_dT, der_dWs, der_dTs, der_dct, isDK_d, kOf_int, kOf_str, kD_int, forall_const, not_true_eq_false, not_false_eq_true, exists_eq_left, exists_eq_right, Bool.not_eq_true', Bool.not_eq_false', List.mem_cons, List.not_mem_nil, or_false, false_or, Nat.reduceAdd, Nat.zero_add, List.set_cons_zero, List.set_cons_succ, all_shW, all_shT, all_shP, all_shI, hr, atI_map, ex, Option.map_some, List.length_map, ixN_in hk.2 hk.1]
    refine ⟨by decide, by decide, cells.set ((k : Int) % 12).toNat (x + a), by rw [List.map_set], by rw [List.length_set]; exact hl⟩
  · rintro r st ⟨rfl, cells, hr, hl⟩
    try simp (implicitDefEqProofs := false) only [↓w_ok, ↓w_err, ↓w_bad, ↓wl_ok, ↓w_bind, ↓w_bindL, ↓wl_bind, ↓wl_bindL, ↓w_nx, ↓w_rt, ↓w_bk, ↓w_ct, ↓w_er, ↓w_bd, ↓w_sq, ↓w_of, ↓w_sIf, ↓w_and, ↓w_or, ↓w_bIf, ↓w_mk, ↓w_call, ↓w_tup, ↓w_lst, ↓wl_cons, ↓wl_nil, ↓w_bin, ↓w_not, ↓w_neg, ↓w_chain, ↓w_c, ↓w_set, ↓w_own, ↓w_ex, ↓w_ret, ↓w_retN, ↓w_skip, ↓w_raise, ↓w_to, ↓w_putR, ↓w_ref, ↓w_for, ↓w_lc, ↓wi_seq, ↓wi_r1, ↓wi_r2, ↓wi_enum, ↓m_var, ↓m_peek, ↓m_retOwn, ↓m_fix, ↓m_app, ↓m_ext, ↓m_putL, ↓m_put, ↓m_putR, ↓m_ixR, ↓env_set, ↓env_0, ↓env_s, ↓env_n, ↓env_wp, ↓t_n, ↓t_u, ↓t_0, ↓t_s, ↓bX_bl, ↓o_add, ↓o_addT, ↓o_addL, ↓o_addS, ↓o_cat, ↓o_sub, ↓o_mul, ↓o_mod, ↓o_fdiv, ↓o_pow, ↓o_eq, ↓o_ne, ↓o_ic, ↓o_isN, ↓o_ixL, ↓o_ixT, ↓f_lenL, ↓f_lenT, ↓f_tupL, ↓f_tupT, ↓f_listL, ↓f_listT, ↓f_min2, ↓f_max2, ↓f_reprB, ↓w_sl, ↓w_slA, ↓w_slB, ↓w_slC, ↓o_slL, ↓o_slT, ↓o_slF, ↓o_slLL, ↓o_slLF, ↓wi_zip, ↓wi_ok, ↓src_lst, ↓src_ref, ↓zip_tt, ↓zip_ll, ↓zip_rl, ↓zip_lr, ↓w_isi, ↓o_inL, ↓o_inT, ↓dr_eq, ↓dr_ne, ↓dp_ref, ↓dp_lst, ↓dp_tup, ↓dp_frg, ↓dp_int, ↓dp_bl, ↓dp_str, ↓dp_non, ↓dp_dW, ↓dp_dP, ↓dp_dT, ↓dp_dWs, ↓dp_dTs, ↓dr_in, ↓dr_add, ↓dr_cat, ↓dr_b1, ↓dr_sl, ↓w_isiD, ↓f_sort, ↓w_rev, ↓w_appR, ↓w_refA, ↓w_listR1, ↓o_cmpD, ↓dr_cmpD, ↓w_revA, ↓o_repT, ↓f_reprD, ↓w_dct0, ↓w_dct1, ↓dr_dget, ↓o_dget, ↓dr_inK, ↓o_inK, ↓o_getD, ↓w_dget2, ↓m_putD, ↓wi_keys, ↓f_listK, ↓f_sortK, ↓m_pop, ↓m_pop0, ↓m_insL, ↓m_ins, ↓m_refP, ↓w_clrR, ↓dp_dct, ↓w_chain3, ↓w_join, ↓w_fJoin, ↓w_split, ↓o_inS, ↓dr_inS, ↓wi_str, ↓w_fmt, ↓w_jsN, ↓w_jsC, ↓f_strI, ↓f_intI, ↓f_intB, ↓f_intS, ↓f_lenS, ↓o_ixS, Option.bind_some, Option.bind_none, Option.some.injEq, exists_eq_left', List.map_cons, List.map_nil, if_true, if_false, reduceIte, reduceCtorEq, Nat.reduceEqDiff, List.length_cons, List.length_nil, atI_0, decide_eq_true_eq, decide_eq_false_iff_not, true_and, and_true, false_and, and_false, not_true, not_false_iff, false_implies, true_implies, der_ref, der_lst, der_tup, der_frg, der_int, der_bl, der_str, der_non, der_dW, der_dP, der_dT, der_dWs, der_dTs, der_dct, isDK_d, kOf_int, kOf_str, kD_int, forall_const, not_true_eq_false, not_false_eq_true, exists_eq_left, exists_eq_right, Bool.not_eq_true', Bool.not_eq_false', List.mem_cons, List.not_mem_nil, or_false, false_or, Nat.reduceAdd, Nat.zero_add, List.set_cons_zero, List.set_cons_succ, all_shW, all_shT, all_shP, all_shI, hr]
    exact h _ ⟨cells, 0, 0, rfl, by omega⟩ rfl
theorem same_spec : ∀ (n : Nat) (a b : D) (st : Sto) (Q : D → Sto → Prop) (E), n ≤ 50 → smD n a → smD n b → Q (.bl (eqD a b)) st → RsP (m__law_same (n + 1) [a, b] st) Q E := by
  intro n
  induction n with
  | zero =>
    intro a b st Q E hn ha hb h
    have sa := smD_shp 0 60 a (by omega) ha
    have sb := smD_shp 0 60 b (by omega) hb
    have sb1 : ∀ {x : Bool}, shp 60 (.bl x) = true := shp_bl
    rw [e__law_same]
    cases a with
    | tup xs => exact (show False from ha).elim
    | lst xs => exact (show False from ha).elim
    | dct _ _ => exact (show False from ha).elim
    | ref _ => exact (show False from ha).elim
    | exc _ _ => exact (show False from ha).elim
    | frg _ => exact (show False from ha).elim
    | _ =>
      cases b with
      | tup xs => exact (show False from hb).elim
      | lst xs => exact (show False from hb).elim
      | dct _ _ => exact (show False from hb).elim
      | ref _ => exact (show False from hb).elim
      | exc _ _ => exact (show False from hb).elim
      | frg _ => exact (show False from hb).elim
      | _ =>
        simp only [eqD_nn, eqD_nb, eqD_ni, eqD_ns, eqD_nt, eqD_nl, eqD_bn, eqD_bb, eqD_bi, eqD_bs, eqD_bt, eqD_bl, eqD_in, eqD_ib, eqD_ii, eqD_is, eqD_it, eqD_il, eqD_sn, eqD_sb, eqD_si, eqD_ss, eqD_st, eqD_sl, eqD_tn, eqD_tb, eqD_ti, eqD_ts, eqD_tl, eqD_ln, eqD_lb, eqD_li, eqD_ls, eqD_lt] at h
        try simp (implicitDefEqProofs := false) only [↓w_ok, ↓w_err, ↓w_bad, ↓wl_ok, ↓w_bind, ↓w_bindL, ↓wl_bind, ↓wl_bindL, ↓w_nx, ↓w_rt, ↓w_bk, ↓w_ct, ↓w_er, ↓w_bd, ↓w_sq, ↓w_of, ↓w_sIf, ↓w_and, ↓w_or, ↓w_bIf, ↓w_mk, ↓w_call, ↓w_tup, ↓w_lst, ↓wl_cons, ↓wl_nil, ↓w_bin, ↓w_not, ↓w_neg, ↓w_chain, ↓w_c, ↓w_set, ↓w_own, ↓w_ex, ↓w_ret, ↓w_retN, ↓w_skip, ↓w_raise, ↓w_to, ↓w_putR, ↓w_ref, ↓w_for, ↓w_lc, ↓wi_seq, ↓wi_r1, ↓wi_r2, ↓wi_enum, ↓m_var, ↓m_peek, ↓m_retOwn, ↓m_fix, ↓m_app, ↓m_ext, ↓m_putL, ↓m_put, ↓m_putR, ↓m_ixR, ↓env_set, ↓env_0, ↓env_s, ↓env_n, ↓env_wp, ↓t_n, ↓t_u, ↓t_0, ↓t_s, ↓bX_bl, ↓o_add, ↓o_addT, ↓o_addL, ↓o_addS, ↓o_cat, ↓o_sub, ↓o_mul, ↓o_mod, ↓o_fdiv, ↓o_pow, ↓o_eq, ↓o_ne, ↓o_ic, ↓o_isN, ↓o_ixL, ↓o_ixT, ↓f_lenL, ↓f_lenT, ↓f_tupL, ↓f_tupT, ↓f_listL, ↓f_listT, ↓f_min2, ↓f_max2, ↓f_reprB, ↓w_sl, ↓w_slA, ↓w_slB, ↓w_slC, ↓o_slL, ↓o_slT, ↓o_slF, ↓o_slLL, ↓o_slLF, ↓wi_zip, ↓wi_ok, ↓src_lst, ↓src_ref, ↓zip_tt, ↓zip_ll, ↓zip_rl, ↓zip_lr, ↓w_isi, ↓o_inL, ↓o_inT, ↓dr_eq, ↓dr_ne, ↓dp_ref, ↓dp_lst, ↓dp_tup, ↓dp_frg, ↓dp_int, ↓dp_bl, ↓dp_str, ↓dp_non, ↓dp_dW, ↓dp_dP, ↓dp_dT, ↓dp_dWs, ↓dp_dTs, ↓dr_in, ↓dr_add, ↓dr_cat, ↓dr_b1, ↓dr_sl, ↓w_isiD, ↓f_sort, ↓w_rev, ↓w_appR, ↓w_refA, ↓w_listR1, ↓o_cmpD, ↓dr_cmpD, ↓w_revA, ↓o_repT, ↓f_reprD, ↓w_dct0, ↓w_dct1, ↓dr_dget, ↓o_dget, ↓dr_inK, ↓o_inK, ↓o_getD, ↓w_dget2, ↓m_putD, ↓wi_keys, ↓f_listK, ↓f_sortK, ↓m_pop, ↓m_pop0, ↓m_insL, ↓m_ins, ↓m_refP, ↓w_clrR, ↓dp_dct, ↓w_chain3, ↓w_join, ↓w_fJoin, ↓w_split, ↓o_inS, ↓dr_inS, ↓wi_str, ↓w_fmt, ↓w_jsN, ↓w_jsC, ↓f_strI, ↓f_intI, ↓f_intB, ↓f_intS, ↓f_lenS, ↓o_ixS, Option.bind_some, Option.bind_none, Option.some.injEq, exists_eq_left', List.map_cons, List.map_nil, if_true, if_false, reduceIte, reduceCtorEq, Nat.reduceEqDiff, List.length_cons, List.length_nil, atI_0, decide_eq_true_eq, decide_eq_false_iff_not, true_and, and_true, false_and, and_false, not_true, not_false_iff, false_implies, true_implies, der_ref, der_lst, der_tup, der_frg, der_int, der_bl, der_str, der_non, der_dW, der_dP, der_dT, der_dWs, der_dTs, der_dct, isDK_d, kOf_int, kOf_str, kD_int, forall_const, not_true_eq_false, not_false_eq_true, exists_eq_left, exists_eq_right, Bool.not_eq_true', Bool.not_eq_false', List.mem_cons, List.not_mem_nil, or_false, false_or, Nat.reduceAdd, Nat.zero_add, List.set_cons_zero, List.set_cons_succ, all_shW, all_shT, all_shP, all_shI, tn_ni, tn_nb, tn_ns, tn_nt, tn_nl, tn_nd, tn_bi, tn_bb, tn_bs, tn_bt, tn_bl, tn_bd, tn_ii, tn_ib, tn_is, tn_it, tn_il, tn_id, tn_si, tn_sb, tn_ss, tn_st, tn_sl, tn_sd, tn_ti, tn_tb, tn_ts, tn_tt, tn_tl, tn_td, tn_li, tn_lb, tn_ls, tn_lt, tn_ll, tn_ld, isN, tyN, sa, sb, sb1, Bool.false_xor, eqv_int, eqv_bl, eqv_str, eqx_nb, eqx_ni, eqx_ns, eqx_nt, eqx_nl, eqx_bn, eqx_bs, eqx_bt, eqx_bl, eqx_in, eqx_is, eqx_it, eqx_il, eqx_sn, eqx_sb, eqx_si, eqx_st, eqx_sl, eqx_tn, eqx_tb, eqx_ti, eqx_ts, eqx_tl, eqx_ln, eqx_lb, eqx_li, eqx_ls, eqx_lt, beq_self_eq_true, Bool.true_eq_false, Bool.false_eq_true, beq_iff_eq]
        try (first | exact h | exact fun _ => h)
  | succ n ih =>
    intro a b st Q E hn ha hb h
    have sa := smD_shp (n + 1) 60 a (by omega) ha
    have sb := smD_shp (n + 1) 60 b (by omega) hb
    have sb1 : ∀ {x : Bool}, shp 60 (.bl x) = true := shp_bl
    have si1 : ∀ {x : Int}, shp 60 (.int x) = true := shp_int
    have core : ∀ (xs ys : List D) (Q' : D → Sto → Prop) (E'), xs.length ≤ LIM → (∀ x ∈ xs, smD n x) → (∀ y ∈ ys, smD n y) → Q' (.lst ((xs.zip ys).map fun q => .bl (eqD q.1 q.2))) st → ∀ r : Sm.Env,
        RsP (lcL (tgU [tgN 2, tgN 3]) (bC (.bl true)) (bCall (m__law_same (n + 1)) [bVar 2, bVar 3]) [] r (zipd xs ys) [] st) Q' E' := by
      intro xs ys Q' E' hl hx hy hq r
      rw [zipd_id]
      refine lc_pure (fun _ => true) (fun q => .bl (eqD q.1 q.2)) ?_ (by rw [List.length_zip]; omega) (by rw [filt_t]; exact hq)
      rintro ⟨x, y⟩ hm
      have hm := List.of_mem_zip hm
      try simp (implicitDefEqProofs := false) only [↓w_ok, ↓w_err, ↓w_bad, ↓wl_ok, ↓w_bind, ↓w_bindL, ↓wl_bind, ↓wl_bindL, ↓w_nx, ↓w_rt, ↓w_bk, ↓w_ct, ↓w_er, ↓w_bd, ↓w_sq, ↓w_of, ↓w_sIf, ↓w_and, ↓w_or, ↓w_bIf, ↓w_mk, ↓w_call, ↓w_tup, ↓w_lst, ↓wl_cons, ↓wl_nil, ↓w_bin, ↓w_not, ↓w_neg, ↓w_chain, ↓w_c, ↓w_set, ↓w_own, ↓w_ex, ↓w_ret, ↓w_retN, ↓w_skip, ↓w_raise, ↓w_to, ↓w_putR, ↓w_ref, ↓w_for, ↓w_lc, ↓wi_seq, ↓wi_r1, ↓wi_r2, ↓wi_enum, ↓m_var, ↓m_peek, ↓m_retOwn, ↓m_fix, ↓m_app, ↓m_ext, ↓m_putL, ↓m_put, ↓m_putR, ↓m_ixR, ↓env_set, ↓env_0, ↓env_s, ↓env_n, ↓env_wp, ↓t_n, ↓t_u, ↓t_0, ↓t_s, ↓bX_bl, ↓o_add, ↓o_addT, ↓o_addL, ↓o_addS, ↓o_cat, ↓o_sub, ↓o_mul, ↓o_mod, ↓o_fdiv, ↓o_pow, ↓o_eq, ↓o_ne, ↓o_ic, ↓o_isN, ↓o_ixL, ↓o_ixT, ↓f_lenL, ↓f_lenT, ↓f_tupL, ↓f_tupT, ↓f_listL, ↓f_listT, ↓f_min2, ↓f_max2, ↓f_reprB, ↓w_sl, ↓w_slA, ↓w_slB, ↓w_slC, ↓o_slL, ↓o_slT, ↓o_slF, ↓o_slLL, ↓o_slLF, ↓wi_zip, ↓wi_ok, ↓src_lst, ↓src_ref, ↓zip_tt, ↓zip_ll, ↓zip_rl, ↓zip_lr, ↓w_isi, ↓o_inL, ↓o_inT, ↓dr_eq, ↓dr_ne, ↓dp_ref, ↓dp_lst, ↓dp_tup, ↓dp_frg, ↓dp_int, ↓dp_bl, ↓dp_str, ↓dp_non, ↓dp_dW, ↓dp_dP, ↓dp_dT, ↓dp_dWs, ↓dp_dTs, ↓dr_in, ↓dr_add, ↓dr_cat, ↓dr_b1, ↓dr_sl, ↓w_isiD, ↓f_sort, ↓w_rev, ↓w_appR, ↓w_refA, ↓w_listR1, ↓o_cmpD, ↓dr_cmpD, ↓w_revA, ↓o_repT, ↓f_reprD, ↓w_dct0, ↓w_dct1, ↓dr_dget, ↓o_dget, ↓dr_inK, ↓o_inK, ↓o_getD, ↓w_dget2, ↓m_putD, ↓wi_keys, ↓f_listK, ↓f_sortK, ↓m_pop, ↓m_pop0, ↓m_insL, ↓m_ins, ↓m_refP, ↓w_clrR, ↓dp_dct, ↓w_chain3, ↓w_join, ↓w_fJoin, ↓w_split, ↓o_inS, ↓dr_inS, ↓wi_str, ↓w_fmt, ↓w_jsN, ↓w_jsC, ↓f_strI, ↓f_intI, ↓f_intB, ↓f_intS, ↓f_lenS, ↓o_ixS, Option.bind_some, Option.bind_none, Option.some.injEq, exists_eq_left', List.map_cons, List.map_nil, if_true, if_false, reduceIte, reduceCtorEq, Nat.reduceEqDiff, List.length_cons, List.length_nil, atI_0, decide_eq_true_eq, decide_eq_false_iff_not, true_and, and_true, false_and, and_false, not_true, not_false_iff, false_implies, true_implies, der_ref, der_lst, der_tup, der_frg, der_int, der_bl, der_str, der_non, der_dW, der_dP, der_dT, der_dWs, der_dTs, der_dct, isDK_d, kOf_int, kOf_str, kD_int, forall_const, not_true_eq_false, not_false_eq_true, exists_eq_left, exists_eq_right, Bool.not_eq_true', Bool.not_eq_false', List.mem_cons, List.not_mem_nil, or_false, false_or, Nat.reduceAdd, Nat.zero_add, List.set_cons_zero, List.set_cons_succ, all_shW, all_shT, all_shP, all_shI]
      exact ih x y st _ _ (by omega) (hx x hm.1) (hy y hm.2) ⟨rfl, rfl⟩
    rw [e__law_same]
    cases a with
    | dct _ _ => exact (show False from ha).elim
    | ref _ => exact (show False from ha).elim
    | exc _ _ => exact (show False from ha).elim
    | frg _ => exact (show False from ha).elim
    | tup xs =>
      cases b with
      | dct _ _ => exact (show False from hb).elim
      | ref _ => exact (show False from hb).elim
      | exc _ _ => exact (show False from hb).elim
      | frg _ => exact (show False from hb).elim
      | tup ys =>
        have hx := smD_tup.mp ha
        have hy := smD_tup.mp hb
        try simp (implicitDefEqProofs := false) only [↓w_ok, ↓w_err, ↓w_bad, ↓wl_ok, ↓w_bind, ↓w_bindL, ↓wl_bind, ↓wl_bindL, ↓w_nx, ↓w_rt, ↓w_bk, ↓w_ct, ↓w_er, ↓w_bd, ↓w_sq, ↓w_of, ↓w_sIf, ↓w_and, ↓w_or, ↓w_bIf, ↓w_mk, ↓w_call, ↓w_tup, ↓w_lst, ↓wl_cons, ↓wl_nil, ↓w_bin, ↓w_not, ↓w_neg, ↓w_chain, ↓w_c, ↓w_set, ↓w_own, ↓w_ex, ↓w_ret, ↓w_retN, ↓w_skip, ↓w_raise, ↓w_to, ↓w_putR, ↓w_ref, ↓w_for, ↓w_lc, ↓wi_seq, ↓wi_r1, ↓wi_r2, ↓wi_enum, ↓m_var, ↓m_peek, ↓m_retOwn, ↓m_fix, ↓m_app, ↓m_ext, ↓m_putL, ↓m_put, ↓m_putR, ↓m_ixR, ↓env_set, ↓env_0, ↓env_s, ↓env_n, ↓env_wp, ↓t_n, ↓t_u, ↓t_0, ↓t_s, ↓bX_bl, ↓o_add, ↓o_addT, ↓o_addL, ↓o_addS, ↓o_cat, ↓o_sub, ↓o_mul, ↓o_mod, ↓o_fdiv, ↓o_pow, ↓o_eq, ↓o_ne, ↓o_ic, ↓o_isN, ↓o_ixL, ↓o_ixT, ↓f_lenL, ↓f_lenT, ↓f_tupL, ↓f_tupT, ↓f_listL, ↓f_listT, ↓f_min2, ↓f_max2, ↓f_reprB, ↓w_sl, ↓w_slA, ↓w_slB, ↓w_slC, ↓o_slL, ↓o_slT, ↓o_slF, ↓o_slLL, ↓o_slLF, ↓wi_zip, ↓wi_ok, ↓src_lst, ↓src_ref, ↓zip_tt, ↓zip_ll, ↓zip_rl, ↓zip_lr, ↓w_isi, ↓o_inL, ↓o_inT, ↓dr_eq, ↓dr_ne, ↓dp_ref, ↓dp_lst, ↓dp_tup, ↓dp_frg, ↓dp_int, ↓dp_bl, ↓dp_str, ↓dp_non, ↓dp_dW, ↓dp_dP, ↓dp_dT, ↓dp_dWs, ↓dp_dTs, ↓dr_in, ↓dr_add, ↓dr_cat, ↓dr_b1, ↓dr_sl, ↓w_isiD, ↓f_sort, ↓w_rev, ↓w_appR, ↓w_refA, ↓w_listR1, ↓o_cmpD, ↓dr_cmpD, ↓w_revA, ↓o_repT, ↓f_reprD, ↓w_dct0, ↓w_dct1, ↓dr_dget, ↓o_dget, ↓dr_inK, ↓o_inK, ↓o_getD, ↓w_dget2, ↓m_putD, ↓wi_keys, ↓f_listK, ↓f_sortK, ↓m_pop, ↓m_pop0, ↓m_insL, ↓m_ins, ↓m_refP, ↓w_clrR, ↓dp_dct, ↓w_chain3, ↓w_join, ↓w_fJoin, ↓w_split, ↓o_inS, ↓dr_inS, ↓wi_str, ↓w_fmt, ↓w_jsN, ↓w_jsC, ↓f_strI, ↓f_intI, ↓f_intB, ↓f_intS, ↓f_lenS, ↓o_ixS, Option.bind_some, Option.bind_none, Option.some.injEq, exists_eq_left', List.map_cons, List.map_nil, if_true, if_false, reduceIte, reduceCtorEq, Nat.reduceEqDiff, List.length_cons, List.length_nil, atI_0, decide_eq_true_eq, decide_eq_false_iff_not, true_and, and_true, false_and, and_false, not_true, not_false_iff, false_implies, true_implies, der_ref, der_lst, der_tup, der_frg, der_int, der_bl, der_str, der_non, der_dW, der_dP, der_dT, der_dWs, der_dTs, der_dct, isDK_d, kOf_int, kOf_str, kD_int, forall_const, not_true_eq_false, not_false_eq_true, exists_eq_left, exists_eq_right, Bool.not_eq_true', Bool.not_eq_false', List.mem_cons, List.not_mem_nil, or_false, false_or, Nat.reduceAdd, Nat.zero_add, List.set_cons_zero, List.set_cons_succ, all_shW, all_shT, all_shP, all_shI, tn_ni, tn_nb, tn_ns, tn_nt, tn_nl, tn_nd, tn_bi, tn_bb, tn_bs, tn_bt, tn_bl, tn_bd, tn_ii, tn_ib, tn_is, tn_it, tn_il, tn_id, tn_si, tn_sb, tn_ss, tn_st, tn_sl, tn_sd, tn_ti, tn_tb, tn_ts, tn_tt, tn_tl, tn_td, tn_li, tn_lb, tn_ls, tn_lt, tn_ll, tn_ld, isN, tyN, sb1, si1, Bool.false_xor, eqv_int, eqv_bl, eqv_str, eqx_nb, eqx_ni, eqx_ns, eqx_nt, eqx_nl, eqx_bn, eqx_bs, eqx_bt, eqx_bl, eqx_in, eqx_is, eqx_it, eqx_il, eqx_sn, eqx_sb, eqx_si, eqx_st, eqx_sl, eqx_tn, eqx_tb, eqx_ti, eqx_ts, eqx_tl, eqx_ln, eqx_lb, eqx_li, eqx_ls, eqx_lt, beq_self_eq_true, Bool.true_eq_false, Bool.false_eq_true, beq_iff_eq, Bool.not_true, Bool.not_false]
        by_cases hl : (xs.length : Int) = ys.length
        · simp only [not_true_eq_false, hl, decide_true, Bool.not_true, Bool.false_eq_true, false_implies, true_implies, true_and, and_true, Bool.true_eq_false]
          refine core xs ys _ _ hx.1 hx.2 hy.2 ?_ _
          try simp (implicitDefEqProofs := false) only [↓w_ok, ↓w_err, ↓w_bad, ↓wl_ok, ↓w_bind, ↓w_bindL, ↓wl_bind, ↓wl_bindL, ↓w_nx, ↓w_rt, ↓w_bk, ↓w_ct, ↓w_er, ↓w_bd, ↓w_sq, ↓w_of, ↓w_sIf, ↓w_and, ↓w_or, ↓w_bIf, ↓w_mk, ↓w_call, ↓w_tup, ↓w_lst, ↓wl_cons, ↓wl_nil, ↓w_bin, ↓w_not, ↓w_neg, ↓w_chain, ↓w_c, ↓w_set, ↓w_own, ↓w_ex, ↓w_ret, ↓w_retN, ↓w_skip, ↓w_raise, ↓w_to, ↓w_putR, ↓w_ref, ↓w_for, ↓w_lc, ↓wi_seq, ↓wi_r1, ↓wi_r2, ↓wi_enum, ↓m_var, ↓m_peek, ↓m_retOwn, ↓m_fix, ↓m_app, ↓m_ext, ↓m_putL, ↓m_put, ↓m_putR, ↓m_ixR, ↓env_set, ↓env_0, ↓env_s, ↓env_n, ↓env_wp, ↓t_n, ↓t_u, ↓t_0, ↓t_s, ↓bX_bl, ↓o_add, ↓o_addT, ↓o_addL, ↓o_addS, ↓o_cat, ↓o_sub, ↓o_mul, ↓o_mod, ↓o_fdiv, ↓o_pow, ↓o_eq, ↓o_ne, ↓o_ic, ↓o_isN, ↓o_ixL, ↓o_ixT, ↓f_lenL, ↓f_lenT, ↓f_tupL, ↓f_tupT, ↓f_listL, ↓f_listT, ↓f_min2, ↓f_max2, ↓f_reprB, ↓w_sl, ↓w_slA, ↓w_slB, ↓w_slC, ↓o_slL, ↓o_slT, ↓o_slF, ↓o_slLL, ↓o_slLF, ↓wi_zip, ↓wi_ok, ↓src_lst, ↓src_ref, ↓zip_tt, ↓zip_ll, ↓zip_rl, ↓zip_lr, ↓w_isi, ↓o_inL, ↓o_inT, ↓dr_eq, ↓dr_ne, ↓dp_ref, ↓dp_lst, ↓dp_tup, ↓dp_frg, ↓dp_int, ↓dp_bl, ↓dp_str, ↓dp_non, ↓dp_dW, ↓dp_dP, ↓dp_dT, ↓dp_dWs, ↓dp_dTs, ↓dr_in, ↓dr_add, ↓dr_cat, ↓dr_b1, ↓dr_sl, ↓w_isiD, ↓f_sort, ↓w_rev, ↓w_appR, ↓w_refA, ↓w_listR1, ↓o_cmpD, ↓dr_cmpD, ↓w_revA, ↓o_repT, ↓f_reprD, ↓w_dct0, ↓w_dct1, ↓dr_dget, ↓o_dget, ↓dr_inK, ↓o_inK, ↓o_getD, ↓w_dget2, ↓m_putD, ↓wi_keys, ↓f_listK, ↓f_sortK, ↓m_pop, ↓m_pop0, ↓m_insL, ↓m_ins, ↓m_refP, ↓w_clrR, ↓dp_dct, ↓w_chain3, ↓w_join, ↓w_fJoin, ↓w_split, ↓o_inS, ↓dr_inS, ↓wi_str, ↓w_fmt, ↓w_jsN, ↓w_jsC, ↓f_strI, ↓f_intI, ↓f_intB, ↓f_intS, ↓f_lenS, ↓o_ixS, Option.bind_some, Option.bind_none, Option.some.injEq, exists_eq_left', List.map_cons, List.map_nil, if_true, if_false, reduceIte, reduceCtorEq, Nat.reduceEqDiff, List.length_cons, List.length_nil, atI_0, decide_eq_true_eq, decide_eq_false_iff_not, true_and, and_true, false_and, and_false, not_true, not_false_iff, false_implies, true_implies, der_ref, der_lst, der_tup, der_frg, der_int, der_bl, der_str, der_non, der_dW, der_dP, der_dT, der_dWs, der_dTs, der_dct, isDK_d, kOf_int, kOf_str, kD_int, forall_const, not_true_eq_false, not_false_eq_true, exists_eq_left, exists_eq_right, Bool.not_eq_true', Bool.not_eq_false', List.mem_cons, List.not_mem_nil, or_false, false_or, Nat.reduceAdd, Nat.zero_add, List.set_cons_zero, List.set_cons_succ, all_shW, all_shT, all_shP, all_shI, ↓f_all]
          have e : eqD (.tup xs) (.tup ys) = (xs.zip ys).all fun q => eqD q.1 q.2 := eqD_of (by rw [all_eqD xs ys (by omega)]; simp)
          rw [← e]; exact h
        · simp only [not_false_eq_true, hl, decide_false, Bool.not_false, Bool.true_eq_false, false_implies, true_implies, and_true, true_and, Bool.false_eq_true]
          have e : eqD (.tup xs) (.tup ys) = false := eqD_of (by simp; intro z; rw [z] at hl; exact hl rfl)
          rw [← e]; exact h
      | _ =>
        simp only [eqD_nn, eqD_nb, eqD_ni, eqD_ns, eqD_nt, eqD_nl, eqD_bn, eqD_bb, eqD_bi, eqD_bs, eqD_bt, eqD_bl, eqD_in, eqD_ib, eqD_ii, eqD_is, eqD_it, eqD_il, eqD_sn, eqD_sb, eqD_si, eqD_ss, eqD_st, eqD_sl, eqD_tn, eqD_tb, eqD_ti, eqD_ts, eqD_tl, eqD_ln, eqD_lb, eqD_li, eqD_ls, eqD_lt] at h
        try simp (implicitDefEqProofs := false) only [↓w_ok, ↓w_err, ↓w_bad, ↓wl_ok, ↓w_bind, ↓w_bindL, ↓wl_bind, ↓wl_bindL, ↓w_nx, ↓w_rt, ↓w_bk, ↓w_ct, ↓w_er, ↓w_bd, ↓w_sq, ↓w_of, ↓w_sIf, ↓w_and, ↓w_or, ↓w_bIf, ↓w_mk, ↓w_call, ↓w_tup, ↓w_lst, ↓wl_cons, ↓wl_nil, ↓w_bin, ↓w_not, ↓w_neg, ↓w_chain, ↓w_c, ↓w_set, ↓w_own, ↓w_ex, ↓w_ret, ↓w_retN, ↓w_skip, ↓w_raise, ↓w_to, ↓w_putR, ↓w_ref, ↓w_for, ↓w_lc, ↓wi_seq, ↓wi_r1, ↓wi_r2, ↓wi_enum, ↓m_var, ↓m_peek, ↓m_retOwn, ↓m_fix, ↓m_app, ↓m_ext, ↓m_putL, ↓m_put, ↓m_putR, ↓m_ixR, ↓env_set, ↓env_0, ↓env_s, ↓env_n, ↓env_wp, ↓t_n, ↓t_u, ↓t_0, ↓t_s, ↓bX_bl, ↓o_add, ↓o_addT, ↓o_addL, ↓o_addS, ↓o_cat, ↓o_sub, ↓o_mul, ↓o_mod, ↓o_fdiv, ↓o_pow, ↓o_eq, ↓o_ne, ↓o_ic, ↓o_isN, ↓o_ixL, ↓o_ixT, ↓f_lenL, ↓f_lenT, ↓f_tupL, ↓f_tupT, ↓f_listL, ↓f_listT, ↓f_min2, ↓f_max2, ↓f_reprB, ↓w_sl, ↓w_slA, ↓w_slB, ↓w_slC, ↓o_slL, ↓o_slT, ↓o_slF, ↓o_slLL, ↓o_slLF, ↓wi_zip, ↓wi_ok, ↓src_lst, ↓src_ref, ↓zip_tt, ↓zip_ll, ↓zip_rl, ↓zip_lr, ↓w_isi, ↓o_inL, ↓o_inT, ↓dr_eq, ↓dr_ne, ↓dp_ref, ↓dp_lst, ↓dp_tup, ↓dp_frg, ↓dp_int, ↓dp_bl, ↓dp_str, ↓dp_non, ↓dp_dW, ↓dp_dP, ↓dp_dT, ↓dp_dWs, ↓dp_dTs, ↓dr_in, ↓dr_add, ↓dr_cat, ↓dr_b1, ↓dr_sl, ↓w_isiD, ↓f_sort, ↓w_rev, ↓w_appR, ↓w_refA, ↓w_listR1, ↓o_cmpD, ↓dr_cmpD, ↓w_revA, ↓o_repT, ↓f_reprD, ↓w_dct0, ↓w_dct1, ↓dr_dget, ↓o_dget, ↓dr_inK, ↓o_inK, ↓o_getD, ↓w_dget2, ↓m_putD, ↓wi_keys, ↓f_listK, ↓f_sortK, ↓m_pop, ↓m_pop0, ↓m_insL, ↓m_ins, ↓m_refP, ↓w_clrR, ↓dp_dct, ↓w_chain3, ↓w_join, ↓w_fJoin, ↓w_split, ↓o_inS, ↓dr_inS, ↓wi_str, ↓w_fmt, ↓w_jsN, ↓w_jsC, ↓f_strI, ↓f_intI, ↓f_intB, ↓f_intS, ↓f_lenS, ↓o_ixS, Option.bind_some, Option.bind_none, Option.some.injEq, exists_eq_left', List.map_cons, List.map_nil, if_true, if_false, reduceIte, reduceCtorEq, Nat.reduceEqDiff, List.length_cons, List.length_nil, atI_0, decide_eq_true_eq, decide_eq_false_iff_not, true_and, and_true, false_and, and_false, not_true, not_false_iff, false_implies, true_implies, der_ref, der_lst, der_tup, der_frg, der_int, der_bl, der_str, der_non, der_dW, der_dP, der_dT, der_dWs, der_dTs, der_dct, isDK_d, kOf_int, kOf_str, kD_int, forall_const, not_true_eq_false, not_false_eq_true, exists_eq_left, exists_eq_right, Bool.not_eq_true', Bool.not_eq_false', List.mem_cons, List.not_mem_nil, or_false, false_or, Nat.reduceAdd, Nat.zero_add, List.set_cons_zero, List.set_cons_succ, all_shW, all_shT, all_shP, all_shI, tn_ni, tn_nb, tn_ns, tn_nt, tn_nl, tn_nd, tn_bi, tn_bb, tn_bs, tn_bt, tn_bl, tn_bd, tn_ii, tn_ib, tn_is, tn_it, tn_il, tn_id, tn_si, tn_sb, tn_ss, tn_st, tn_sl, tn_sd, tn_ti, tn_tb, tn_ts, tn_tt, tn_tl, tn_td, tn_li, tn_lb, tn_ls, tn_lt, tn_ll, tn_ld, isN, tyN, sa, sb, sb1, Bool.false_xor, eqv_int, eqv_bl, eqv_str, eqx_nb, eqx_ni, eqx_ns, eqx_nt, eqx_nl, eqx_bn, eqx_bs, eqx_bt, eqx_bl, eqx_in, eqx_is, eqx_it, eqx_il, eqx_sn, eqx_sb, eqx_si, eqx_st, eqx_sl, eqx_tn, eqx_tb, eqx_ti, eqx_ts, eqx_tl, eqx_ln, eqx_lb, eqx_li, eqx_ls, eqx_lt, beq_self_eq_true, Bool.true_eq_false, Bool.false_eq_true, beq_iff_eq, Bool.not_false, Bool.not_true]
        try (first | exact h | exact fun _ => h)
    | lst xs =>
      cases b with
      | dct _ _ => exact (show False from hb).elim
      | ref _ => exact (show False from hb).elim
      | exc _ _ => exact (show False from hb).elim
      | frg _ => exact (show False from hb).elim
      | lst ys =>
        have hx := smD_lst.mp ha
        have hy := smD_lst.mp hb
        try simp (implicitDefEqProofs := false) only [↓w_ok, ↓w_err, ↓w_bad, ↓wl_ok, ↓w_bind, ↓w_bindL, ↓wl_bind, ↓wl_bindL, ↓w_nx, ↓w_rt, ↓w_bk, ↓w_ct, ↓w_er, ↓w_bd, ↓w_sq, ↓w_of, ↓w_sIf, ↓w_and, ↓w_or, ↓w_bIf, ↓w_mk, ↓w_call, ↓w_tup, ↓w_lst, ↓wl_cons, ↓wl_nil, ↓w_bin, ↓w_not, ↓w_neg, ↓w_chain, ↓w_c, ↓w_set, ↓w_own, ↓w_ex, ↓w_ret, ↓w_retN, ↓w_skip, ↓w_raise, ↓w_to, ↓w_putR, ↓w_ref, ↓w_for, ↓w_lc, ↓wi_seq, ↓wi_r1, ↓wi_r2, ↓wi_enum, ↓m_var, ↓m_peek, ↓m_retOwn, ↓m_fix, ↓m_app, ↓m_ext, ↓m_putL, ↓m_put, ↓m_putR, ↓m_ixR, ↓env_set, ↓env_0, ↓env_s, ↓env_n, ↓env_wp, ↓t_n, ↓t_u, ↓t_0, ↓t_s, ↓bX_bl, ↓o_add, ↓o_addT, ↓o_addL, ↓o_addS, ↓o_cat, ↓o_sub, ↓o_mul, ↓o_mod, ↓o_fdiv, ↓o_pow, ↓o_eq, ↓o_ne, ↓o_ic, ↓o_isN, ↓o_ixL, ↓o_ixT, ↓f_lenL, ↓f_lenT, ↓f_tupL, ↓f_tupT, ↓f_listL, ↓f_listT, ↓f_min2, ↓f_max2, ↓f_reprB, ↓w_sl, ↓w_slA, ↓w_slB, ↓w_slC, ↓o_slL, ↓o_slT, ↓o_slF, ↓o_slLL, ↓o_slLF, ↓wi_zip, ↓wi_ok, ↓src_lst, ↓src_ref, ↓zip_tt, ↓zip_ll, ↓zip_rl, ↓zip_lr, ↓w_isi, ↓o_inL, ↓o_inT, ↓dr_eq, ↓dr_ne, ↓dp_ref, ↓dp_lst, ↓dp_tup, ↓dp_frg, ↓dp_int, ↓dp_bl, ↓dp_str, ↓dp_non, ↓dp_dW, ↓dp_dP, ↓dp_dT, ↓dp_dWs, ↓dp_dTs, ↓dr_in, ↓dr_add, ↓dr_cat, ↓dr_b1, ↓dr_sl, ↓w_isiD, ↓f_sort, ↓w_rev, ↓w_appR, ↓w_refA, ↓w_listR1, ↓o_cmpD, ↓dr_cmpD, ↓w_revA, ↓o_repT, ↓f_reprD, ↓w_dct0, ↓w_dct1, ↓dr_dget, ↓o_dget, ↓dr_inK, ↓o_inK, ↓o_getD, ↓w_dget2, ↓m_putD, ↓wi_keys, ↓f_listK, ↓f_sortK, ↓m_pop, ↓m_pop0, ↓m_insL, ↓m_ins, ↓m_refP, ↓w_clrR, ↓dp_dct, ↓w_chain3, ↓w_join, ↓w_fJoin, ↓w_split, ↓o_inS, ↓dr_inS, ↓wi_str, ↓w_fmt, ↓w_jsN, ↓w_jsC, ↓f_strI, ↓f_intI, ↓f_intB, ↓f_intS, ↓f_lenS, ↓o_ixS, Option.bind_some, Option.bind_none, Option.some.injEq, exists_eq_left', List.map_cons, List.map_nil, if_true, if_false, reduceIte, reduceCtorEq, Nat.reduceEqDiff, List.length_cons, List.length_nil, atI_0, decide_eq_true_eq, decide_eq_false_iff_not, true_and, and_true, false_and, and_false, not_true, not_false_iff, false_implies, true_implies, der_ref, der_lst, der_tup, der_frg, der_int, der_bl, der_str, der_non, der_dW, der_dP, der_dT, der_dWs, der_dTs, der_dct, isDK_d, kOf_int, kOf_str, kD_int, forall_const, not_true_eq_false, not_false_eq_true, exists_eq_left, exists_eq_right, Bool.not_eq_true', Bool.not_eq_false', List.mem_cons, List.not_mem_nil, or_false, false_or, Nat.reduceAdd, Nat.zero_add, List.set_cons_zero, List.set_cons_succ, all_shW, all_shT, all_shP, all_shI, tn_ni, tn_nb, tn_ns, tn_nt, tn_nl, tn_nd, tn_bi, tn_bb, tn_bs, tn_bt, tn_bl, tn_bd, tn_ii, tn_ib, tn_is, tn_it, tn_il, tn_id, tn_si, tn_sb, tn_ss, tn_st, tn_sl, tn_sd, tn_ti, tn_tb, tn_ts, tn_tt, tn_tl, tn_td, tn_li, tn_lb, tn_ls, tn_lt, tn_ll, tn_ld, isN, tyN, sb1, si1, Bool.false_xor, eqv_int, eqv_bl, eqv_str, eqx_nb, eqx_ni, eqx_ns, eqx_nt, eqx_nl, eqx_bn, eqx_bs, eqx_bt, eqx_bl, eqx_in, eqx_is, eqx_it, eqx_il, eqx_sn, eqx_sb, eqx_si, eqx_st, eqx_sl, eqx_tn, eqx_tb, eqx_ti, eqx_ts, eqx_tl, eqx_ln, eqx_lb, eqx_li, eqx_ls, eqx_lt, beq_self_eq_true, Bool.true_eq_false, Bool.false_eq_true, beq_iff_eq, Bool.not_true, Bool.not_false]
        by_cases hl : (xs.length : Int) = ys.length
        · simp only [not_true_eq_false, hl, decide_true, Bool.not_true, Bool.false_eq_true, false_implies, true_implies, true_and, and_true, Bool.true_eq_false]
          refine core xs ys _ _ hx.1 hx.2 hy.2 ?_ _
          try simp (implicitDefEqProofs := false) only [↓w_ok, ↓w_err, ↓w_bad, ↓wl_ok, ↓w_bind, ↓w_bindL, ↓wl_bind, ↓wl_bindL, ↓w_nx, ↓w_rt, ↓w_bk, ↓w_ct, ↓w_er, ↓w_bd, ↓w_sq, ↓w_of, ↓w_sIf, ↓w_and, ↓w_or, ↓w_bIf, ↓w_mk, ↓w_call, ↓w_tup, ↓w_lst, ↓wl_cons, ↓wl_nil, ↓w_bin, ↓w_not, ↓w_neg, ↓w_chain, ↓w_c, ↓w_set, ↓w_own, ↓w_ex, ↓w_ret, ↓w_retN, ↓w_skip, ↓w_raise, ↓w_to, ↓w_putR, ↓w_ref, ↓w_for, ↓w_lc, ↓wi_seq, ↓wi_r1, ↓wi_r2, ↓wi_enum, ↓m_var, ↓m_peek, ↓m_retOwn, ↓m_fix, ↓m_app, ↓m_ext, ↓m_putL, ↓m_put, ↓m_putR, ↓m_ixR, ↓env_set, ↓env_0, ↓env_s, ↓env_n, ↓env_wp, ↓t_n, ↓t_u, ↓t_0, ↓t_s, ↓bX_bl, ↓o_add, ↓o_addT, ↓o_addL, ↓o_addS, ↓o_cat, ↓o_sub, ↓o_mul, ↓o_mod, ↓o_fdiv, ↓o_pow, ↓o_eq, ↓o_ne, ↓o_ic, ↓o_isN, ↓o_ixL, ↓o_ixT, ↓f_lenL, ↓f_lenT, ↓f_tupL, ↓f_tupT, ↓f_listL, ↓f_listT, ↓f_min2, ↓f_max2, ↓f_reprB, ↓w_sl, ↓w_slA, ↓w_slB, ↓w_slC, ↓o_slL, ↓o_slT, ↓o_slF, ↓o_slLL, ↓o_slLF, ↓wi_zip, ↓wi_ok, ↓src_lst, ↓src_ref, ↓zip_tt, ↓zip_ll, ↓zip_rl, ↓zip_lr, ↓w_isi, ↓o_inL, ↓o_inT, ↓dr_eq, ↓dr_ne, ↓dp_ref, ↓dp_lst, ↓dp_tup, ↓dp_frg, ↓dp_int, ↓dp_bl, ↓dp_str, ↓dp_non, ↓dp_dW, ↓dp_dP, ↓dp_dT, ↓dp_dWs, ↓dp_dTs, ↓dr_in, ↓dr_add, ↓dr_cat, ↓dr_b1, ↓dr_sl, ↓w_isiD, ↓f_sort, ↓w_rev, ↓w_appR, ↓w_refA, ↓w_listR1, ↓o_cmpD, ↓dr_cmpD, ↓w_revA, ↓o_repT, ↓f_reprD, ↓w_dct0, ↓w_dct1, ↓dr_dget, ↓o_dget, ↓dr_inK, ↓o_inK, ↓o_getD, ↓w_dget2, ↓m_putD, ↓wi_keys, ↓f_listK, ↓f_sortK, ↓m_pop, ↓m_pop0, ↓m_insL, ↓m_ins, ↓m_refP, ↓w_clrR, ↓dp_dct, ↓w_chain3, ↓w_join, ↓w_fJoin, ↓w_split, ↓o_inS, ↓dr_inS, ↓wi_str, ↓w_fmt, ↓w_jsN, ↓w_jsC, ↓f_strI, ↓f_intI, ↓f_intB, ↓f_intS, ↓f_lenS, ↓o_ixS, Option.bind_some, Option.bind_none, Option.some.injEq, exists_eq_left', List.map_cons, List.map_nil, if_true, if_false, reduceIte, reduceCtorEq, Nat.reduceEqDiff, List.length_cons, List.length_nil, atI_0, decide_eq_true_eq, decide_eq_false_iff_not, true_and, and_true, false_and, and_false, not_true, not_false_iff, false_implies, true_implies, der_ref, der_lst, der_tup, der_frg, der_int, der_bl, der_str, der_non, der_dW, der_dP, der_dT, der_dWs, der_dTs, der_dct, isDK_d, kOf_int, kOf_str, kD_int, forall_const, not_true_eq_false, not_false_eq_true, exists_eq_left, exists_eq_right, Bool.not_eq_true', Bool.not_eq_false', List.mem_cons, List.not_mem_nil, or_false, false_or, Nat.reduceAdd, Nat.zero_add, List.set_cons_zero, List.set_cons_succ, all_shW, all_shT, all_shP, all_shI, ↓f_all]
          have e : eqD (.lst xs) (.lst ys) = (xs.zip ys).all fun q => eqD q.1 q.2 := eqD_of (by rw [all_eqD xs ys (by omega)]; simp)
          rw [← e]; exact h
        · simp only [not_false_eq_true, hl, decide_false, Bool.not_false, Bool.true_eq_false, false_implies, true_implies, and_true, true_and, Bool.false_eq_true]
          have e : eqD (.lst xs) (.lst ys) = false := eqD_of (by simp; intro z; rw [z] at hl; exact hl rfl)
          rw [← e]; exact h
      | _ =>
        simp only [eqD_nn, eqD_nb, eqD_ni, eqD_ns, eqD_nt, eqD_nl, eqD_bn, eqD_bb, eqD_bi, eqD_bs, eqD_bt, eqD_bl, eqD_in, eqD_ib, eqD_ii, eqD_is, eqD_it, eqD_il, eqD_sn, eqD_sb, eqD_si, eqD_ss, eqD_st, eqD_sl, eqD_tn, eqD_tb, eqD_ti, eqD_ts, eqD_tl, eqD_ln, eqD_lb, eqD_li, eqD_ls, eqD_lt] at h
        try simp (implicitDefEqProofs := false) only [↓w_ok, ↓w_err, ↓w_bad, ↓wl_ok, ↓w_bind, ↓w_bindL, ↓wl_bind, ↓wl_bindL, ↓w_nx, ↓w_rt, ↓w_bk, ↓w_ct, ↓w_er, ↓w_bd, ↓w_sq, ↓w_of, ↓w_sIf, ↓w_and, ↓w_or, ↓w_bIf, ↓w_mk, ↓w_call, ↓w_tup, ↓w_lst, ↓wl_cons, ↓wl_nil, ↓w_bin, ↓w_not, ↓w_neg, ↓w_chain, ↓w_c, ↓w_set, ↓w_own, ↓w_ex, ↓w_ret, ↓w_retN, ↓w_skip, ↓w_raise, ↓w_to, ↓w_putR, ↓w_ref, ↓w_for, ↓w_lc, ↓wi_seq, ↓wi_r1, ↓wi_r2, ↓wi_enum, ↓m_var, ↓m_peek, ↓m_retOwn, ↓m_fix, ↓m_app, ↓m_ext, ↓m_putL, ↓m_put, ↓m_putR, ↓m_ixR, ↓env_set, ↓env_0, ↓env_s, ↓env_n, ↓env_wp, ↓t_n, ↓t_u, ↓t_0, ↓t_s, ↓bX_bl, ↓o_add, ↓o_addT, ↓o_addL, ↓o_addS, ↓o_cat, ↓o_sub, ↓o_mul, ↓o_mod, ↓o_fdiv, ↓o_pow, ↓o_eq, ↓o_ne, ↓o_ic, ↓o_isN, ↓o_ixL, ↓o_ixT, ↓f_lenL, ↓f_lenT, ↓f_tupL, ↓f_tupT, ↓f_listL, ↓f_listT, ↓f_min2, ↓f_max2, ↓f_reprB, ↓w_sl, ↓w_slA, ↓w_slB, ↓w_slC, ↓o_slL, ↓o_slT, ↓o_slF, ↓o_slLL, ↓o_slLF, ↓wi_zip, ↓wi_ok, ↓src_lst, ↓src_ref, ↓zip_tt, ↓zip_ll, ↓zip_rl, ↓zip_lr, ↓w_isi, ↓o_inL, ↓o_inT, ↓dr_eq, ↓dr_ne, ↓dp_ref, ↓dp_lst, ↓dp_tup, ↓dp_frg, ↓dp_int, ↓dp_bl, ↓dp_str, ↓dp_non, ↓dp_dW, ↓dp_dP, ↓dp_dT, ↓dp_dWs, ↓dp_dTs, ↓dr_in, ↓dr_add, ↓dr_cat, ↓dr_b1, ↓dr_sl, ↓w_isiD, ↓f_sort, ↓w_rev, ↓w_appR, ↓w_refA, ↓w_listR1, ↓o_cmpD, ↓dr_cmpD, ↓w_revA, ↓o_repT, ↓f_reprD, ↓w_dct0, ↓w_dct1, ↓dr_dget, ↓o_dget, ↓dr_inK, ↓o_inK, ↓o_getD, ↓w_dget2, ↓m_putD, ↓wi_keys, ↓f_listK, ↓f_sortK, ↓m_pop, ↓m_pop0, ↓m_insL, ↓m_ins, ↓m_refP, ↓w_clrR, ↓dp_dct, ↓w_chain3, ↓w_join, ↓w_fJoin, ↓w_split, ↓o_inS, ↓dr_inS, ↓wi_str, ↓w_fmt, ↓w_jsN, ↓w_jsC, ↓f_strI, ↓f_intI, ↓f_intB, ↓f_intS, ↓f_lenS, ↓o_ixS, Option.bind_some, Option.bind_none, Option.some.injEq, exists_eq_left', List.map_cons, List.map_nil, if_true, if_false, reduceIte, reduceCtorEq, Nat.reduceEqDiff, List.length_cons, List.length_nil, atI_0, decide_eq_true_eq, decide_eq_false_iff_not, true_and, and_true, false_and, and_false, not_true, not_false_iff, false_implies, true_implies, der_ref, der_lst, der_tup, der_frg, der_int, der_bl, der_str, der_non, der_dW, der_dP, der_dT, der_dWs, der_dTs, der_dct, isDK_d, kOf_int, kOf_str, kD_int, forall_const, not_true_eq_false, not_false_eq_true, exists_eq_left, exists_eq_right, Bool.not_eq_true', Bool.not_eq_false', List.mem_cons, List.not_mem_nil, or_false, false_or, Nat.reduceAdd, Nat.zero_add, List.set_cons_zero, List.set_cons_succ, all_shW, all_shT, all_shP, all_shI, tn_ni, tn_nb, tn_ns, tn_nt, tn_nl, tn_nd, tn_bi, tn_bb, tn_bs, tn_bt, tn_bl, tn_bd, tn_ii, tn_ib, tn_is, tn_it, tn_il, tn_id, tn_si, tn_sb, tn_ss, tn_st, tn_sl, tn_sd, tn_ti, tn_tb, tn_ts, tn_tt, tn_tl, tn_td, tn_li, tn_lb, tn_ls, tn_lt, tn_ll, tn_ld, isN, tyN, sa, sb, sb1, Bool.false_xor, eqv_int, eqv_bl, eqv_str, eqx_nb, eqx_ni, eqx_ns, eqx_nt, eqx_nl, eqx_bn, eqx_bs, eqx_bt, eqx_bl, eqx_in, eqx_is, eqx_it, eqx_il, eqx_sn, eqx_sb, eqx_si, eqx_st, eqx_sl, eqx_tn, eqx_tb, eqx_ti, eqx_ts, eqx_tl, eqx_ln, eqx_lb, eqx_li, eqx_ls, eqx_lt, beq_self_eq_true, Bool.true_eq_false, Bool.false_eq_true, beq_iff_eq, Bool.not_false, Bool.not_true]
        try (first | exact h | exact fun _ => h)
    | _ =>
      cases b with
      | dct _ _ => exact (show False from hb).elim
      | ref _ => exact (show False from hb).elim
      | exc _ _ => exact (show False from hb).elim
      | frg _ => exact (show False from hb).elim
      | _ =>
        simp only [eqD_nn, eqD_nb, eqD_ni, eqD_ns, eqD_nt, eqD_nl, eqD_bn, eqD_bb, eqD_bi, eqD_bs, eqD_bt, eqD_bl, eqD_in, eqD_ib, eqD_ii, eqD_is, eqD_it, eqD_il, eqD_sn, eqD_sb, eqD_si, eqD_ss, eqD_st, eqD_sl, eqD_tn, eqD_tb, eqD_ti, eqD_ts, eqD_tl, eqD_ln, eqD_lb, eqD_li, eqD_ls, eqD_lt] at h
        try simp (implicitDefEqProofs := false) only [↓w_ok, ↓w_err, ↓w_bad, ↓wl_ok, ↓w_bind, ↓w_bindL, ↓wl_bind, ↓wl_bindL, ↓w_nx, ↓w_rt, ↓w_bk, ↓w_ct, ↓w_er, ↓w_bd, ↓w_sq, ↓w_of, ↓w_sIf, ↓w_and, ↓w_or, ↓w_bIf, ↓w_mk, ↓w_call, ↓w_tup, ↓w_lst, ↓wl_cons, ↓wl_nil, ↓w_bin, ↓w_not, ↓w_neg, ↓w_chain, ↓w_c, ↓w_set, ↓w_own, ↓w_ex, ↓w_ret, ↓w_retN, ↓w_skip, ↓w_raise, ↓w_to, ↓w_putR, ↓w_ref, ↓w_for, ↓w_lc, ↓wi_seq, ↓wi_r1, ↓wi_r2, ↓wi_enum, ↓m_var, ↓m_peek, ↓m_retOwn, ↓m_fix, ↓m_app, ↓m_ext, ↓m_putL, ↓m_put, ↓m_putR, ↓m_ixR, ↓env_set, ↓env_0, ↓env_s, ↓env_n, ↓env_wp, ↓t_n, ↓t_u, ↓t_0, ↓t_s, ↓bX_bl, ↓o_add, ↓o_addT, ↓o_addL, ↓o_addS, ↓o_cat, ↓o_sub, ↓o_mul, ↓o_mod, ↓o_fdiv, ↓o_pow, ↓o_eq, ↓o_ne, ↓o_ic, ↓o_isN, ↓o_ixL, ↓o_ixT, ↓f_lenL, ↓f_lenT, ↓f_tupL, ↓f_tupT, ↓f_listL, ↓f_listT, ↓f_min2, ↓f_max2, ↓f_reprB, ↓w_sl, ↓w_slA, ↓w_slB, ↓w_slC, ↓o_slL, ↓o_slT, ↓o_slF, ↓o_slLL, ↓o_slLF, ↓wi_zip, ↓wi_ok, ↓src_lst, ↓src_ref, ↓zip_tt, ↓zip_ll, ↓zip_rl, ↓zip_lr, ↓w_isi, ↓o_inL, ↓o_inT, ↓dr_eq, ↓dr_ne, ↓dp_ref, ↓dp_lst, ↓dp_tup, ↓dp_frg, ↓dp_int, ↓dp_bl, ↓dp_str, ↓dp_non, ↓dp_dW, ↓dp_dP, ↓dp_dT, ↓dp_dWs, ↓dp_dTs, ↓dr_in, ↓dr_add, ↓dr_cat, ↓dr_b1, ↓dr_sl, ↓w_isiD, ↓f_sort, ↓w_rev, ↓w_appR, ↓w_refA, ↓w_listR1, ↓o_cmpD, ↓dr_cmpD, ↓w_revA, ↓o_repT, ↓f_reprD, ↓w_dct0, ↓w_dct1, ↓dr_dget, ↓o_dget, ↓dr_inK, ↓o_inK, ↓o_getD, ↓w_dget2, ↓m_putD, ↓wi_keys, ↓f_listK, ↓f_sortK, ↓m_pop, ↓m_pop0, ↓m_insL, ↓m_ins, ↓m_refP, ↓w_clrR, ↓dp_dct, ↓w_chain3, ↓w_join, ↓w_fJoin, ↓w_split, ↓o_inS, ↓dr_inS, ↓wi_str, ↓w_fmt, ↓w_jsN, ↓w_jsC, ↓f_strI, ↓f_intI, ↓f_intB, ↓f_intS, ↓f_lenS, ↓o_ixS, Option.bind_some, Option.bind_none, Option.some.injEq, exists_eq_left', List.map_cons, List.map_nil, if_true, if_false, reduceIte, reduceCtorEq, Nat.reduceEqDiff, List.length_cons, List.length_nil, atI_0, decide_eq_true_eq, decide_eq_false_iff_not, true_and, and_true, false_and, and_false, not_true, not_false_iff, false_implies, true_implies, der_ref, der_lst, der_tup, der_frg, der_int, der_bl, der_str, der_non, der_dW, der_dP, der_dT, der_dWs, der_dTs, der_dct, isDK_d, kOf_int, kOf_str, kD_int, forall_const, not_true_eq_false, not_false_eq_true, exists_eq_left, exists_eq_right, Bool.not_eq_true', Bool.not_eq_false', List.mem_cons, List.not_mem_nil, or_false, false_or, Nat.reduceAdd, Nat.zero_add, List.set_cons_zero, List.set_cons_succ, all_shW, all_shT, all_shP, all_shI, tn_ni, tn_nb, tn_ns, tn_nt, tn_nl, tn_nd, tn_bi, tn_bb, tn_bs, tn_bt, tn_bl, tn_bd, tn_ii, tn_ib, tn_is, tn_it, tn_il, tn_id, tn_si, tn_sb, tn_ss, tn_st, tn_sl, tn_sd, tn_ti, tn_tb, tn_ts, tn_tt, tn_tl, tn_td, tn_li, tn_lb, tn_ls, tn_lt, tn_ll, tn_ld, isN, tyN, sa, sb, sb1, Bool.false_xor, eqv_int, eqv_bl, eqv_str, eqx_nb, eqx_ni, eqx_ns, eqx_nt, eqx_nl, eqx_bn, eqx_bs, eqx_bt, eqx_bl, eqx_in, eqx_is, eqx_it, eqx_il, eqx_sn, eqx_sb, eqx_si, eqx_st, eqx_sl, eqx_tn, eqx_tb, eqx_ti, eqx_ts, eqx_tl, eqx_ln, eqx_lb, eqx_li, eqx_ls, eqx_lt, beq_self_eq_true, Bool.true_eq_false, Bool.false_eq_true, beq_iff_eq, Bool.not_false, Bool.not_true]
        try (first | exact h | exact fun _ => h)
open TL
/-- a number as a text -/
abbrev sT (n : Int) : Str := Str.ofString (toString n)
theorem tl_sT {n : Int} (h0 : 0 ≤ n) (h9 : n ≤ 9) : tl (sT n) = [48 + n.toNat] := by
  obtain ⟨k, rfl⟩ := Int.eq_ofNat_of_zero_le h0
  unfold sT
  rw [tl_num, numL_lt (by omega)]
  simp
theorem len_sT {n : Int} (h0 : 0 ≤ n) (h9 : n ≤ 9) : (sT n).length = 1 := by rw [len_tl, tl_sT h0 h9]; rfl
theorem so_sT {n : Int} : PyData.strOk (sT n) = true := so_of _
theorem lenJ {s : Nat} : ∀ {ps : List (List Nat)} {b : Nat}, (∀ p ∈ ps, p.length ≤ b) → (joinL [s] ps).length ≤ ps.length * (b + 1)
  | [], b, _ => by simp [joinL]
  | [p], b, h => by
    have := h p (by simp)
    simp [joinL]
    omega
  | p :: q :: r, b, h => by
    have h1 := h p (by simp)
    have h2 := lenJ (s := s) (ps := q :: r) (b := b) fun x hx => h x (List.mem_cons_of_mem _ hx)
    simp only [joinL, List.length_append, List.length_cons, List.length_nil] at h2 ⊢
    rw [show (r.length + 1 + 1) * (b + 1) = (r.length + 1) * (b + 1) + (b + 1) by rw [Nat.add_mul (r.length + 1) 1]; omega]
    omega
theorem len_join {y : Str} {s : Nat} (ey : tl y = [s]) {ps : List Str} {b : Nat} (h : ∀ p ∈ ps, p.length ≤ b) : (Txt.join y ps).length ≤ ps.length * (b + 1) := by
  rw [join_eq, len_tl, tl_join, ey]
  have := lenJ (s := s) (ps := ps.map tl) (b := b) fun p hp => by
    obtain ⟨q, hq, rfl⟩ := List.mem_map.mp hp
    rw [← len_tl]; exact h q hq
  rwa [List.length_map] at this
theorem so_joinM {y : Str} (hy : PyData.strOk y = true) : ∀ {ts : List Str}, (∀ t ∈ ts, PyData.strOk t = true) → PyData.strOk (Str.join y ts) = true
  | [], _ => by show PyData.strOk Str.empty = true; decide +kernel
  | [x], h => h x (by simp)
  | x :: z :: r, h => by
    show PyData.strOk (x ++ y ++ Str.join y (z :: r)) = true
    rw [so_app, so_app, hy, h x (by simp), so_joinM hy fun t ht => h t (List.mem_cons_of_mem _ ht)]
    rfl
theorem sum_le {ps : List Str} {b : Nat} (h : ∀ p ∈ ps, p.length ≤ b) : (ps.map (·.length)).sum ≤ ps.length * b := by
  induction ps with
  | nil => simp
  | cons p ps ih =>
    have h1 := ih fun q hq => h q (List.mem_cons_of_mem _ hq)
    have h2 := h p (by simp)
    rw [List.map_cons, List.sum_cons, List.length_cons, Nat.add_mul]
    omega
theorem comma : tl ("," : Str) = [44] ∧ ("," : Str).cps.all (· < 256) = true ∧ ("," : Str).length = 1 ∧ PyData.strOk ("," : Str) = true := by decide +kernel
theorem dash : tl ("-" : Str) = [45] ∧ ("-" : Str).cps.all (· < 256) = true ∧ ("-" : Str).length = 1 ∧ PyData.strOk ("-" : Str) = true := by decide +kernel
theorem figs : ("0123456789" : Str).cps.toList = [48, 49, 50, 51, 52, 53, 54, 55, 56, 57] := by decide +kernel
theorem numin_spec {n : Int} {st : Sto} {Q : D → Sto → Prop} {E} (h0 : 0 ≤ n) (h9 : n ≤ 9) (h : Q (.int n) st) : RsP (m_number_in [.str (sT n)] st) Q E := by
  have ln := len_sT h0 h9
  have sg : signsD (sT n) = [48 + n.toNat].map fun c => D.str ⟨#[c]⟩ := by
    unfold signsD
    rw [show (sT n).cps.toList = tl (sT n) from rfl, tl_sT h0 h9]
  have nr := PySem.W.KIN.num_reads h0 (n := n) (by omega)
  unfold m_number_in
  try simp (implicitDefEqProofs := false) only [↓w_ok, ↓w_err, ↓w_bad, ↓wl_ok, ↓w_bind, ↓w_bindL, ↓wl_bind, ↓wl_bindL, ↓w_nx, ↓w_rt, ↓w_bk, ↓w_ct, ↓w_er, ↓w_bd, ↓w_sq, ↓w_of, ↓w_sIf, ↓w_and, ↓w_or, ↓w_bIf, ↓w_mk, ↓w_call, ↓w_tup, ↓w_lst, ↓wl_cons, ↓wl_nil, ↓w_bin, ↓w_not, ↓w_neg, ↓w_chain, ↓w_c, ↓w_set, ↓w_own, ↓w_ex, ↓w_ret, ↓w_retN, ↓w_skip, ↓w_raise, ↓w_to, ↓w_putR, ↓w_ref, ↓w_for, ↓w_lc, ↓wi_seq, ↓wi_r1, ↓wi_r2, ↓wi_enum, ↓m_var, ↓m_peek, ↓m_retOwn, ↓m_fix, ↓m_app, ↓m_ext, ↓m_putL, ↓m_put, ↓m_putR, ↓m_ixR, ↓env_set, ↓env_0, ↓env_s, ↓env_n, ↓env_wp, ↓t_n, ↓t_u, ↓t_0, ↓t_s, ↓bX_bl, ↓o_add, ↓o_addT, ↓o_addL, ↓o_addS, ↓o_cat, ↓o_sub, ↓o_mul, ↓o_mod, ↓o_fdiv, ↓o_pow, ↓o_eq, ↓o_ne, ↓o_ic, ↓o_isN, ↓o_ixL, ↓o_ixT, ↓f_lenL, ↓f_lenT, ↓f_tupL, ↓f_tupT, ↓f_listL, ↓f_listT, ↓f_min2, ↓f_max2, ↓f_reprB, ↓w_sl, ↓w_slA, ↓w_slB, ↓w_slC, ↓o_slL, ↓o_slT, ↓o_slF, ↓o_slLL, ↓o_slLF, ↓wi_zip, ↓wi_ok, ↓src_lst, ↓src_ref, ↓zip_tt, ↓zip_ll, ↓zip_rl, ↓zip_lr, ↓w_isi, ↓o_inL, ↓o_inT, ↓dr_eq, ↓dr_ne, ↓dp_ref, ↓dp_lst, ↓dp_tup, ↓dp_frg, ↓dp_int, ↓dp_bl, ↓dp_str, ↓dp_non, ↓dp_dW, ↓dp_dP, ↓dp_dT, ↓dp_dWs, ↓dp_dTs, ↓dr_in, ↓dr_add, ↓dr_cat, ↓dr_b1, ↓dr_sl, ↓w_isiD, ↓f_sort, ↓w_rev, ↓w_appR, ↓w_refA, ↓w_listR1, ↓o_cmpD, ↓dr_cmpD, ↓w_revA, ↓o_repT, ↓f_reprD, ↓w_dct0, ↓w_dct1, ↓dr_dget, ↓o_dget, ↓dr_inK, ↓o_inK, ↓o_getD, ↓w_dget2, ↓m_putD, ↓wi_keys, ↓f_listK, ↓f_sortK, ↓m_pop, ↓m_pop0, ↓m_insL, ↓m_ins, ↓m_refP, ↓w_clrR, ↓dp_dct, ↓w_chain3, ↓w_join, ↓w_fJoin, ↓w_split, ↓o_inS, ↓dr_inS, ↓wi_str, ↓w_fmt, ↓w_jsN, ↓w_jsC, ↓f_strI, ↓f_intI, ↓f_intB, ↓f_intS, ↓f_lenS, ↓o_ixS, Option.bind_some, Option.bind_none, Option.some.injEq, exists_eq_left', List.map_cons, List.map_nil, if_true, if_false, reduceIte, reduceCtorEq, Nat.reduceEqDiff, List.length_cons, List.length_nil, atI_0, decide_eq_true_eq, decide_eq_false_iff_not, true_and, and_true, false_and, and_false, not_true, not_false_iff, false_implies, true_implies, der_ref, der_lst, der_tup, der_frg, der_int, der_bl, der_str, der_non, der_dW, der_dP, der_dT, der_dWs, der_dTs, der_dct, isDK_d, kOf_int, kOf_str, kD_int, forall_const, not_true_eq_false, not_false_eq_true, exists_eq_left, exists_eq_right, Bool.not_eq_true', Bool.not_eq_false', List.mem_cons, List.not_mem_nil, or_false, false_or, Nat.reduceAdd, Nat.zero_add, List.set_cons_zero, List.set_cons_succ, all_shW, all_shT, all_shP, all_shI, ln]
  refine ⟨by decide, fun _ => ⟨fun z => absurd (by decide) z, fun _ => ?_⟩, fun z => absurd (by decide) z⟩
  rw [sg]
  refine lc_pure (enc := fun c : Nat => D.str ⟨#[c]⟩) (fun _ => true) (fun _ => .bl true) ?_ (by show 1 ≤ LIM; decide) ?_
  · intro c hc
    have hc := List.mem_singleton.mp hc
    have hm : c ∈ ("0123456789" : Str).cps.toList := by
      rw [figs]
      simp only [List.mem_cons, List.not_mem_nil, or_false]
      omega
    try simp (implicitDefEqProofs := false) only [↓w_ok, ↓w_err, ↓w_bad, ↓wl_ok, ↓w_bind, ↓w_bindL, ↓wl_bind, ↓wl_bindL, ↓w_nx, ↓w_rt, ↓w_bk, ↓w_ct, ↓w_er, ↓w_bd, ↓w_sq, ↓w_of, ↓w_sIf, ↓w_and, ↓w_or, ↓w_bIf, ↓w_mk, ↓w_call, ↓w_tup, ↓w_lst, ↓wl_cons, ↓wl_nil, ↓w_bin, ↓w_not, ↓w_neg, ↓w_chain, ↓w_c, ↓w_set, ↓w_own, ↓w_ex, ↓w_ret, ↓w_retN, ↓w_skip, ↓w_raise, ↓w_to, ↓w_putR, ↓w_ref, ↓w_for, ↓w_lc, ↓wi_seq, ↓wi_r1, ↓wi_r2, ↓wi_enum, ↓m_var, ↓m_peek, ↓m_retOwn, ↓m_fix, ↓m_app, ↓m_ext, ↓m_putL, ↓m_put, ↓m_putR, ↓m_ixR, ↓env_set, ↓env_0, ↓env_s, ↓env_n, ↓env_wp, ↓t_n, ↓t_u, ↓t_0, ↓t_s, ↓bX_bl, ↓o_add, ↓o_addT, ↓o_addL, ↓o_addS, ↓o_cat, ↓o_sub, ↓o_mul, ↓o_mod, ↓o_fdiv, ↓o_pow, ↓o_eq, ↓o_ne, ↓o_ic, ↓o_isN, ↓o_ixL, ↓o_ixT, ↓f_lenL, ↓f_lenT, ↓f_tupL, ↓f_tupT, ↓f_listL, ↓f_listT, ↓f_min2, ↓f_max2, ↓f_reprB, ↓w_sl, ↓w_slA, ↓w_slB, ↓w_slC, ↓o_slL, ↓o_slT, ↓o_slF, ↓o_slLL, ↓o_slLF, ↓wi_zip, ↓wi_ok, ↓src_lst, ↓src_ref, ↓zip_tt, ↓zip_ll, ↓zip_rl, ↓zip_lr, ↓w_isi, ↓o_inL, ↓o_inT, ↓dr_eq, ↓dr_ne, ↓dp_ref, ↓dp_lst, ↓dp_tup, ↓dp_frg, ↓dp_int, ↓dp_bl, ↓dp_str, ↓dp_non, ↓dp_dW, ↓dp_dP, ↓dp_dT, ↓dp_dWs, ↓dp_dTs, ↓dr_in, ↓dr_add, ↓dr_cat, ↓dr_b1, ↓dr_sl, ↓w_isiD, ↓f_sort, ↓w_rev, ↓w_appR, ↓w_refA, ↓w_listR1, ↓o_cmpD, ↓dr_cmpD, ↓w_revA, ↓o_repT, ↓f_reprD, ↓w_dct0, ↓w_dct1, ↓dr_dget, ↓o_dget, ↓dr_inK, ↓o_inK, ↓o_getD, ↓w_dget2, ↓m_putD, ↓wi_keys, ↓f_listK, ↓f_sortK, ↓m_pop, ↓m_pop0, ↓m_insL, ↓m_ins, ↓m_refP, ↓w_clrR, ↓dp_dct, ↓w_chain3, ↓w_join, ↓w_fJoin, ↓w_split, ↓o_inS, ↓dr_inS, ↓wi_str, ↓w_fmt, ↓w_jsN, ↓w_jsC, ↓f_strI, ↓f_intI, ↓f_intB, ↓f_intS, ↓f_lenS, ↓o_ixS, Option.bind_some, Option.bind_none, Option.some.injEq, exists_eq_left', List.map_cons, List.map_nil, if_true, if_false, reduceIte, reduceCtorEq, Nat.reduceEqDiff, List.length_cons, List.length_nil, atI_0, decide_eq_true_eq, decide_eq_false_iff_not, true_and, and_true, false_and, and_false, not_true, not_false_iff, false_implies, true_implies, der_ref, der_lst, der_tup, der_frg, der_int, der_bl, der_str, der_non, der_dW, der_dP, der_dT, der_dWs, der_dTs, der_dct, isDK_d, kOf_int, kOf_str, kD_int, forall_const, not_true_eq_false, not_false_eq_true, exists_eq_left, exists_eq_right, Bool.not_eq_true', Bool.not_eq_false', List.mem_cons, List.not_mem_nil, or_false, false_or, Nat.reduceAdd, Nat.zero_add, List.set_cons_zero, List.set_cons_succ, all_shW, all_shT, all_shP, all_shI]
    exact ⟨c, rfl, by rw [decide_eq_true hm]; rfl⟩
  rw [filt_t]
  have ea : ∀ (Q : D → Sto → Prop) E, RsP (fAll [.lst ([48 + n.toNat].map fun _ => D.bl true)] st) Q E = Q (.bl true) st := fun Q E => by
    have := f_all (g := fun _ : Nat => true) (xs := [48 + n.toNat]) (st := st) (Q := Q) (E := E)
    simpa using this
  try simp (implicitDefEqProofs := false) only [↓w_ok, ↓w_err, ↓w_bad, ↓wl_ok, ↓w_bind, ↓w_bindL, ↓wl_bind, ↓wl_bindL, ↓w_nx, ↓w_rt, ↓w_bk, ↓w_ct, ↓w_er, ↓w_bd, ↓w_sq, ↓w_of, ↓w_sIf, ↓w_and, ↓w_or, ↓w_bIf, ↓w_mk, ↓w_call, ↓w_tup, ↓w_lst, ↓wl_cons, ↓wl_nil, ↓w_bin, ↓w_not, ↓w_neg, ↓w_chain, ↓w_c, ↓w_set, ↓w_own, ↓w_ex, ↓w_ret, ↓w_retN, ↓w_skip, ↓w_raise, ↓w_to, ↓w_putR, ↓w_ref, ↓w_for, ↓w_lc, ↓wi_seq, ↓wi_r1, ↓wi_r2, ↓wi_enum, ↓m_var, ↓m_peek, ↓m_retOwn, ↓m_fix, ↓m_app, ↓m_ext, ↓m_putL, ↓m_put, ↓m_putR, ↓m_ixR, ↓env_set, ↓env_0, ↓env_s, ↓env_n, ↓env_wp, ↓t_n, ↓t_u, ↓t_0, ↓t_s, ↓bX_bl, ↓o_add, ↓o_addT, ↓o_addL, ↓o_addS, ↓o_cat, ↓o_sub, ↓o_mul, ↓o_mod, ↓o_fdiv, ↓o_pow, ↓o_eq, ↓o_ne, ↓o_ic, ↓o_isN, ↓o_ixL, ↓o_ixT, ↓f_lenL, ↓f_lenT, ↓f_tupL, ↓f_tupT, ↓f_listL, ↓f_listT, ↓f_min2, ↓f_max2, ↓f_reprB, ↓w_sl, ↓w_slA, ↓w_slB, ↓w_slC, ↓o_slL, ↓o_slT, ↓o_slF, ↓o_slLL, ↓o_slLF, ↓wi_zip, ↓wi_ok, ↓src_lst, ↓src_ref, ↓zip_tt, ↓zip_ll, ↓zip_rl, ↓zip_lr, ↓w_isi, ↓o_inL, ↓o_inT, ↓dr_eq, ↓dr_ne, ↓dp_ref, ↓dp_lst, ↓dp_tup, ↓dp_frg, ↓dp_int, ↓dp_bl, ↓dp_str, ↓dp_non, ↓dp_dW, ↓dp_dP, ↓dp_dT, ↓dp_dWs, ↓dp_dTs, ↓dr_in, ↓dr_add, ↓dr_cat, ↓dr_b1, ↓dr_sl, ↓w_isiD, ↓f_sort, ↓w_rev, ↓w_appR, ↓w_refA, ↓w_listR1, ↓o_cmpD, ↓dr_cmpD, ↓w_revA, ↓o_repT, ↓f_reprD, ↓w_dct0, ↓w_dct1, ↓dr_dget, ↓o_dget, ↓dr_inK, ↓o_inK, ↓o_getD, ↓w_dget2, ↓m_putD, ↓wi_keys, ↓f_listK, ↓f_sortK, ↓m_pop, ↓m_pop0, ↓m_insL, ↓m_ins, ↓m_refP, ↓w_clrR, ↓dp_dct, ↓w_chain3, ↓w_join, ↓w_fJoin, ↓w_split, ↓o_inS, ↓dr_inS, ↓wi_str, ↓w_fmt, ↓w_jsN, ↓w_jsC, ↓f_strI, ↓f_intI, ↓f_intB, ↓f_intS, ↓f_lenS, ↓o_ixS, Option.bind_some, Option.bind_none, Option.some.injEq, exists_eq_left', List.map_cons, List.map_nil, if_true, if_false, reduceIte, reduceCtorEq, Nat.reduceEqDiff, List.length_cons, List.length_nil, atI_0, decide_eq_true_eq, decide_eq_false_iff_not, true_and, and_true, false_and, and_false, not_true, not_false_iff, false_implies, true_implies, der_ref, der_lst, der_tup, der_frg, der_int, der_bl, der_str, der_non, der_dW, der_dP, der_dT, der_dWs, der_dTs, der_dct, isDK_d, kOf_int, kOf_str, kD_int, forall_const, not_true_eq_false, not_false_eq_true, exists_eq_left, exists_eq_right, Bool.not_eq_true', Bool.not_eq_false', List.mem_cons, List.not_mem_nil, or_false, false_or, Nat.reduceAdd, Nat.zero_add, List.set_cons_zero, List.set_cons_succ, all_shW, all_shT, all_shP, all_shI, ↓ea]
  exact ⟨by decide, fun z => absurd z (by decide), fun _ => ⟨by decide, n, nr, h⟩⟩
theorem numsin_spec {l : List Int} {y : Str} {s : Nat} {st : Sto} {Q : D → Sto → Prop} {E} (ey : tl y = [s]) (hk : y.cps.all (· < 256) = true) (hs : s < 48) (hy1 : y.length = 1) (hl : ∀ n ∈ l, 0 ≤ n ∧ n ≤ 9) (hne : l ≠ []) (h3 : l.length ≤ 100) (h : Q (dT l) st) :
    RsP (m_numbers_in [.str (Txt.join y (l.map sT)), .str y] st) Q E := by
  have hb : ∀ p ∈ l.map sT, p.length ≤ 1 := fun p hp => by
    obtain ⟨n, hn, rfl⟩ := List.mem_map.mp hp
    rw [len_sT (hl n hn).1 (hl n hn).2]
    exact Nat.le_refl _
  have lj := len_join ey hb
  rw [List.length_map] at lj
  have sp : Txt.split (Txt.join y (l.map sT)) y = l.map sT := split_join ey hk (fun e => hne (List.map_eq_nil_iff.mp e)) fun p hp => by
    obtain ⟨n, hn, rfl⟩ := List.mem_map.mp hp
    rw [tl_sT (hl n hn).1 (hl n hn).2]
    simp
    omega
  unfold m_numbers_in
  try simp (implicitDefEqProofs := false) only [↓w_ok, ↓w_err, ↓w_bad, ↓wl_ok, ↓w_bind, ↓w_bindL, ↓wl_bind, ↓wl_bindL, ↓w_nx, ↓w_rt, ↓w_bk, ↓w_ct, ↓w_er, ↓w_bd, ↓w_sq, ↓w_of, ↓w_sIf, ↓w_and, ↓w_or, ↓w_bIf, ↓w_mk, ↓w_call, ↓w_tup, ↓w_lst, ↓wl_cons, ↓wl_nil, ↓w_bin, ↓w_not, ↓w_neg, ↓w_chain, ↓w_c, ↓w_set, ↓w_own, ↓w_ex, ↓w_ret, ↓w_retN, ↓w_skip, ↓w_raise, ↓w_to, ↓w_putR, ↓w_ref, ↓w_for, ↓w_lc, ↓wi_seq, ↓wi_r1, ↓wi_r2, ↓wi_enum, ↓m_var, ↓m_peek, ↓m_retOwn, ↓m_fix, ↓m_app, ↓m_ext, ↓m_putL, ↓m_put, ↓m_putR, ↓m_ixR, ↓env_set, ↓env_0, ↓env_s, ↓env_n, ↓env_wp, ↓t_n, ↓t_u, ↓t_0, ↓t_s, ↓bX_bl, ↓o_add, ↓o_addT, ↓o_addL, ↓o_addS, ↓o_cat, ↓o_sub, ↓o_mul, ↓o_mod, ↓o_fdiv, ↓o_pow, ↓o_eq, ↓o_ne, ↓o_ic, ↓o_isN, ↓o_ixL, ↓o_ixT, ↓f_lenL, ↓f_lenT, ↓f_tupL, ↓f_tupT, ↓f_listL, ↓f_listT, ↓f_min2, ↓f_max2, ↓f_reprB, ↓w_sl, ↓w_slA, ↓w_slB, ↓w_slC, ↓o_slL, ↓o_slT, ↓o_slF, ↓o_slLL, ↓o_slLF, ↓wi_zip, ↓wi_ok, ↓src_lst, ↓src_ref, ↓zip_tt, ↓zip_ll, ↓zip_rl, ↓zip_lr, ↓w_isi, ↓o_inL, ↓o_inT, ↓dr_eq, ↓dr_ne, ↓dp_ref, ↓dp_lst, ↓dp_tup, ↓dp_frg, ↓dp_int, ↓dp_bl, ↓dp_str, ↓dp_non, ↓dp_dW, ↓dp_dP, ↓dp_dT, ↓dp_dWs, ↓dp_dTs, ↓dr_in, ↓dr_add, ↓dr_cat, ↓dr_b1, ↓dr_sl, ↓w_isiD, ↓f_sort, ↓w_rev, ↓w_appR, ↓w_refA, ↓w_listR1, ↓o_cmpD, ↓dr_cmpD, ↓w_revA, ↓o_repT, ↓f_reprD, ↓w_dct0, ↓w_dct1, ↓dr_dget, ↓o_dget, ↓dr_inK, ↓o_inK, ↓o_getD, ↓w_dget2, ↓m_putD, ↓wi_keys, ↓f_listK, ↓f_sortK, ↓m_pop, ↓m_pop0, ↓m_insL, ↓m_ins, ↓m_refP, ↓w_clrR, ↓dp_dct, ↓w_chain3, ↓w_join, ↓w_fJoin, ↓w_split, ↓o_inS, ↓dr_inS, ↓wi_str, ↓w_fmt, ↓w_jsN, ↓w_jsC, ↓f_strI, ↓f_intI, ↓f_intB, ↓f_intS, ↓f_lenS, ↓o_ixS, Option.bind_some, Option.bind_none, Option.some.injEq, exists_eq_left', List.map_cons, List.map_nil, if_true, if_false, reduceIte, reduceCtorEq, Nat.reduceEqDiff, List.length_cons, List.length_nil, atI_0, decide_eq_true_eq, decide_eq_false_iff_not, true_and, and_true, false_and, and_false, not_true, not_false_iff, false_implies, true_implies, der_ref, der_lst, der_tup, der_frg, der_int, der_bl, der_str, der_non, der_dW, der_dP, der_dT, der_dWs, der_dTs, der_dct, isDK_d, kOf_int, kOf_str, kD_int, forall_const, not_true_eq_false, not_false_eq_true, exists_eq_left, exists_eq_right, Bool.not_eq_true', Bool.not_eq_false', List.mem_cons, List.not_mem_nil, or_false, false_or, Nat.reduceAdd, Nat.zero_add, List.set_cons_zero, List.set_cons_succ, all_shW, all_shT, all_shP, all_shI, sp, hy1]
  refine ⟨⟨by decide, by simp only [LIM]; omega⟩, ?_⟩
  rw [List.map_map, show (D.str ∘ sT) = fun n => D.str (sT n) from rfl]
  refine lc_pure (enc := fun n => D.str (sT n)) (fun _ => true) (fun n => .int n) ?_ (by simp only [LIM]; omega) ?_
  · intro n hn
    try simp (implicitDefEqProofs := false) only [↓w_ok, ↓w_err, ↓w_bad, ↓wl_ok, ↓w_bind, ↓w_bindL, ↓wl_bind, ↓wl_bindL, ↓w_nx, ↓w_rt, ↓w_bk, ↓w_ct, ↓w_er, ↓w_bd, ↓w_sq, ↓w_of, ↓w_sIf, ↓w_and, ↓w_or, ↓w_bIf, ↓w_mk, ↓w_call, ↓w_tup, ↓w_lst, ↓wl_cons, ↓wl_nil, ↓w_bin, ↓w_not, ↓w_neg, ↓w_chain, ↓w_c, ↓w_set, ↓w_own, ↓w_ex, ↓w_ret, ↓w_retN, ↓w_skip, ↓w_raise, ↓w_to, ↓w_putR, ↓w_ref, ↓w_for, ↓w_lc, ↓wi_seq, ↓wi_r1, ↓wi_r2, ↓wi_enum, ↓m_var, ↓m_peek, ↓m_retOwn, ↓m_fix, ↓m_app, ↓m_ext, ↓m_putL, ↓m_put, ↓m_putR, ↓m_ixR, ↓env_set, ↓env_0, ↓env_s, ↓env_n, ↓env_wp, ↓t_n, ↓t_u, ↓t_0, ↓t_s, ↓bX_bl, ↓o_add, ↓o_addT, ↓o_addL, ↓o_addS, ↓o_cat, ↓o_sub, ↓o_mul, ↓o_mod, ↓o_fdiv, ↓o_pow, ↓o_eq, ↓o_ne, ↓o_ic, ↓o_isN, ↓o_ixL, ↓o_ixT, ↓f_lenL, ↓f_lenT, ↓f_tupL, ↓f_tupT, ↓f_listL, ↓f_listT, ↓f_min2, ↓f_max2, ↓f_reprB, ↓w_sl, ↓w_slA, ↓w_slB, ↓w_slC, ↓o_slL, ↓o_slT, ↓o_slF, ↓o_slLL, ↓o_slLF, ↓wi_zip, ↓wi_ok, ↓src_lst, ↓src_ref, ↓zip_tt, ↓zip_ll, ↓zip_rl, ↓zip_lr, ↓w_isi, ↓o_inL, ↓o_inT, ↓dr_eq, ↓dr_ne, ↓dp_ref, ↓dp_lst, ↓dp_tup, ↓dp_frg, ↓dp_int, ↓dp_bl, ↓dp_str, ↓dp_non, ↓dp_dW, ↓dp_dP, ↓dp_dT, ↓dp_dWs, ↓dp_dTs, ↓dr_in, ↓dr_add, ↓dr_cat, ↓dr_b1, ↓dr_sl, ↓w_isiD, ↓f_sort, ↓w_rev, ↓w_appR, ↓w_refA, ↓w_listR1, ↓o_cmpD, ↓dr_cmpD, ↓w_revA, ↓o_repT, ↓f_reprD, ↓w_dct0, ↓w_dct1, ↓dr_dget, ↓o_dget, ↓dr_inK, ↓o_inK, ↓o_getD, ↓w_dget2, ↓m_putD, ↓wi_keys, ↓f_listK, ↓f_sortK, ↓m_pop, ↓m_pop0, ↓m_insL, ↓m_ins, ↓m_refP, ↓w_clrR, ↓dp_dct, ↓w_chain3, ↓w_join, ↓w_fJoin, ↓w_split, ↓o_inS, ↓dr_inS, ↓wi_str, ↓w_fmt, ↓w_jsN, ↓w_jsC, ↓f_strI, ↓f_intI, ↓f_intB, ↓f_intS, ↓f_lenS, ↓o_ixS, Option.bind_some, Option.bind_none, Option.some.injEq, exists_eq_left', List.map_cons, List.map_nil, if_true, if_false, reduceIte, reduceCtorEq, Nat.reduceEqDiff, List.length_cons, List.length_nil, atI_0, decide_eq_true_eq, decide_eq_false_iff_not, true_and, and_true, false_and, and_false, not_true, not_false_iff, false_implies, true_implies, der_ref, der_lst, der_tup, der_frg, der_int, der_bl, der_str, der_non, der_dW, der_dP, der_dT, der_dWs, der_dTs, der_dct, isDK_d, kOf_int, kOf_str, kD_int, forall_const, not_true_eq_false, not_false_eq_true, exists_eq_left, exists_eq_right, Bool.not_eq_true', Bool.not_eq_false', List.mem_cons, List.not_mem_nil, or_false, false_or, Nat.reduceAdd, Nat.zero_add, List.set_cons_zero, List.set_cons_succ, all_shW, all_shT, all_shP, all_shI]
    exact numin_spec (hl n hn).1 (hl n hn).2 ⟨rfl, rfl⟩
  rw [filt_t]
  try simp (implicitDefEqProofs := false) only [↓w_ok, ↓w_err, ↓w_bad, ↓wl_ok, ↓w_bind, ↓w_bindL, ↓wl_bind, ↓wl_bindL, ↓w_nx, ↓w_rt, ↓w_bk, ↓w_ct, ↓w_er, ↓w_bd, ↓w_sq, ↓w_of, ↓w_sIf, ↓w_and, ↓w_or, ↓w_bIf, ↓w_mk, ↓w_call, ↓w_tup, ↓w_lst, ↓wl_cons, ↓wl_nil, ↓w_bin, ↓w_not, ↓w_neg, ↓w_chain, ↓w_c, ↓w_set, ↓w_own, ↓w_ex, ↓w_ret, ↓w_retN, ↓w_skip, ↓w_raise, ↓w_to, ↓w_putR, ↓w_ref, ↓w_for, ↓w_lc, ↓wi_seq, ↓wi_r1, ↓wi_r2, ↓wi_enum, ↓m_var, ↓m_peek, ↓m_retOwn, ↓m_fix, ↓m_app, ↓m_ext, ↓m_putL, ↓m_put, ↓m_putR, ↓m_ixR, ↓env_set, ↓env_0, ↓env_s, ↓env_n, ↓env_wp, ↓t_n, ↓t_u, ↓t_0, ↓t_s, ↓bX_bl, ↓o_add, ↓o_addT, ↓o_addL, ↓o_addS, ↓o_cat, ↓o_sub, ↓o_mul, ↓o_mod, ↓o_fdiv, ↓o_pow, ↓o_eq, ↓o_ne, ↓o_ic, ↓o_isN, ↓o_ixL, ↓o_ixT, ↓f_lenL, ↓f_lenT, ↓f_tupL, ↓f_tupT, ↓f_listL, ↓f_listT, ↓f_min2, ↓f_max2, ↓f_reprB, ↓w_sl, ↓w_slA, ↓w_slB, ↓w_slC, ↓o_slL, ↓o_slT, ↓o_slF, ↓o_slLL, ↓o_slLF, ↓wi_zip, ↓wi_ok, ↓src_lst, ↓src_ref, ↓zip_tt, ↓zip_ll, ↓zip_rl, ↓zip_lr, ↓w_isi, ↓o_inL, ↓o_inT, ↓dr_eq, ↓dr_ne, ↓dp_ref, ↓dp_lst, ↓dp_tup, ↓dp_frg, ↓dp_int, ↓dp_bl, ↓dp_str, ↓dp_non, ↓dp_dW, ↓dp_dP, ↓dp_dT, ↓dp_dWs, ↓dp_dTs, ↓dr_in, ↓dr_add, ↓dr_cat, ↓dr_b1, ↓dr_sl, ↓w_isiD, ↓f_sort, ↓w_rev, ↓w_appR, ↓w_refA, ↓w_listR1, ↓o_cmpD, ↓dr_cmpD, ↓w_revA, ↓o_repT, ↓f_reprD, ↓w_dct0, ↓w_dct1, ↓dr_dget, ↓o_dget, ↓dr_inK, ↓o_inK, ↓o_getD, ↓w_dget2, ↓m_putD, ↓wi_keys, ↓f_listK, ↓f_sortK, ↓m_pop, ↓m_pop0, ↓m_insL, ↓m_ins, ↓m_refP, ↓w_clrR, ↓dp_dct, ↓w_chain3, ↓w_join, ↓w_fJoin, ↓w_split, ↓o_inS, ↓dr_inS, ↓wi_str, ↓w_fmt, ↓w_jsN, ↓w_jsC, ↓f_strI, ↓f_intI, ↓f_intB, ↓f_intS, ↓f_lenS, ↓o_ixS, Option.bind_some, Option.bind_none, Option.some.injEq, exists_eq_left', List.map_cons, List.map_nil, if_true, if_false, reduceIte, reduceCtorEq, Nat.reduceEqDiff, List.length_cons, List.length_nil, atI_0, decide_eq_true_eq, decide_eq_false_iff_not, true_and, and_true, false_and, and_false, not_true, not_false_iff, false_implies, true_implies, der_ref, der_lst, der_tup, der_frg, der_int, der_bl, der_str, der_non, der_dW, der_dP, der_dT, der_dWs, der_dTs, der_dct, isDK_d, kOf_int, kOf_str, kD_int, forall_const, not_true_eq_false, not_false_eq_true, exists_eq_left, exists_eq_right, Bool.not_eq_true', Bool.not_eq_false', List.mem_cons, List.not_mem_nil, or_false, false_or, Nat.reduceAdd, Nat.zero_add, List.set_cons_zero, List.set_cons_succ, all_shW, all_shT, all_shP, all_shI]
  exact h
/-- the houses beside a house -/
def nbr (rs : List (Int × Int)) (h : Int) : List Int := srt kI ((rs.filter fun p => decide (p.1 = h)).map (·.2) ++ (rs.filter fun p => decide (p.2 = h)).map (·.1))
def dWeb (m : Int) (rs : List (Int × Int)) : D := .tup [.int m, .tup (rs.map dP)]
theorem mem_nbr {rs : List (Int × Int)} {h x : Int} : x ∈ nbr rs h ↔ (h, x) ∈ rs ∨ (x, h) ∈ rs := by
  unfold nbr
  rw [mem_srt, List.mem_append]
  constructor
  · rintro (q | q)
    · obtain ⟨p, hp, rfl⟩ := List.mem_map.mp q
      obtain ⟨h1, h2⟩ := List.mem_filter.mp hp
      have := of_decide_eq_true h2
      subst this
      exact .inl h1
    · obtain ⟨p, hp, rfl⟩ := List.mem_map.mp q
      obtain ⟨h1, h2⟩ := List.mem_filter.mp hp
      have := of_decide_eq_true h2
      subst this
      exact .inr h1
  · rintro (q | q)
    · exact .inl (List.mem_map.mpr ⟨_, List.mem_filter.mpr ⟨q, by simp⟩, rfl⟩)
    · exact .inr (List.mem_map.mpr ⟨_, List.mem_filter.mpr ⟨q, by simp⟩, rfl⟩)
theorem nbr_len {rs : List (Int × Int)} {h : Int} : (nbr rs h).length ≤ rs.length + rs.length := by
  unfold nbr
  rw [srt_len, List.length_append, List.length_map, List.length_map]
  exact Nat.add_le_add (List.length_filter_le _ _) (List.length_filter_le _ _)
/-- woods: houses, one after the other, each with a road to one of the earlier ones at most -/
inductive Fo : List Int → List (Int × Int) → Prop
  | one (v : Int) : Fo [v] []
  | skip {vs : List Int} {es : List (Int × Int)} {v : Int} : Fo vs es → v ∉ vs → Fo (vs ++ [v]) es
  | join {vs : List Int} {es : List (Int × Int)} {v u : Int} : Fo vs es → v ∉ vs → u ∈ vs → Fo (vs ++ [v]) (es ++ [(min u v, max u v)])
theorem Fo.ends {vs : List Int} {es : List (Int × Int)} (h : Fo vs es) : ∀ p ∈ es, p.1 < p.2 ∧ p.1 ∈ vs ∧ p.2 ∈ vs := by
  induction h with
  | one v => simp
  | skip h hv ih => intro p hp; have := ih p hp; exact ⟨this.1, List.mem_append_left _ this.2.1, List.mem_append_left _ this.2.2⟩
  | @join vs es v u h hv hu ih =>
    intro p hp
    rcases List.mem_append.mp hp with hp | hp
    · have := ih p hp; exact ⟨this.1, List.mem_append_left _ this.2.1, List.mem_append_left _ this.2.2⟩
    · rw [List.mem_singleton.mp hp]
      have ne : u ≠ v := fun e => hv (e ▸ hu)
      have m1 : u ∈ vs ++ [v] := List.mem_append_left _ hu
      have m2 : v ∈ vs ++ [v] := by simp
      refine ⟨by simp only; omega, ?_, ?_⟩
      · rcases Int.le_total u v with z | z
        · rw [Int.min_eq_left z]; exact m1
        · rw [Int.min_eq_right z]; exact m2
      · rcases Int.le_total u v with z | z
        · rw [Int.max_eq_right z]; exact m2
        · rw [Int.max_eq_left z]; exact m1
theorem Fo.nd {vs : List Int} {es : List (Int × Int)} (h : Fo vs es) : es.Nodup := by
  induction h with
  | one v => exact List.nodup_nil
  | skip h hv ih => exact ih
  | @join vs es v u h hv hu ih =>
    rw [List.nodup_append]
    refine ⟨ih, by simp, fun a ha b hb e => ?_⟩
    rw [List.mem_singleton.mp hb] at e
    subst e
    have := h.ends _ ha
    rcases Int.le_total u v with z | z
    · rw [Int.max_eq_right z] at this; exact hv this.2.2
    · rw [Int.min_eq_right z] at this; exact hv this.2.1
theorem Fo.len {vs : List Int} {es : List (Int × Int)} (h : Fo vs es) : es.length < vs.length := by
  induction h with
  | one v => simp
  | skip h hv ih => rw [List.length_append]; omega
  | join h hv hu ih => rw [List.length_append, List.length_append]; simp only [List.length_singleton]; omega
structure WebOk (m : Int) (rs : List (Int × Int)) : Prop where
  m1 : 1 ≤ m
  m8 : m ≤ 8
  fo : ∃ vs es, Fo vs es ∧ rs.Perm es ∧ vs.Nodup ∧ ∀ x, x ∈ vs ↔ 0 ≤ x ∧ x < m
  so : rs.Pairwise (fun a b => leE kP a b = true)
theorem nd_len {l : List Int} {m : Int} (h : l.Nodup) (hb : ∀ x ∈ l, 0 ≤ x ∧ x < m) : (l.length : Int) ≤ max 0 m := by
  have := List.Nodup.length_le_of_subset h (l₂ := (List.range m.toNat).map fun (i : Nat) => (i : Int)) fun n hn => by
    have := hb n hn
    exact List.mem_map.mpr ⟨n.toNat, List.mem_range.mpr (by omega), by omega⟩
  rw [List.length_map, List.length_range] at this
  omega
theorem WebOk.nd {m : Int} {rs : List (Int × Int)} (h : WebOk m rs) : rs.Nodup := by
  obtain ⟨vs, es, f, p, _, _⟩ := h.fo
  exact p.nodup_iff.mpr f.nd
theorem WebOk.bd {m : Int} {rs : List (Int × Int)} (h : WebOk m rs) : ∀ p ∈ rs, 0 ≤ p.1 ∧ p.1 < p.2 ∧ p.2 < m := by
  obtain ⟨vs, es, f, p, _, hv⟩ := h.fo
  intro q hq
  have := f.ends q (p.mem_iff.mp hq)
  have h1 := (hv _).mp this.2.1
  have h2 := (hv _).mp this.2.2
  exact ⟨h1.1, this.1, h2.2⟩
theorem WebOk.ln {m : Int} {rs : List (Int × Int)} (h : WebOk m rs) : rs.length ≤ 8 := by
  obtain ⟨vs, es, f, p, hn, hv⟩ := h.fo
  have l := f.len
  have l2 := nd_len (m := m) hn fun x hx => (hv x).mp hx
  have := h.m8
  have := h.m1
  rw [p.length_eq]
  omega
theorem WebOk.nbd {m : Int} {rs : List (Int × Int)} (h : WebOk m rs) {x y : Int} (hy : y ∈ nbr rs x) : (0 ≤ x ∧ x < m) ∧ (0 ≤ y ∧ y < m) ∧ x ≠ y := by
  rcases mem_nbr.mp hy with q | q <;> have := h.bd _ q <;> simp only at this <;> omega
theorem WebOk.nnd {m : Int} {rs : List (Int × Int)} (h : WebOk m rs) (x : Int) : (nbr rs x).Nodup := by
  unfold nbr
  rw [(srt_perm _).nodup_iff, List.nodup_append]
  have f1 : ((rs.filter fun p => decide (p.1 = x)).map (·.2)).Nodup := by
    refine List.pairwise_map.mpr ((h.nd.filter _).imp_of_mem fun {a b} ha hb ne e => ne ?_)
    have h1 := of_decide_eq_true (List.mem_filter.mp ha).2
    have h2 := of_decide_eq_true (List.mem_filter.mp hb).2
    exact Prod.ext (h1.trans h2.symm) e
  have f2 : ((rs.filter fun p => decide (p.2 = x)).map (·.1)).Nodup := by
    refine List.pairwise_map.mpr ((h.nd.filter _).imp_of_mem fun {a b} ha hb ne e => ne ?_)
    have h1 := of_decide_eq_true (List.mem_filter.mp ha).2
    have h2 := of_decide_eq_true (List.mem_filter.mp hb).2
    exact Prod.ext e (h1.trans h2.symm)
  refine ⟨f1, f2, fun a ha b hb e => ?_⟩
  subst e
  obtain ⟨p, hp, e1⟩ := List.mem_map.mp ha
  obtain ⟨q, hq, e2⟩ := List.mem_map.mp hb
  obtain ⟨hp1, hp2⟩ := List.mem_filter.mp hp
  obtain ⟨hq1, hq2⟩ := List.mem_filter.mp hq
  have b1 := h.bd p hp1
  have b2 := h.bd q hq1
  have := of_decide_eq_true hp2
  have := of_decide_eq_true hq2
  omega
/-- reached without a house -/
inductive Rch (rs : List (Int × Int)) (h a : Int) : Int → Prop
  | base : Rch rs h a a
  | step {x y : Int} : Rch rs h a x → y ∈ nbr rs x → y ≠ h → Rch rs h a y
structure Cl (rs : List (Int × Int)) (h a : Int) (ks ws : List Int) : Prop where
  nd : ks.Nodup
  st : a ∈ ks
  sub : ∀ w ∈ ws, w ∈ ks
  rch : ∀ x ∈ ks, Rch rs h a x
  cl : ∀ x ∈ ks, x ∉ ws → ∀ y ∈ nbr rs x, y = h ∨ y ∈ ks
def frs (rs : List (Int × Int)) (h : Int) (ks : List Int) (l : List Int) : List Int := l.filter fun y => decide (y ≠ h ∧ y ∉ ks)
theorem Cl.init {rs : List (Int × Int)} {h a : Int} : Cl rs h a [a] [a] :=
  ⟨by simp, by simp, fun w hw => hw, fun x hx => by rw [List.mem_singleton.mp hx]; exact .base, fun x hx hn => absurd hx hn⟩
theorem Cl.step {m : Int} {rs : List (Int × Int)} (hw : WebOk m rs) {h a here : Int} {ks ws ws' : List Int} (c : Cl rs h a ks ws') (hm : ∀ x, x ∈ ws' ↔ x ∈ ws ∨ x = here) :
    Cl rs h a (ks ++ frs rs h ks (nbr rs here)) (ws ++ frs rs h ks (nbr rs here)) := by
  have hk : here ∈ ks := c.sub _ ((hm here).mpr (.inr rfl))
  have fm : ∀ y, y ∈ frs rs h ks (nbr rs here) ↔ y ∈ nbr rs here ∧ y ≠ h ∧ y ∉ ks := fun y => by
    unfold frs; rw [List.mem_filter, decide_eq_true_eq]
  refine ⟨?_, List.mem_append_left _ c.st, fun w hw => ?_, fun x hx => ?_, fun x hx hn y hy => ?_⟩
  · rw [List.nodup_append]
    refine ⟨c.nd, (hw.nnd here).filter _, fun x hx y hy e => ?_⟩
    subst e
    exact ((fm x).mp hy).2.2 hx
  · rcases List.mem_append.mp hw with hw | hw
    · exact List.mem_append_left _ (c.sub w ((hm w).mpr (.inl hw)))
    · exact List.mem_append_right _ hw
  · rcases List.mem_append.mp hx with hx | hx
    · exact c.rch x hx
    · have := (fm x).mp hx
      exact .step (c.rch here hk) this.1 this.2.1
  · by_cases e : x = here
    · subst e
      by_cases z : y = h
      · exact .inl z
      · by_cases z2 : y ∈ ks
        · exact .inr (List.mem_append_left _ z2)
        · exact .inr (List.mem_append_right _ ((fm y).mpr ⟨hy, z, z2⟩))
    · rcases List.mem_append.mp hx with hx | hx
      · have hx2 : x ∉ ws' := fun q => by
          rcases (hm x).mp q with q | q
          · exact hn (List.mem_append_left _ q)
          · exact e q
        rcases c.cl x hx hx2 y hy with q | q
        · exact .inl q
        · exact .inr (List.mem_append_left _ q)
      · exact absurd (List.mem_append_right _ hx) hn
theorem Cl.done {rs : List (Int × Int)} {h a : Int} {ks : List Int} (c : Cl rs h a ks []) : ∀ x, x ∈ ks ↔ Rch rs h a x := fun x => by
  refine ⟨c.rch x, fun r => ?_⟩
  induction r with
  | base => exact c.st
  | step r hy hh ih =>
    rcases c.cl _ ih (by simp) _ hy with q | q
    · exact absurd q hh
    · exact q
theorem Rch.bd {m : Int} {rs : List (Int × Int)} (hw : WebOk m rs) {h a x : Int} (ha : 0 ≤ a ∧ a < m) (r : Rch rs h a x) : 0 ≤ x ∧ x < m := by
  cases r with
  | base => exact ha
  | step r hy hh => exact (hw.nbd hy).2.1
theorem Cl.len {m : Int} {rs : List (Int × Int)} (hw : WebOk m rs) {h a : Int} {ks ws : List Int} (ha : 0 ≤ a ∧ a < m) (c : Cl rs h a ks ws) : ks.length ≤ 8 := by
  have := nd_len (m := m) c.nd fun x hx => (c.rch x hx).bd hw ha
  have := hw.m8
  omega
def Ad (es : List (Int × Int)) (x y : Int) : Prop := (x, y) ∈ es ∨ (y, x) ∈ es
/-- ways without a house twice -/
inductive Pth (es : List (Int × Int)) (a : Int) : Int → List Int → Prop
  | base : Pth es a a [a]
  | step {x y : Int} {l : List Int} : Pth es a x l → Ad es x y → y ∉ l → Pth es a y (l ++ [y])
theorem Pth.last {es : List (Int × Int)} {a x : Int} {l : List Int} (h : Pth es a x l) : x ∈ l := by
  cases h with
  | base => simp
  | step h _ _ => simp
theorem Pth.nd {es : List (Int × Int)} {a x : Int} {l : List Int} (h : Pth es a x l) : l.Nodup := by
  induction h with
  | base => simp
  | step h ha hn ih =>
    rw [List.nodup_append]
    exact ⟨ih, by simp, fun p hp q hq e => hn (by rw [List.mem_singleton.mp hq] at e; exact e ▸ hp)⟩
theorem Pth.mono {es es' : List (Int × Int)} (hm : ∀ x y, Ad es x y → Ad es' x y) {a x : Int} {l : List Int} (h : Pth es a x l) : Pth es' a x l := by
  induction h with
  | base => exact .base
  | step h ha hn ih => exact .step ih (hm _ _ ha) hn
theorem Fo.uniq {vs : List Int} {es : List (Int × Int)} (f : Fo vs es) : ∀ (a x : Int) (l1 l2 : List Int), Pth es a x l1 → Pth es a x l2 → l1 = l2 := by
  induction f with
  | one v =>
    intro a x l1 l2 h1 h2
    have k : ∀ {x l}, Pth [] a x l → l = [a] := fun h => by
      cases h with
      | base => rfl
      | step h ha hn => rcases ha with q | q <;> cases q
    rw [k h1, k h2]
  | skip f hv ih => exact ih
  | @join vs es v u f hv hu ih =>
    intro a x l1 l2 h1 h2
    have hends := f.ends
    have uv : u ≠ v := fun e => hv (e ▸ hu)
    have nv : ∀ y, ¬ Ad es v y ∧ ¬ Ad es y v := fun y => by
      constructor <;> rintro (q | q)
      · exact hv (hends _ q).2.1
      · exact hv (hends _ q).2.2
      · exact hv (hends _ q).2.2
      · exact hv (hends _ q).2.1
    have ad : ∀ p q, Ad (es ++ [(min u v, max u v)]) p q → Ad es p q ∨ (p = u ∧ q = v) ∨ (p = v ∧ q = u) := by
      intro p q h
      rcases h with h | h <;> rcases List.mem_append.mp h with h | h
      · exact .inl (.inl h)
      · have := List.mem_singleton.mp h
        simp only [Prod.mk.injEq] at this
        omega
      · exact .inl (.inr h)
      · have := List.mem_singleton.mp h
        simp only [Prod.mk.injEq] at this
        omega
    by_cases hav : a = v
    · subst hav
      have key : ∀ {x l}, Pth (es ++ [(min u a, max u a)]) a x l → (x = a ∧ l = [a]) ∨ (x ≠ a ∧ ∃ l0, l = a :: l0 ∧ Pth es u x l0) := by
        intro x l h
        induction h with
        | base => exact .inl ⟨rfl, rfl⟩
        | @step x y l h ha hn ih =>
          rcases ih with ⟨rfl, rfl⟩ | ⟨hx, l0, rfl, h0⟩
          · rcases ad _ _ ha with q | ⟨q, _⟩ | ⟨_, rfl⟩
            · exact absurd q (nv y).1
            · exact absurd q.symm uv
            · exact .inr ⟨uv, [y], rfl, .base⟩
          · have ya : y ≠ a := fun e => hn (by rw [e]; simp)
            rcases ad _ _ ha with q | ⟨_, q⟩ | ⟨q, _⟩
            · exact .inr ⟨ya, l0 ++ [y], rfl, .step h0 q fun z => hn (List.mem_cons_of_mem _ z)⟩
            · exact absurd q ya
            · exact absurd q hx
      rcases key h1 with ⟨e1, r1⟩ | ⟨n1, k1, r1, p1⟩ <;> rcases key h2 with ⟨e2, r2⟩ | ⟨n2, k2, r2, p2⟩
      · rw [r1, r2]
      · exact absurd e1 n2
      · exact absurd e2 n1
      · rw [r1, r2, ih u x k1 k2 p1 p2]
    · have key : ∀ {x l}, Pth (es ++ [(min u v, max u v)]) a x l → (x ≠ v ∧ Pth es a x l) ∨ (x = v ∧ ∃ l0, l = l0 ++ [v] ∧ Pth es a u l0) := by
        intro x l h
        induction h with
        | base => exact .inl ⟨hav, .base⟩
        | @step x y l h ha hn ih =>
          rcases ih with ⟨hx, h0⟩ | ⟨rfl, l0, rfl, h0⟩
          · rcases ad _ _ ha with q | ⟨rfl, rfl⟩ | ⟨q, _⟩
            · exact .inl ⟨fun e => (nv x).2 (e ▸ q), .step h0 q hn⟩
            · exact .inr ⟨rfl, l, rfl, h0⟩
            · exact absurd q hx
          · rcases ad _ _ ha with q | ⟨q, _⟩ | ⟨_, rfl⟩
            · exact absurd q (nv y).1
            · exact absurd q.symm uv
            · exact absurd (List.mem_append_left _ h0.last) hn
      rcases key h1 with ⟨n1, p1⟩ | ⟨e1, k1, r1, p1⟩ <;> rcases key h2 with ⟨n2, p2⟩ | ⟨e2, k2, r2, p2⟩
      · exact ih a x l1 l2 p1 p2
      · exact absurd e2 n1
      · exact absurd e1 n2
      · rw [r1, r2, ih a u k1 k2 p1 p2]
theorem WebOk.uniq {m : Int} {rs : List (Int × Int)} (hw : WebOk m rs) {a x : Int} {l1 l2 : List Int} (h1 : Pth rs a x l1) (h2 : Pth rs a x l2) : l1 = l2 := by
  obtain ⟨vs, es, f, p, _, _⟩ := hw.fo
  have hm : ∀ x y, Ad rs x y → Ad es x y := fun x y h => h.elim (fun q => .inl (p.mem_iff.mp q)) fun q => .inr (p.mem_iff.mp q)
  exact f.uniq a x l1 l2 (h1.mono hm) (h2.mono hm)
theorem Pth.bd {m : Int} {rs : List (Int × Int)} (hw : WebOk m rs) {a x : Int} {l : List Int} (ha : 0 ≤ a ∧ a < m) (h : Pth rs a x l) : ∀ y ∈ l, 0 ≤ y ∧ y < m := by
  induction h with
  | base => intro y hy; rw [List.mem_singleton.mp hy]; exact ha
  | step h hd hn ih =>
    intro y hy
    rcases List.mem_append.mp hy with hy | hy
    · exact ih y hy
    · rw [List.mem_singleton.mp hy]; exact (hw.nbd (mem_nbr.mpr hd)).2.1
theorem Pth.len {m : Int} {rs : List (Int × Int)} (hw : WebOk m rs) {a x : Int} {l : List Int} (ha : 0 ≤ a ∧ a < m) (h : Pth rs a x l) : l.length ≤ 8 := by
  have := nd_len h.nd (h.bd hw ha)
  have := hw.m8
  omega
end K71

namespace K71
open PySem L2 Sm
theorem order_spec {n : Nat} {m : Int} {st : Sto} {Q : D → Sto → Prop} {E} (hp : Pot n st) (h1 : 0 ≤ m) (h8 : m ≤ 100) (h : ∀ (o : List Int) st', (o.length : Int) = m → o.Nodup → (∀ x ∈ o, 0 ≤ x ∧ x < m) → Pot n st' → Oth n st st' → Q (.lst (o.map D.int)) st') : RsP (m__law_order [.ref n, .int m] st) Q E := by
  unfold m__law_order
  try simp (implicitDefEqProofs := false) only [↓w_ok, ↓w_err, ↓w_bad, ↓wl_ok, ↓w_bind, ↓w_bindL, ↓wl_bind, ↓wl_bindL, ↓w_nx, ↓w_rt, ↓w_bk, ↓w_ct, ↓w_er, ↓w_bd, ↓w_sq, ↓w_of, ↓w_sIf, ↓w_and, ↓w_or, ↓w_bIf, ↓w_mk, ↓w_call, ↓w_tup, ↓w_lst, ↓wl_cons, ↓wl_nil, ↓w_bin, ↓w_not, ↓w_neg, ↓w_chain, ↓w_c, ↓w_set, ↓w_own, ↓w_ex, ↓w_ret, ↓w_retN, ↓w_skip, ↓w_raise, ↓w_to, ↓w_putR, ↓w_ref, ↓w_for, ↓w_lc, ↓wi_seq, ↓wi_r1, ↓wi_r2, ↓wi_enum, ↓m_var, ↓m_peek, ↓m_retOwn, ↓m_fix, ↓m_app, ↓m_ext, ↓m_putL, ↓m_put, ↓m_putR, ↓m_ixR, ↓env_set, ↓env_0, ↓env_s, ↓env_n, ↓env_wp, ↓t_n, ↓t_u, ↓t_0, ↓t_s, ↓bX_bl, ↓o_add, ↓o_addT, ↓o_addL, ↓o_addS, ↓o_cat, ↓o_sub, ↓o_mul, ↓o_mod, ↓o_fdiv, ↓o_pow, ↓o_eq, ↓o_ne, ↓o_ic, ↓o_isN, ↓o_ixL, ↓o_ixT, ↓f_lenL, ↓f_lenT, ↓f_tupL, ↓f_tupT, ↓f_listL, ↓f_listT, ↓f_min2, ↓f_max2, ↓f_reprB, ↓w_sl, ↓w_slA, ↓w_slB, ↓w_slC, ↓o_slL, ↓o_slT, ↓o_slF, ↓o_slLL, ↓o_slLF, ↓wi_zip, ↓wi_ok, ↓src_lst, ↓src_ref, ↓zip_tt, ↓zip_ll, ↓zip_rl, ↓zip_lr, ↓w_isi, ↓o_inL, ↓o_inT, ↓dr_eq, ↓dr_ne, ↓dp_ref, ↓dp_lst, ↓dp_tup, ↓dp_frg, ↓dp_int, ↓dp_bl, ↓dp_str, ↓dp_non, ↓dp_dW, ↓dp_dP, ↓dp_dT, ↓dp_dWs, ↓dp_dTs, ↓dr_in, ↓dr_add, ↓dr_cat, ↓dr_b1, ↓dr_sl, ↓w_isiD, ↓f_sort, ↓w_rev, ↓w_appR, ↓w_refA, ↓w_listR1, ↓o_cmpD, ↓dr_cmpD, ↓w_revA, ↓o_repT, ↓f_reprD, ↓w_dct0, ↓w_dct1, ↓dr_dget, ↓o_dget, ↓dr_inK, ↓o_inK, ↓o_getD, ↓w_dget2, ↓m_putD, ↓wi_keys, ↓f_listK, ↓f_sortK, ↓m_pop, ↓m_pop0, ↓m_insL, ↓m_ins, ↓m_refP, ↓w_clrR, ↓dp_dct, ↓w_chain3, ↓w_join, ↓w_fJoin, ↓w_split, ↓o_inS, ↓dr_inS, ↓wi_str, ↓w_fmt, ↓w_jsN, ↓w_jsC, ↓f_strI, ↓f_intI, ↓f_intB, ↓f_intS, ↓f_lenS, ↓o_ixS, Option.bind_some, Option.bind_none, Option.some.injEq, exists_eq_left', List.map_cons, List.map_nil, if_true, if_false, reduceIte, reduceCtorEq, Nat.reduceEqDiff, List.length_cons, List.length_nil, atI_0, decide_eq_true_eq, decide_eq_false_iff_not, true_and, and_true, false_and, and_false, not_true, not_false_iff, false_implies, true_implies, der_ref, der_lst, der_tup, der_frg, der_int, der_bl, der_str, der_non, der_dW, der_dP, der_dT, der_dWs, der_dTs, der_dct, isDK_d, kOf_int, kOf_str, kD_int, forall_const, not_true_eq_false, not_false_eq_true, exists_eq_left, exists_eq_right, Bool.not_eq_true', Bool.not_eq_false', List.mem_cons, List.not_mem_nil, or_false, false_or, Nat.reduceAdd, Nat.zero_add, List.set_cons_zero, List.set_cons_succ, all_shW, all_shT, all_shP, all_shI, rangeD_map, B62]
  refine ⟨by omega, ?_⟩
  refine for_rule (fun done _ r s => Pot n s ∧ Oth n st s ∧ r 0 = some (false, .ref n) ∧ ∃ o : List Int, r 2 = some (true, .lst (o.map D.int)) ∧ o.length = done.length ∧ o.Nodup ∧ ∀ x ∈ o, 0 ≤ x ∧ x < (done.length : Int))
    ⟨hp, Oth.refl _ _, by try simp (implicitDefEqProofs := false) only [↓w_ok, ↓w_err, ↓w_bad, ↓wl_ok, ↓w_bind, ↓w_bindL, ↓wl_bind, ↓wl_bindL, ↓w_nx, ↓w_rt, ↓w_bk, ↓w_ct, ↓w_er, ↓w_bd, ↓w_sq, ↓w_of, ↓w_sIf, ↓w_and, ↓w_or, ↓w_bIf, ↓w_mk, ↓w_call, ↓w_tup, ↓w_lst, ↓wl_cons, ↓wl_nil, ↓w_bin, ↓w_not, ↓w_neg, ↓w_chain, ↓w_c, ↓w_set, ↓w_own, ↓w_ex, ↓w_ret, ↓w_retN, ↓w_skip, ↓w_raise, ↓w_to, ↓w_putR, ↓w_ref, ↓w_for, ↓w_lc, ↓wi_seq, ↓wi_r1, ↓wi_r2, ↓wi_enum, ↓m_var, ↓m_peek, ↓m_retOwn, ↓m_fix, ↓m_app, ↓m_ext, ↓m_putL, ↓m_put, ↓m_putR, ↓m_ixR, ↓env_set, ↓env_0, ↓env_s, ↓env_n, ↓env_wp, ↓t_n, ↓t_u, ↓t_0, ↓t_s, ↓bX_bl, ↓o_add, ↓o_addT, ↓o_addL, ↓o_addS, ↓o_cat, ↓o_sub, ↓o_mul, ↓o_mod, ↓o_fdiv, ↓o_pow, ↓o_eq, ↓o_ne, ↓o_ic, ↓o_isN, ↓o_ixL, ↓o_ixT, ↓f_lenL, ↓f_lenT, ↓f_tupL, ↓f_tupT, ↓f_listL, ↓f_listT, ↓f_min2, ↓f_max2, ↓f_reprB, ↓w_sl, ↓w_slA, ↓w_slB, ↓w_slC, ↓o_slL, ↓o_slT, ↓o_slF, ↓o_slLL, ↓o_slLF, ↓wi_zip, ↓wi_ok, ↓src_lst, ↓src_ref, ↓zip_tt, ↓zip_ll, ↓zip_rl, ↓zip_lr, ↓w_isi, ↓o_inL, ↓o_inT, ↓dr_eq, ↓dr_ne, ↓dp_ref, ↓dp_lst, ↓dp_tup, ↓dp_frg, ↓dp_int, ↓dp_bl, ↓dp_str, ↓dp_non, ↓dp_dW, ↓dp_dP, ↓dp_dT, ↓dp_dWs, ↓dp_dTs, ↓dr_in, ↓dr_add, ↓dr_cat, ↓dr_b1, ↓dr_sl, ↓w_isiD, ↓f_sort, ↓w_rev, ↓w_appR, ↓w_refA, ↓w_listR1, ↓o_cmpD, ↓dr_cmpD, ↓w_revA, ↓o_repT, ↓f_reprD, ↓w_dct0, ↓w_dct1, ↓dr_dget, ↓o_dget, ↓dr_inK, ↓o_inK, ↓o_getD, ↓w_dget2, ↓m_putD, ↓wi_keys, ↓f_listK, ↓f_sortK, ↓m_pop, ↓m_pop0, ↓m_insL, ↓m_ins, ↓m_refP, ↓w_clrR, ↓dp_dct, ↓w_chain3, ↓w_join, ↓w_fJoin, ↓w_split, ↓o_inS, ↓dr_inS, ↓wi_str, ↓w_fmt, ↓w_jsN, ↓w_jsC, ↓f_strI, ↓f_intI, ↓f_intB, ↓f_intS, ↓f_lenS, ↓o_ixS, Option.bind_some, Option.bind_none, Option.some.injEq, exists_eq_left', List.map_cons, List.map_nil, if_true, if_false, reduceIte, reduceCtorEq, Nat.reduceEqDiff, List.length_cons, List.length_nil, atI_0, decide_eq_true_eq, decide_eq_false_iff_not, true_and, and_true, false_and, and_false, not_true, not_false_iff, false_implies, true_implies, der_ref, der_lst, der_tup, der_frg, der_int, der_bl, der_str, der_non, der_dW, der_dP, der_dT, der_dWs, der_dTs, der_dct, isDK_d, kOf_int, kOf_str, kD_int, forall_const, not_true_eq_false, not_false_eq_true, exists_eq_left, exists_eq_right, Bool.not_eq_true', Bool.not_eq_false', List.mem_cons, List.not_mem_nil, or_false, false_or, Nat.reduceAdd, Nat.zero_add, List.set_cons_zero, List.set_cons_succ, all_shW, all_shT, all_shP, all_shI], [], by try simp (implicitDefEqProofs := false) only [↓w_ok, ↓w_err, ↓w_bad, ↓wl_ok, ↓w_bind, ↓w_bindL, ↓wl_bind, ↓wl_bindL, ↓w_nx, ↓w_rt, ↓w_bk, ↓w_ct, ↓w_er, ↓w_bd, ↓w_sq, ↓w_of, ↓w_sIf, ↓w_and, ↓w_or, ↓w_bIf, ↓w_mk, ↓w_call, ↓w_tup, ↓w_lst, ↓wl_cons, ↓wl_nil, ↓w_bin, ↓w_not, ↓w_neg, ↓w_chain, ↓w_c, ↓w_set, ↓w_own, ↓w_ex, ↓w_ret, ↓w_retN, ↓w_skip, ↓w_raise, ↓w_to, ↓w_putR, ↓w_ref, ↓w_for, ↓w_lc, ↓wi_seq, ↓wi_r1, ↓wi_r2, ↓wi_enum, ↓m_var, ↓m_peek, ↓m_retOwn, ↓m_fix, ↓m_app, ↓m_ext, ↓m_putL, ↓m_put, ↓m_putR, ↓m_ixR, ↓env_set, ↓env_0, ↓env_s, ↓env_n, ↓env_wp, ↓t_n, ↓t_u, ↓t_0, ↓t_s, ↓bX_bl, ↓o_add, ↓o_addT, ↓o_addL, ↓o_addS, ↓o_cat, ↓o_sub, ↓o_mul, ↓o_mod, ↓o_fdiv, ↓o_pow, ↓o_eq, ↓o_ne, ↓o_ic, ↓o_isN, ↓o_ixL, ↓o_ixT, ↓f_lenL, ↓f_lenT, ↓f_tupL, ↓f_tupT, ↓f_listL, ↓f_listT, ↓f_min2, ↓f_max2, ↓f_reprB, ↓w_sl, ↓w_slA, ↓w_slB, ↓w_slC, ↓o_slL, ↓o_slT, ↓o_slF, ↓o_slLL, ↓o_slLF, ↓wi_zip, ↓wi_ok, ↓src_lst, ↓src_ref, ↓zip_tt, ↓zip_ll, ↓zip_rl, ↓zip_lr, ↓w_isi, ↓o_inL, ↓o_inT, ↓dr_eq, ↓dr_ne, ↓dp_ref, ↓dp_lst, ↓dp_tup, ↓dp_frg, ↓dp_int, ↓dp_bl, ↓dp_str, ↓dp_non, ↓dp_dW, ↓dp_dP, ↓dp_dT, ↓dp_dWs, ↓dp_dTs, ↓dr_in, ↓dr_add, ↓dr_cat, ↓dr_b1, ↓dr_sl, ↓w_isiD, ↓f_sort, ↓w_rev, ↓w_appR, ↓w_refA, ↓w_listR1, ↓o_cmpD, ↓dr_cmpD, ↓w_revA, ↓o_repT, ↓f_reprD, ↓w_dct0, ↓w_dct1, ↓dr_dget, ↓o_dget, ↓dr_inK, ↓o_inK, ↓o_getD, ↓w_dget2, ↓m_putD, ↓wi_keys, ↓f_listK, ↓f_sortK, ↓m_pop, ↓m_pop0, ↓m_insL, ↓m_ins, ↓m_refP, ↓w_clrR, ↓dp_dct, ↓w_chain3, ↓w_join, ↓w_fJoin, ↓w_split, ↓o_inS, ↓dr_inS, ↓wi_str, ↓w_fmt, ↓w_jsN, ↓w_jsC, ↓f_strI, ↓f_intI, ↓f_intB, ↓f_intS, ↓f_lenS, ↓o_ixS, Option.bind_some, Option.bind_none, Option.some.injEq, exists_eq_left', List.map_cons, List.map_nil, if_true, if_false, reduceIte, reduceCtorEq, Nat.reduceEqDiff, List.length_cons, List.length_nil, atI_0, decide_eq_true_eq, decide_eq_false_iff_not, true_and, and_true, false_and, and_false, not_true, not_false_iff, false_implies, true_implies, der_ref, der_lst, der_tup, der_frg, der_int, der_bl, der_str, der_non, der_dW, der_dP, der_dT, der_dWs, der_dTs, der_dct, isDK_d, kOf_int, kOf_str, kD_int, forall_const, not_true_eq_false, not_false_eq_true, exists_eq_left, exists_eq_right, Bool.not_eq_true', Bool.not_eq_false', List.mem_cons, List.not_mem_nil, or_false, false_or, Nat.reduceAdd, Nat.zero_add, List.set_cons_zero, List.set_cons_succ, all_shW, all_shT, all_shP, all_shI, List.map_nil], rfl, List.nodup_nil, by simp⟩ ?_ ?_
  · rintro done k rest r s e ⟨hp, ho, r0, o, r2, hl, hn, hb⟩
    have hk : done.length < m.toNat ∧ k = (done.length : Int) := by
      have e1 := congrArg List.length e
      have e2 : (((List.range m.toNat).map fun (i : Nat) => (0 : Int) + (i : Int))[done.length]?) = some k := by rw [e]; simp
      simp at e1
      rw [List.getElem?_map, List.getElem?_range (by omega)] at e2
      simp at e2
      omega
    obtain ⟨hdl, rfl⟩ := hk
    try simp (implicitDefEqProofs := false) only [↓w_ok, ↓w_err, ↓w_bad, ↓wl_ok, ↓w_bind, ↓w_bindL, ↓wl_bind, ↓wl_bindL, ↓w_nx, ↓w_rt, ↓w_bk, ↓w_ct, ↓w_er, ↓w_bd, ↓w_sq, ↓w_of, ↓w_sIf, ↓w_and, ↓w_or, ↓w_bIf, ↓w_mk, ↓w_call, ↓w_tup, ↓w_lst, ↓wl_cons, ↓wl_nil, ↓w_bin, ↓w_not, ↓w_neg, ↓w_chain, ↓w_c, ↓w_set, ↓w_own, ↓w_ex, ↓w_ret, ↓w_retN, ↓w_skip, ↓w_raise, ↓w_to, ↓w_putR, ↓w_ref, ↓w_for, ↓w_lc, ↓wi_seq, ↓wi_r1, ↓wi_r2, ↓wi_enum, ↓m_var, ↓m_peek, ↓m_retOwn, ↓m_fix, ↓m_app, ↓m_ext, ↓m_putL, ↓m_put, ↓m_putR, ↓m_ixR, ↓env_set, ↓env_0, ↓env_s, ↓env_n, ↓env_wp, ↓t_n, ↓t_u, ↓t_0, ↓t_s, ↓bX_bl, ↓o_add, ↓o_addT, ↓o_addL, ↓o_addS, ↓o_cat, ↓o_sub, ↓o_mul, ↓o_mod, ↓o_fdiv, ↓o_pow, ↓o_eq, ↓o_ne, ↓o_ic, ↓o_isN, ↓o_ixL, ↓o_ixT, ↓f_lenL, ↓f_lenT, ↓f_tupL, ↓f_tupT, ↓f_listL, ↓f_listT, ↓f_min2, ↓f_max2, ↓f_reprB, ↓w_sl, ↓w_slA, ↓w_slB, ↓w_slC, ↓o_slL, ↓o_slT, ↓o_slF, ↓o_slLL, ↓o_slLF, ↓wi_zip, ↓wi_ok, ↓src_lst, ↓src_ref, ↓zip_tt, ↓zip_ll, ↓zip_rl, ↓zip_lr, ↓w_isi, ↓o_inL, ↓o_inT, ↓dr_eq, ↓dr_ne, ↓dp_ref, ↓dp_lst, ↓dp_tup, ↓dp_frg, ↓dp_int, ↓dp_bl, ↓dp_str, ↓dp_non, ↓dp_dW, ↓dp_dP, ↓dp_dT, ↓dp_dWs, ↓dp_dTs, ↓dr_in, ↓dr_add, ↓dr_cat, ↓dr_b1, ↓dr_sl, ↓w_isiD, ↓f_sort, ↓w_rev, ↓w_appR, ↓w_refA, ↓w_listR1, ↓o_cmpD, ↓dr_cmpD, ↓w_revA, ↓o_repT, ↓f_reprD, ↓w_dct0, ↓w_dct1, ↓dr_dget, ↓o_dget, ↓dr_inK, ↓o_inK, ↓o_getD, ↓w_dget2, ↓m_putD, ↓wi_keys, ↓f_listK, ↓f_sortK, ↓m_pop, ↓m_pop0, ↓m_insL, ↓m_ins, ↓m_refP, ↓w_clrR, ↓dp_dct, ↓w_chain3, ↓w_join, ↓w_fJoin, ↓w_split, ↓o_inS, ↓dr_inS, ↓wi_str, ↓w_fmt, ↓w_jsN, ↓w_jsC, ↓f_strI, ↓f_intI, ↓f_intB, ↓f_intS, ↓f_lenS, ↓o_ixS, Option.bind_some, Option.bind_none, Option.some.injEq, exists_eq_left', List.map_cons, List.map_nil, if_true, if_false, reduceIte, reduceCtorEq, Nat.reduceEqDiff, List.length_cons, List.length_nil, atI_0, decide_eq_true_eq, decide_eq_false_iff_not, true_and, and_true, false_and, and_false, not_true, not_false_iff, false_implies, true_implies, der_ref, der_lst, der_tup, der_frg, der_int, der_bl, der_str, der_non, der_dW, der_dP, der_dT, der_dWs, der_dTs, der_dct, isDK_d, kOf_int, kOf_str, kD_int, forall_const, not_true_eq_false, not_false_eq_true, exists_eq_left, exists_eq_right, Bool.not_eq_true', Bool.not_eq_false', List.mem_cons, List.not_mem_nil, or_false, false_or, Nat.reduceAdd, Nat.zero_add, List.set_cons_zero, List.set_cons_succ, all_shW, all_shT, all_shP, all_shI, r0, r2]
    refine pick_spec hp (by omega) (by simp only [D40]; omega) fun p s2 p0 p1 hp2 ho2 => ?_
    try simp (implicitDefEqProofs := false) only [↓w_ok, ↓w_err, ↓w_bad, ↓wl_ok, ↓w_bind, ↓w_bindL, ↓wl_bind, ↓wl_bindL, ↓w_nx, ↓w_rt, ↓w_bk, ↓w_ct, ↓w_er, ↓w_bd, ↓w_sq, ↓w_of, ↓w_sIf, ↓w_and, ↓w_or, ↓w_bIf, ↓w_mk, ↓w_call, ↓w_tup, ↓w_lst, ↓wl_cons, ↓wl_nil, ↓w_bin, ↓w_not, ↓w_neg, ↓w_chain, ↓w_c, ↓w_set, ↓w_own, ↓w_ex, ↓w_ret, ↓w_retN, ↓w_skip, ↓w_raise, ↓w_to, ↓w_putR, ↓w_ref, ↓w_for, ↓w_lc, ↓wi_seq, ↓wi_r1, ↓wi_r2, ↓wi_enum, ↓m_var, ↓m_peek, ↓m_retOwn, ↓m_fix, ↓m_app, ↓m_ext, ↓m_putL, ↓m_put, ↓m_putR, ↓m_ixR, ↓env_set, ↓env_0, ↓env_s, ↓env_n, ↓env_wp, ↓t_n, ↓t_u, ↓t_0, ↓t_s, ↓bX_bl, ↓o_add, ↓o_addT, ↓o_addL, ↓o_addS, ↓o_cat, ↓o_sub, ↓o_mul, ↓o_mod, ↓o_fdiv, ↓o_pow, ↓o_eq, ↓o_ne, ↓o_ic, ↓o_isN, ↓o_ixL, ↓o_ixT, ↓f_lenL, ↓f_lenT, ↓f_tupL, ↓f_tupT, ↓f_listL, ↓f_listT, ↓f_min2, ↓f_max2, ↓f_reprB, ↓w_sl, ↓w_slA, ↓w_slB, ↓w_slC, ↓o_slL, ↓o_slT, ↓o_slF, ↓o_slLL, ↓o_slLF, ↓wi_zip, ↓wi_ok, ↓src_lst, ↓src_ref, ↓zip_tt, ↓zip_ll, ↓zip_rl, ↓zip_lr, ↓w_isi, ↓o_inL, ↓o_inT, ↓dr_eq, ↓dr_ne, ↓dp_ref, ↓dp_lst, ↓dp_tup, ↓dp_frg, ↓dp_int, ↓dp_bl, ↓dp_str, ↓dp_non, ↓dp_dW, ↓dp_dP, ↓dp_dT, ↓dp_dWs, ↓dp_dTs, ↓dr_in, ↓dr_add, ↓dr_cat, ↓dr_b1, ↓dr_sl, ↓w_isiD, ↓f_sort, ↓w_rev, ↓w_appR, ↓w_refA, ↓w_listR1, ↓o_cmpD, ↓dr_cmpD, ↓w_revA, ↓o_repT, ↓f_reprD, ↓w_dct0, ↓w_dct1, ↓dr_dget, ↓o_dget, ↓dr_inK, ↓o_inK, ↓o_getD, ↓w_dget2, ↓m_putD, ↓wi_keys, ↓f_listK, ↓f_sortK, ↓m_pop, ↓m_pop0, ↓m_insL, ↓m_ins, ↓m_refP, ↓w_clrR, ↓dp_dct, ↓w_chain3, ↓w_join, ↓w_fJoin, ↓w_split, ↓o_inS, ↓dr_inS, ↓wi_str, ↓w_fmt, ↓w_jsN, ↓w_jsC, ↓f_strI, ↓f_intI, ↓f_intB, ↓f_intS, ↓f_lenS, ↓o_ixS, Option.bind_some, Option.bind_none, Option.some.injEq, exists_eq_left', List.map_cons, List.map_nil, if_true, if_false, reduceIte, reduceCtorEq, Nat.reduceEqDiff, List.length_cons, List.length_nil, atI_0, decide_eq_true_eq, decide_eq_false_iff_not, true_and, and_true, false_and, and_false, not_true, not_false_iff, false_implies, true_implies, der_ref, der_lst, der_tup, der_frg, der_int, der_bl, der_str, der_non, der_dW, der_dP, der_dT, der_dWs, der_dTs, der_dct, isDK_d, kOf_int, kOf_str, kD_int, forall_const, not_true_eq_false, not_false_eq_true, exists_eq_left, exists_eq_right, Bool.not_eq_true', Bool.not_eq_false', List.mem_cons, List.not_mem_nil, or_false, false_or, Nat.reduceAdd, Nat.zero_add, List.set_cons_zero, List.set_cons_succ, all_shW, all_shT, all_shP, all_shI, r0, r2, List.length_map, LIM, B62]
    refine ⟨by omega, hp2, ho.trans ho2, o.take p.toNat ++ [(done.length : Int)] ++ o.drop p.toNat, by simp, ?_, ?_, fun x hx => ?_⟩
    · simp; omega
    · have pm : (o.take p.toNat ++ [(done.length : Int)] ++ o.drop p.toNat).Perm ((done.length : Int) :: o) := by
        rw [List.append_assoc]
        refine List.perm_middle.trans ?_
        show (_ :: (o.take _ ++ o.drop _)).Perm _
        rw [List.take_append_drop]
      rw [pm.nodup_iff, List.nodup_cons]
      exact ⟨fun q => by have := hb _ q; omega, hn⟩
    · have : x ∈ o ∨ x = (done.length : Int) := by
        rcases List.mem_append.mp hx with hx | hx
        · rcases List.mem_append.mp hx with hx | hx
          · exact .inl (List.mem_of_mem_take hx)
          · exact .inr (List.mem_singleton.mp hx)
        · exact .inl (List.mem_of_mem_drop hx)
      rw [List.length_append, List.length_singleton]
      rcases this with q | q
      · have := hb x q; omega
      · omega
  · rintro r s ⟨hp, ho, r0, o, r2, hl, hn, hb⟩
    try simp (implicitDefEqProofs := false) only [↓w_ok, ↓w_err, ↓w_bad, ↓wl_ok, ↓w_bind, ↓w_bindL, ↓wl_bind, ↓wl_bindL, ↓w_nx, ↓w_rt, ↓w_bk, ↓w_ct, ↓w_er, ↓w_bd, ↓w_sq, ↓w_of, ↓w_sIf, ↓w_and, ↓w_or, ↓w_bIf, ↓w_mk, ↓w_call, ↓w_tup, ↓w_lst, ↓wl_cons, ↓wl_nil, ↓w_bin, ↓w_not, ↓w_neg, ↓w_chain, ↓w_c, ↓w_set, ↓w_own, ↓w_ex, ↓w_ret, ↓w_retN, ↓w_skip, ↓w_raise, ↓w_to, ↓w_putR, ↓w_ref, ↓w_for, ↓w_lc, ↓wi_seq, ↓wi_r1, ↓wi_r2, ↓wi_enum, ↓m_var, ↓m_peek, ↓m_retOwn, ↓m_fix, ↓m_app, ↓m_ext, ↓m_putL, ↓m_put, ↓m_putR, ↓m_ixR, ↓env_set, ↓env_0, ↓env_s, ↓env_n, ↓env_wp, ↓t_n, ↓t_u, ↓t_0, ↓t_s, ↓bX_bl, ↓o_add, ↓o_addT, ↓o_addL, ↓o_addS, ↓o_cat, ↓o_sub, ↓o_mul, ↓o_mod, ↓o_fdiv, ↓o_pow, ↓o_eq, ↓o_ne, ↓o_ic, ↓o_isN, ↓o_ixL, ↓o_ixT, ↓f_lenL, ↓f_lenT, ↓f_tupL, ↓f_tupT, ↓f_listL, ↓f_listT, ↓f_min2, ↓f_max2, ↓f_reprB, ↓w_sl, ↓w_slA, ↓w_slB, ↓w_slC, ↓o_slL, ↓o_slT, ↓o_slF, ↓o_slLL, ↓o_slLF, ↓wi_zip, ↓wi_ok, ↓src_lst, ↓src_ref, ↓zip_tt, ↓zip_ll, ↓zip_rl, ↓zip_lr, ↓w_isi, ↓o_inL, ↓o_inT, ↓dr_eq, ↓dr_ne, ↓dp_ref, ↓dp_lst, ↓dp_tup, ↓dp_frg, ↓dp_int, ↓dp_bl, ↓dp_str, ↓dp_non, ↓dp_dW, ↓dp_dP, ↓dp_dT, ↓dp_dWs, ↓dp_dTs, ↓dr_in, ↓dr_add, ↓dr_cat, ↓dr_b1, ↓dr_sl, ↓w_isiD, ↓f_sort, ↓w_rev, ↓w_appR, ↓w_refA, ↓w_listR1, ↓o_cmpD, ↓dr_cmpD, ↓w_revA, ↓o_repT, ↓f_reprD, ↓w_dct0, ↓w_dct1, ↓dr_dget, ↓o_dget, ↓dr_inK, ↓o_inK, ↓o_getD, ↓w_dget2, ↓m_putD, ↓wi_keys, ↓f_listK, ↓f_sortK, ↓m_pop, ↓m_pop0, ↓m_insL, ↓m_ins, ↓m_refP, ↓w_clrR, ↓dp_dct, ↓w_chain3, ↓w_join, ↓w_fJoin, ↓w_split, ↓o_inS, ↓dr_inS, ↓wi_str, ↓w_fmt, ↓w_jsN, ↓w_jsC, ↓f_strI, ↓f_intI, ↓f_intB, ↓f_intS, ↓f_lenS, ↓o_ixS, Option.bind_some, Option.bind_none, Option.some.injEq, exists_eq_left', List.map_cons, List.map_nil, if_true, if_false, reduceIte, reduceCtorEq, Nat.reduceEqDiff, List.length_cons, List.length_nil, atI_0, decide_eq_true_eq, decide_eq_false_iff_not, true_and, and_true, false_and, and_false, not_true, not_false_iff, false_implies, true_implies, der_ref, der_lst, der_tup, der_frg, der_int, der_bl, der_str, der_non, der_dW, der_dP, der_dT, der_dWs, der_dTs, der_dct, isDK_d, kOf_int, kOf_str, kD_int, forall_const, not_true_eq_false, not_false_eq_true, exists_eq_left, exists_eq_right, Bool.not_eq_true', Bool.not_eq_false', List.mem_cons, List.not_mem_nil, or_false, false_or, Nat.reduceAdd, Nat.zero_add, List.set_cons_zero, List.set_cons_succ, all_shW, all_shT, all_shP, all_shI, r2]
    rw [List.length_map, List.length_range] at hl hb
    exact h o s (by omega) hn (fun x hx => by have := hb x hx; omega) hp ho
theorem minT2 {a b : Int} {st : Sto} {Q : D → Sto → Prop} {E} (h : Q (.int (min a b)) st) : RsP (fBest false [.tup [.int a, .int b]] st) Q E :=
  (min_spec (enc := D.int) (xs := [a, b]) (by simp) (fun _ _ => shp_int) (fun _ => nb_int) (fun _ _ => al_int) (fun _ => by simp [D.py]) fun m hm hy => by
    have e : m = min a b := by
      have h1 := hy a (by simp)
      have h2 := hy b (by simp)
      rw [show kE D.int = kI from rfl, leI] at h1 h2
      have h1 := of_decide_eq_true h1
      have h2 := of_decide_eq_true h2
      simp only [List.mem_cons, List.not_mem_nil, or_false] at hm
      omega
    rw [e]; exact h).2
theorem maxT2 {a b : Int} {st : Sto} {Q : D → Sto → Prop} {E} (h : Q (.int (max a b)) st) : RsP (fBest true [.tup [.int a, .int b]] st) Q E :=
  (max_spec (enc := D.int) (xs := [a, b]) (by simp) (fun _ _ => shp_int) (fun _ => nb_int) (fun _ _ => al_int) (fun _ => by simp [D.py]) fun m hm hy => by
    have e : m = max a b := by
      have h1 := hy a (by simp)
      have h2 := hy b (by simp)
      rw [show kE D.int = kI from rfl, leI] at h1 h2
      have h1 := of_decide_eq_true h1
      have h2 := of_decide_eq_true h2
      simp only [List.mem_cons, List.not_mem_nil, or_false] at hm
      omega
    rw [e]; exact h).2
theorem web_spec {n : Nat} {most : Int} {st : Sto} {Q : D → Sto → Prop} {E} (hp : Pot n st) (h1 : 1 ≤ most) (h8 : most ≤ 8) (h : ∀ (m : Int) rs st', WebOk m rs → m ≤ most → Pot n st' → Oth n st st' → Q (dWeb m rs) st') : RsP (m__law_web [.ref n, .int most] st) Q E := by
  unfold m__law_web
  try simp (implicitDefEqProofs := false) only [↓w_ok, ↓w_err, ↓w_bad, ↓wl_ok, ↓w_bind, ↓w_bindL, ↓wl_bind, ↓wl_bindL, ↓w_nx, ↓w_rt, ↓w_bk, ↓w_ct, ↓w_er, ↓w_bd, ↓w_sq, ↓w_of, ↓w_sIf, ↓w_and, ↓w_or, ↓w_bIf, ↓w_mk, ↓w_call, ↓w_tup, ↓w_lst, ↓wl_cons, ↓wl_nil, ↓w_bin, ↓w_not, ↓w_neg, ↓w_chain, ↓w_c, ↓w_set, ↓w_own, ↓w_ex, ↓w_ret, ↓w_retN, ↓w_skip, ↓w_raise, ↓w_to, ↓w_putR, ↓w_ref, ↓w_for, ↓w_lc, ↓wi_seq, ↓wi_r1, ↓wi_r2, ↓wi_enum, ↓m_var, ↓m_peek, ↓m_retOwn, ↓m_fix, ↓m_app, ↓m_ext, ↓m_putL, ↓m_put, ↓m_putR, ↓m_ixR, ↓env_set, ↓env_0, ↓env_s, ↓env_n, ↓env_wp, ↓t_n, ↓t_u, ↓t_0, ↓t_s, ↓bX_bl, ↓o_add, ↓o_addT, ↓o_addL, ↓o_addS, ↓o_cat, ↓o_sub, ↓o_mul, ↓o_mod, ↓o_fdiv, ↓o_pow, ↓o_eq, ↓o_ne, ↓o_ic, ↓o_isN, ↓o_ixL, ↓o_ixT, ↓f_lenL, ↓f_lenT, ↓f_tupL, ↓f_tupT, ↓f_listL, ↓f_listT, ↓f_min2, ↓f_max2, ↓f_reprB, ↓w_sl, ↓w_slA, ↓w_slB, ↓w_slC, ↓o_slL, ↓o_slT, ↓o_slF, ↓o_slLL, ↓o_slLF, ↓wi_zip, ↓wi_ok, ↓src_lst, ↓src_ref, ↓zip_tt, ↓zip_ll, ↓zip_rl, ↓zip_lr, ↓w_isi, ↓o_inL, ↓o_inT, ↓dr_eq, ↓dr_ne, ↓dp_ref, ↓dp_lst, ↓dp_tup, ↓dp_frg, ↓dp_int, ↓dp_bl, ↓dp_str, ↓dp_non, ↓dp_dW, ↓dp_dP, ↓dp_dT, ↓dp_dWs, ↓dp_dTs, ↓dr_in, ↓dr_add, ↓dr_cat, ↓dr_b1, ↓dr_sl, ↓w_isiD, ↓f_sort, ↓w_rev, ↓w_appR, ↓w_refA, ↓w_listR1, ↓o_cmpD, ↓dr_cmpD, ↓w_revA, ↓o_repT, ↓f_reprD, ↓w_dct0, ↓w_dct1, ↓dr_dget, ↓o_dget, ↓dr_inK, ↓o_inK, ↓o_getD, ↓w_dget2, ↓m_putD, ↓wi_keys, ↓f_listK, ↓f_sortK, ↓m_pop, ↓m_pop0, ↓m_insL, ↓m_ins, ↓m_refP, ↓w_clrR, ↓dp_dct, ↓w_chain3, ↓w_join, ↓w_fJoin, ↓w_split, ↓o_inS, ↓dr_inS, ↓wi_str, ↓w_fmt, ↓w_jsN, ↓w_jsC, ↓f_strI, ↓f_intI, ↓f_intB, ↓f_intS, ↓f_lenS, ↓o_ixS, Option.bind_some, Option.bind_none, Option.some.injEq, exists_eq_left', List.map_cons, List.map_nil, if_true, if_false, reduceIte, reduceCtorEq, Nat.reduceEqDiff, List.length_cons, List.length_nil, atI_0, decide_eq_true_eq, decide_eq_false_iff_not, true_and, and_true, false_and, and_false, not_true, not_false_iff, false_implies, true_implies, der_ref, der_lst, der_tup, der_frg, der_int, der_bl, der_str, der_non, der_dW, der_dP, der_dT, der_dWs, der_dTs, der_dct, isDK_d, kOf_int, kOf_str, kD_int, forall_const, not_true_eq_false, not_false_eq_true, exists_eq_left, exists_eq_right, Bool.not_eq_true', Bool.not_eq_false', List.mem_cons, List.not_mem_nil, or_false, false_or, Nat.reduceAdd, Nat.zero_add, List.set_cons_zero, List.set_cons_succ, all_shW, all_shT, all_shP, all_shI]
  refine pick_spec hp (by decide) (by decide) fun often s1 _ _ hp1 ho1 => ?_
  try simp (implicitDefEqProofs := false) only [↓w_ok, ↓w_err, ↓w_bad, ↓wl_ok, ↓w_bind, ↓w_bindL, ↓wl_bind, ↓wl_bindL, ↓w_nx, ↓w_rt, ↓w_bk, ↓w_ct, ↓w_er, ↓w_bd, ↓w_sq, ↓w_of, ↓w_sIf, ↓w_and, ↓w_or, ↓w_bIf, ↓w_mk, ↓w_call, ↓w_tup, ↓w_lst, ↓wl_cons, ↓wl_nil, ↓w_bin, ↓w_not, ↓w_neg, ↓w_chain, ↓w_c, ↓w_set, ↓w_own, ↓w_ex, ↓w_ret, ↓w_retN, ↓w_skip, ↓w_raise, ↓w_to, ↓w_putR, ↓w_ref, ↓w_for, ↓w_lc, ↓wi_seq, ↓wi_r1, ↓wi_r2, ↓wi_enum, ↓m_var, ↓m_peek, ↓m_retOwn, ↓m_fix, ↓m_app, ↓m_ext, ↓m_putL, ↓m_put, ↓m_putR, ↓m_ixR, ↓env_set, ↓env_0, ↓env_s, ↓env_n, ↓env_wp, ↓t_n, ↓t_u, ↓t_0, ↓t_s, ↓bX_bl, ↓o_add, ↓o_addT, ↓o_addL, ↓o_addS, ↓o_cat, ↓o_sub, ↓o_mul, ↓o_mod, ↓o_fdiv, ↓o_pow, ↓o_eq, ↓o_ne, ↓o_ic, ↓o_isN, ↓o_ixL, ↓o_ixT, ↓f_lenL, ↓f_lenT, ↓f_tupL, ↓f_tupT, ↓f_listL, ↓f_listT, ↓f_min2, ↓f_max2, ↓f_reprB, ↓w_sl, ↓w_slA, ↓w_slB, ↓w_slC, ↓o_slL, ↓o_slT, ↓o_slF, ↓o_slLL, ↓o_slLF, ↓wi_zip, ↓wi_ok, ↓src_lst, ↓src_ref, ↓zip_tt, ↓zip_ll, ↓zip_rl, ↓zip_lr, ↓w_isi, ↓o_inL, ↓o_inT, ↓dr_eq, ↓dr_ne, ↓dp_ref, ↓dp_lst, ↓dp_tup, ↓dp_frg, ↓dp_int, ↓dp_bl, ↓dp_str, ↓dp_non, ↓dp_dW, ↓dp_dP, ↓dp_dT, ↓dp_dWs, ↓dp_dTs, ↓dr_in, ↓dr_add, ↓dr_cat, ↓dr_b1, ↓dr_sl, ↓w_isiD, ↓f_sort, ↓w_rev, ↓w_appR, ↓w_refA, ↓w_listR1, ↓o_cmpD, ↓dr_cmpD, ↓w_revA, ↓o_repT, ↓f_reprD, ↓w_dct0, ↓w_dct1, ↓dr_dget, ↓o_dget, ↓dr_inK, ↓o_inK, ↓o_getD, ↓w_dget2, ↓m_putD, ↓wi_keys, ↓f_listK, ↓f_sortK, ↓m_pop, ↓m_pop0, ↓m_insL, ↓m_ins, ↓m_refP, ↓w_clrR, ↓dp_dct, ↓w_chain3, ↓w_join, ↓w_fJoin, ↓w_split, ↓o_inS, ↓dr_inS, ↓wi_str, ↓w_fmt, ↓w_jsN, ↓w_jsC, ↓f_strI, ↓f_intI, ↓f_intB, ↓f_intS, ↓f_lenS, ↓o_ixS, Option.bind_some, Option.bind_none, Option.some.injEq, exists_eq_left', List.map_cons, List.map_nil, if_true, if_false, reduceIte, reduceCtorEq, Nat.reduceEqDiff, List.length_cons, List.length_nil, atI_0, decide_eq_true_eq, decide_eq_false_iff_not, true_and, and_true, false_and, and_false, not_true, not_false_iff, false_implies, true_implies, der_ref, der_lst, der_tup, der_frg, der_int, der_bl, der_str, der_non, der_dW, der_dP, der_dT, der_dWs, der_dTs, der_dct, isDK_d, kOf_int, kOf_str, kD_int, forall_const, not_true_eq_false, not_false_eq_true, exists_eq_left, exists_eq_right, Bool.not_eq_true', Bool.not_eq_false', List.mem_cons, List.not_mem_nil, or_false, false_or, Nat.reduceAdd, Nat.zero_add, List.set_cons_zero, List.set_cons_succ, all_shW, all_shT, all_shP, all_shI]
  refine pick_spec hp1 (by omega) (by simp only [D40]; omega) fun m' s2 m0 m1 hp2 ho2 => ?_
  try simp (implicitDefEqProofs := false) only [↓w_ok, ↓w_err, ↓w_bad, ↓wl_ok, ↓w_bind, ↓w_bindL, ↓wl_bind, ↓wl_bindL, ↓w_nx, ↓w_rt, ↓w_bk, ↓w_ct, ↓w_er, ↓w_bd, ↓w_sq, ↓w_of, ↓w_sIf, ↓w_and, ↓w_or, ↓w_bIf, ↓w_mk, ↓w_call, ↓w_tup, ↓w_lst, ↓wl_cons, ↓wl_nil, ↓w_bin, ↓w_not, ↓w_neg, ↓w_chain, ↓w_c, ↓w_set, ↓w_own, ↓w_ex, ↓w_ret, ↓w_retN, ↓w_skip, ↓w_raise, ↓w_to, ↓w_putR, ↓w_ref, ↓w_for, ↓w_lc, ↓wi_seq, ↓wi_r1, ↓wi_r2, ↓wi_enum, ↓m_var, ↓m_peek, ↓m_retOwn, ↓m_fix, ↓m_app, ↓m_ext, ↓m_putL, ↓m_put, ↓m_putR, ↓m_ixR, ↓env_set, ↓env_0, ↓env_s, ↓env_n, ↓env_wp, ↓t_n, ↓t_u, ↓t_0, ↓t_s, ↓bX_bl, ↓o_add, ↓o_addT, ↓o_addL, ↓o_addS, ↓o_cat, ↓o_sub, ↓o_mul, ↓o_mod, ↓o_fdiv, ↓o_pow, ↓o_eq, ↓o_ne, ↓o_ic, ↓o_isN, ↓o_ixL, ↓o_ixT, ↓f_lenL, ↓f_lenT, ↓f_tupL, ↓f_tupT, ↓f_listL, ↓f_listT, ↓f_min2, ↓f_max2, ↓f_reprB, ↓w_sl, ↓w_slA, ↓w_slB, ↓w_slC, ↓o_slL, ↓o_slT, ↓o_slF, ↓o_slLL, ↓o_slLF, ↓wi_zip, ↓wi_ok, ↓src_lst, ↓src_ref, ↓zip_tt, ↓zip_ll, ↓zip_rl, ↓zip_lr, ↓w_isi, ↓o_inL, ↓o_inT, ↓dr_eq, ↓dr_ne, ↓dp_ref, ↓dp_lst, ↓dp_tup, ↓dp_frg, ↓dp_int, ↓dp_bl, ↓dp_str, ↓dp_non, ↓dp_dW, ↓dp_dP, ↓dp_dT, ↓dp_dWs, ↓dp_dTs, ↓dr_in, ↓dr_add, ↓dr_cat, ↓dr_b1, ↓dr_sl, ↓w_isiD, ↓f_sort, ↓w_rev, ↓w_appR, ↓w_refA, ↓w_listR1, ↓o_cmpD, ↓dr_cmpD, ↓w_revA, ↓o_repT, ↓f_reprD, ↓w_dct0, ↓w_dct1, ↓dr_dget, ↓o_dget, ↓dr_inK, ↓o_inK, ↓o_getD, ↓w_dget2, ↓m_putD, ↓wi_keys, ↓f_listK, ↓f_sortK, ↓m_pop, ↓m_pop0, ↓m_insL, ↓m_ins, ↓m_refP, ↓w_clrR, ↓dp_dct, ↓w_chain3, ↓w_join, ↓w_fJoin, ↓w_split, ↓o_inS, ↓dr_inS, ↓wi_str, ↓w_fmt, ↓w_jsN, ↓w_jsC, ↓f_strI, ↓f_intI, ↓f_intB, ↓f_intS, ↓f_lenS, ↓o_ixS, Option.bind_some, Option.bind_none, Option.some.injEq, exists_eq_left', List.map_cons, List.map_nil, if_true, if_false, reduceIte, reduceCtorEq, Nat.reduceEqDiff, List.length_cons, List.length_nil, atI_0, decide_eq_true_eq, decide_eq_false_iff_not, true_and, and_true, false_and, and_false, not_true, not_false_iff, false_implies, true_implies, der_ref, der_lst, der_tup, der_frg, der_int, der_bl, der_str, der_non, der_dW, der_dP, der_dT, der_dWs, der_dTs, der_dct, isDK_d, kOf_int, kOf_str, kD_int, forall_const, not_true_eq_false, not_false_eq_true, exists_eq_left, exists_eq_right, Bool.not_eq_true', Bool.not_eq_false', List.mem_cons, List.not_mem_nil, or_false, false_or, Nat.reduceAdd, Nat.zero_add, List.set_cons_zero, List.set_cons_succ, all_shW, all_shT, all_shP, all_shI]
  refine order_spec hp2 (by omega) (by omega) fun o s3 ol on ob hp3 ho3 => ?_
  try simp (implicitDefEqProofs := false) only [↓w_ok, ↓w_err, ↓w_bad, ↓wl_ok, ↓w_bind, ↓w_bindL, ↓wl_bind, ↓wl_bindL, ↓w_nx, ↓w_rt, ↓w_bk, ↓w_ct, ↓w_er, ↓w_bd, ↓w_sq, ↓w_of, ↓w_sIf, ↓w_and, ↓w_or, ↓w_bIf, ↓w_mk, ↓w_call, ↓w_tup, ↓w_lst, ↓wl_cons, ↓wl_nil, ↓w_bin, ↓w_not, ↓w_neg, ↓w_chain, ↓w_c, ↓w_set, ↓w_own, ↓w_ex, ↓w_ret, ↓w_retN, ↓w_skip, ↓w_raise, ↓w_to, ↓w_putR, ↓w_ref, ↓w_for, ↓w_lc, ↓wi_seq, ↓wi_r1, ↓wi_r2, ↓wi_enum, ↓m_var, ↓m_peek, ↓m_retOwn, ↓m_fix, ↓m_app, ↓m_ext, ↓m_putL, ↓m_put, ↓m_putR, ↓m_ixR, ↓env_set, ↓env_0, ↓env_s, ↓env_n, ↓env_wp, ↓t_n, ↓t_u, ↓t_0, ↓t_s, ↓bX_bl, ↓o_add, ↓o_addT, ↓o_addL, ↓o_addS, ↓o_cat, ↓o_sub, ↓o_mul, ↓o_mod, ↓o_fdiv, ↓o_pow, ↓o_eq, ↓o_ne, ↓o_ic, ↓o_isN, ↓o_ixL, ↓o_ixT, ↓f_lenL, ↓f_lenT, ↓f_tupL, ↓f_tupT, ↓f_listL, ↓f_listT, ↓f_min2, ↓f_max2, ↓f_reprB, ↓w_sl, ↓w_slA, ↓w_slB, ↓w_slC, ↓o_slL, ↓o_slT, ↓o_slF, ↓o_slLL, ↓o_slLF, ↓wi_zip, ↓wi_ok, ↓src_lst, ↓src_ref, ↓zip_tt, ↓zip_ll, ↓zip_rl, ↓zip_lr, ↓w_isi, ↓o_inL, ↓o_inT, ↓dr_eq, ↓dr_ne, ↓dp_ref, ↓dp_lst, ↓dp_tup, ↓dp_frg, ↓dp_int, ↓dp_bl, ↓dp_str, ↓dp_non, ↓dp_dW, ↓dp_dP, ↓dp_dT, ↓dp_dWs, ↓dp_dTs, ↓dr_in, ↓dr_add, ↓dr_cat, ↓dr_b1, ↓dr_sl, ↓w_isiD, ↓f_sort, ↓w_rev, ↓w_appR, ↓w_refA, ↓w_listR1, ↓o_cmpD, ↓dr_cmpD, ↓w_revA, ↓o_repT, ↓f_reprD, ↓w_dct0, ↓w_dct1, ↓dr_dget, ↓o_dget, ↓dr_inK, ↓o_inK, ↓o_getD, ↓w_dget2, ↓m_putD, ↓wi_keys, ↓f_listK, ↓f_sortK, ↓m_pop, ↓m_pop0, ↓m_insL, ↓m_ins, ↓m_refP, ↓w_clrR, ↓dp_dct, ↓w_chain3, ↓w_join, ↓w_fJoin, ↓w_split, ↓o_inS, ↓dr_inS, ↓wi_str, ↓w_fmt, ↓w_jsN, ↓w_jsC, ↓f_strI, ↓f_intI, ↓f_intB, ↓f_intS, ↓f_lenS, ↓o_ixS, Option.bind_some, Option.bind_none, Option.some.injEq, exists_eq_left', List.map_cons, List.map_nil, if_true, if_false, reduceIte, reduceCtorEq, Nat.reduceEqDiff, List.length_cons, List.length_nil, atI_0, decide_eq_true_eq, decide_eq_false_iff_not, true_and, and_true, false_and, and_false, not_true, not_false_iff, false_implies, true_implies, der_ref, der_lst, der_tup, der_frg, der_int, der_bl, der_str, der_non, der_dW, der_dP, der_dT, der_dWs, der_dTs, der_dct, isDK_d, kOf_int, kOf_str, kD_int, forall_const, not_true_eq_false, not_false_eq_true, exists_eq_left, exists_eq_right, Bool.not_eq_true', Bool.not_eq_false', List.mem_cons, List.not_mem_nil, or_false, false_or, Nat.reduceAdd, Nat.zero_add, List.set_cons_zero, List.set_cons_succ, all_shW, all_shT, all_shP, all_shI, rangeD_map, B62]
  refine ⟨by omega, ?_⟩
  refine for_rule (fun done _ r s => Pot n s ∧ Oth n st s ∧ r 0 = some (false, .ref n) ∧ r 2 = some (false, .int often) ∧ r 3 = some (false, .int (1 + m')) ∧ r 4 = some (false, .lst (o.map D.int)) ∧ ∃ es, r 5 = some (true, .lst (es.map dP)) ∧ Fo (o.take (1 + done.length)) es)
    ⟨hp3, (ho1.trans ho2).trans ho3, by try simp (implicitDefEqProofs := false) only [↓w_ok, ↓w_err, ↓w_bad, ↓wl_ok, ↓w_bind, ↓w_bindL, ↓wl_bind, ↓wl_bindL, ↓w_nx, ↓w_rt, ↓w_bk, ↓w_ct, ↓w_er, ↓w_bd, ↓w_sq, ↓w_of, ↓w_sIf, ↓w_and, ↓w_or, ↓w_bIf, ↓w_mk, ↓w_call, ↓w_tup, ↓w_lst, ↓wl_cons, ↓wl_nil, ↓w_bin, ↓w_not, ↓w_neg, ↓w_chain, ↓w_c, ↓w_set, ↓w_own, ↓w_ex, ↓w_ret, ↓w_retN, ↓w_skip, ↓w_raise, ↓w_to, ↓w_putR, ↓w_ref, ↓w_for, ↓w_lc, ↓wi_seq, ↓wi_r1, ↓wi_r2, ↓wi_enum, ↓m_var, ↓m_peek, ↓m_retOwn, ↓m_fix, ↓m_app, ↓m_ext, ↓m_putL, ↓m_put, ↓m_putR, ↓m_ixR, ↓env_set, ↓env_0, ↓env_s, ↓env_n, ↓env_wp, ↓t_n, ↓t_u, ↓t_0, ↓t_s, ↓bX_bl, ↓o_add, ↓o_addT, ↓o_addL, ↓o_addS, ↓o_cat, ↓o_sub, ↓o_mul, ↓o_mod, ↓o_fdiv, ↓o_pow, ↓o_eq, ↓o_ne, ↓o_ic, ↓o_isN, ↓o_ixL, ↓o_ixT, ↓f_lenL, ↓f_lenT, ↓f_tupL, ↓f_tupT, ↓f_listL, ↓f_listT, ↓f_min2, ↓f_max2, ↓f_reprB, ↓w_sl, ↓w_slA, ↓w_slB, ↓w_slC, ↓o_slL, ↓o_slT, ↓o_slF, ↓o_slLL, ↓o_slLF, ↓wi_zip, ↓wi_ok, ↓src_lst, ↓src_ref, ↓zip_tt, ↓zip_ll, ↓zip_rl, ↓zip_lr, ↓w_isi, ↓o_inL, ↓o_inT, ↓dr_eq, ↓dr_ne, ↓dp_ref, ↓dp_lst, ↓dp_tup, ↓dp_frg, ↓dp_int, ↓dp_bl, ↓dp_str, ↓dp_non, ↓dp_dW, ↓dp_dP, ↓dp_dT, ↓dp_dWs, ↓dp_dTs, ↓dr_in, ↓dr_add, ↓dr_cat, ↓dr_b1, ↓dr_sl, ↓w_isiD, ↓f_sort, ↓w_rev, ↓w_appR, ↓w_refA, ↓w_listR1, ↓o_cmpD, ↓dr_cmpD, ↓w_revA, ↓o_repT, ↓f_reprD, ↓w_dct0, ↓w_dct1, ↓dr_dget, ↓o_dget, ↓dr_inK, ↓o_inK, ↓o_getD, ↓w_dget2, ↓m_putD, ↓wi_keys, ↓f_listK, ↓f_sortK, ↓m_pop, ↓m_pop0, ↓m_insL, ↓m_ins, ↓m_refP, ↓w_clrR, ↓dp_dct, ↓w_chain3, ↓w_join, ↓w_fJoin, ↓w_split, ↓o_inS, ↓dr_inS, ↓wi_str, ↓w_fmt, ↓w_jsN, ↓w_jsC, ↓f_strI, ↓f_intI, ↓f_intB, ↓f_intS, ↓f_lenS, ↓o_ixS, Option.bind_some, Option.bind_none, Option.some.injEq, exists_eq_left', List.map_cons, List.map_nil, if_true, if_false, reduceIte, reduceCtorEq, Nat.reduceEqDiff, List.length_cons, List.length_nil, atI_0, decide_eq_true_eq, decide_eq_false_iff_not, true_and, and_true, false_and, and_false, not_true, not_false_iff, false_implies, true_implies, der_ref, der_lst, der_tup, der_frg, der_int, der_bl, der_str, der_non, der_dW, der_dP, der_dT, der_dWs, der_dTs, der_dct, isDK_d, kOf_int, kOf_str, kD_int, forall_const, not_true_eq_false, not_false_eq_true, exists_eq_left, exists_eq_right, Bool.not_eq_true', Bool.not_eq_false', List.mem_cons, List.not_mem_nil, or_false, false_or, Nat.reduceAdd, Nat.zero_add, List.set_cons_zero, List.set_cons_succ, all_shW, all_shT, all_shP, all_shI], by try simp (implicitDefEqProofs := false) only [↓w_ok, ↓w_err, ↓w_bad, ↓wl_ok, ↓w_bind, ↓w_bindL, ↓wl_bind, ↓wl_bindL, ↓w_nx, ↓w_rt, ↓w_bk, ↓w_ct, ↓w_er, ↓w_bd, ↓w_sq, ↓w_of, ↓w_sIf, ↓w_and, ↓w_or, ↓w_bIf, ↓w_mk, ↓w_call, ↓w_tup, ↓w_lst, ↓wl_cons, ↓wl_nil, ↓w_bin, ↓w_not, ↓w_neg, ↓w_chain, ↓w_c, ↓w_set, ↓w_own, ↓w_ex, ↓w_ret, ↓w_retN, ↓w_skip, ↓w_raise, ↓w_to, ↓w_putR, ↓w_ref, ↓w_for, ↓w_lc, ↓wi_seq, ↓wi_r1, ↓wi_r2, ↓wi_enum, ↓m_var, ↓m_peek, ↓m_retOwn, ↓m_fix, ↓m_app, ↓m_ext, ↓m_putL, ↓m_put, ↓m_putR, ↓m_ixR, ↓env_set, ↓env_0, ↓env_s, ↓env_n, ↓env_wp, ↓t_n, ↓t_u, ↓t_0, ↓t_s, ↓bX_bl, ↓o_add, ↓o_addT, ↓o_addL, ↓o_addS, ↓o_cat, ↓o_sub, ↓o_mul, ↓o_mod, ↓o_fdiv, ↓o_pow, ↓o_eq, ↓o_ne, ↓o_ic, ↓o_isN, ↓o_ixL, ↓o_ixT, ↓f_lenL, ↓f_lenT, ↓f_tupL, ↓f_tupT, ↓f_listL, ↓f_listT, ↓f_min2, ↓f_max2, ↓f_reprB, ↓w_sl, ↓w_slA, ↓w_slB, ↓w_slC, ↓o_slL, ↓o_slT, ↓o_slF, ↓o_slLL, ↓o_slLF, ↓wi_zip, ↓wi_ok, ↓src_lst, ↓src_ref, ↓zip_tt, ↓zip_ll, ↓zip_rl, ↓zip_lr, ↓w_isi, ↓o_inL, ↓o_inT, ↓dr_eq, ↓dr_ne, ↓dp_ref, ↓dp_lst, ↓dp_tup, ↓dp_frg, ↓dp_int, ↓dp_bl, ↓dp_str, ↓dp_non, ↓dp_dW, ↓dp_dP, ↓dp_dT, ↓dp_dWs, ↓dp_dTs, ↓dr_in, ↓dr_add, ↓dr_cat, ↓dr_b1, ↓dr_sl, ↓w_isiD, ↓f_sort, ↓w_rev, ↓w_appR, ↓w_refA, ↓w_listR1, ↓o_cmpD, ↓dr_cmpD, ↓w_revA, ↓o_repT, ↓f_reprD, ↓w_dct0, ↓w_dct1, ↓dr_dget, ↓o_dget, ↓dr_inK, ↓o_inK, ↓o_getD, ↓w_dget2, ↓m_putD, ↓wi_keys, ↓f_listK, ↓f_sortK, ↓m_pop, ↓m_pop0, ↓m_insL, ↓m_ins, ↓m_refP, ↓w_clrR, ↓dp_dct, ↓w_chain3, ↓w_join, ↓w_fJoin, ↓w_split, ↓o_inS, ↓dr_inS, ↓wi_str, ↓w_fmt, ↓w_jsN, ↓w_jsC, ↓f_strI, ↓f_intI, ↓f_intB, ↓f_intS, ↓f_lenS, ↓o_ixS, Option.bind_some, Option.bind_none, Option.some.injEq, exists_eq_left', List.map_cons, List.map_nil, if_true, if_false, reduceIte, reduceCtorEq, Nat.reduceEqDiff, List.length_cons, List.length_nil, atI_0, decide_eq_true_eq, decide_eq_false_iff_not, true_and, and_true, false_and, and_false, not_true, not_false_iff, false_implies, true_implies, der_ref, der_lst, der_tup, der_frg, der_int, der_bl, der_str, der_non, der_dW, der_dP, der_dT, der_dWs, der_dTs, der_dct, isDK_d, kOf_int, kOf_str, kD_int, forall_const, not_true_eq_false, not_false_eq_true, exists_eq_left, exists_eq_right, Bool.not_eq_true', Bool.not_eq_false', List.mem_cons, List.not_mem_nil, or_false, false_or, Nat.reduceAdd, Nat.zero_add, List.set_cons_zero, List.set_cons_succ, all_shW, all_shT, all_shP, all_shI], by try simp (implicitDefEqProofs := false) only [↓w_ok, ↓w_err, ↓w_bad, ↓wl_ok, ↓w_bind, ↓w_bindL, ↓wl_bind, ↓wl_bindL, ↓w_nx, ↓w_rt, ↓w_bk, ↓w_ct, ↓w_er, ↓w_bd, ↓w_sq, ↓w_of, ↓w_sIf, ↓w_and, ↓w_or, ↓w_bIf, ↓w_mk, ↓w_call, ↓w_tup, ↓w_lst, ↓wl_cons, ↓wl_nil, ↓w_bin, ↓w_not, ↓w_neg, ↓w_chain, ↓w_c, ↓w_set, ↓w_own, ↓w_ex, ↓w_ret, ↓w_retN, ↓w_skip, ↓w_raise, ↓w_to, ↓w_putR, ↓w_ref, ↓w_for, ↓w_lc, ↓wi_seq, ↓wi_r1, ↓wi_r2, ↓wi_enum, ↓m_var, ↓m_peek, ↓m_retOwn, ↓m_fix, ↓m_app, ↓m_ext, ↓m_putL, ↓m_put, ↓m_putR, ↓m_ixR, ↓env_set, ↓env_0, ↓env_s, ↓env_n, ↓env_wp, ↓t_n, ↓t_u, ↓t_0, ↓t_s, ↓bX_bl, ↓o_add, ↓o_addT, ↓o_addL, ↓o_addS, ↓o_cat, ↓o_sub, ↓o_mul, ↓o_mod, ↓o_fdiv, ↓o_pow, ↓o_eq, ↓o_ne, ↓o_ic, ↓o_isN, ↓o_ixL, ↓o_ixT, ↓f_lenL, ↓f_lenT, ↓f_tupL, ↓f_tupT, ↓f_listL, ↓f_listT, ↓f_min2, ↓f_max2, ↓f_reprB, ↓w_sl, ↓w_slA, ↓w_slB, ↓w_slC, ↓o_slL, ↓o_slT, ↓o_slF, ↓o_slLL, ↓o_slLF, ↓wi_zip, ↓wi_ok, ↓src_lst, ↓src_ref, ↓zip_tt, ↓zip_ll, ↓zip_rl, ↓zip_lr, ↓w_isi, ↓o_inL, ↓o_inT, ↓dr_eq, ↓dr_ne, ↓dp_ref, ↓dp_lst, ↓dp_tup, ↓dp_frg, ↓dp_int, ↓dp_bl, ↓dp_str, ↓dp_non, ↓dp_dW, ↓dp_dP, ↓dp_dT, ↓dp_dWs, ↓dp_dTs, ↓dr_in, ↓dr_add, ↓dr_cat, ↓dr_b1, ↓dr_sl, ↓w_isiD, ↓f_sort, ↓w_rev, ↓w_appR, ↓w_refA, ↓w_listR1, ↓o_cmpD, ↓dr_cmpD, ↓w_revA, ↓o_repT, ↓f_reprD, ↓w_dct0, ↓w_dct1, ↓dr_dget, ↓o_dget, ↓dr_inK, ↓o_inK, ↓o_getD, ↓w_dget2, ↓m_putD, ↓wi_keys, ↓f_listK, ↓f_sortK, ↓m_pop, ↓m_pop0, ↓m_insL, ↓m_ins, ↓m_refP, ↓w_clrR, ↓dp_dct, ↓w_chain3, ↓w_join, ↓w_fJoin, ↓w_split, ↓o_inS, ↓dr_inS, ↓wi_str, ↓w_fmt, ↓w_jsN, ↓w_jsC, ↓f_strI, ↓f_intI, ↓f_intB, ↓f_intS, ↓f_lenS, ↓o_ixS, Option.bind_some, Option.bind_none, Option.some.injEq, exists_eq_left', List.map_cons, List.map_nil, if_true, if_false, reduceIte, reduceCtorEq, Nat.reduceEqDiff, List.length_cons, List.length_nil, atI_0, decide_eq_true_eq, decide_eq_false_iff_not, true_and, and_true, false_and, and_false, not_true, not_false_iff, false_implies, true_implies, der_ref, der_lst, der_tup, der_frg, der_int, der_bl, der_str, der_non, der_dW, der_dP, der_dT, der_dWs, der_dTs, der_dct, isDK_d, kOf_int, kOf_str, kD_int, forall_const, not_true_eq_false, not_false_eq_true, exists_eq_left, exists_eq_right, Bool.not_eq_true', Bool.not_eq_false', List.mem_cons, List.not_mem_nil, or_false, false_or, Nat.reduceAdd, Nat.zero_add, List.set_cons_zero, List.set_cons_succ, all_shW, all_shT, all_shP, all_shI], by try simp (implicitDefEqProofs := false) only [↓w_ok, ↓w_err, ↓w_bad, ↓wl_ok, ↓w_bind, ↓w_bindL, ↓wl_bind, ↓wl_bindL, ↓w_nx, ↓w_rt, ↓w_bk, ↓w_ct, ↓w_er, ↓w_bd, ↓w_sq, ↓w_of, ↓w_sIf, ↓w_and, ↓w_or, ↓w_bIf, ↓w_mk, ↓w_call, ↓w_tup, ↓w_lst, ↓wl_cons, ↓wl_nil, ↓w_bin, ↓w_not, ↓w_neg, ↓w_chain, ↓w_c, ↓w_set, ↓w_own, ↓w_ex, ↓w_ret, ↓w_retN, ↓w_skip, ↓w_raise, ↓w_to, ↓w_putR, ↓w_ref, ↓w_for, ↓w_lc, ↓wi_seq, ↓wi_r1, ↓wi_r2, ↓wi_enum, ↓m_var, ↓m_peek, ↓m_retOwn, ↓m_fix, ↓m_app, ↓m_ext, ↓m_putL, ↓m_put, ↓m_putR, ↓m_ixR, ↓env_set, ↓env_0, ↓env_s, ↓env_n, ↓env_wp, ↓t_n, ↓t_u, ↓t_0, ↓t_s, ↓bX_bl, ↓o_add, ↓o_addT, ↓o_addL, ↓o_addS, ↓o_cat, ↓o_sub, ↓o_mul, ↓o_mod, ↓o_fdiv, ↓o_pow, ↓o_eq, ↓o_ne, ↓o_ic, ↓o_isN, ↓o_ixL, ↓o_ixT, ↓f_lenL, ↓f_lenT, ↓f_tupL, ↓f_tupT, ↓f_listL, ↓f_listT, ↓f_min2, ↓f_max2, ↓f_reprB, ↓w_sl, ↓w_slA, ↓w_slB, ↓w_slC, ↓o_slL, ↓o_slT, ↓o_slF, ↓o_slLL, ↓o_slLF, ↓wi_zip, ↓wi_ok, ↓src_lst, ↓src_ref, ↓zip_tt, ↓zip_ll, ↓zip_rl, ↓zip_lr, ↓w_isi, ↓o_inL, ↓o_inT, ↓dr_eq, ↓dr_ne, ↓dp_ref, ↓dp_lst, ↓dp_tup, ↓dp_frg, ↓dp_int, ↓dp_bl, ↓dp_str, ↓dp_non, ↓dp_dW, ↓dp_dP, ↓dp_dT, ↓dp_dWs, ↓dp_dTs, ↓dr_in, ↓dr_add, ↓dr_cat, ↓dr_b1, ↓dr_sl, ↓w_isiD, ↓f_sort, ↓w_rev, ↓w_appR, ↓w_refA, ↓w_listR1, ↓o_cmpD, ↓dr_cmpD, ↓w_revA, ↓o_repT, ↓f_reprD, ↓w_dct0, ↓w_dct1, ↓dr_dget, ↓o_dget, ↓dr_inK, ↓o_inK, ↓o_getD, ↓w_dget2, ↓m_putD, ↓wi_keys, ↓f_listK, ↓f_sortK, ↓m_pop, ↓m_pop0, ↓m_insL, ↓m_ins, ↓m_refP, ↓w_clrR, ↓dp_dct, ↓w_chain3, ↓w_join, ↓w_fJoin, ↓w_split, ↓o_inS, ↓dr_inS, ↓wi_str, ↓w_fmt, ↓w_jsN, ↓w_jsC, ↓f_strI, ↓f_intI, ↓f_intB, ↓f_intS, ↓f_lenS, ↓o_ixS, Option.bind_some, Option.bind_none, Option.some.injEq, exists_eq_left', List.map_cons, List.map_nil, if_true, if_false, reduceIte, reduceCtorEq, Nat.reduceEqDiff, List.length_cons, List.length_nil, atI_0, decide_eq_true_eq, decide_eq_false_iff_not, true_and, and_true, false_and, and_false, not_true, not_false_iff, false_implies, true_implies, der_ref, der_lst, der_tup, der_frg, der_int, der_bl, der_str, der_non, der_dW, der_dP, der_dT, der_dWs, der_dTs, der_dct, isDK_d, kOf_int, kOf_str, kD_int, forall_const, not_true_eq_false, not_false_eq_true, exists_eq_left, exists_eq_right, Bool.not_eq_true', Bool.not_eq_false', List.mem_cons, List.not_mem_nil, or_false, false_or, Nat.reduceAdd, Nat.zero_add, List.set_cons_zero, List.set_cons_succ, all_shW, all_shT, all_shP, all_shI], [], by try simp (implicitDefEqProofs := false) only [↓w_ok, ↓w_err, ↓w_bad, ↓wl_ok, ↓w_bind, ↓w_bindL, ↓wl_bind, ↓wl_bindL, ↓w_nx, ↓w_rt, ↓w_bk, ↓w_ct, ↓w_er, ↓w_bd, ↓w_sq, ↓w_of, ↓w_sIf, ↓w_and, ↓w_or, ↓w_bIf, ↓w_mk, ↓w_call, ↓w_tup, ↓w_lst, ↓wl_cons, ↓wl_nil, ↓w_bin, ↓w_not, ↓w_neg, ↓w_chain, ↓w_c, ↓w_set, ↓w_own, ↓w_ex, ↓w_ret, ↓w_retN, ↓w_skip, ↓w_raise, ↓w_to, ↓w_putR, ↓w_ref, ↓w_for, ↓w_lc, ↓wi_seq, ↓wi_r1, ↓wi_r2, ↓wi_enum, ↓m_var, ↓m_peek, ↓m_retOwn, ↓m_fix, ↓m_app, ↓m_ext, ↓m_putL, ↓m_put, ↓m_putR, ↓m_ixR, ↓env_set, ↓env_0, ↓env_s, ↓env_n, ↓env_wp, ↓t_n, ↓t_u, ↓t_0, ↓t_s, ↓bX_bl, ↓o_add, ↓o_addT, ↓o_addL, ↓o_addS, ↓o_cat, ↓o_sub, ↓o_mul, ↓o_mod, ↓o_fdiv, ↓o_pow, ↓o_eq, ↓o_ne, ↓o_ic, ↓o_isN, ↓o_ixL, ↓o_ixT, ↓f_lenL, ↓f_lenT, ↓f_tupL, ↓f_tupT, ↓f_listL, ↓f_listT, ↓f_min2, ↓f_max2, ↓f_reprB, ↓w_sl, ↓w_slA, ↓w_slB, ↓w_slC, ↓o_slL, ↓o_slT, ↓o_slF, ↓o_slLL, ↓o_slLF, ↓wi_zip, ↓wi_ok, ↓src_lst, ↓src_ref, ↓zip_tt, ↓zip_ll, ↓zip_rl, ↓zip_lr, ↓w_isi, ↓o_inL, ↓o_inT, ↓dr_eq, ↓dr_ne, ↓dp_ref, ↓dp_lst, ↓dp_tup, ↓dp_frg, ↓dp_int, ↓dp_bl, ↓dp_str, ↓dp_non, ↓dp_dW, ↓dp_dP, ↓dp_dT, ↓dp_dWs, ↓dp_dTs, ↓dr_in, ↓dr_add, ↓dr_cat, ↓dr_b1, ↓dr_sl, ↓w_isiD, ↓f_sort, ↓w_rev, ↓w_appR, ↓w_refA, ↓w_listR1, ↓o_cmpD, ↓dr_cmpD, ↓w_revA, ↓o_repT, ↓f_reprD, ↓w_dct0, ↓w_dct1, ↓dr_dget, ↓o_dget, ↓dr_inK, ↓o_inK, ↓o_getD, ↓w_dget2, ↓m_putD, ↓wi_keys, ↓f_listK, ↓f_sortK, ↓m_pop, ↓m_pop0, ↓m_insL, ↓m_ins, ↓m_refP, ↓w_clrR, ↓dp_dct, ↓w_chain3, ↓w_join, ↓w_fJoin, ↓w_split, ↓o_inS, ↓dr_inS, ↓wi_str, ↓w_fmt, ↓w_jsN, ↓w_jsC, ↓f_strI, ↓f_intI, ↓f_intB, ↓f_intS, ↓f_lenS, ↓o_ixS, Option.bind_some, Option.bind_none, Option.some.injEq, exists_eq_left', List.map_cons, List.map_nil, if_true, if_false, reduceIte, reduceCtorEq, Nat.reduceEqDiff, List.length_cons, List.length_nil, atI_0, decide_eq_true_eq, decide_eq_false_iff_not, true_and, and_true, false_and, and_false, not_true, not_false_iff, false_implies, true_implies, der_ref, der_lst, der_tup, der_frg, der_int, der_bl, der_str, der_non, der_dW, der_dP, der_dT, der_dWs, der_dTs, der_dct, isDK_d, kOf_int, kOf_str, kD_int, forall_const, not_true_eq_false, not_false_eq_true, exists_eq_left, exists_eq_right, Bool.not_eq_true', Bool.not_eq_false', List.mem_cons, List.not_mem_nil, or_false, false_or, Nat.reduceAdd, Nat.zero_add, List.set_cons_zero, List.set_cons_succ, all_shW, all_shT, all_shP, all_shI], ?_⟩ ?_ ?_
  · cases o with
    | nil => simp at ol; omega
    | cons a o => simpa using Fo.one a
  · rintro done k rest r s e ⟨hp, ho, r0, r2, r3, r4, es, r5, fo⟩
    have hk : done.length < m'.toNat ∧ k = 1 + (done.length : Int) := by
      have e1 := congrArg List.length e
      have e2 : (((List.range (1 + m' - 1).toNat).map fun (i : Nat) => (1 : Int) + (i : Int))[done.length]?) = some k := by rw [e]; simp
      simp at e1
      rw [List.getElem?_map, List.getElem?_range (by omega)] at e2
      simp at e2
      omega
    obtain ⟨hdl, rfl⟩ := hk
    have hlen : 1 + (done ++ [1 + (done.length : Int)]).length = 1 + done.length + 1 := by simp; omega
    have hol : 1 + done.length < o.length := by omega
    have etk : o.take (1 + done.length + 1) = o.take (1 + done.length) ++ [o[1 + done.length]] := by rw [List.take_append_getElem]
    have hv : o[1 + done.length] ∉ o.take (1 + done.length) := by
      have : (o.take (1 + done.length + 1)).Nodup := on.sublist (List.take_sublist _ _)
      rw [etk, List.nodup_append] at this
      exact fun q => this.2.2 _ q _ (by simp) rfl
    have ev : atI (o.map D.int) (1 + (done.length : Int)) = some (.int o[1 + done.length]) := by
      rw [show 1 + (done.length : Int) = ((1 + done.length : Nat) : Int) by omega, atI_map, atI_nat' (List.getElem?_eq_getElem hol)]; rfl
    generalize o[1 + done.length] = v at etk hv ev
    have esl := fo.len
    rw [List.length_take] at esl
    try simp (implicitDefEqProofs := false) only [↓w_ok, ↓w_err, ↓w_bad, ↓wl_ok, ↓w_bind, ↓w_bindL, ↓wl_bind, ↓wl_bindL, ↓w_nx, ↓w_rt, ↓w_bk, ↓w_ct, ↓w_er, ↓w_bd, ↓w_sq, ↓w_of, ↓w_sIf, ↓w_and, ↓w_or, ↓w_bIf, ↓w_mk, ↓w_call, ↓w_tup, ↓w_lst, ↓wl_cons, ↓wl_nil, ↓w_bin, ↓w_not, ↓w_neg, ↓w_chain, ↓w_c, ↓w_set, ↓w_own, ↓w_ex, ↓w_ret, ↓w_retN, ↓w_skip, ↓w_raise, ↓w_to, ↓w_putR, ↓w_ref, ↓w_for, ↓w_lc, ↓wi_seq, ↓wi_r1, ↓wi_r2, ↓wi_enum, ↓m_var, ↓m_peek, ↓m_retOwn, ↓m_fix, ↓m_app, ↓m_ext, ↓m_putL, ↓m_put, ↓m_putR, ↓m_ixR, ↓env_set, ↓env_0, ↓env_s, ↓env_n, ↓env_wp, ↓t_n, ↓t_u, ↓t_0, ↓t_s, ↓bX_bl, ↓o_add, ↓o_addT, ↓o_addL, ↓o_addS, ↓o_cat, ↓o_sub, ↓o_mul, ↓o_mod, ↓o_fdiv, ↓o_pow, ↓o_eq, ↓o_ne, ↓o_ic, ↓o_isN, ↓o_ixL, ↓o_ixT, ↓f_lenL, ↓f_lenT, ↓f_tupL, ↓f_tupT, ↓f_listL, ↓f_listT, ↓f_min2, ↓f_max2, ↓f_reprB, ↓w_sl, ↓w_slA, ↓w_slB, ↓w_slC, ↓o_slL, ↓o_slT, ↓o_slF, ↓o_slLL, ↓o_slLF, ↓wi_zip, ↓wi_ok, ↓src_lst, ↓src_ref, ↓zip_tt, ↓zip_ll, ↓zip_rl, ↓zip_lr, ↓w_isi, ↓o_inL, ↓o_inT, ↓dr_eq, ↓dr_ne, ↓dp_ref, ↓dp_lst, ↓dp_tup, ↓dp_frg, ↓dp_int, ↓dp_bl, ↓dp_str, ↓dp_non, ↓dp_dW, ↓dp_dP, ↓dp_dT, ↓dp_dWs, ↓dp_dTs, ↓dr_in, ↓dr_add, ↓dr_cat, ↓dr_b1, ↓dr_sl, ↓w_isiD, ↓f_sort, ↓w_rev, ↓w_appR, ↓w_refA, ↓w_listR1, ↓o_cmpD, ↓dr_cmpD, ↓w_revA, ↓o_repT, ↓f_reprD, ↓w_dct0, ↓w_dct1, ↓dr_dget, ↓o_dget, ↓dr_inK, ↓o_inK, ↓o_getD, ↓w_dget2, ↓m_putD, ↓wi_keys, ↓f_listK, ↓f_sortK, ↓m_pop, ↓m_pop0, ↓m_insL, ↓m_ins, ↓m_refP, ↓w_clrR, ↓dp_dct, ↓w_chain3, ↓w_join, ↓w_fJoin, ↓w_split, ↓o_inS, ↓dr_inS, ↓wi_str, ↓w_fmt, ↓w_jsN, ↓w_jsC, ↓f_strI, ↓f_intI, ↓f_intB, ↓f_intS, ↓f_lenS, ↓o_ixS, Option.bind_some, Option.bind_none, Option.some.injEq, exists_eq_left', List.map_cons, List.map_nil, if_true, if_false, reduceIte, reduceCtorEq, Nat.reduceEqDiff, List.length_cons, List.length_nil, atI_0, decide_eq_true_eq, decide_eq_false_iff_not, true_and, and_true, false_and, and_false, not_true, not_false_iff, false_implies, true_implies, der_ref, der_lst, der_tup, der_frg, der_int, der_bl, der_str, der_non, der_dW, der_dP, der_dT, der_dWs, der_dTs, der_dct, isDK_d, kOf_int, kOf_str, kD_int, forall_const, not_true_eq_false, not_false_eq_true, exists_eq_left, exists_eq_right, Bool.not_eq_true', Bool.not_eq_false', List.mem_cons, List.not_mem_nil, or_false, false_or, Nat.reduceAdd, Nat.zero_add, List.set_cons_zero, List.set_cons_succ, all_shW, all_shT, all_shP, all_shI, r0, r2, r3, r4, r5]
    refine pick_spec hp (by decide) (by decide) fun x s4 _ _ hp4 ho4 => ?_
    try simp (implicitDefEqProofs := false) only [↓w_ok, ↓w_err, ↓w_bad, ↓wl_ok, ↓w_bind, ↓w_bindL, ↓wl_bind, ↓wl_bindL, ↓w_nx, ↓w_rt, ↓w_bk, ↓w_ct, ↓w_er, ↓w_bd, ↓w_sq, ↓w_of, ↓w_sIf, ↓w_and, ↓w_or, ↓w_bIf, ↓w_mk, ↓w_call, ↓w_tup, ↓w_lst, ↓wl_cons, ↓wl_nil, ↓w_bin, ↓w_not, ↓w_neg, ↓w_chain, ↓w_c, ↓w_set, ↓w_own, ↓w_ex, ↓w_ret, ↓w_retN, ↓w_skip, ↓w_raise, ↓w_to, ↓w_putR, ↓w_ref, ↓w_for, ↓w_lc, ↓wi_seq, ↓wi_r1, ↓wi_r2, ↓wi_enum, ↓m_var, ↓m_peek, ↓m_retOwn, ↓m_fix, ↓m_app, ↓m_ext, ↓m_putL, ↓m_put, ↓m_putR, ↓m_ixR, ↓env_set, ↓env_0, ↓env_s, ↓env_n, ↓env_wp, ↓t_n, ↓t_u, ↓t_0, ↓t_s, ↓bX_bl, ↓o_add, ↓o_addT, ↓o_addL, ↓o_addS, ↓o_cat, ↓o_sub, ↓o_mul, ↓o_mod, ↓o_fdiv, ↓o_pow, ↓o_eq, ↓o_ne, ↓o_ic, ↓o_isN, ↓o_ixL, ↓o_ixT, ↓f_lenL, ↓f_lenT, ↓f_tupL, ↓f_tupT, ↓f_listL, ↓f_listT, ↓f_min2, ↓f_max2, ↓f_reprB, ↓w_sl, ↓w_slA, ↓w_slB, ↓w_slC, ↓o_slL, ↓o_slT, ↓o_slF, ↓o_slLL, ↓o_slLF, ↓wi_zip, ↓wi_ok, ↓src_lst, ↓src_ref, ↓zip_tt, ↓zip_ll, ↓zip_rl, ↓zip_lr, ↓w_isi, ↓o_inL, ↓o_inT, ↓dr_eq, ↓dr_ne, ↓dp_ref, ↓dp_lst, ↓dp_tup, ↓dp_frg, ↓dp_int, ↓dp_bl, ↓dp_str, ↓dp_non, ↓dp_dW, ↓dp_dP, ↓dp_dT, ↓dp_dWs, ↓dp_dTs, ↓dr_in, ↓dr_add, ↓dr_cat, ↓dr_b1, ↓dr_sl, ↓w_isiD, ↓f_sort, ↓w_rev, ↓w_appR, ↓w_refA, ↓w_listR1, ↓o_cmpD, ↓dr_cmpD, ↓w_revA, ↓o_repT, ↓f_reprD, ↓w_dct0, ↓w_dct1, ↓dr_dget, ↓o_dget, ↓dr_inK, ↓o_inK, ↓o_getD, ↓w_dget2, ↓m_putD, ↓wi_keys, ↓f_listK, ↓f_sortK, ↓m_pop, ↓m_pop0, ↓m_insL, ↓m_ins, ↓m_refP, ↓w_clrR, ↓dp_dct, ↓w_chain3, ↓w_join, ↓w_fJoin, ↓w_split, ↓o_inS, ↓dr_inS, ↓wi_str, ↓w_fmt, ↓w_jsN, ↓w_jsC, ↓f_strI, ↓f_intI, ↓f_intB, ↓f_intS, ↓f_lenS, ↓o_ixS, Option.bind_some, Option.bind_none, Option.some.injEq, exists_eq_left', List.map_cons, List.map_nil, if_true, if_false, reduceIte, reduceCtorEq, Nat.reduceEqDiff, List.length_cons, List.length_nil, atI_0, decide_eq_true_eq, decide_eq_false_iff_not, true_and, and_true, false_and, and_false, not_true, not_false_iff, false_implies, true_implies, der_ref, der_lst, der_tup, der_frg, der_int, der_bl, der_str, der_non, der_dW, der_dP, der_dT, der_dWs, der_dTs, der_dct, isDK_d, kOf_int, kOf_str, kD_int, forall_const, not_true_eq_false, not_false_eq_true, exists_eq_left, exists_eq_right, Bool.not_eq_true', Bool.not_eq_false', List.mem_cons, List.not_mem_nil, or_false, false_or, Nat.reduceAdd, Nat.zero_add, List.set_cons_zero, List.set_cons_succ, all_shW, all_shT, all_shP, all_shI, r0, r2, r3, r4, r5, ev]
    refine ⟨fun _ => ?_, fun _ => ?_⟩
    · refine pick_spec hp4 (by omega) (by simp only [D40]; omega) fun j s5 j0 j1 hp5 ho5 => ?_
      obtain ⟨i, rfl⟩ := Int.eq_ofNat_of_zero_le j0
      have hi : i < o.length := by omega
      have eu : atI (o.map D.int) (i : Int) = some (.int o[i]) := by rw [atI_map, atI_nat' (List.getElem?_eq_getElem hi)]; rfl
      have hu : o[i] ∈ o.take (1 + done.length) := by
        rw [List.mem_take_iff_getElem]
        exact ⟨i, by omega, rfl⟩
      generalize o[i] = u at eu hu
      try simp (implicitDefEqProofs := false) only [↓w_ok, ↓w_err, ↓w_bad, ↓wl_ok, ↓w_bind, ↓w_bindL, ↓wl_bind, ↓wl_bindL, ↓w_nx, ↓w_rt, ↓w_bk, ↓w_ct, ↓w_er, ↓w_bd, ↓w_sq, ↓w_of, ↓w_sIf, ↓w_and, ↓w_or, ↓w_bIf, ↓w_mk, ↓w_call, ↓w_tup, ↓w_lst, ↓wl_cons, ↓wl_nil, ↓w_bin, ↓w_not, ↓w_neg, ↓w_chain, ↓w_c, ↓w_set, ↓w_own, ↓w_ex, ↓w_ret, ↓w_retN, ↓w_skip, ↓w_raise, ↓w_to, ↓w_putR, ↓w_ref, ↓w_for, ↓w_lc, ↓wi_seq, ↓wi_r1, ↓wi_r2, ↓wi_enum, ↓m_var, ↓m_peek, ↓m_retOwn, ↓m_fix, ↓m_app, ↓m_ext, ↓m_putL, ↓m_put, ↓m_putR, ↓m_ixR, ↓env_set, ↓env_0, ↓env_s, ↓env_n, ↓env_wp, ↓t_n, ↓t_u, ↓t_0, ↓t_s, ↓bX_bl, ↓o_add, ↓o_addT, ↓o_addL, ↓o_addS, ↓o_cat, ↓o_sub, ↓o_mul, ↓o_mod, ↓o_fdiv, ↓o_pow, ↓o_eq, ↓o_ne, ↓o_ic, ↓o_isN, ↓o_ixL, ↓o_ixT, ↓f_lenL, ↓f_lenT, ↓f_tupL, ↓f_tupT, ↓f_listL, ↓f_listT, ↓f_min2, ↓f_max2, ↓f_reprB, ↓w_sl, ↓w_slA, ↓w_slB, ↓w_slC, ↓o_slL, ↓o_slT, ↓o_slF, ↓o_slLL, ↓o_slLF, ↓wi_zip, ↓wi_ok, ↓src_lst, ↓src_ref, ↓zip_tt, ↓zip_ll, ↓zip_rl, ↓zip_lr, ↓w_isi, ↓o_inL, ↓o_inT, ↓dr_eq, ↓dr_ne, ↓dp_ref, ↓dp_lst, ↓dp_tup, ↓dp_frg, ↓dp_int, ↓dp_bl, ↓dp_str, ↓dp_non, ↓dp_dW, ↓dp_dP, ↓dp_dT, ↓dp_dWs, ↓dp_dTs, ↓dr_in, ↓dr_add, ↓dr_cat, ↓dr_b1, ↓dr_sl, ↓w_isiD, ↓f_sort, ↓w_rev, ↓w_appR, ↓w_refA, ↓w_listR1, ↓o_cmpD, ↓dr_cmpD, ↓w_revA, ↓o_repT, ↓f_reprD, ↓w_dct0, ↓w_dct1, ↓dr_dget, ↓o_dget, ↓dr_inK, ↓o_inK, ↓o_getD, ↓w_dget2, ↓m_putD, ↓wi_keys, ↓f_listK, ↓f_sortK, ↓m_pop, ↓m_pop0, ↓m_insL, ↓m_ins, ↓m_refP, ↓w_clrR, ↓dp_dct, ↓w_chain3, ↓w_join, ↓w_fJoin, ↓w_split, ↓o_inS, ↓dr_inS, ↓wi_str, ↓w_fmt, ↓w_jsN, ↓w_jsC, ↓f_strI, ↓f_intI, ↓f_intB, ↓f_intS, ↓f_lenS, ↓o_ixS, Option.bind_some, Option.bind_none, Option.some.injEq, exists_eq_left', List.map_cons, List.map_nil, if_true, if_false, reduceIte, reduceCtorEq, Nat.reduceEqDiff, List.length_cons, List.length_nil, atI_0, decide_eq_true_eq, decide_eq_false_iff_not, true_and, and_true, false_and, and_false, not_true, not_false_iff, false_implies, true_implies, der_ref, der_lst, der_tup, der_frg, der_int, der_bl, der_str, der_non, der_dW, der_dP, der_dT, der_dWs, der_dTs, der_dct, isDK_d, kOf_int, kOf_str, kD_int, forall_const, not_true_eq_false, not_false_eq_true, exists_eq_left, exists_eq_right, Bool.not_eq_true', Bool.not_eq_false', List.mem_cons, List.not_mem_nil, or_false, false_or, Nat.reduceAdd, Nat.zero_add, List.set_cons_zero, List.set_cons_succ, all_shW, all_shT, all_shP, all_shI, r0, r2, r3, r4, r5, ev, eu]
      refine minT2 ?_
      try simp (implicitDefEqProofs := false) only [↓w_ok, ↓w_err, ↓w_bad, ↓wl_ok, ↓w_bind, ↓w_bindL, ↓wl_bind, ↓wl_bindL, ↓w_nx, ↓w_rt, ↓w_bk, ↓w_ct, ↓w_er, ↓w_bd, ↓w_sq, ↓w_of, ↓w_sIf, ↓w_and, ↓w_or, ↓w_bIf, ↓w_mk, ↓w_call, ↓w_tup, ↓w_lst, ↓wl_cons, ↓wl_nil, ↓w_bin, ↓w_not, ↓w_neg, ↓w_chain, ↓w_c, ↓w_set, ↓w_own, ↓w_ex, ↓w_ret, ↓w_retN, ↓w_skip, ↓w_raise, ↓w_to, ↓w_putR, ↓w_ref, ↓w_for, ↓w_lc, ↓wi_seq, ↓wi_r1, ↓wi_r2, ↓wi_enum, ↓m_var, ↓m_peek, ↓m_retOwn, ↓m_fix, ↓m_app, ↓m_ext, ↓m_putL, ↓m_put, ↓m_putR, ↓m_ixR, ↓env_set, ↓env_0, ↓env_s, ↓env_n, ↓env_wp, ↓t_n, ↓t_u, ↓t_0, ↓t_s, ↓bX_bl, ↓o_add, ↓o_addT, ↓o_addL, ↓o_addS, ↓o_cat, ↓o_sub, ↓o_mul, ↓o_mod, ↓o_fdiv, ↓o_pow, ↓o_eq, ↓o_ne, ↓o_ic, ↓o_isN, ↓o_ixL, ↓o_ixT, ↓f_lenL, ↓f_lenT, ↓f_tupL, ↓f_tupT, ↓f_listL, ↓f_listT, ↓f_min2, ↓f_max2, ↓f_reprB, ↓w_sl, ↓w_slA, ↓w_slB, ↓w_slC, ↓o_slL, ↓o_slT, ↓o_slF, ↓o_slLL, ↓o_slLF, ↓wi_zip, ↓wi_ok, ↓src_lst, ↓src_ref, ↓zip_tt, ↓zip_ll, ↓zip_rl, ↓zip_lr, ↓w_isi, ↓o_inL, ↓o_inT, ↓dr_eq, ↓dr_ne, ↓dp_ref, ↓dp_lst, ↓dp_tup, ↓dp_frg, ↓dp_int, ↓dp_bl, ↓dp_str, ↓dp_non, ↓dp_dW, ↓dp_dP, ↓dp_dT, ↓dp_dWs, ↓dp_dTs, ↓dr_in, ↓dr_add, ↓dr_cat, ↓dr_b1, ↓dr_sl, ↓w_isiD, ↓f_sort, ↓w_rev, ↓w_appR, ↓w_refA, ↓w_listR1, ↓o_cmpD, ↓dr_cmpD, ↓w_revA, ↓o_repT, ↓f_reprD, ↓w_dct0, ↓w_dct1, ↓dr_dget, ↓o_dget, ↓dr_inK, ↓o_inK, ↓o_getD, ↓w_dget2, ↓m_putD, ↓wi_keys, ↓f_listK, ↓f_sortK, ↓m_pop, ↓m_pop0, ↓m_insL, ↓m_ins, ↓m_refP, ↓w_clrR, ↓dp_dct, ↓w_chain3, ↓w_join, ↓w_fJoin, ↓w_split, ↓o_inS, ↓dr_inS, ↓wi_str, ↓w_fmt, ↓w_jsN, ↓w_jsC, ↓f_strI, ↓f_intI, ↓f_intB, ↓f_intS, ↓f_lenS, ↓o_ixS, Option.bind_some, Option.bind_none, Option.some.injEq, exists_eq_left', List.map_cons, List.map_nil, if_true, if_false, reduceIte, reduceCtorEq, Nat.reduceEqDiff, List.length_cons, List.length_nil, atI_0, decide_eq_true_eq, decide_eq_false_iff_not, true_and, and_true, false_and, and_false, not_true, not_false_iff, false_implies, true_implies, der_ref, der_lst, der_tup, der_frg, der_int, der_bl, der_str, der_non, der_dW, der_dP, der_dT, der_dWs, der_dTs, der_dct, isDK_d, kOf_int, kOf_str, kD_int, forall_const, not_true_eq_false, not_false_eq_true, exists_eq_left, exists_eq_right, Bool.not_eq_true', Bool.not_eq_false', List.mem_cons, List.not_mem_nil, or_false, false_or, Nat.reduceAdd, Nat.zero_add, List.set_cons_zero, List.set_cons_succ, all_shW, all_shT, all_shP, all_shI, r0, r2, r3, r4, r5, ev, eu]
      refine maxT2 ?_
      try simp (implicitDefEqProofs := false) only [↓w_ok, ↓w_err, ↓w_bad, ↓wl_ok, ↓w_bind, ↓w_bindL, ↓wl_bind, ↓wl_bindL, ↓w_nx, ↓w_rt, ↓w_bk, ↓w_ct, ↓w_er, ↓w_bd, ↓w_sq, ↓w_of, ↓w_sIf, ↓w_and, ↓w_or, ↓w_bIf, ↓w_mk, ↓w_call, ↓w_tup, ↓w_lst, ↓wl_cons, ↓wl_nil, ↓w_bin, ↓w_not, ↓w_neg, ↓w_chain, ↓w_c, ↓w_set, ↓w_own, ↓w_ex, ↓w_ret, ↓w_retN, ↓w_skip, ↓w_raise, ↓w_to, ↓w_putR, ↓w_ref, ↓w_for, ↓w_lc, ↓wi_seq, ↓wi_r1, ↓wi_r2, ↓wi_enum, ↓m_var, ↓m_peek, ↓m_retOwn, ↓m_fix, ↓m_app, ↓m_ext, ↓m_putL, ↓m_put, ↓m_putR, ↓m_ixR, ↓env_set, ↓env_0, ↓env_s, ↓env_n, ↓env_wp, ↓t_n, ↓t_u, ↓t_0, ↓t_s, ↓bX_bl, ↓o_add, ↓o_addT, ↓o_addL, ↓o_addS, ↓o_cat, ↓o_sub, ↓o_mul, ↓o_mod, ↓o_fdiv, ↓o_pow, ↓o_eq, ↓o_ne, ↓o_ic, ↓o_isN, ↓o_ixL, ↓o_ixT, ↓f_lenL, ↓f_lenT, ↓f_tupL, ↓f_tupT, ↓f_listL, ↓f_listT, ↓f_min2, ↓f_max2, ↓f_reprB, ↓w_sl, ↓w_slA, ↓w_slB, ↓w_slC, ↓o_slL, ↓o_slT, ↓o_slF, ↓o_slLL, ↓o_slLF, ↓wi_zip, ↓wi_ok, ↓src_lst, ↓src_ref, ↓zip_tt, ↓zip_ll, ↓zip_rl, ↓zip_lr, ↓w_isi, ↓o_inL, ↓o_inT, ↓dr_eq, ↓dr_ne, ↓dp_ref, ↓dp_lst, ↓dp_tup, ↓dp_frg, ↓dp_int, ↓dp_bl, ↓dp_str, ↓dp_non, ↓dp_dW, ↓dp_dP, ↓dp_dT, ↓dp_dWs, ↓dp_dTs, ↓dr_in, ↓dr_add, ↓dr_cat, ↓dr_b1, ↓dr_sl, ↓w_isiD, ↓f_sort, ↓w_rev, ↓w_appR, ↓w_refA, ↓w_listR1, ↓o_cmpD, ↓dr_cmpD, ↓w_revA, ↓o_repT, ↓f_reprD, ↓w_dct0, ↓w_dct1, ↓dr_dget, ↓o_dget, ↓dr_inK, ↓o_inK, ↓o_getD, ↓w_dget2, ↓m_putD, ↓wi_keys, ↓f_listK, ↓f_sortK, ↓m_pop, ↓m_pop0, ↓m_insL, ↓m_ins, ↓m_refP, ↓w_clrR, ↓dp_dct, ↓w_chain3, ↓w_join, ↓w_fJoin, ↓w_split, ↓o_inS, ↓dr_inS, ↓wi_str, ↓w_fmt, ↓w_jsN, ↓w_jsC, ↓f_strI, ↓f_intI, ↓f_intB, ↓f_intS, ↓f_lenS, ↓o_ixS, Option.bind_some, Option.bind_none, Option.some.injEq, exists_eq_left', List.map_cons, List.map_nil, if_true, if_false, reduceIte, reduceCtorEq, Nat.reduceEqDiff, List.length_cons, List.length_nil, atI_0, decide_eq_true_eq, decide_eq_false_iff_not, true_and, and_true, false_and, and_false, not_true, not_false_iff, false_implies, true_implies, der_ref, der_lst, der_tup, der_frg, der_int, der_bl, der_str, der_non, der_dW, der_dP, der_dT, der_dWs, der_dTs, der_dct, isDK_d, kOf_int, kOf_str, kD_int, forall_const, not_true_eq_false, not_false_eq_true, exists_eq_left, exists_eq_right, Bool.not_eq_true', Bool.not_eq_false', List.mem_cons, List.not_mem_nil, or_false, false_or, Nat.reduceAdd, Nat.zero_add, List.set_cons_zero, List.set_cons_succ, all_shW, all_shT, all_shP, all_shI, r0, r2, r3, r4, r5, ev, eu, List.length_map, LIM]
      refine ⟨by omega, hp5, (ho.trans ho4).trans ho5, es ++ [(min u v, max u v)], by rw [Int.min_comm v u, Int.max_comm v u]; simp [dP], ?_⟩
      rw [hlen, etk]
      exact .join fo hv hu
    · refine ⟨hp4, ho.trans ho4, es, rfl, ?_⟩
      rw [hlen, etk]
      exact .skip fo hv
  · rintro r s ⟨hp, ho, r0, r2, r3, r4, es, r5, fo⟩
    rw [List.length_map, List.length_range, List.take_of_length_le (by omega)] at fo
    have fl := fo.len
    try simp (implicitDefEqProofs := false) only [↓w_ok, ↓w_err, ↓w_bad, ↓wl_ok, ↓w_bind, ↓w_bindL, ↓wl_bind, ↓wl_bindL, ↓w_nx, ↓w_rt, ↓w_bk, ↓w_ct, ↓w_er, ↓w_bd, ↓w_sq, ↓w_of, ↓w_sIf, ↓w_and, ↓w_or, ↓w_bIf, ↓w_mk, ↓w_call, ↓w_tup, ↓w_lst, ↓wl_cons, ↓wl_nil, ↓w_bin, ↓w_not, ↓w_neg, ↓w_chain, ↓w_c, ↓w_set, ↓w_own, ↓w_ex, ↓w_ret, ↓w_retN, ↓w_skip, ↓w_raise, ↓w_to, ↓w_putR, ↓w_ref, ↓w_for, ↓w_lc, ↓wi_seq, ↓wi_r1, ↓wi_r2, ↓wi_enum, ↓m_var, ↓m_peek, ↓m_retOwn, ↓m_fix, ↓m_app, ↓m_ext, ↓m_putL, ↓m_put, ↓m_putR, ↓m_ixR, ↓env_set, ↓env_0, ↓env_s, ↓env_n, ↓env_wp, ↓t_n, ↓t_u, ↓t_0, ↓t_s, ↓bX_bl, ↓o_add, ↓o_addT, ↓o_addL, ↓o_addS, ↓o_cat, ↓o_sub, ↓o_mul, ↓o_mod, ↓o_fdiv, ↓o_pow, ↓o_eq, ↓o_ne, ↓o_ic, ↓o_isN, ↓o_ixL, ↓o_ixT, ↓f_lenL, ↓f_lenT, ↓f_tupL, ↓f_tupT, ↓f_listL, ↓f_listT, ↓f_min2, ↓f_max2, ↓f_reprB, ↓w_sl, ↓w_slA, ↓w_slB, ↓w_slC, ↓o_slL, ↓o_slT, ↓o_slF, ↓o_slLL, ↓o_slLF, ↓wi_zip, ↓wi_ok, ↓src_lst, ↓src_ref, ↓zip_tt, ↓zip_ll, ↓zip_rl, ↓zip_lr, ↓w_isi, ↓o_inL, ↓o_inT, ↓dr_eq, ↓dr_ne, ↓dp_ref, ↓dp_lst, ↓dp_tup, ↓dp_frg, ↓dp_int, ↓dp_bl, ↓dp_str, ↓dp_non, ↓dp_dW, ↓dp_dP, ↓dp_dT, ↓dp_dWs, ↓dp_dTs, ↓dr_in, ↓dr_add, ↓dr_cat, ↓dr_b1, ↓dr_sl, ↓w_isiD, ↓f_sort, ↓w_rev, ↓w_appR, ↓w_refA, ↓w_listR1, ↓o_cmpD, ↓dr_cmpD, ↓w_revA, ↓o_repT, ↓f_reprD, ↓w_dct0, ↓w_dct1, ↓dr_dget, ↓o_dget, ↓dr_inK, ↓o_inK, ↓o_getD, ↓w_dget2, ↓m_putD, ↓wi_keys, ↓f_listK, ↓f_sortK, ↓m_pop, ↓m_pop0, ↓m_insL, ↓m_ins, ↓m_refP, ↓w_clrR, ↓dp_dct, ↓w_chain3, ↓w_join, ↓w_fJoin, ↓w_split, ↓o_inS, ↓dr_inS, ↓wi_str, ↓w_fmt, ↓w_jsN, ↓w_jsC, ↓f_strI, ↓f_intI, ↓f_intB, ↓f_intS, ↓f_lenS, ↓o_ixS, Option.bind_some, Option.bind_none, Option.some.injEq, exists_eq_left', List.map_cons, List.map_nil, if_true, if_false, reduceIte, reduceCtorEq, Nat.reduceEqDiff, List.length_cons, List.length_nil, atI_0, decide_eq_true_eq, decide_eq_false_iff_not, true_and, and_true, false_and, and_false, not_true, not_false_iff, false_implies, true_implies, der_ref, der_lst, der_tup, der_frg, der_int, der_bl, der_str, der_non, der_dW, der_dP, der_dT, der_dWs, der_dTs, der_dct, isDK_d, kOf_int, kOf_str, kD_int, forall_const, not_true_eq_false, not_false_eq_true, exists_eq_left, exists_eq_right, Bool.not_eq_true', Bool.not_eq_false', List.mem_cons, List.not_mem_nil, or_false, false_or, Nat.reduceAdd, Nat.zero_add, List.set_cons_zero, List.set_cons_succ, all_shW, all_shT, all_shP, all_shI, r0, r2, r3, r4, r5, sortP]
    refine ⟨sortP_ok (by simp only [LIM]; omega), ?_⟩
    refine h (1 + m') (srt kP es) s ⟨by omega, by omega, ⟨o, es, fo, srt_perm es, on, fun x => ⟨fun hx => by have := ob x hx; omega, fun hx => ?_⟩⟩, srt_pw es⟩ (by omega) hp ho
    refine Classical.byContradiction fun hx' => ?_
    have := nd_len (l := x :: o) (m := 1 + m') (List.nodup_cons.mpr ⟨hx', on⟩) fun y hy => by
      rcases List.mem_cons.mp hy with rfl | hy
      · exact hx
      · have := ob y hy; omega
    rw [List.length_cons] at this
    omega
open TL
/-- joined houses -/
inductive Cn (es : List (Int × Int)) : Int → Int → Prop
  | refl (x : Int) : Cn es x x
  | step {x y z : Int} : Cn es x y → Ad es y z → Cn es x z
theorem Ad.symm {es : List (Int × Int)} {x y : Int} (h : Ad es x y) : Ad es y x := h.elim .inr .inl
theorem Cn.trans {es : List (Int × Int)} {x y z : Int} (h1 : Cn es x y) (h2 : Cn es y z) : Cn es x z := by
  induction h2 with
  | refl => exact h1
  | step h ha ih => exact .step ih ha
theorem Cn.symm {es : List (Int × Int)} {x y : Int} (h : Cn es x y) : Cn es y x := by
  induction h with
  | refl => exact .refl _
  | step h ha ih => exact (Cn.step (.refl _) ha.symm).trans ih
theorem Cn.mono {es es' : List (Int × Int)} (hm : ∀ p ∈ es, p ∈ es') {x y : Int} (h : Cn es x y) : Cn es' x y := by
  induction h with
  | refl => exact .refl _
  | step h ha ih => exact .step ih (ha.elim (fun q => .inl (hm _ q)) fun q => .inr (hm _ q))
theorem Pth.cut {es : List (Int × Int)} {a x : Int} {l : List Int} (h : Pth es a x l) : ∀ z ∈ l, ∃ l', Pth es a z l' := by
  induction h with
  | base => intro z hz; rw [List.mem_singleton.mp hz]; exact ⟨_, .base⟩
  | step h hd hn ih =>
    intro z hz
    rcases List.mem_append.mp hz with hz | hz
    · exact ih z hz
    · rw [List.mem_singleton.mp hz]; exact ⟨_, .step h hd hn⟩
theorem Cn.pth {es : List (Int × Int)} {a x : Int} (h : Cn es a x) : ∃ l, Pth es a x l := by
  induction h with
  | refl => exact ⟨_, .base⟩
  | @step y z h hd ih =>
    obtain ⟨l, hl⟩ := ih
    by_cases hz : z ∈ l
    · exact hl.cut z hz
    · exact ⟨_, .step hl hd hz⟩
/-- no road joins two houses that are joined by the roads ahead of it -/
theorem WebOk.apart {m : Int} {rs done rest : List (Int × Int)} {p : Int × Int} (hw : WebOk m rs) (e : rs = done ++ p :: rest) : ¬ Cn done p.1 p.2 := fun h => by
  obtain ⟨l, hl⟩ := h.pth
  have hp : p ∈ rs := by rw [e]; simp
  have hb := hw.bd p hp
  have sub : ∀ q ∈ done, q ∈ rs := fun q hq => by rw [e]; exact List.mem_append_left _ hq
  have h1 : Pth rs p.1 p.2 l := hl.mono fun x y q => q.elim (fun q => .inl (sub _ q)) fun q => .inr (sub _ q)
  have h2 : Pth rs p.1 p.2 ([p.1] ++ [p.2]) := .step .base (.inl hp) (by simp; omega)
  have el := hw.uniq h1 h2
  subst el
  have nn : p ∉ done := fun q => by
    have := hw.nd
    rw [e, List.nodup_append] at this
    exact this.2.2 p q p (by simp) rfl
  have last : ∀ {x : Int} {l : List Int}, Pth done p.1 x l → l = [p.1] ++ [p.2] → Ad done p.1 p.2 := by
    intro x l h el
    cases h with
    | base => simp at el
    | @step u v l0 h0 ha hn =>
      have e1 : l0 = [p.1] ∧ x = p.2 := by
        have := List.append_inj' el rfl
        exact ⟨this.1, by simpa using this.2⟩
      obtain ⟨rfl, rfl⟩ := e1
      have : u = p.1 := by have := h0.last; simpa using this
      rw [← this]; rw [this] at ha ⊢; exact ha
  rcases last hl rfl with q | q
  · exact nn q
  · have := hw.bd _ (sub _ q)
    simp only at this
    omega
theorem ring_spec {m : Int} {rs : List (Int × Int)} {st : Sto} {Q : D → Sto → Prop} {E} (hw : WebOk m rs) (h : Q (.bl false) st) : RsP (m_has_ring [.int m, .tup (rs.map dP)] st) Q E := by
  have m1 := hw.m1
  have m8 := hw.m8
  unfold m_has_ring
  try simp (implicitDefEqProofs := false) only [↓w_ok, ↓w_err, ↓w_bad, ↓wl_ok, ↓w_bind, ↓w_bindL, ↓wl_bind, ↓wl_bindL, ↓w_nx, ↓w_rt, ↓w_bk, ↓w_ct, ↓w_er, ↓w_bd, ↓w_sq, ↓w_of, ↓w_sIf, ↓w_and, ↓w_or, ↓w_bIf, ↓w_mk, ↓w_call, ↓w_tup, ↓w_lst, ↓wl_cons, ↓wl_nil, ↓w_bin, ↓w_not, ↓w_neg, ↓w_chain, ↓w_c, ↓w_set, ↓w_own, ↓w_ex, ↓w_ret, ↓w_retN, ↓w_skip, ↓w_raise, ↓w_to, ↓w_putR, ↓w_ref, ↓w_for, ↓w_lc, ↓wi_seq, ↓wi_r1, ↓wi_r2, ↓wi_enum, ↓m_var, ↓m_peek, ↓m_retOwn, ↓m_fix, ↓m_app, ↓m_ext, ↓m_putL, ↓m_put, ↓m_putR, ↓m_ixR, ↓env_set, ↓env_0, ↓env_s, ↓env_n, ↓env_wp, ↓t_n, ↓t_u, ↓t_0, ↓t_s, ↓bX_bl, ↓o_add, ↓o_addT, ↓o_addL, ↓o_addS, ↓o_cat, ↓o_sub, ↓o_mul, ↓o_mod, ↓o_fdiv, ↓o_pow, ↓o_eq, ↓o_ne, ↓o_ic, ↓o_isN, ↓o_ixL, ↓o_ixT, ↓f_lenL, ↓f_lenT, ↓f_tupL, ↓f_tupT, ↓f_listL, ↓f_listT, ↓f_min2, ↓f_max2, ↓f_reprB, ↓w_sl, ↓w_slA, ↓w_slB, ↓w_slC, ↓o_slL, ↓o_slT, ↓o_slF, ↓o_slLL, ↓o_slLF, ↓wi_zip, ↓wi_ok, ↓src_lst, ↓src_ref, ↓zip_tt, ↓zip_ll, ↓zip_rl, ↓zip_lr, ↓w_isi, ↓o_inL, ↓o_inT, ↓dr_eq, ↓dr_ne, ↓dp_ref, ↓dp_lst, ↓dp_tup, ↓dp_frg, ↓dp_int, ↓dp_bl, ↓dp_str, ↓dp_non, ↓dp_dW, ↓dp_dP, ↓dp_dT, ↓dp_dWs, ↓dp_dTs, ↓dr_in, ↓dr_add, ↓dr_cat, ↓dr_b1, ↓dr_sl, ↓w_isiD, ↓f_sort, ↓w_rev, ↓w_appR, ↓w_refA, ↓w_listR1, ↓o_cmpD, ↓dr_cmpD, ↓w_revA, ↓o_repT, ↓f_reprD, ↓w_dct0, ↓w_dct1, ↓dr_dget, ↓o_dget, ↓dr_inK, ↓o_inK, ↓o_getD, ↓w_dget2, ↓m_putD, ↓wi_keys, ↓f_listK, ↓f_sortK, ↓m_pop, ↓m_pop0, ↓m_insL, ↓m_ins, ↓m_refP, ↓w_clrR, ↓dp_dct, ↓w_chain3, ↓w_join, ↓w_fJoin, ↓w_split, ↓o_inS, ↓dr_inS, ↓wi_str, ↓w_fmt, ↓w_jsN, ↓w_jsC, ↓f_strI, ↓f_intI, ↓f_intB, ↓f_intS, ↓f_lenS, ↓o_ixS, Option.bind_some, Option.bind_none, Option.some.injEq, exists_eq_left', List.map_cons, List.map_nil, if_true, if_false, reduceIte, reduceCtorEq, Nat.reduceEqDiff, List.length_cons, List.length_nil, atI_0, decide_eq_true_eq, decide_eq_false_iff_not, true_and, and_true, false_and, and_false, not_true, not_false_iff, false_implies, true_implies, der_ref, der_lst, der_tup, der_frg, der_int, der_bl, der_str, der_non, der_dW, der_dP, der_dT, der_dWs, der_dTs, der_dct, isDK_d, kOf_int, kOf_str, kD_int, forall_const, not_true_eq_false, not_false_eq_true, exists_eq_left, exists_eq_right, Bool.not_eq_true', Bool.not_eq_false', List.mem_cons, List.not_mem_nil, or_false, false_or, Nat.reduceAdd, Nat.zero_add, List.set_cons_zero, List.set_cons_succ, all_shW, all_shT, all_shP, all_shI, rangeD_map, B62]
  refine ⟨by omega, ?_⟩
  refine for_rule (fun done rest r s => s = st ∧ ∃ G : List Int, r 2 = some (false, .lst (G.map D.int)) ∧ (G.length : Int) = m ∧ ∀ (i j : Nat) (x : Int), G[i]? = some x → G[j]? = some x → Cn done i j) ⟨rfl, (List.range m.toNat).map fun (i : Nat) => (0 : Int) + (i : Int), by try simp (implicitDefEqProofs := false) only [↓w_ok, ↓w_err, ↓w_bad, ↓wl_ok, ↓w_bind, ↓w_bindL, ↓wl_bind, ↓wl_bindL, ↓w_nx, ↓w_rt, ↓w_bk, ↓w_ct, ↓w_er, ↓w_bd, ↓w_sq, ↓w_of, ↓w_sIf, ↓w_and, ↓w_or, ↓w_bIf, ↓w_mk, ↓w_call, ↓w_tup, ↓w_lst, ↓wl_cons, ↓wl_nil, ↓w_bin, ↓w_not, ↓w_neg, ↓w_chain, ↓w_c, ↓w_set, ↓w_own, ↓w_ex, ↓w_ret, ↓w_retN, ↓w_skip, ↓w_raise, ↓w_to, ↓w_putR, ↓w_ref, ↓w_for, ↓w_lc, ↓wi_seq, ↓wi_r1, ↓wi_r2, ↓wi_enum, ↓m_var, ↓m_peek, ↓m_retOwn, ↓m_fix, ↓m_app, ↓m_ext, ↓m_putL, ↓m_put, ↓m_putR, ↓m_ixR, ↓env_set, ↓env_0, ↓env_s, ↓env_n, ↓env_wp, ↓t_n, ↓t_u, ↓t_0, ↓t_s, ↓bX_bl, ↓o_add, ↓o_addT, ↓o_addL, ↓o_addS, ↓o_cat, ↓o_sub, ↓o_mul, ↓o_mod, ↓o_fdiv, ↓o_pow, ↓o_eq, ↓o_ne, ↓o_ic, ↓o_isN, ↓o_ixL, ↓o_ixT, ↓f_lenL, ↓f_lenT, ↓f_tupL, ↓f_tupT, ↓f_listL, ↓f_listT, ↓f_min2, ↓f_max2, ↓f_reprB, ↓w_sl, ↓w_slA, ↓w_slB, ↓w_slC, ↓o_slL, ↓o_slT, ↓o_slF, ↓o_slLL, ↓o_slLF, ↓wi_zip, ↓wi_ok, ↓src_lst, ↓src_ref, ↓zip_tt, ↓zip_ll, ↓zip_rl, ↓zip_lr, ↓w_isi, ↓o_inL, ↓o_inT, ↓dr_eq, ↓dr_ne, ↓dp_ref, ↓dp_lst, ↓dp_tup, ↓dp_frg, ↓dp_int, ↓dp_bl, ↓dp_str, ↓dp_non, ↓dp_dW, ↓dp_dP, ↓dp_dT, ↓dp_dWs, ↓dp_dTs, ↓dr_in, ↓dr_add, ↓dr_cat, ↓dr_b1, ↓dr_sl, ↓w_isiD, ↓f_sort, ↓w_rev, ↓w_appR, ↓w_refA, ↓w_listR1, ↓o_cmpD, ↓dr_cmpD, ↓w_revA, ↓o_repT, ↓f_reprD, ↓w_dct0, ↓w_dct1, ↓dr_dget, ↓o_dget, ↓dr_inK, ↓o_inK, ↓o_getD, ↓w_dget2, ↓m_putD, ↓wi_keys, ↓f_listK, ↓f_sortK, ↓m_pop, ↓m_pop0, ↓m_insL, ↓m_ins, ↓m_refP, ↓w_clrR, ↓dp_dct, ↓w_chain3, ↓w_join, ↓w_fJoin, ↓w_split, ↓o_inS, ↓dr_inS, ↓wi_str, ↓w_fmt, ↓w_jsN, ↓w_jsC, ↓f_strI, ↓f_intI, ↓f_intB, ↓f_intS, ↓f_lenS, ↓o_ixS, Option.bind_some, Option.bind_none, Option.some.injEq, exists_eq_left', List.map_cons, List.map_nil, if_true, if_false, reduceIte, reduceCtorEq, Nat.reduceEqDiff, List.length_cons, List.length_nil, atI_0, decide_eq_true_eq, decide_eq_false_iff_not, true_and, and_true, false_and, and_false, not_true, not_false_iff, false_implies, true_implies, der_ref, der_lst, der_tup, der_frg, der_int, der_bl, der_str, der_non, der_dW, der_dP, der_dT, der_dWs, der_dTs, der_dct, isDK_d, kOf_int, kOf_str, kD_int, forall_const, not_true_eq_false, not_false_eq_true, exists_eq_left, exists_eq_right, Bool.not_eq_true', Bool.not_eq_false', List.mem_cons, List.not_mem_nil, or_false, false_or, Nat.reduceAdd, Nat.zero_add, List.set_cons_zero, List.set_cons_succ, all_shW, all_shT, all_shP, all_shI], by simp; omega, ?_⟩ ?_ ?_
  · intro i j x hi hj
    rw [List.getElem?_map] at hi hj
    cases z1 : (List.range m.toNat)[i]? with
    | none => rw [z1] at hi; cases hi
    | some a =>
      cases z2 : (List.range m.toNat)[j]? with
      | none => rw [z2] at hj; cases hj
      | some b =>
        rw [z1] at hi; rw [z2] at hj
        have ha := (List.getElem?_eq_some_iff.mp z1)
        have hb := (List.getElem?_eq_some_iff.mp z2)
        obtain ⟨_, ha⟩ := ha
        obtain ⟨_, hb⟩ := hb
        rw [List.getElem_range] at ha hb
        simp only [Option.map_some, Option.some.injEq] at hi hj
        have : i = j := by omega
        subst this
        exact .refl _
  · rintro done p rest r s e ⟨rfl, G, r2, hl, hc⟩
    have hb := hw.bd p (by rw [e]; simp)
    have na := hw.apart e
    obtain ⟨p1, p2⟩ := p
    simp only at hb na
    obtain ⟨a, rfl⟩ := Int.eq_ofNat_of_zero_le hb.1
    obtain ⟨b, rfl⟩ := Int.eq_ofNat_of_zero_le (show 0 ≤ p2 by omega)
    have ha : a < G.length := by omega
    have hb2 : b < G.length := by omega
    have ea : atI (G.map D.int) (a : Int) = some (.int G[a]) := by rw [atI_map, atI_nat' (List.getElem?_eq_getElem ha)]; rfl
    have eb : atI (G.map D.int) (b : Int) = some (.int G[b]) := by rw [atI_map, atI_nat' (List.getElem?_eq_getElem hb2)]; rfl
    have ga := List.getElem?_eq_getElem ha
    have gb := List.getElem?_eq_getElem hb2
    generalize G[a] = x at ea ga
    generalize G[b] = y at eb gb
    simp only [dP]
    try simp (implicitDefEqProofs := false) only [↓w_ok, ↓w_err, ↓w_bad, ↓wl_ok, ↓w_bind, ↓w_bindL, ↓wl_bind, ↓wl_bindL, ↓w_nx, ↓w_rt, ↓w_bk, ↓w_ct, ↓w_er, ↓w_bd, ↓w_sq, ↓w_of, ↓w_sIf, ↓w_and, ↓w_or, ↓w_bIf, ↓w_mk, ↓w_call, ↓w_tup, ↓w_lst, ↓wl_cons, ↓wl_nil, ↓w_bin, ↓w_not, ↓w_neg, ↓w_chain, ↓w_c, ↓w_set, ↓w_own, ↓w_ex, ↓w_ret, ↓w_retN, ↓w_skip, ↓w_raise, ↓w_to, ↓w_putR, ↓w_ref, ↓w_for, ↓w_lc, ↓wi_seq, ↓wi_r1, ↓wi_r2, ↓wi_enum, ↓m_var, ↓m_peek, ↓m_retOwn, ↓m_fix, ↓m_app, ↓m_ext, ↓m_putL, ↓m_put, ↓m_putR, ↓m_ixR, ↓env_set, ↓env_0, ↓env_s, ↓env_n, ↓env_wp, ↓t_n, ↓t_u, ↓t_0, ↓t_s, ↓bX_bl, ↓o_add, ↓o_addT, ↓o_addL, ↓o_addS, ↓o_cat, ↓o_sub, ↓o_mul, ↓o_mod, ↓o_fdiv, ↓o_pow, ↓o_eq, ↓o_ne, ↓o_ic, ↓o_isN, ↓o_ixL, ↓o_ixT, ↓f_lenL, ↓f_lenT, ↓f_tupL, ↓f_tupT, ↓f_listL, ↓f_listT, ↓f_min2, ↓f_max2, ↓f_reprB, ↓w_sl, ↓w_slA, ↓w_slB, ↓w_slC, ↓o_slL, ↓o_slT, ↓o_slF, ↓o_slLL, ↓o_slLF, ↓wi_zip, ↓wi_ok, ↓src_lst, ↓src_ref, ↓zip_tt, ↓zip_ll, ↓zip_rl, ↓zip_lr, ↓w_isi, ↓o_inL, ↓o_inT, ↓dr_eq, ↓dr_ne, ↓dp_ref, ↓dp_lst, ↓dp_tup, ↓dp_frg, ↓dp_int, ↓dp_bl, ↓dp_str, ↓dp_non, ↓dp_dW, ↓dp_dP, ↓dp_dT, ↓dp_dWs, ↓dp_dTs, ↓dr_in, ↓dr_add, ↓dr_cat, ↓dr_b1, ↓dr_sl, ↓w_isiD, ↓f_sort, ↓w_rev, ↓w_appR, ↓w_refA, ↓w_listR1, ↓o_cmpD, ↓dr_cmpD, ↓w_revA, ↓o_repT, ↓f_reprD, ↓w_dct0, ↓w_dct1, ↓dr_dget, ↓o_dget, ↓dr_inK, ↓o_inK, ↓o_getD, ↓w_dget2, ↓m_putD, ↓wi_keys, ↓f_listK, ↓f_sortK, ↓m_pop, ↓m_pop0, ↓m_insL, ↓m_ins, ↓m_refP, ↓w_clrR, ↓dp_dct, ↓w_chain3, ↓w_join, ↓w_fJoin, ↓w_split, ↓o_inS, ↓dr_inS, ↓wi_str, ↓w_fmt, ↓w_jsN, ↓w_jsC, ↓f_strI, ↓f_intI, ↓f_intB, ↓f_intS, ↓f_lenS, ↓o_ixS, Option.bind_some, Option.bind_none, Option.some.injEq, exists_eq_left', List.map_cons, List.map_nil, if_true, if_false, reduceIte, reduceCtorEq, Nat.reduceEqDiff, List.length_cons, List.length_nil, atI_0, decide_eq_true_eq, decide_eq_false_iff_not, true_and, and_true, false_and, and_false, not_true, not_false_iff, false_implies, true_implies, der_ref, der_lst, der_tup, der_frg, der_int, der_bl, der_str, der_non, der_dW, der_dP, der_dT, der_dWs, der_dTs, der_dct, isDK_d, kOf_int, kOf_str, kD_int, forall_const, not_true_eq_false, not_false_eq_true, exists_eq_left, exists_eq_right, Bool.not_eq_true', Bool.not_eq_false', List.mem_cons, List.not_mem_nil, or_false, false_or, Nat.reduceAdd, Nat.zero_add, List.set_cons_zero, List.set_cons_succ, all_shW, all_shT, all_shP, all_shI, r2, ea, eb, ↓eqv_int, ↓shp_int]
    refine ⟨fun z => absurd (hc a b x ga (by rw [gb, z])) na, fun z => ?_⟩
    refine lc_pure (enc := D.int) (fun _ => true) (fun g => .int (if g = y then x else g)) ?_ (by simp only [LIM]; omega) ?_
    · intro g hg
      try simp (implicitDefEqProofs := false) only [↓w_ok, ↓w_err, ↓w_bad, ↓wl_ok, ↓w_bind, ↓w_bindL, ↓wl_bind, ↓wl_bindL, ↓w_nx, ↓w_rt, ↓w_bk, ↓w_ct, ↓w_er, ↓w_bd, ↓w_sq, ↓w_of, ↓w_sIf, ↓w_and, ↓w_or, ↓w_bIf, ↓w_mk, ↓w_call, ↓w_tup, ↓w_lst, ↓wl_cons, ↓wl_nil, ↓w_bin, ↓w_not, ↓w_neg, ↓w_chain, ↓w_c, ↓w_set, ↓w_own, ↓w_ex, ↓w_ret, ↓w_retN, ↓w_skip, ↓w_raise, ↓w_to, ↓w_putR, ↓w_ref, ↓w_for, ↓w_lc, ↓wi_seq, ↓wi_r1, ↓wi_r2, ↓wi_enum, ↓m_var, ↓m_peek, ↓m_retOwn, ↓m_fix, ↓m_app, ↓m_ext, ↓m_putL, ↓m_put, ↓m_putR, ↓m_ixR, ↓env_set, ↓env_0, ↓env_s, ↓env_n, ↓env_wp, ↓t_n, ↓t_u, ↓t_0, ↓t_s, ↓bX_bl, ↓o_add, ↓o_addT, ↓o_addL, ↓o_addS, ↓o_cat, ↓o_sub, ↓o_mul, ↓o_mod, ↓o_fdiv, ↓o_pow, ↓o_eq, ↓o_ne, ↓o_ic, ↓o_isN, ↓o_ixL, ↓o_ixT, ↓f_lenL, ↓f_lenT, ↓f_tupL, ↓f_tupT, ↓f_listL, ↓f_listT, ↓f_min2, ↓f_max2, ↓f_reprB, ↓w_sl, ↓w_slA, ↓w_slB, ↓w_slC, ↓o_slL, ↓o_slT, ↓o_slF, ↓o_slLL, ↓o_slLF, ↓wi_zip, ↓wi_ok, ↓src_lst, ↓src_ref, ↓zip_tt, ↓zip_ll, ↓zip_rl, ↓zip_lr, ↓w_isi, ↓o_inL, ↓o_inT, ↓dr_eq, ↓dr_ne, ↓dp_ref, ↓dp_lst, ↓dp_tup, ↓dp_frg, ↓dp_int, ↓dp_bl, ↓dp_str, ↓dp_non, ↓dp_dW, ↓dp_dP, ↓dp_dT, ↓dp_dWs, ↓dp_dTs, ↓dr_in, ↓dr_add, ↓dr_cat, ↓dr_b1, ↓dr_sl, ↓w_isiD, ↓f_sort, ↓w_rev, ↓w_appR, ↓w_refA, ↓w_listR1, ↓o_cmpD, ↓dr_cmpD, ↓w_revA, ↓o_repT, ↓f_reprD, ↓w_dct0, ↓w_dct1, ↓dr_dget, ↓o_dget, ↓dr_inK, ↓o_inK, ↓o_getD, ↓w_dget2, ↓m_putD, ↓wi_keys, ↓f_listK, ↓f_sortK, ↓m_pop, ↓m_pop0, ↓m_insL, ↓m_ins, ↓m_refP, ↓w_clrR, ↓dp_dct, ↓w_chain3, ↓w_join, ↓w_fJoin, ↓w_split, ↓o_inS, ↓dr_inS, ↓wi_str, ↓w_fmt, ↓w_jsN, ↓w_jsC, ↓f_strI, ↓f_intI, ↓f_intB, ↓f_intS, ↓f_lenS, ↓o_ixS, Option.bind_some, Option.bind_none, Option.some.injEq, exists_eq_left', List.map_cons, List.map_nil, if_true, if_false, reduceIte, reduceCtorEq, Nat.reduceEqDiff, List.length_cons, List.length_nil, atI_0, decide_eq_true_eq, decide_eq_false_iff_not, true_and, and_true, false_and, and_false, not_true, not_false_iff, false_implies, true_implies, der_ref, der_lst, der_tup, der_frg, der_int, der_bl, der_str, der_non, der_dW, der_dP, der_dT, der_dWs, der_dTs, der_dct, isDK_d, kOf_int, kOf_str, kD_int, forall_const, not_true_eq_false, not_false_eq_true, exists_eq_left, exists_eq_right, Bool.not_eq_true', Bool.not_eq_false', List.mem_cons, List.not_mem_nil, or_false, false_or, Nat.reduceAdd, Nat.zero_add, List.set_cons_zero, List.set_cons_succ, all_shW, all_shT, all_shP, all_shI, r2, ea, eb, ↓eqv_int, ↓shp_int]
      exact ⟨fun z => by rw [if_pos z], fun z => by rw [if_neg z]⟩
    rw [filt_t, show (G.map fun g => D.int (if g = y then x else g)) = (G.map fun g => if g = y then x else g).map D.int by rw [List.map_map]; rfl]
    try simp (implicitDefEqProofs := false) only [↓w_ok, ↓w_err, ↓w_bad, ↓wl_ok, ↓w_bind, ↓w_bindL, ↓wl_bind, ↓wl_bindL, ↓w_nx, ↓w_rt, ↓w_bk, ↓w_ct, ↓w_er, ↓w_bd, ↓w_sq, ↓w_of, ↓w_sIf, ↓w_and, ↓w_or, ↓w_bIf, ↓w_mk, ↓w_call, ↓w_tup, ↓w_lst, ↓wl_cons, ↓wl_nil, ↓w_bin, ↓w_not, ↓w_neg, ↓w_chain, ↓w_c, ↓w_set, ↓w_own, ↓w_ex, ↓w_ret, ↓w_retN, ↓w_skip, ↓w_raise, ↓w_to, ↓w_putR, ↓w_ref, ↓w_for, ↓w_lc, ↓wi_seq, ↓wi_r1, ↓wi_r2, ↓wi_enum, ↓m_var, ↓m_peek, ↓m_retOwn, ↓m_fix, ↓m_app, ↓m_ext, ↓m_putL, ↓m_put, ↓m_putR, ↓m_ixR, ↓env_set, ↓env_0, ↓env_s, ↓env_n, ↓env_wp, ↓t_n, ↓t_u, ↓t_0, ↓t_s, ↓bX_bl, ↓o_add, ↓o_addT, ↓o_addL, ↓o_addS, ↓o_cat, ↓o_sub, ↓o_mul, ↓o_mod, ↓o_fdiv, ↓o_pow, ↓o_eq, ↓o_ne, ↓o_ic, ↓o_isN, ↓o_ixL, ↓o_ixT, ↓f_lenL, ↓f_lenT, ↓f_tupL, ↓f_tupT, ↓f_listL, ↓f_listT, ↓f_min2, ↓f_max2, ↓f_reprB, ↓w_sl, ↓w_slA, ↓w_slB, ↓w_slC, ↓o_slL, ↓o_slT, ↓o_slF, ↓o_slLL, ↓o_slLF, ↓wi_zip, ↓wi_ok, ↓src_lst, ↓src_ref, ↓zip_tt, ↓zip_ll, ↓zip_rl, ↓zip_lr, ↓w_isi, ↓o_inL, ↓o_inT, ↓dr_eq, ↓dr_ne, ↓dp_ref, ↓dp_lst, ↓dp_tup, ↓dp_frg, ↓dp_int, ↓dp_bl, ↓dp_str, ↓dp_non, ↓dp_dW, ↓dp_dP, ↓dp_dT, ↓dp_dWs, ↓dp_dTs, ↓dr_in, ↓dr_add, ↓dr_cat, ↓dr_b1, ↓dr_sl, ↓w_isiD, ↓f_sort, ↓w_rev, ↓w_appR, ↓w_refA, ↓w_listR1, ↓o_cmpD, ↓dr_cmpD, ↓w_revA, ↓o_repT, ↓f_reprD, ↓w_dct0, ↓w_dct1, ↓dr_dget, ↓o_dget, ↓dr_inK, ↓o_inK, ↓o_getD, ↓w_dget2, ↓m_putD, ↓wi_keys, ↓f_listK, ↓f_sortK, ↓m_pop, ↓m_pop0, ↓m_insL, ↓m_ins, ↓m_refP, ↓w_clrR, ↓dp_dct, ↓w_chain3, ↓w_join, ↓w_fJoin, ↓w_split, ↓o_inS, ↓dr_inS, ↓wi_str, ↓w_fmt, ↓w_jsN, ↓w_jsC, ↓f_strI, ↓f_intI, ↓f_intB, ↓f_intS, ↓f_lenS, ↓o_ixS, Option.bind_some, Option.bind_none, Option.some.injEq, exists_eq_left', List.map_cons, List.map_nil, if_true, if_false, reduceIte, reduceCtorEq, Nat.reduceEqDiff, List.length_cons, List.length_nil, atI_0, decide_eq_true_eq, decide_eq_false_iff_not, true_and, and_true, false_and, and_false, not_true, not_false_iff, false_implies, true_implies, der_ref, der_lst, der_tup, der_frg, der_int, der_bl, der_str, der_non, der_dW, der_dP, der_dT, der_dWs, der_dTs, der_dct, isDK_d, kOf_int, kOf_str, kD_int, forall_const, not_true_eq_false, not_false_eq_true, exists_eq_left, exists_eq_right, Bool.not_eq_true', Bool.not_eq_false', List.mem_cons, List.not_mem_nil, or_false, false_or, Nat.reduceAdd, Nat.zero_add, List.set_cons_zero, List.set_cons_succ, all_shW, all_shT, all_shP, all_shI]
    refine ⟨_, rfl, by rw [List.length_map]; exact hl, fun i j w hi hj => ?_⟩
    rw [List.getElem?_map] at hi hj
    have mono : ∀ {u v : Int}, Cn done u v → Cn (done ++ [((a : Int), (b : Int))]) u v := fun h => h.mono fun q hq => List.mem_append_left _ hq
    have edge : Cn (done ++ [((a : Int), (b : Int))]) a b := .step (.refl _) (.inl (by simp))
    cases z1 : G[i]? with
    | none => rw [z1] at hi; cases hi
    | some u =>
      cases z2 : G[j]? with
      | none => rw [z2] at hj; cases hj
      | some v =>
        rw [z1] at hi; rw [z2] at hj
        simp only [Option.map_some, Option.some.injEq] at hi hj
        by_cases c1 : u = y <;> by_cases c2 : v = y
        · subst c1
          exact mono (hc i j u z1 (by rw [z2, c2]))
        · rw [if_pos c1] at hi
          rw [if_neg c2] at hj
          subst c1
          have h1 := mono (hc i b u z1 gb)
          have h2 := mono (hc a j x ga (by rw [z2, hj, hi]))
          exact (h1.trans edge.symm).trans h2
        · rw [if_neg c1] at hi
          rw [if_pos c2] at hj
          subst c2
          have h1 := mono (hc j b v z2 gb)
          have h2 := mono (hc a i x ga (by rw [z1, hi, hj]))
          exact ((h1.trans edge.symm).trans h2).symm
        · rw [if_neg c1] at hi
          rw [if_neg c2] at hj
          exact mono (hc i j u z1 (by rw [z2, hj, hi]))
  · rintro r s ⟨rfl, _⟩
    try simp (implicitDefEqProofs := false) only [↓w_ok, ↓w_err, ↓w_bad, ↓wl_ok, ↓w_bind, ↓w_bindL, ↓wl_bind, ↓wl_bindL, ↓w_nx, ↓w_rt, ↓w_bk, ↓w_ct, ↓w_er, ↓w_bd, ↓w_sq, ↓w_of, ↓w_sIf, ↓w_and, ↓w_or, ↓w_bIf, ↓w_mk, ↓w_call, ↓w_tup, ↓w_lst, ↓wl_cons, ↓wl_nil, ↓w_bin, ↓w_not, ↓w_neg, ↓w_chain, ↓w_c, ↓w_set, ↓w_own, ↓w_ex, ↓w_ret, ↓w_retN, ↓w_skip, ↓w_raise, ↓w_to, ↓w_putR, ↓w_ref, ↓w_for, ↓w_lc, ↓wi_seq, ↓wi_r1, ↓wi_r2, ↓wi_enum, ↓m_var, ↓m_peek, ↓m_retOwn, ↓m_fix, ↓m_app, ↓m_ext, ↓m_putL, ↓m_put, ↓m_putR, ↓m_ixR, ↓env_set, ↓env_0, ↓env_s, ↓env_n, ↓env_wp, ↓t_n, ↓t_u, ↓t_0, ↓t_s, ↓bX_bl, ↓o_add, ↓o_addT, ↓o_addL, ↓o_addS, ↓o_cat, ↓o_sub, ↓o_mul, ↓o_mod, ↓o_fdiv, ↓o_pow, ↓o_eq, ↓o_ne, ↓o_ic, ↓o_isN, ↓o_ixL, ↓o_ixT, ↓f_lenL, ↓f_lenT, ↓f_tupL, ↓f_tupT, ↓f_listL, ↓f_listT, ↓f_min2, ↓f_max2, ↓f_reprB, ↓w_sl, ↓w_slA, ↓w_slB, ↓w_slC, ↓o_slL, ↓o_slT, ↓o_slF, ↓o_slLL, ↓o_slLF, ↓wi_zip, ↓wi_ok, ↓src_lst, ↓src_ref, ↓zip_tt, ↓zip_ll, ↓zip_rl, ↓zip_lr, ↓w_isi, ↓o_inL, ↓o_inT, ↓dr_eq, ↓dr_ne, ↓dp_ref, ↓dp_lst, ↓dp_tup, ↓dp_frg, ↓dp_int, ↓dp_bl, ↓dp_str, ↓dp_non, ↓dp_dW, ↓dp_dP, ↓dp_dT, ↓dp_dWs, ↓dp_dTs, ↓dr_in, ↓dr_add, ↓dr_cat, ↓dr_b1, ↓dr_sl, ↓w_isiD, ↓f_sort, ↓w_rev, ↓w_appR, ↓w_refA, ↓w_listR1, ↓o_cmpD, ↓dr_cmpD, ↓w_revA, ↓o_repT, ↓f_reprD, ↓w_dct0, ↓w_dct1, ↓dr_dget, ↓o_dget, ↓dr_inK, ↓o_inK, ↓o_getD, ↓w_dget2, ↓m_putD, ↓wi_keys, ↓f_listK, ↓f_sortK, ↓m_pop, ↓m_pop0, ↓m_insL, ↓m_ins, ↓m_refP, ↓w_clrR, ↓dp_dct, ↓w_chain3, ↓w_join, ↓w_fJoin, ↓w_split, ↓o_inS, ↓dr_inS, ↓wi_str, ↓w_fmt, ↓w_jsN, ↓w_jsC, ↓f_strI, ↓f_intI, ↓f_intB, ↓f_intS, ↓f_lenS, ↓o_ixS, Option.bind_some, Option.bind_none, Option.some.injEq, exists_eq_left', List.map_cons, List.map_nil, if_true, if_false, reduceIte, reduceCtorEq, Nat.reduceEqDiff, List.length_cons, List.length_nil, atI_0, decide_eq_true_eq, decide_eq_false_iff_not, true_and, and_true, false_and, and_false, not_true, not_false_iff, false_implies, true_implies, der_ref, der_lst, der_tup, der_frg, der_int, der_bl, der_str, der_non, der_dW, der_dP, der_dT, der_dWs, der_dTs, der_dct, isDK_d, kOf_int, kOf_str, kD_int, forall_const, not_true_eq_false, not_false_eq_true, exists_eq_left, exists_eq_right, Bool.not_eq_true', Bool.not_eq_false', List.mem_cons, List.not_mem_nil, or_false, false_or, Nat.reduceAdd, Nat.zero_add, List.set_cons_zero, List.set_cons_succ, all_shW, all_shT, all_shP, all_shI]
    exact h
theorem lt_of_ltP {a b : Int × Int} (h : ltE kP a b) : fLt (dP a).py (dP b).py = true := by
  cases z : fLt (dP a).py (dP b).py with
  | true => rfl
  | false =>
    have : leE kP b a = true := by
      show (!PySem.W.dataLt (dP a).py (dP b).py) = true
      have z' : PySem.W.dataLt (dP a).py (dP b).py = false := z
      rw [z']
      rfl
    exact absurd (leE_anti okP h.1 this) h.2
theorem pw_zip {α : Type} {R : α → α → Prop} : ∀ {P : List α}, P.Pairwise R → ∀ q ∈ P.zip P.tail, R q.1 q.2
  | [], _, q, h => by simp at h
  | [a], _, q, h => by simp at h
  | a :: b :: r, hp, q, h => by
    simp only [List.tail_cons, List.zip_cons_cons, List.mem_cons] at h
    rcases h with rfl | h
    · exact (List.pairwise_cons.mp hp).1 b (by simp)
    · exact pw_zip (List.pairwise_cons.mp hp).2 q h
theorem cut_one {α : Type} {f : α → D} {xs : List α} : cut (xs.map f) (some 1) none = (xs.tail).map f := by
  rw [cut_map]
  congr 1
  cases xs with
  | nil => rfl
  | cons a xs =>
    have := cut_from (xs := a :: xs) (i := 1) (by decide) (by simp; omega)
    rw [this]; rfl
theorem count_true {i lo hi : Int} {st : Sto} {Q : D → Sto → Prop} {E} (h1 : lo ≤ i) (h2 : i ≤ hi) (h : Q (.bl true) st) : RsP (m_is_count [.int i, .int lo, .int hi] st) Q E := by
  unfold m_is_count
  try simp (implicitDefEqProofs := false) only [↓w_ok, ↓w_err, ↓w_bad, ↓wl_ok, ↓w_bind, ↓w_bindL, ↓wl_bind, ↓wl_bindL, ↓w_nx, ↓w_rt, ↓w_bk, ↓w_ct, ↓w_er, ↓w_bd, ↓w_sq, ↓w_of, ↓w_sIf, ↓w_and, ↓w_or, ↓w_bIf, ↓w_mk, ↓w_call, ↓w_tup, ↓w_lst, ↓wl_cons, ↓wl_nil, ↓w_bin, ↓w_not, ↓w_neg, ↓w_chain, ↓w_c, ↓w_set, ↓w_own, ↓w_ex, ↓w_ret, ↓w_retN, ↓w_skip, ↓w_raise, ↓w_to, ↓w_putR, ↓w_ref, ↓w_for, ↓w_lc, ↓wi_seq, ↓wi_r1, ↓wi_r2, ↓wi_enum, ↓m_var, ↓m_peek, ↓m_retOwn, ↓m_fix, ↓m_app, ↓m_ext, ↓m_putL, ↓m_put, ↓m_putR, ↓m_ixR, ↓env_set, ↓env_0, ↓env_s, ↓env_n, ↓env_wp, ↓t_n, ↓t_u, ↓t_0, ↓t_s, ↓bX_bl, ↓o_add, ↓o_addT, ↓o_addL, ↓o_addS, ↓o_cat, ↓o_sub, ↓o_mul, ↓o_mod, ↓o_fdiv, ↓o_pow, ↓o_eq, ↓o_ne, ↓o_ic, ↓o_isN, ↓o_ixL, ↓o_ixT, ↓f_lenL, ↓f_lenT, ↓f_tupL, ↓f_tupT, ↓f_listL, ↓f_listT, ↓f_min2, ↓f_max2, ↓f_reprB, ↓w_sl, ↓w_slA, ↓w_slB, ↓w_slC, ↓o_slL, ↓o_slT, ↓o_slF, ↓o_slLL, ↓o_slLF, ↓wi_zip, ↓wi_ok, ↓src_lst, ↓src_ref, ↓zip_tt, ↓zip_ll, ↓zip_rl, ↓zip_lr, ↓w_isi, ↓o_inL, ↓o_inT, ↓dr_eq, ↓dr_ne, ↓dp_ref, ↓dp_lst, ↓dp_tup, ↓dp_frg, ↓dp_int, ↓dp_bl, ↓dp_str, ↓dp_non, ↓dp_dW, ↓dp_dP, ↓dp_dT, ↓dp_dWs, ↓dp_dTs, ↓dr_in, ↓dr_add, ↓dr_cat, ↓dr_b1, ↓dr_sl, ↓w_isiD, ↓f_sort, ↓w_rev, ↓w_appR, ↓w_refA, ↓w_listR1, ↓o_cmpD, ↓dr_cmpD, ↓w_revA, ↓o_repT, ↓f_reprD, ↓w_dct0, ↓w_dct1, ↓dr_dget, ↓o_dget, ↓dr_inK, ↓o_inK, ↓o_getD, ↓w_dget2, ↓m_putD, ↓wi_keys, ↓f_listK, ↓f_sortK, ↓m_pop, ↓m_pop0, ↓m_insL, ↓m_ins, ↓m_refP, ↓w_clrR, ↓dp_dct, ↓w_chain3, ↓w_join, ↓w_fJoin, ↓w_split, ↓o_inS, ↓dr_inS, ↓wi_str, ↓w_fmt, ↓w_jsN, ↓w_jsC, ↓f_strI, ↓f_intI, ↓f_intB, ↓f_intS, ↓f_lenS, ↓o_ixS, Option.bind_some, Option.bind_none, Option.some.injEq, exists_eq_left', List.map_cons, List.map_nil, if_true, if_false, reduceIte, reduceCtorEq, Nat.reduceEqDiff, List.length_cons, List.length_nil, atI_0, decide_eq_true_eq, decide_eq_false_iff_not, true_and, and_true, false_and, and_false, not_true, not_false_iff, false_implies, true_implies, der_ref, der_lst, der_tup, der_frg, der_int, der_bl, der_str, der_non, der_dW, der_dP, der_dT, der_dWs, der_dTs, der_dct, isDK_d, kOf_int, kOf_str, kD_int, forall_const, not_true_eq_false, not_false_eq_true, exists_eq_left, exists_eq_right, Bool.not_eq_true', Bool.not_eq_false', List.mem_cons, List.not_mem_nil, or_false, false_or, Nat.reduceAdd, Nat.zero_add, List.set_cons_zero, List.set_cons_succ, all_shW, all_shT, all_shP, all_shI, tn_ni, tn_nb, tn_ns, tn_nt, tn_nl, tn_nd, tn_bi, tn_bb, tn_bs, tn_bt, tn_bl, tn_bd, tn_ii, tn_ib, tn_is, tn_it, tn_il, tn_id, tn_si, tn_sb, tn_ss, tn_st, tn_sl, tn_sd, tn_ti, tn_tb, tn_ts, tn_tt, tn_tl, tn_td, tn_li, tn_lb, tn_ls, tn_lt, tn_ll, tn_ld, tyN, Bool.not_false, Bool.not_true, Bool.true_eq_false, Bool.false_eq_true]
  exact ⟨fun _ => by rw [decide_eq_true h2]; exact h, fun z => absurd h1 z⟩
theorem road_true {m : Int} {p : Int × Int} {st : Sto} {Q : D → Sto → Prop} {E} (hb : 0 ≤ p.1 ∧ p.1 < p.2 ∧ p.2 < m) (h : Q (.bl true) st) : RsP (m_is_road [.int m, dP p] st) Q E := by
  unfold m_is_road dP
  try simp (implicitDefEqProofs := false) only [↓w_ok, ↓w_err, ↓w_bad, ↓wl_ok, ↓w_bind, ↓w_bindL, ↓wl_bind, ↓wl_bindL, ↓w_nx, ↓w_rt, ↓w_bk, ↓w_ct, ↓w_er, ↓w_bd, ↓w_sq, ↓w_of, ↓w_sIf, ↓w_and, ↓w_or, ↓w_bIf, ↓w_mk, ↓w_call, ↓w_tup, ↓w_lst, ↓wl_cons, ↓wl_nil, ↓w_bin, ↓w_not, ↓w_neg, ↓w_chain, ↓w_c, ↓w_set, ↓w_own, ↓w_ex, ↓w_ret, ↓w_retN, ↓w_skip, ↓w_raise, ↓w_to, ↓w_putR, ↓w_ref, ↓w_for, ↓w_lc, ↓wi_seq, ↓wi_r1, ↓wi_r2, ↓wi_enum, ↓m_var, ↓m_peek, ↓m_retOwn, ↓m_fix, ↓m_app, ↓m_ext, ↓m_putL, ↓m_put, ↓m_putR, ↓m_ixR, ↓env_set, ↓env_0, ↓env_s, ↓env_n, ↓env_wp, ↓t_n, ↓t_u, ↓t_0, ↓t_s, ↓bX_bl, ↓o_add, ↓o_addT, ↓o_addL, ↓o_addS, ↓o_cat, ↓o_sub, ↓o_mul, ↓o_mod, ↓o_fdiv, ↓o_pow, ↓o_eq, ↓o_ne, ↓o_ic, ↓o_isN, ↓o_ixL, ↓o_ixT, ↓f_lenL, ↓f_lenT, ↓f_tupL, ↓f_tupT, ↓f_listL, ↓f_listT, ↓f_min2, ↓f_max2, ↓f_reprB, ↓w_sl, ↓w_slA, ↓w_slB, ↓w_slC, ↓o_slL, ↓o_slT, ↓o_slF, ↓o_slLL, ↓o_slLF, ↓wi_zip, ↓wi_ok, ↓src_lst, ↓src_ref, ↓zip_tt, ↓zip_ll, ↓zip_rl, ↓zip_lr, ↓w_isi, ↓o_inL, ↓o_inT, ↓dr_eq, ↓dr_ne, ↓dp_ref, ↓dp_lst, ↓dp_tup, ↓dp_frg, ↓dp_int, ↓dp_bl, ↓dp_str, ↓dp_non, ↓dp_dW, ↓dp_dP, ↓dp_dT, ↓dp_dWs, ↓dp_dTs, ↓dr_in, ↓dr_add, ↓dr_cat, ↓dr_b1, ↓dr_sl, ↓w_isiD, ↓f_sort, ↓w_rev, ↓w_appR, ↓w_refA, ↓w_listR1, ↓o_cmpD, ↓dr_cmpD, ↓w_revA, ↓o_repT, ↓f_reprD, ↓w_dct0, ↓w_dct1, ↓dr_dget, ↓o_dget, ↓dr_inK, ↓o_inK, ↓o_getD, ↓w_dget2, ↓m_putD, ↓wi_keys, ↓f_listK, ↓f_sortK, ↓m_pop, ↓m_pop0, ↓m_insL, ↓m_ins, ↓m_refP, ↓w_clrR, ↓dp_dct, ↓w_chain3, ↓w_join, ↓w_fJoin, ↓w_split, ↓o_inS, ↓dr_inS, ↓wi_str, ↓w_fmt, ↓w_jsN, ↓w_jsC, ↓f_strI, ↓f_intI, ↓f_intB, ↓f_intS, ↓f_lenS, ↓o_ixS, Option.bind_some, Option.bind_none, Option.some.injEq, exists_eq_left', List.map_cons, List.map_nil, if_true, if_false, reduceIte, reduceCtorEq, Nat.reduceEqDiff, List.length_cons, List.length_nil, atI_0, decide_eq_true_eq, decide_eq_false_iff_not, true_and, and_true, false_and, and_false, not_true, not_false_iff, false_implies, true_implies, der_ref, der_lst, der_tup, der_frg, der_int, der_bl, der_str, der_non, der_dW, der_dP, der_dT, der_dWs, der_dTs, der_dct, isDK_d, kOf_int, kOf_str, kD_int, forall_const, not_true_eq_false, not_false_eq_true, exists_eq_left, exists_eq_right, Bool.not_eq_true', Bool.not_eq_false', List.mem_cons, List.not_mem_nil, or_false, false_or, Nat.reduceAdd, Nat.zero_add, List.set_cons_zero, List.set_cons_succ, all_shW, all_shT, all_shP, all_shI, tn_ni, tn_nb, tn_ns, tn_nt, tn_nl, tn_nd, tn_bi, tn_bb, tn_bs, tn_bt, tn_bl, tn_bd, tn_ii, tn_ib, tn_is, tn_it, tn_il, tn_id, tn_si, tn_sb, tn_ss, tn_st, tn_sl, tn_sd, tn_ti, tn_tb, tn_ts, tn_tt, tn_tl, tn_td, tn_li, tn_lb, tn_ls, tn_lt, tn_ll, tn_ld, tyN, Bool.not_false, Bool.not_true, Bool.true_eq_false, Bool.false_eq_true, ↓eqv_int, ↓shp_int]
  refine ⟨fun z => absurd rfl z, fun _ => ?_⟩
  rw [show [D.int p.1, .int p.2] = [p.1, p.2].map D.int from rfl]
  refine lc_pure (enc := D.int) (fun _ => true) (fun _ => .bl true) ?_ (by show 2 ≤ LIM; decide) ?_
  · intro k hk
    simp only [List.mem_cons, List.not_mem_nil, or_false] at hk
    try simp (implicitDefEqProofs := false) only [↓w_ok, ↓w_err, ↓w_bad, ↓wl_ok, ↓w_bind, ↓w_bindL, ↓wl_bind, ↓wl_bindL, ↓w_nx, ↓w_rt, ↓w_bk, ↓w_ct, ↓w_er, ↓w_bd, ↓w_sq, ↓w_of, ↓w_sIf, ↓w_and, ↓w_or, ↓w_bIf, ↓w_mk, ↓w_call, ↓w_tup, ↓w_lst, ↓wl_cons, ↓wl_nil, ↓w_bin, ↓w_not, ↓w_neg, ↓w_chain, ↓w_c, ↓w_set, ↓w_own, ↓w_ex, ↓w_ret, ↓w_retN, ↓w_skip, ↓w_raise, ↓w_to, ↓w_putR, ↓w_ref, ↓w_for, ↓w_lc, ↓wi_seq, ↓wi_r1, ↓wi_r2, ↓wi_enum, ↓m_var, ↓m_peek, ↓m_retOwn, ↓m_fix, ↓m_app, ↓m_ext, ↓m_putL, ↓m_put, ↓m_putR, ↓m_ixR, ↓env_set, ↓env_0, ↓env_s, ↓env_n, ↓env_wp, ↓t_n, ↓t_u, ↓t_0, ↓t_s, ↓bX_bl, ↓o_add, ↓o_addT, ↓o_addL, ↓o_addS, ↓o_cat, ↓o_sub, ↓o_mul, ↓o_mod, ↓o_fdiv, ↓o_pow, ↓o_eq, ↓o_ne, ↓o_ic, ↓o_isN, ↓o_ixL, ↓o_ixT, ↓f_lenL, ↓f_lenT, ↓f_tupL, ↓f_tupT, ↓f_listL, ↓f_listT, ↓f_min2, ↓f_max2, ↓f_reprB, ↓w_sl, ↓w_slA, ↓w_slB, ↓w_slC, ↓o_slL, ↓o_slT, ↓o_slF, ↓o_slLL, ↓o_slLF, ↓wi_zip, ↓wi_ok, ↓src_lst, ↓src_ref, ↓zip_tt, ↓zip_ll, ↓zip_rl, ↓zip_lr, ↓w_isi, ↓o_inL, ↓o_inT, ↓dr_eq, ↓dr_ne, ↓dp_ref, ↓dp_lst, ↓dp_tup, ↓dp_frg, ↓dp_int, ↓dp_bl, ↓dp_str, ↓dp_non, ↓dp_dW, ↓dp_dP, ↓dp_dT, ↓dp_dWs, ↓dp_dTs, ↓dr_in, ↓dr_add, ↓dr_cat, ↓dr_b1, ↓dr_sl, ↓w_isiD, ↓f_sort, ↓w_rev, ↓w_appR, ↓w_refA, ↓w_listR1, ↓o_cmpD, ↓dr_cmpD, ↓w_revA, ↓o_repT, ↓f_reprD, ↓w_dct0, ↓w_dct1, ↓dr_dget, ↓o_dget, ↓dr_inK, ↓o_inK, ↓o_getD, ↓w_dget2, ↓m_putD, ↓wi_keys, ↓f_listK, ↓f_sortK, ↓m_pop, ↓m_pop0, ↓m_insL, ↓m_ins, ↓m_refP, ↓w_clrR, ↓dp_dct, ↓w_chain3, ↓w_join, ↓w_fJoin, ↓w_split, ↓o_inS, ↓dr_inS, ↓wi_str, ↓w_fmt, ↓w_jsN, ↓w_jsC, ↓f_strI, ↓f_intI, ↓f_intB, ↓f_intS, ↓f_lenS, ↓o_ixS, Option.bind_some, Option.bind_none, Option.some.injEq, exists_eq_left', List.map_cons, List.map_nil, if_true, if_false, reduceIte, reduceCtorEq, Nat.reduceEqDiff, List.length_cons, List.length_nil, atI_0, decide_eq_true_eq, decide_eq_false_iff_not, true_and, and_true, false_and, and_false, not_true, not_false_iff, false_implies, true_implies, der_ref, der_lst, der_tup, der_frg, der_int, der_bl, der_str, der_non, der_dW, der_dP, der_dT, der_dWs, der_dTs, der_dct, isDK_d, kOf_int, kOf_str, kD_int, forall_const, not_true_eq_false, not_false_eq_true, exists_eq_left, exists_eq_right, Bool.not_eq_true', Bool.not_eq_false', List.mem_cons, List.not_mem_nil, or_false, false_or, Nat.reduceAdd, Nat.zero_add, List.set_cons_zero, List.set_cons_succ, all_shW, all_shT, all_shP, all_shI]
    exact count_true (by omega) (by omega) ⟨rfl, rfl⟩
  rw [filt_t]
  have ea : ∀ (Q : D → Sto → Prop) E, RsP (fAll [.lst ([p.1, p.2].map fun _ => D.bl true)] st) Q E = Q (.bl true) st := fun Q E => by
    have := f_all (g := fun _ : Int => true) (xs := [p.1, p.2]) (st := st) (Q := Q) (E := E)
    simpa using this
  simp only [List.map_cons, List.map_nil] at ea
  try simp (implicitDefEqProofs := false) only [↓w_ok, ↓w_err, ↓w_bad, ↓wl_ok, ↓w_bind, ↓w_bindL, ↓wl_bind, ↓wl_bindL, ↓w_nx, ↓w_rt, ↓w_bk, ↓w_ct, ↓w_er, ↓w_bd, ↓w_sq, ↓w_of, ↓w_sIf, ↓w_and, ↓w_or, ↓w_bIf, ↓w_mk, ↓w_call, ↓w_tup, ↓w_lst, ↓wl_cons, ↓wl_nil, ↓w_bin, ↓w_not, ↓w_neg, ↓w_chain, ↓w_c, ↓w_set, ↓w_own, ↓w_ex, ↓w_ret, ↓w_retN, ↓w_skip, ↓w_raise, ↓w_to, ↓w_putR, ↓w_ref, ↓w_for, ↓w_lc, ↓wi_seq, ↓wi_r1, ↓wi_r2, ↓wi_enum, ↓m_var, ↓m_peek, ↓m_retOwn, ↓m_fix, ↓m_app, ↓m_ext, ↓m_putL, ↓m_put, ↓m_putR, ↓m_ixR, ↓env_set, ↓env_0, ↓env_s, ↓env_n, ↓env_wp, ↓t_n, ↓t_u, ↓t_0, ↓t_s, ↓bX_bl, ↓o_add, ↓o_addT, ↓o_addL, ↓o_addS, ↓o_cat, ↓o_sub, ↓o_mul, ↓o_mod, ↓o_fdiv, ↓o_pow, ↓o_eq, ↓o_ne, ↓o_ic, ↓o_isN, ↓o_ixL, ↓o_ixT, ↓f_lenL, ↓f_lenT, ↓f_tupL, ↓f_tupT, ↓f_listL, ↓f_listT, ↓f_min2, ↓f_max2, ↓f_reprB, ↓w_sl, ↓w_slA, ↓w_slB, ↓w_slC, ↓o_slL, ↓o_slT, ↓o_slF, ↓o_slLL, ↓o_slLF, ↓wi_zip, ↓wi_ok, ↓src_lst, ↓src_ref, ↓zip_tt, ↓zip_ll, ↓zip_rl, ↓zip_lr, ↓w_isi, ↓o_inL, ↓o_inT, ↓dr_eq, ↓dr_ne, ↓dp_ref, ↓dp_lst, ↓dp_tup, ↓dp_frg, ↓dp_int, ↓dp_bl, ↓dp_str, ↓dp_non, ↓dp_dW, ↓dp_dP, ↓dp_dT, ↓dp_dWs, ↓dp_dTs, ↓dr_in, ↓dr_add, ↓dr_cat, ↓dr_b1, ↓dr_sl, ↓w_isiD, ↓f_sort, ↓w_rev, ↓w_appR, ↓w_refA, ↓w_listR1, ↓o_cmpD, ↓dr_cmpD, ↓w_revA, ↓o_repT, ↓f_reprD, ↓w_dct0, ↓w_dct1, ↓dr_dget, ↓o_dget, ↓dr_inK, ↓o_inK, ↓o_getD, ↓w_dget2, ↓m_putD, ↓wi_keys, ↓f_listK, ↓f_sortK, ↓m_pop, ↓m_pop0, ↓m_insL, ↓m_ins, ↓m_refP, ↓w_clrR, ↓dp_dct, ↓w_chain3, ↓w_join, ↓w_fJoin, ↓w_split, ↓o_inS, ↓dr_inS, ↓wi_str, ↓w_fmt, ↓w_jsN, ↓w_jsC, ↓f_strI, ↓f_intI, ↓f_intB, ↓f_intS, ↓f_lenS, ↓o_ixS, Option.bind_some, Option.bind_none, Option.some.injEq, exists_eq_left', List.map_cons, List.map_nil, if_true, if_false, reduceIte, reduceCtorEq, Nat.reduceEqDiff, List.length_cons, List.length_nil, atI_0, decide_eq_true_eq, decide_eq_false_iff_not, true_and, and_true, false_and, and_false, not_true, not_false_iff, false_implies, true_implies, der_ref, der_lst, der_tup, der_frg, der_int, der_bl, der_str, der_non, der_dW, der_dP, der_dT, der_dWs, der_dTs, der_dct, isDK_d, kOf_int, kOf_str, kD_int, forall_const, not_true_eq_false, not_false_eq_true, exists_eq_left, exists_eq_right, Bool.not_eq_true', Bool.not_eq_false', List.mem_cons, List.not_mem_nil, or_false, false_or, Nat.reduceAdd, Nat.zero_add, List.set_cons_zero, List.set_cons_succ, all_shW, all_shT, all_shP, all_shI, ↓ea, atI_1, Bool.true_eq_false]
  rw [decide_eq_true hb.2.1]
  exact h
theorem isweb_true {m : Int} {rs : List (Int × Int)} {st : Sto} {Q : D → Sto → Prop} {E} (hw : WebOk m rs) (h : Q (.bl true) st) : RsP (m_is_web [dWeb m rs] st) Q E := by
  have m1 := hw.m1
  have m8 := hw.m8
  have ln := hw.ln
  unfold m_is_web dWeb
  try simp (implicitDefEqProofs := false) only [↓w_ok, ↓w_err, ↓w_bad, ↓wl_ok, ↓w_bind, ↓w_bindL, ↓wl_bind, ↓wl_bindL, ↓w_nx, ↓w_rt, ↓w_bk, ↓w_ct, ↓w_er, ↓w_bd, ↓w_sq, ↓w_of, ↓w_sIf, ↓w_and, ↓w_or, ↓w_bIf, ↓w_mk, ↓w_call, ↓w_tup, ↓w_lst, ↓wl_cons, ↓wl_nil, ↓w_bin, ↓w_not, ↓w_neg, ↓w_chain, ↓w_c, ↓w_set, ↓w_own, ↓w_ex, ↓w_ret, ↓w_retN, ↓w_skip, ↓w_raise, ↓w_to, ↓w_putR, ↓w_ref, ↓w_for, ↓w_lc, ↓wi_seq, ↓wi_r1, ↓wi_r2, ↓wi_enum, ↓m_var, ↓m_peek, ↓m_retOwn, ↓m_fix, ↓m_app, ↓m_ext, ↓m_putL, ↓m_put, ↓m_putR, ↓m_ixR, ↓env_set, ↓env_0, ↓env_s, ↓env_n, ↓env_wp, ↓t_n, ↓t_u, ↓t_0, ↓t_s, ↓bX_bl, ↓o_add, ↓o_addT, ↓o_addL, ↓o_addS, ↓o_cat, ↓o_sub, ↓o_mul, ↓o_mod, ↓o_fdiv, ↓o_pow, ↓o_eq, ↓o_ne, ↓o_ic, ↓o_isN, ↓o_ixL, ↓o_ixT, ↓f_lenL, ↓f_lenT, ↓f_tupL, ↓f_tupT, ↓f_listL, ↓f_listT, ↓f_min2, ↓f_max2, ↓f_reprB, ↓w_sl, ↓w_slA, ↓w_slB, ↓w_slC, ↓o_slL, ↓o_slT, ↓o_slF, ↓o_slLL, ↓o_slLF, ↓wi_zip, ↓wi_ok, ↓src_lst, ↓src_ref, ↓zip_tt, ↓zip_ll, ↓zip_rl, ↓zip_lr, ↓w_isi, ↓o_inL, ↓o_inT, ↓dr_eq, ↓dr_ne, ↓dp_ref, ↓dp_lst, ↓dp_tup, ↓dp_frg, ↓dp_int, ↓dp_bl, ↓dp_str, ↓dp_non, ↓dp_dW, ↓dp_dP, ↓dp_dT, ↓dp_dWs, ↓dp_dTs, ↓dr_in, ↓dr_add, ↓dr_cat, ↓dr_b1, ↓dr_sl, ↓w_isiD, ↓f_sort, ↓w_rev, ↓w_appR, ↓w_refA, ↓w_listR1, ↓o_cmpD, ↓dr_cmpD, ↓w_revA, ↓o_repT, ↓f_reprD, ↓w_dct0, ↓w_dct1, ↓dr_dget, ↓o_dget, ↓dr_inK, ↓o_inK, ↓o_getD, ↓w_dget2, ↓m_putD, ↓wi_keys, ↓f_listK, ↓f_sortK, ↓m_pop, ↓m_pop0, ↓m_insL, ↓m_ins, ↓m_refP, ↓w_clrR, ↓dp_dct, ↓w_chain3, ↓w_join, ↓w_fJoin, ↓w_split, ↓o_inS, ↓dr_inS, ↓wi_str, ↓w_fmt, ↓w_jsN, ↓w_jsC, ↓f_strI, ↓f_intI, ↓f_intB, ↓f_intS, ↓f_lenS, ↓o_ixS, Option.bind_some, Option.bind_none, Option.some.injEq, exists_eq_left', List.map_cons, List.map_nil, if_true, if_false, reduceIte, reduceCtorEq, Nat.reduceEqDiff, List.length_cons, List.length_nil, atI_0, decide_eq_true_eq, decide_eq_false_iff_not, true_and, and_true, false_and, and_false, not_true, not_false_iff, false_implies, true_implies, der_ref, der_lst, der_tup, der_frg, der_int, der_bl, der_str, der_non, der_dW, der_dP, der_dT, der_dWs, der_dTs, der_dct, isDK_d, kOf_int, kOf_str, kD_int, forall_const, not_true_eq_false, not_false_eq_true, exists_eq_left, exists_eq_right, Bool.not_eq_true', Bool.not_eq_false', List.mem_cons, List.not_mem_nil, or_false, false_or, Nat.reduceAdd, Nat.zero_add, List.set_cons_zero, List.set_cons_succ, all_shW, all_shT, all_shP, all_shI, tn_ni, tn_nb, tn_ns, tn_nt, tn_nl, tn_nd, tn_bi, tn_bb, tn_bs, tn_bt, tn_bl, tn_bd, tn_ii, tn_ib, tn_is, tn_it, tn_il, tn_id, tn_si, tn_sb, tn_ss, tn_st, tn_sl, tn_sd, tn_ti, tn_tb, tn_ts, tn_tt, tn_tl, tn_td, tn_li, tn_lb, tn_ls, tn_lt, tn_ll, tn_ld, tyN, Bool.not_false, Bool.not_true, Bool.true_eq_false, Bool.false_eq_true, ↓eqv_int, ↓shp_int]
  refine ⟨fun z => absurd rfl z, fun _ => ?_⟩
  refine count_true m1 m8 ?_
  try simp (implicitDefEqProofs := false) only [↓w_ok, ↓w_err, ↓w_bad, ↓wl_ok, ↓w_bind, ↓w_bindL, ↓wl_bind, ↓wl_bindL, ↓w_nx, ↓w_rt, ↓w_bk, ↓w_ct, ↓w_er, ↓w_bd, ↓w_sq, ↓w_of, ↓w_sIf, ↓w_and, ↓w_or, ↓w_bIf, ↓w_mk, ↓w_call, ↓w_tup, ↓w_lst, ↓wl_cons, ↓wl_nil, ↓w_bin, ↓w_not, ↓w_neg, ↓w_chain, ↓w_c, ↓w_set, ↓w_own, ↓w_ex, ↓w_ret, ↓w_retN, ↓w_skip, ↓w_raise, ↓w_to, ↓w_putR, ↓w_ref, ↓w_for, ↓w_lc, ↓wi_seq, ↓wi_r1, ↓wi_r2, ↓wi_enum, ↓m_var, ↓m_peek, ↓m_retOwn, ↓m_fix, ↓m_app, ↓m_ext, ↓m_putL, ↓m_put, ↓m_putR, ↓m_ixR, ↓env_set, ↓env_0, ↓env_s, ↓env_n, ↓env_wp, ↓t_n, ↓t_u, ↓t_0, ↓t_s, ↓bX_bl, ↓o_add, ↓o_addT, ↓o_addL, ↓o_addS, ↓o_cat, ↓o_sub, ↓o_mul, ↓o_mod, ↓o_fdiv, ↓o_pow, ↓o_eq, ↓o_ne, ↓o_ic, ↓o_isN, ↓o_ixL, ↓o_ixT, ↓f_lenL, ↓f_lenT, ↓f_tupL, ↓f_tupT, ↓f_listL, ↓f_listT, ↓f_min2, ↓f_max2, ↓f_reprB, ↓w_sl, ↓w_slA, ↓w_slB, ↓w_slC, ↓o_slL, ↓o_slT, ↓o_slF, ↓o_slLL, ↓o_slLF, ↓wi_zip, ↓wi_ok, ↓src_lst, ↓src_ref, ↓zip_tt, ↓zip_ll, ↓zip_rl, ↓zip_lr, ↓w_isi, ↓o_inL, ↓o_inT, ↓dr_eq, ↓dr_ne, ↓dp_ref, ↓dp_lst, ↓dp_tup, ↓dp_frg, ↓dp_int, ↓dp_bl, ↓dp_str, ↓dp_non, ↓dp_dW, ↓dp_dP, ↓dp_dT, ↓dp_dWs, ↓dp_dTs, ↓dr_in, ↓dr_add, ↓dr_cat, ↓dr_b1, ↓dr_sl, ↓w_isiD, ↓f_sort, ↓w_rev, ↓w_appR, ↓w_refA, ↓w_listR1, ↓o_cmpD, ↓dr_cmpD, ↓w_revA, ↓o_repT, ↓f_reprD, ↓w_dct0, ↓w_dct1, ↓dr_dget, ↓o_dget, ↓dr_inK, ↓o_inK, ↓o_getD, ↓w_dget2, ↓m_putD, ↓wi_keys, ↓f_listK, ↓f_sortK, ↓m_pop, ↓m_pop0, ↓m_insL, ↓m_ins, ↓m_refP, ↓w_clrR, ↓dp_dct, ↓w_chain3, ↓w_join, ↓w_fJoin, ↓w_split, ↓o_inS, ↓dr_inS, ↓wi_str, ↓w_fmt, ↓w_jsN, ↓w_jsC, ↓f_strI, ↓f_intI, ↓f_intB, ↓f_intS, ↓f_lenS, ↓o_ixS, Option.bind_some, Option.bind_none, Option.some.injEq, exists_eq_left', List.map_cons, List.map_nil, if_true, if_false, reduceIte, reduceCtorEq, Nat.reduceEqDiff, List.length_cons, List.length_nil, atI_0, decide_eq_true_eq, decide_eq_false_iff_not, true_and, and_true, false_and, and_false, not_true, not_false_iff, false_implies, true_implies, der_ref, der_lst, der_tup, der_frg, der_int, der_bl, der_str, der_non, der_dW, der_dP, der_dT, der_dWs, der_dTs, der_dct, isDK_d, kOf_int, kOf_str, kD_int, forall_const, not_true_eq_false, not_false_eq_true, exists_eq_left, exists_eq_right, Bool.not_eq_true', Bool.not_eq_false', List.mem_cons, List.not_mem_nil, or_false, false_or, Nat.reduceAdd, Nat.zero_add, List.set_cons_zero, List.set_cons_succ, all_shW, all_shT, all_shP, all_shI, Bool.true_eq_false]
  refine lc_pure (enc := dP) (fun _ => true) (fun _ => .bl true) ?_ (by simp only [LIM]; omega) ?_
  · intro q hq
    try simp (implicitDefEqProofs := false) only [↓w_ok, ↓w_err, ↓w_bad, ↓wl_ok, ↓w_bind, ↓w_bindL, ↓wl_bind, ↓wl_bindL, ↓w_nx, ↓w_rt, ↓w_bk, ↓w_ct, ↓w_er, ↓w_bd, ↓w_sq, ↓w_of, ↓w_sIf, ↓w_and, ↓w_or, ↓w_bIf, ↓w_mk, ↓w_call, ↓w_tup, ↓w_lst, ↓wl_cons, ↓wl_nil, ↓w_bin, ↓w_not, ↓w_neg, ↓w_chain, ↓w_c, ↓w_set, ↓w_own, ↓w_ex, ↓w_ret, ↓w_retN, ↓w_skip, ↓w_raise, ↓w_to, ↓w_putR, ↓w_ref, ↓w_for, ↓w_lc, ↓wi_seq, ↓wi_r1, ↓wi_r2, ↓wi_enum, ↓m_var, ↓m_peek, ↓m_retOwn, ↓m_fix, ↓m_app, ↓m_ext, ↓m_putL, ↓m_put, ↓m_putR, ↓m_ixR, ↓env_set, ↓env_0, ↓env_s, ↓env_n, ↓env_wp, ↓t_n, ↓t_u, ↓t_0, ↓t_s, ↓bX_bl, ↓o_add, ↓o_addT, ↓o_addL, ↓o_addS, ↓o_cat, ↓o_sub, ↓o_mul, ↓o_mod, ↓o_fdiv, ↓o_pow, ↓o_eq, ↓o_ne, ↓o_ic, ↓o_isN, ↓o_ixL, ↓o_ixT, ↓f_lenL, ↓f_lenT, ↓f_tupL, ↓f_tupT, ↓f_listL, ↓f_listT, ↓f_min2, ↓f_max2, ↓f_reprB, ↓w_sl, ↓w_slA, ↓w_slB, ↓w_slC, ↓o_slL, ↓o_slT, ↓o_slF, ↓o_slLL, ↓o_slLF, ↓wi_zip, ↓wi_ok, ↓src_lst, ↓src_ref, ↓zip_tt, ↓zip_ll, ↓zip_rl, ↓zip_lr, ↓w_isi, ↓o_inL, ↓o_inT, ↓dr_eq, ↓dr_ne, ↓dp_ref, ↓dp_lst, ↓dp_tup, ↓dp_frg, ↓dp_int, ↓dp_bl, ↓dp_str, ↓dp_non, ↓dp_dW, ↓dp_dP, ↓dp_dT, ↓dp_dWs, ↓dp_dTs, ↓dr_in, ↓dr_add, ↓dr_cat, ↓dr_b1, ↓dr_sl, ↓w_isiD, ↓f_sort, ↓w_rev, ↓w_appR, ↓w_refA, ↓w_listR1, ↓o_cmpD, ↓dr_cmpD, ↓w_revA, ↓o_repT, ↓f_reprD, ↓w_dct0, ↓w_dct1, ↓dr_dget, ↓o_dget, ↓dr_inK, ↓o_inK, ↓o_getD, ↓w_dget2, ↓m_putD, ↓wi_keys, ↓f_listK, ↓f_sortK, ↓m_pop, ↓m_pop0, ↓m_insL, ↓m_ins, ↓m_refP, ↓w_clrR, ↓dp_dct, ↓w_chain3, ↓w_join, ↓w_fJoin, ↓w_split, ↓o_inS, ↓dr_inS, ↓wi_str, ↓w_fmt, ↓w_jsN, ↓w_jsC, ↓f_strI, ↓f_intI, ↓f_intB, ↓f_intS, ↓f_lenS, ↓o_ixS, Option.bind_some, Option.bind_none, Option.some.injEq, exists_eq_left', List.map_cons, List.map_nil, if_true, if_false, reduceIte, reduceCtorEq, Nat.reduceEqDiff, List.length_cons, List.length_nil, atI_0, decide_eq_true_eq, decide_eq_false_iff_not, true_and, and_true, false_and, and_false, not_true, not_false_iff, false_implies, true_implies, der_ref, der_lst, der_tup, der_frg, der_int, der_bl, der_str, der_non, der_dW, der_dP, der_dT, der_dWs, der_dTs, der_dct, isDK_d, kOf_int, kOf_str, kD_int, forall_const, not_true_eq_false, not_false_eq_true, exists_eq_left, exists_eq_right, Bool.not_eq_true', Bool.not_eq_false', List.mem_cons, List.not_mem_nil, or_false, false_or, Nat.reduceAdd, Nat.zero_add, List.set_cons_zero, List.set_cons_succ, all_shW, all_shT, all_shP, all_shI]
    exact road_true (hw.bd q hq) ⟨rfl, rfl⟩
  rw [filt_t]
  have ea : ∀ {α : Type} (xs : List α) (Q : D → Sto → Prop) E, RsP (fAll [.lst (xs.map fun _ => D.bl true)] st) Q E = Q (.bl true) st := fun xs Q E => by
    have := f_all (g := fun _ => true) (xs := xs) (st := st) (Q := Q) (E := E)
    rw [this, List.all_eq_true.mpr fun _ _ => rfl]
  try simp (implicitDefEqProofs := false) only [↓w_ok, ↓w_err, ↓w_bad, ↓wl_ok, ↓w_bind, ↓w_bindL, ↓wl_bind, ↓wl_bindL, ↓w_nx, ↓w_rt, ↓w_bk, ↓w_ct, ↓w_er, ↓w_bd, ↓w_sq, ↓w_of, ↓w_sIf, ↓w_and, ↓w_or, ↓w_bIf, ↓w_mk, ↓w_call, ↓w_tup, ↓w_lst, ↓wl_cons, ↓wl_nil, ↓w_bin, ↓w_not, ↓w_neg, ↓w_chain, ↓w_c, ↓w_set, ↓w_own, ↓w_ex, ↓w_ret, ↓w_retN, ↓w_skip, ↓w_raise, ↓w_to, ↓w_putR, ↓w_ref, ↓w_for, ↓w_lc, ↓wi_seq, ↓wi_r1, ↓wi_r2, ↓wi_enum, ↓m_var, ↓m_peek, ↓m_retOwn, ↓m_fix, ↓m_app, ↓m_ext, ↓m_putL, ↓m_put, ↓m_putR, ↓m_ixR, ↓env_set, ↓env_0, ↓env_s, ↓env_n, ↓env_wp, ↓t_n, ↓t_u, ↓t_0, ↓t_s, ↓bX_bl, ↓o_add, ↓o_addT, ↓o_addL, ↓o_addS, ↓o_cat, ↓o_sub, ↓o_mul, ↓o_mod, ↓o_fdiv, ↓o_pow, ↓o_eq, ↓o_ne, ↓o_ic, ↓o_isN, ↓o_ixL, ↓o_ixT, ↓f_lenL, ↓f_lenT, ↓f_tupL, ↓f_tupT, ↓f_listL, ↓f_listT, ↓f_min2, ↓f_max2, ↓f_reprB, ↓w_sl, ↓w_slA, ↓w_slB, ↓w_slC, ↓o_slL, ↓o_slT, ↓o_slF, ↓o_slLL, ↓o_slLF, ↓wi_zip, ↓wi_ok, ↓src_lst, ↓src_ref, ↓zip_tt, ↓zip_ll, ↓zip_rl, ↓zip_lr, ↓w_isi, ↓o_inL, ↓o_inT, ↓dr_eq, ↓dr_ne, ↓dp_ref, ↓dp_lst, ↓dp_tup, ↓dp_frg, ↓dp_int, ↓dp_bl, ↓dp_str, ↓dp_non, ↓dp_dW, ↓dp_dP, ↓dp_dT, ↓dp_dWs, ↓dp_dTs, ↓dr_in, ↓dr_add, ↓dr_cat, ↓dr_b1, ↓dr_sl, ↓w_isiD, ↓f_sort, ↓w_rev, ↓w_appR, ↓w_refA, ↓w_listR1, ↓o_cmpD, ↓dr_cmpD, ↓w_revA, ↓o_repT, ↓f_reprD, ↓w_dct0, ↓w_dct1, ↓dr_dget, ↓o_dget, ↓dr_inK, ↓o_inK, ↓o_getD, ↓w_dget2, ↓m_putD, ↓wi_keys, ↓f_listK, ↓f_sortK, ↓m_pop, ↓m_pop0, ↓m_insL, ↓m_ins, ↓m_refP, ↓w_clrR, ↓dp_dct, ↓w_chain3, ↓w_join, ↓w_fJoin, ↓w_split, ↓o_inS, ↓dr_inS, ↓wi_str, ↓w_fmt, ↓w_jsN, ↓w_jsC, ↓f_strI, ↓f_intI, ↓f_intB, ↓f_intS, ↓f_lenS, ↓o_ixS, Option.bind_some, Option.bind_none, Option.some.injEq, exists_eq_left', List.map_cons, List.map_nil, if_true, if_false, reduceIte, reduceCtorEq, Nat.reduceEqDiff, List.length_cons, List.length_nil, atI_0, decide_eq_true_eq, decide_eq_false_iff_not, true_and, and_true, false_and, and_false, not_true, not_false_iff, false_implies, true_implies, der_ref, der_lst, der_tup, der_frg, der_int, der_bl, der_str, der_non, der_dW, der_dP, der_dT, der_dWs, der_dTs, der_dct, isDK_d, kOf_int, kOf_str, kD_int, forall_const, not_true_eq_false, not_false_eq_true, exists_eq_left, exists_eq_right, Bool.not_eq_true', Bool.not_eq_false', List.mem_cons, List.not_mem_nil, or_false, false_or, Nat.reduceAdd, Nat.zero_add, List.set_cons_zero, List.set_cons_succ, all_shW, all_shT, all_shP, all_shI, ↓ea, Bool.true_eq_false]
  rw [cut_one, zipd_map]
  have pw : rs.Pairwise (ltE kP) := (hw.so.and hw.nd).imp fun h => h
  refine lc_pure (fun _ => true) (fun _ => .bl true) ?_ (by rw [List.length_zip]; simp only [LIM]; omega) ?_
  · intro q hq
    have hlt := lt_of_ltP (pw_zip pw q hq)
    have s1 : ∀ {p}, shp 60 (dP p) = true := shp_dP
    have n0 : ∀ p, (dP p).py ≠ .none := fun p => by simp [dP, D.py]
    try simp (implicitDefEqProofs := false) only [↓w_ok, ↓w_err, ↓w_bad, ↓wl_ok, ↓w_bind, ↓w_bindL, ↓wl_bind, ↓wl_bindL, ↓w_nx, ↓w_rt, ↓w_bk, ↓w_ct, ↓w_er, ↓w_bd, ↓w_sq, ↓w_of, ↓w_sIf, ↓w_and, ↓w_or, ↓w_bIf, ↓w_mk, ↓w_call, ↓w_tup, ↓w_lst, ↓wl_cons, ↓wl_nil, ↓w_bin, ↓w_not, ↓w_neg, ↓w_chain, ↓w_c, ↓w_set, ↓w_own, ↓w_ex, ↓w_ret, ↓w_retN, ↓w_skip, ↓w_raise, ↓w_to, ↓w_putR, ↓w_ref, ↓w_for, ↓w_lc, ↓wi_seq, ↓wi_r1, ↓wi_r2, ↓wi_enum, ↓m_var, ↓m_peek, ↓m_retOwn, ↓m_fix, ↓m_app, ↓m_ext, ↓m_putL, ↓m_put, ↓m_putR, ↓m_ixR, ↓env_set, ↓env_0, ↓env_s, ↓env_n, ↓env_wp, ↓t_n, ↓t_u, ↓t_0, ↓t_s, ↓bX_bl, ↓o_add, ↓o_addT, ↓o_addL, ↓o_addS, ↓o_cat, ↓o_sub, ↓o_mul, ↓o_mod, ↓o_fdiv, ↓o_pow, ↓o_eq, ↓o_ne, ↓o_ic, ↓o_isN, ↓o_ixL, ↓o_ixT, ↓f_lenL, ↓f_lenT, ↓f_tupL, ↓f_tupT, ↓f_listL, ↓f_listT, ↓f_min2, ↓f_max2, ↓f_reprB, ↓w_sl, ↓w_slA, ↓w_slB, ↓w_slC, ↓o_slL, ↓o_slT, ↓o_slF, ↓o_slLL, ↓o_slLF, ↓wi_zip, ↓wi_ok, ↓src_lst, ↓src_ref, ↓zip_tt, ↓zip_ll, ↓zip_rl, ↓zip_lr, ↓w_isi, ↓o_inL, ↓o_inT, ↓dr_eq, ↓dr_ne, ↓dp_ref, ↓dp_lst, ↓dp_tup, ↓dp_frg, ↓dp_int, ↓dp_bl, ↓dp_str, ↓dp_non, ↓dp_dW, ↓dp_dP, ↓dp_dT, ↓dp_dWs, ↓dp_dTs, ↓dr_in, ↓dr_add, ↓dr_cat, ↓dr_b1, ↓dr_sl, ↓w_isiD, ↓f_sort, ↓w_rev, ↓w_appR, ↓w_refA, ↓w_listR1, ↓o_cmpD, ↓dr_cmpD, ↓w_revA, ↓o_repT, ↓f_reprD, ↓w_dct0, ↓w_dct1, ↓dr_dget, ↓o_dget, ↓dr_inK, ↓o_inK, ↓o_getD, ↓w_dget2, ↓m_putD, ↓wi_keys, ↓f_listK, ↓f_sortK, ↓m_pop, ↓m_pop0, ↓m_insL, ↓m_ins, ↓m_refP, ↓w_clrR, ↓dp_dct, ↓w_chain3, ↓w_join, ↓w_fJoin, ↓w_split, ↓o_inS, ↓dr_inS, ↓wi_str, ↓w_fmt, ↓w_jsN, ↓w_jsC, ↓f_strI, ↓f_intI, ↓f_intB, ↓f_intS, ↓f_lenS, ↓o_ixS, Option.bind_some, Option.bind_none, Option.some.injEq, exists_eq_left', List.map_cons, List.map_nil, if_true, if_false, reduceIte, reduceCtorEq, Nat.reduceEqDiff, List.length_cons, List.length_nil, atI_0, decide_eq_true_eq, decide_eq_false_iff_not, true_and, and_true, false_and, and_false, not_true, not_false_iff, false_implies, true_implies, der_ref, der_lst, der_tup, der_frg, der_int, der_bl, der_str, der_non, der_dW, der_dP, der_dT, der_dWs, der_dTs, der_dct, isDK_d, kOf_int, kOf_str, kD_int, forall_const, not_true_eq_false, not_false_eq_true, exists_eq_left, exists_eq_right, Bool.not_eq_true', Bool.not_eq_false', List.mem_cons, List.not_mem_nil, or_false, false_or, Nat.reduceAdd, Nat.zero_add, List.set_cons_zero, List.set_cons_succ, all_shW, all_shT, all_shP, all_shI, s1, al_dP, n0, hlt]
    exact n0 _
  rw [filt_t]
  try simp (implicitDefEqProofs := false) only [↓w_ok, ↓w_err, ↓w_bad, ↓wl_ok, ↓w_bind, ↓w_bindL, ↓wl_bind, ↓wl_bindL, ↓w_nx, ↓w_rt, ↓w_bk, ↓w_ct, ↓w_er, ↓w_bd, ↓w_sq, ↓w_of, ↓w_sIf, ↓w_and, ↓w_or, ↓w_bIf, ↓w_mk, ↓w_call, ↓w_tup, ↓w_lst, ↓wl_cons, ↓wl_nil, ↓w_bin, ↓w_not, ↓w_neg, ↓w_chain, ↓w_c, ↓w_set, ↓w_own, ↓w_ex, ↓w_ret, ↓w_retN, ↓w_skip, ↓w_raise, ↓w_to, ↓w_putR, ↓w_ref, ↓w_for, ↓w_lc, ↓wi_seq, ↓wi_r1, ↓wi_r2, ↓wi_enum, ↓m_var, ↓m_peek, ↓m_retOwn, ↓m_fix, ↓m_app, ↓m_ext, ↓m_putL, ↓m_put, ↓m_putR, ↓m_ixR, ↓env_set, ↓env_0, ↓env_s, ↓env_n, ↓env_wp, ↓t_n, ↓t_u, ↓t_0, ↓t_s, ↓bX_bl, ↓o_add, ↓o_addT, ↓o_addL, ↓o_addS, ↓o_cat, ↓o_sub, ↓o_mul, ↓o_mod, ↓o_fdiv, ↓o_pow, ↓o_eq, ↓o_ne, ↓o_ic, ↓o_isN, ↓o_ixL, ↓o_ixT, ↓f_lenL, ↓f_lenT, ↓f_tupL, ↓f_tupT, ↓f_listL, ↓f_listT, ↓f_min2, ↓f_max2, ↓f_reprB, ↓w_sl, ↓w_slA, ↓w_slB, ↓w_slC, ↓o_slL, ↓o_slT, ↓o_slF, ↓o_slLL, ↓o_slLF, ↓wi_zip, ↓wi_ok, ↓src_lst, ↓src_ref, ↓zip_tt, ↓zip_ll, ↓zip_rl, ↓zip_lr, ↓w_isi, ↓o_inL, ↓o_inT, ↓dr_eq, ↓dr_ne, ↓dp_ref, ↓dp_lst, ↓dp_tup, ↓dp_frg, ↓dp_int, ↓dp_bl, ↓dp_str, ↓dp_non, ↓dp_dW, ↓dp_dP, ↓dp_dT, ↓dp_dWs, ↓dp_dTs, ↓dr_in, ↓dr_add, ↓dr_cat, ↓dr_b1, ↓dr_sl, ↓w_isiD, ↓f_sort, ↓w_rev, ↓w_appR, ↓w_refA, ↓w_listR1, ↓o_cmpD, ↓dr_cmpD, ↓w_revA, ↓o_repT, ↓f_reprD, ↓w_dct0, ↓w_dct1, ↓dr_dget, ↓o_dget, ↓dr_inK, ↓o_inK, ↓o_getD, ↓w_dget2, ↓m_putD, ↓wi_keys, ↓f_listK, ↓f_sortK, ↓m_pop, ↓m_pop0, ↓m_insL, ↓m_ins, ↓m_refP, ↓w_clrR, ↓dp_dct, ↓w_chain3, ↓w_join, ↓w_fJoin, ↓w_split, ↓o_inS, ↓dr_inS, ↓wi_str, ↓w_fmt, ↓w_jsN, ↓w_jsC, ↓f_strI, ↓f_intI, ↓f_intB, ↓f_intS, ↓f_lenS, ↓o_ixS, Option.bind_some, Option.bind_none, Option.some.injEq, exists_eq_left', List.map_cons, List.map_nil, if_true, if_false, reduceIte, reduceCtorEq, Nat.reduceEqDiff, List.length_cons, List.length_nil, atI_0, decide_eq_true_eq, decide_eq_false_iff_not, true_and, and_true, false_and, and_false, not_true, not_false_iff, false_implies, true_implies, der_ref, der_lst, der_tup, der_frg, der_int, der_bl, der_str, der_non, der_dW, der_dP, der_dT, der_dWs, der_dTs, der_dct, isDK_d, kOf_int, kOf_str, kD_int, forall_const, not_true_eq_false, not_false_eq_true, exists_eq_left, exists_eq_right, Bool.not_eq_true', Bool.not_eq_false', List.mem_cons, List.not_mem_nil, or_false, false_or, Nat.reduceAdd, Nat.zero_add, List.set_cons_zero, List.set_cons_succ, all_shW, all_shT, all_shP, all_shI, ↓ea, Bool.true_eq_false]
  refine ring_spec hw ?_
  try simp (implicitDefEqProofs := false) only [↓w_ok, ↓w_err, ↓w_bad, ↓wl_ok, ↓w_bind, ↓w_bindL, ↓wl_bind, ↓wl_bindL, ↓w_nx, ↓w_rt, ↓w_bk, ↓w_ct, ↓w_er, ↓w_bd, ↓w_sq, ↓w_of, ↓w_sIf, ↓w_and, ↓w_or, ↓w_bIf, ↓w_mk, ↓w_call, ↓w_tup, ↓w_lst, ↓wl_cons, ↓wl_nil, ↓w_bin, ↓w_not, ↓w_neg, ↓w_chain, ↓w_c, ↓w_set, ↓w_own, ↓w_ex, ↓w_ret, ↓w_retN, ↓w_skip, ↓w_raise, ↓w_to, ↓w_putR, ↓w_ref, ↓w_for, ↓w_lc, ↓wi_seq, ↓wi_r1, ↓wi_r2, ↓wi_enum, ↓m_var, ↓m_peek, ↓m_retOwn, ↓m_fix, ↓m_app, ↓m_ext, ↓m_putL, ↓m_put, ↓m_putR, ↓m_ixR, ↓env_set, ↓env_0, ↓env_s, ↓env_n, ↓env_wp, ↓t_n, ↓t_u, ↓t_0, ↓t_s, ↓bX_bl, ↓o_add, ↓o_addT, ↓o_addL, ↓o_addS, ↓o_cat, ↓o_sub, ↓o_mul, ↓o_mod, ↓o_fdiv, ↓o_pow, ↓o_eq, ↓o_ne, ↓o_ic, ↓o_isN, ↓o_ixL, ↓o_ixT, ↓f_lenL, ↓f_lenT, ↓f_tupL, ↓f_tupT, ↓f_listL, ↓f_listT, ↓f_min2, ↓f_max2, ↓f_reprB, ↓w_sl, ↓w_slA, ↓w_slB, ↓w_slC, ↓o_slL, ↓o_slT, ↓o_slF, ↓o_slLL, ↓o_slLF, ↓wi_zip, ↓wi_ok, ↓src_lst, ↓src_ref, ↓zip_tt, ↓zip_ll, ↓zip_rl, ↓zip_lr, ↓w_isi, ↓o_inL, ↓o_inT, ↓dr_eq, ↓dr_ne, ↓dp_ref, ↓dp_lst, ↓dp_tup, ↓dp_frg, ↓dp_int, ↓dp_bl, ↓dp_str, ↓dp_non, ↓dp_dW, ↓dp_dP, ↓dp_dT, ↓dp_dWs, ↓dp_dTs, ↓dr_in, ↓dr_add, ↓dr_cat, ↓dr_b1, ↓dr_sl, ↓w_isiD, ↓f_sort, ↓w_rev, ↓w_appR, ↓w_refA, ↓w_listR1, ↓o_cmpD, ↓dr_cmpD, ↓w_revA, ↓o_repT, ↓f_reprD, ↓w_dct0, ↓w_dct1, ↓dr_dget, ↓o_dget, ↓dr_inK, ↓o_inK, ↓o_getD, ↓w_dget2, ↓m_putD, ↓wi_keys, ↓f_listK, ↓f_sortK, ↓m_pop, ↓m_pop0, ↓m_insL, ↓m_ins, ↓m_refP, ↓w_clrR, ↓dp_dct, ↓w_chain3, ↓w_join, ↓w_fJoin, ↓w_split, ↓o_inS, ↓dr_inS, ↓wi_str, ↓w_fmt, ↓w_jsN, ↓w_jsC, ↓f_strI, ↓f_intI, ↓f_intB, ↓f_intS, ↓f_lenS, ↓o_ixS, Option.bind_some, Option.bind_none, Option.some.injEq, exists_eq_left', List.map_cons, List.map_nil, if_true, if_false, reduceIte, reduceCtorEq, Nat.reduceEqDiff, List.length_cons, List.length_nil, atI_0, decide_eq_true_eq, decide_eq_false_iff_not, true_and, and_true, false_and, and_false, not_true, not_false_iff, false_implies, true_implies, der_ref, der_lst, der_tup, der_frg, der_int, der_bl, der_str, der_non, der_dW, der_dP, der_dT, der_dWs, der_dTs, der_dct, isDK_d, kOf_int, kOf_str, kD_int, forall_const, not_true_eq_false, not_false_eq_true, exists_eq_left, exists_eq_right, Bool.not_eq_true', Bool.not_eq_false', List.mem_cons, List.not_mem_nil, or_false, false_or, Nat.reduceAdd, Nat.zero_add, List.set_cons_zero, List.set_cons_succ, all_shW, all_shT, all_shP, all_shI, Bool.not_false]
  exact h
def pT (p : Int × Int) : Str := sT p.1 ++ ("-" : Str) ++ sT p.2
theorem pT_join {p : Int × Int} : pT p = Txt.join "-" [sT p.1, sT p.2] := by rw [join_eq]; rfl
theorem tl_pT {p : Int × Int} (h : 0 ≤ p.1 ∧ p.1 ≤ p.2 ∧ p.2 ≤ 9) : tl (pT p) = [48 + p.1.toNat, 45, 48 + p.2.toNat] := by
  unfold pT
  rw [tl_append, tl_append, tl_sT (by omega) (by omega), tl_sT (by omega) (by omega), dash.1]
  rfl
theorem len_pT {p : Int × Int} (h : 0 ≤ p.1 ∧ p.1 ≤ p.2 ∧ p.2 ≤ 9) : (pT p).length = 3 := by rw [len_tl, tl_pT h]; rfl
theorem so_pT {p : Int × Int} : PyData.strOk (pT p) = true := by unfold pT; rw [so_app, so_app, so_sT, so_sT, dash.2.2.2]; rfl
theorem I400_9 {n : Int} (h : 0 ≤ n ∧ n ≤ 9) : -I400 < n ∧ n < I400 := by simp only [I400]; omega
theorem emp_app {x : Str} : Str.empty ++ x = x := by
  apply ext_tl
  rw [tl_append]; rfl
theorem len_sd {n : Int} (h0 : 0 ≤ n) (h9 : n ≤ 9) : (sT n ++ ("-" : Str)).length = 2 := by
  rw [len_tl, tl_append, tl_sT h0 h9, dash.1]; rfl
theorem blank : tl (" " : Str) = [32] ∧ (" " : Str).cps.all (· < 256) = true ∧ (" " : Str).length = 1 ∧ PyData.strOk (" " : Str) = true := by decide +kernel
def gTx (m : Int) (rs : List (Int × Int)) : Str := Txt.join " " (sT m :: rs.map pT)
theorem so_gTx {m : Int} {rs : List (Int × Int)} : PyData.strOk (gTx m rs) = true := by
  unfold gTx
  rw [join_eq]
  exact so_joinM blank.2.2.2 fun t ht => by
    rcases List.mem_cons.mp ht with rfl | ht
    · exact so_sT
    · obtain ⟨n, _, rfl⟩ := List.mem_map.mp ht
      exact so_pT
theorem bd9 {m : Int} {rs : List (Int × Int)} (hw : WebOk m rs) : ∀ p ∈ rs, 0 ≤ p.1 ∧ p.1 ≤ p.2 ∧ p.2 ≤ 9 := fun p hp => by
  have := hw.bd p hp
  have := hw.m8
  omega
theorem len3 {m : Int} {rs : List (Int × Int)} (hw : WebOk m rs) : ∀ p ∈ sT m :: rs.map pT, p.length ≤ 3 := fun p hp => by
  have := hw.m1
  have := hw.m8
  rcases List.mem_cons.mp hp with rfl | hp
  · rw [len_sT (by omega) (by omega)]; decide
  · obtain ⟨n, hn, rfl⟩ := List.mem_map.mp hp
    rw [len_pT (bd9 hw n hn)]; decide
theorem strs_gb {m : Int} {rs : List (Int × Int)} (hw : WebOk m rs) : ((sT m :: rs.map pT).map (·.length)).sum + (sT m :: rs.map pT).length * (" " : Str).length ≤ 16777216 := by
  have := sum_le (len3 hw)
  have := hw.ln
  rw [blank.2.2.1]
  simp only [List.length_cons, List.length_map] at *
  omega
theorem showg_spec {m : Int} {rs : List (Int × Int)} {st : Sto} {Q : D → Sto → Prop} {E} (hw : WebOk m rs) (h : Q (.str (gTx m rs)) st) : RsP (m_show_web [dWeb m rs] st) Q E := by
  have m1 := hw.m1
  have m8 := hw.m8
  have ln := hw.ln
  unfold m_show_web dWeb
  try simp (implicitDefEqProofs := false) only [↓w_ok, ↓w_err, ↓w_bad, ↓wl_ok, ↓w_bind, ↓w_bindL, ↓wl_bind, ↓wl_bindL, ↓w_nx, ↓w_rt, ↓w_bk, ↓w_ct, ↓w_er, ↓w_bd, ↓w_sq, ↓w_of, ↓w_sIf, ↓w_and, ↓w_or, ↓w_bIf, ↓w_mk, ↓w_call, ↓w_tup, ↓w_lst, ↓wl_cons, ↓wl_nil, ↓w_bin, ↓w_not, ↓w_neg, ↓w_chain, ↓w_c, ↓w_set, ↓w_own, ↓w_ex, ↓w_ret, ↓w_retN, ↓w_skip, ↓w_raise, ↓w_to, ↓w_putR, ↓w_ref, ↓w_for, ↓w_lc, ↓wi_seq, ↓wi_r1, ↓wi_r2, ↓wi_enum, ↓m_var, ↓m_peek, ↓m_retOwn, ↓m_fix, ↓m_app, ↓m_ext, ↓m_putL, ↓m_put, ↓m_putR, ↓m_ixR, ↓env_set, ↓env_0, ↓env_s, ↓env_n, ↓env_wp, ↓t_n, ↓t_u, ↓t_0, ↓t_s, ↓bX_bl, ↓o_add, ↓o_addT, ↓o_addL, ↓o_addS, ↓o_cat, ↓o_sub, ↓o_mul, ↓o_mod, ↓o_fdiv, ↓o_pow, ↓o_eq, ↓o_ne, ↓o_ic, ↓o_isN, ↓o_ixL, ↓o_ixT, ↓f_lenL, ↓f_lenT, ↓f_tupL, ↓f_tupT, ↓f_listL, ↓f_listT, ↓f_min2, ↓f_max2, ↓f_reprB, ↓w_sl, ↓w_slA, ↓w_slB, ↓w_slC, ↓o_slL, ↓o_slT, ↓o_slF, ↓o_slLL, ↓o_slLF, ↓wi_zip, ↓wi_ok, ↓src_lst, ↓src_ref, ↓zip_tt, ↓zip_ll, ↓zip_rl, ↓zip_lr, ↓w_isi, ↓o_inL, ↓o_inT, ↓dr_eq, ↓dr_ne, ↓dp_ref, ↓dp_lst, ↓dp_tup, ↓dp_frg, ↓dp_int, ↓dp_bl, ↓dp_str, ↓dp_non, ↓dp_dW, ↓dp_dP, ↓dp_dT, ↓dp_dWs, ↓dp_dTs, ↓dr_in, ↓dr_add, ↓dr_cat, ↓dr_b1, ↓dr_sl, ↓w_isiD, ↓f_sort, ↓w_rev, ↓w_appR, ↓w_refA, ↓w_listR1, ↓o_cmpD, ↓dr_cmpD, ↓w_revA, ↓o_repT, ↓f_reprD, ↓w_dct0, ↓w_dct1, ↓dr_dget, ↓o_dget, ↓dr_inK, ↓o_inK, ↓o_getD, ↓w_dget2, ↓m_putD, ↓wi_keys, ↓f_listK, ↓f_sortK, ↓m_pop, ↓m_pop0, ↓m_insL, ↓m_ins, ↓m_refP, ↓w_clrR, ↓dp_dct, ↓w_chain3, ↓w_join, ↓w_fJoin, ↓w_split, ↓o_inS, ↓dr_inS, ↓wi_str, ↓w_fmt, ↓w_jsN, ↓w_jsC, ↓f_strI, ↓f_intI, ↓f_intB, ↓f_intS, ↓f_lenS, ↓o_ixS, Option.bind_some, Option.bind_none, Option.some.injEq, exists_eq_left', List.map_cons, List.map_nil, if_true, if_false, reduceIte, reduceCtorEq, Nat.reduceEqDiff, List.length_cons, List.length_nil, atI_0, decide_eq_true_eq, decide_eq_false_iff_not, true_and, and_true, false_and, and_false, not_true, not_false_iff, false_implies, true_implies, der_ref, der_lst, der_tup, der_frg, der_int, der_bl, der_str, der_non, der_dW, der_dP, der_dT, der_dWs, der_dTs, der_dct, isDK_d, kOf_int, kOf_str, kD_int, forall_const, not_true_eq_false, not_false_eq_true, exists_eq_left, exists_eq_right, Bool.not_eq_true', Bool.not_eq_false', List.mem_cons, List.not_mem_nil, or_false, false_or, Nat.reduceAdd, Nat.zero_add, List.set_cons_zero, List.set_cons_succ, all_shW, all_shT, all_shP, all_shI, atI_1]
  refine ⟨I400_9 ⟨by omega, by omega⟩, ?_⟩
  refine lc_pure (enc := dP) (fun _ => true) (fun p => .str (pT p)) ?_ (by simp only [LIM]; omega) ?_
  · intro p hp
    have h1 := bd9 hw p hp
    simp only [dP]
    try simp (implicitDefEqProofs := false) only [↓w_ok, ↓w_err, ↓w_bad, ↓wl_ok, ↓w_bind, ↓w_bindL, ↓wl_bind, ↓wl_bindL, ↓w_nx, ↓w_rt, ↓w_bk, ↓w_ct, ↓w_er, ↓w_bd, ↓w_sq, ↓w_of, ↓w_sIf, ↓w_and, ↓w_or, ↓w_bIf, ↓w_mk, ↓w_call, ↓w_tup, ↓w_lst, ↓wl_cons, ↓wl_nil, ↓w_bin, ↓w_not, ↓w_neg, ↓w_chain, ↓w_c, ↓w_set, ↓w_own, ↓w_ex, ↓w_ret, ↓w_retN, ↓w_skip, ↓w_raise, ↓w_to, ↓w_putR, ↓w_ref, ↓w_for, ↓w_lc, ↓wi_seq, ↓wi_r1, ↓wi_r2, ↓wi_enum, ↓m_var, ↓m_peek, ↓m_retOwn, ↓m_fix, ↓m_app, ↓m_ext, ↓m_putL, ↓m_put, ↓m_putR, ↓m_ixR, ↓env_set, ↓env_0, ↓env_s, ↓env_n, ↓env_wp, ↓t_n, ↓t_u, ↓t_0, ↓t_s, ↓bX_bl, ↓o_add, ↓o_addT, ↓o_addL, ↓o_addS, ↓o_cat, ↓o_sub, ↓o_mul, ↓o_mod, ↓o_fdiv, ↓o_pow, ↓o_eq, ↓o_ne, ↓o_ic, ↓o_isN, ↓o_ixL, ↓o_ixT, ↓f_lenL, ↓f_lenT, ↓f_tupL, ↓f_tupT, ↓f_listL, ↓f_listT, ↓f_min2, ↓f_max2, ↓f_reprB, ↓w_sl, ↓w_slA, ↓w_slB, ↓w_slC, ↓o_slL, ↓o_slT, ↓o_slF, ↓o_slLL, ↓o_slLF, ↓wi_zip, ↓wi_ok, ↓src_lst, ↓src_ref, ↓zip_tt, ↓zip_ll, ↓zip_rl, ↓zip_lr, ↓w_isi, ↓o_inL, ↓o_inT, ↓dr_eq, ↓dr_ne, ↓dp_ref, ↓dp_lst, ↓dp_tup, ↓dp_frg, ↓dp_int, ↓dp_bl, ↓dp_str, ↓dp_non, ↓dp_dW, ↓dp_dP, ↓dp_dT, ↓dp_dWs, ↓dp_dTs, ↓dr_in, ↓dr_add, ↓dr_cat, ↓dr_b1, ↓dr_sl, ↓w_isiD, ↓f_sort, ↓w_rev, ↓w_appR, ↓w_refA, ↓w_listR1, ↓o_cmpD, ↓dr_cmpD, ↓w_revA, ↓o_repT, ↓f_reprD, ↓w_dct0, ↓w_dct1, ↓dr_dget, ↓o_dget, ↓dr_inK, ↓o_inK, ↓o_getD, ↓w_dget2, ↓m_putD, ↓wi_keys, ↓f_listK, ↓f_sortK, ↓m_pop, ↓m_pop0, ↓m_insL, ↓m_ins, ↓m_refP, ↓w_clrR, ↓dp_dct, ↓w_chain3, ↓w_join, ↓w_fJoin, ↓w_split, ↓o_inS, ↓dr_inS, ↓wi_str, ↓w_fmt, ↓w_jsN, ↓w_jsC, ↓f_strI, ↓f_intI, ↓f_intB, ↓f_intS, ↓f_lenS, ↓o_ixS, Option.bind_some, Option.bind_none, Option.some.injEq, exists_eq_left', List.map_cons, List.map_nil, if_true, if_false, reduceIte, reduceCtorEq, Nat.reduceEqDiff, List.length_cons, List.length_nil, atI_0, decide_eq_true_eq, decide_eq_false_iff_not, true_and, and_true, false_and, and_false, not_true, not_false_iff, false_implies, true_implies, der_ref, der_lst, der_tup, der_frg, der_int, der_bl, der_str, der_non, der_dW, der_dP, der_dT, der_dWs, der_dTs, der_dct, isDK_d, kOf_int, kOf_str, kD_int, forall_const, not_true_eq_false, not_false_eq_true, exists_eq_left, exists_eq_right, Bool.not_eq_true', Bool.not_eq_false', List.mem_cons, List.not_mem_nil, or_false, false_or, Nat.reduceAdd, Nat.zero_add, List.set_cons_zero, List.set_cons_succ, all_shW, all_shT, all_shP, all_shI]
    refine ⟨I400_9 ⟨by omega, by omega⟩, ?_, I400_9 ⟨by omega, by omega⟩, ?_, rfl⟩
    · rw [len_sT (by omega) (by omega), dash.2.2.1]; decide
    · rw [len_sd (by omega) (by omega), len_sT (by omega) (by omega)]; decide
  rw [filt_t, show (rs.map fun n => D.str (pT n)) = (rs.map pT).map D.str by rw [List.map_map]; rfl]
  have e2 : [D.str (sT m)] ++ (rs.map pT).map D.str = (sT m :: rs.map pT).map D.str := rfl
  try simp (implicitDefEqProofs := false) only [↓w_ok, ↓w_err, ↓w_bad, ↓wl_ok, ↓w_bind, ↓w_bindL, ↓wl_bind, ↓wl_bindL, ↓w_nx, ↓w_rt, ↓w_bk, ↓w_ct, ↓w_er, ↓w_bd, ↓w_sq, ↓w_of, ↓w_sIf, ↓w_and, ↓w_or, ↓w_bIf, ↓w_mk, ↓w_call, ↓w_tup, ↓w_lst, ↓wl_cons, ↓wl_nil, ↓w_bin, ↓w_not, ↓w_neg, ↓w_chain, ↓w_c, ↓w_set, ↓w_own, ↓w_ex, ↓w_ret, ↓w_retN, ↓w_skip, ↓w_raise, ↓w_to, ↓w_putR, ↓w_ref, ↓w_for, ↓w_lc, ↓wi_seq, ↓wi_r1, ↓wi_r2, ↓wi_enum, ↓m_var, ↓m_peek, ↓m_retOwn, ↓m_fix, ↓m_app, ↓m_ext, ↓m_putL, ↓m_put, ↓m_putR, ↓m_ixR, ↓env_set, ↓env_0, ↓env_s, ↓env_n, ↓env_wp, ↓t_n, ↓t_u, ↓t_0, ↓t_s, ↓bX_bl, ↓o_add, ↓o_addT, ↓o_addL, ↓o_addS, ↓o_cat, ↓o_sub, ↓o_mul, ↓o_mod, ↓o_fdiv, ↓o_pow, ↓o_eq, ↓o_ne, ↓o_ic, ↓o_isN, ↓o_ixL, ↓o_ixT, ↓f_lenL, ↓f_lenT, ↓f_tupL, ↓f_tupT, ↓f_listL, ↓f_listT, ↓f_min2, ↓f_max2, ↓f_reprB, ↓w_sl, ↓w_slA, ↓w_slB, ↓w_slC, ↓o_slL, ↓o_slT, ↓o_slF, ↓o_slLL, ↓o_slLF, ↓wi_zip, ↓wi_ok, ↓src_lst, ↓src_ref, ↓zip_tt, ↓zip_ll, ↓zip_rl, ↓zip_lr, ↓w_isi, ↓o_inL, ↓o_inT, ↓dr_eq, ↓dr_ne, ↓dp_ref, ↓dp_lst, ↓dp_tup, ↓dp_frg, ↓dp_int, ↓dp_bl, ↓dp_str, ↓dp_non, ↓dp_dW, ↓dp_dP, ↓dp_dT, ↓dp_dWs, ↓dp_dTs, ↓dr_in, ↓dr_add, ↓dr_cat, ↓dr_b1, ↓dr_sl, ↓w_isiD, ↓f_sort, ↓w_rev, ↓w_appR, ↓w_refA, ↓w_listR1, ↓o_cmpD, ↓dr_cmpD, ↓w_revA, ↓o_repT, ↓f_reprD, ↓w_dct0, ↓w_dct1, ↓dr_dget, ↓o_dget, ↓dr_inK, ↓o_inK, ↓o_getD, ↓w_dget2, ↓m_putD, ↓wi_keys, ↓f_listK, ↓f_sortK, ↓m_pop, ↓m_pop0, ↓m_insL, ↓m_ins, ↓m_refP, ↓w_clrR, ↓dp_dct, ↓w_chain3, ↓w_join, ↓w_fJoin, ↓w_split, ↓o_inS, ↓dr_inS, ↓wi_str, ↓w_fmt, ↓w_jsN, ↓w_jsC, ↓f_strI, ↓f_intI, ↓f_intB, ↓f_intS, ↓f_lenS, ↓o_ixS, Option.bind_some, Option.bind_none, Option.some.injEq, exists_eq_left', List.map_cons, List.map_nil, if_true, if_false, reduceIte, reduceCtorEq, Nat.reduceEqDiff, List.length_cons, List.length_nil, atI_0, decide_eq_true_eq, decide_eq_false_iff_not, true_and, and_true, false_and, and_false, not_true, not_false_iff, false_implies, true_implies, der_ref, der_lst, der_tup, der_frg, der_int, der_bl, der_str, der_non, der_dW, der_dP, der_dT, der_dWs, der_dTs, der_dct, isDK_d, kOf_int, kOf_str, kD_int, forall_const, not_true_eq_false, not_false_eq_true, exists_eq_left, exists_eq_right, Bool.not_eq_true', Bool.not_eq_false', List.mem_cons, List.not_mem_nil, or_false, false_or, Nat.reduceAdd, Nat.zero_add, List.set_cons_zero, List.set_cons_succ, all_shW, all_shT, all_shP, all_shI, e2, List.length_map, List.length_append]
  refine ⟨by simp only [LIM]; omega, ?_⟩
  rw [show D.str (sT m) :: (rs.map pT).map D.str = (sT m :: rs.map pT).map D.str from rfl, w_fJoin]
  exact ⟨strs_gb hw, h⟩
theorem gtext_spec {m : Int} {rs : List (Int × Int)} {st : Sto} {Q : D → Sto → Prop} {E} (hw : WebOk m rs) (h : Q (.str (gTx m rs)) st) : RsP (m__law_web_text [dWeb m rs] st) Q E := by
  have m1 := hw.m1
  have m8 := hw.m8
  have ln := hw.ln
  unfold m__law_web_text dWeb
  try simp (implicitDefEqProofs := false) only [↓w_ok, ↓w_err, ↓w_bad, ↓wl_ok, ↓w_bind, ↓w_bindL, ↓wl_bind, ↓wl_bindL, ↓w_nx, ↓w_rt, ↓w_bk, ↓w_ct, ↓w_er, ↓w_bd, ↓w_sq, ↓w_of, ↓w_sIf, ↓w_and, ↓w_or, ↓w_bIf, ↓w_mk, ↓w_call, ↓w_tup, ↓w_lst, ↓wl_cons, ↓wl_nil, ↓w_bin, ↓w_not, ↓w_neg, ↓w_chain, ↓w_c, ↓w_set, ↓w_own, ↓w_ex, ↓w_ret, ↓w_retN, ↓w_skip, ↓w_raise, ↓w_to, ↓w_putR, ↓w_ref, ↓w_for, ↓w_lc, ↓wi_seq, ↓wi_r1, ↓wi_r2, ↓wi_enum, ↓m_var, ↓m_peek, ↓m_retOwn, ↓m_fix, ↓m_app, ↓m_ext, ↓m_putL, ↓m_put, ↓m_putR, ↓m_ixR, ↓env_set, ↓env_0, ↓env_s, ↓env_n, ↓env_wp, ↓t_n, ↓t_u, ↓t_0, ↓t_s, ↓bX_bl, ↓o_add, ↓o_addT, ↓o_addL, ↓o_addS, ↓o_cat, ↓o_sub, ↓o_mul, ↓o_mod, ↓o_fdiv, ↓o_pow, ↓o_eq, ↓o_ne, ↓o_ic, ↓o_isN, ↓o_ixL, ↓o_ixT, ↓f_lenL, ↓f_lenT, ↓f_tupL, ↓f_tupT, ↓f_listL, ↓f_listT, ↓f_min2, ↓f_max2, ↓f_reprB, ↓w_sl, ↓w_slA, ↓w_slB, ↓w_slC, ↓o_slL, ↓o_slT, ↓o_slF, ↓o_slLL, ↓o_slLF, ↓wi_zip, ↓wi_ok, ↓src_lst, ↓src_ref, ↓zip_tt, ↓zip_ll, ↓zip_rl, ↓zip_lr, ↓w_isi, ↓o_inL, ↓o_inT, ↓dr_eq, ↓dr_ne, ↓dp_ref, ↓dp_lst, ↓dp_tup, ↓dp_frg, ↓dp_int, ↓dp_bl, ↓dp_str, ↓dp_non, ↓dp_dW, ↓dp_dP, ↓dp_dT, ↓dp_dWs, ↓dp_dTs, ↓dr_in, ↓dr_add, ↓dr_cat, ↓dr_b1, ↓dr_sl, ↓w_isiD, ↓f_sort, ↓w_rev, ↓w_appR, ↓w_refA, ↓w_listR1, ↓o_cmpD, ↓dr_cmpD, ↓w_revA, ↓o_repT, ↓f_reprD, ↓w_dct0, ↓w_dct1, ↓dr_dget, ↓o_dget, ↓dr_inK, ↓o_inK, ↓o_getD, ↓w_dget2, ↓m_putD, ↓wi_keys, ↓f_listK, ↓f_sortK, ↓m_pop, ↓m_pop0, ↓m_insL, ↓m_ins, ↓m_refP, ↓w_clrR, ↓dp_dct, ↓w_chain3, ↓w_join, ↓w_fJoin, ↓w_split, ↓o_inS, ↓dr_inS, ↓wi_str, ↓w_fmt, ↓w_jsN, ↓w_jsC, ↓f_strI, ↓f_intI, ↓f_intB, ↓f_intS, ↓f_lenS, ↓o_ixS, Option.bind_some, Option.bind_none, Option.some.injEq, exists_eq_left', List.map_cons, List.map_nil, if_true, if_false, reduceIte, reduceCtorEq, Nat.reduceEqDiff, List.length_cons, List.length_nil, atI_0, decide_eq_true_eq, decide_eq_false_iff_not, true_and, and_true, false_and, and_false, not_true, not_false_iff, false_implies, true_implies, der_ref, der_lst, der_tup, der_frg, der_int, der_bl, der_str, der_non, der_dW, der_dP, der_dT, der_dWs, der_dTs, der_dct, isDK_d, kOf_int, kOf_str, kD_int, forall_const, not_true_eq_false, not_false_eq_true, exists_eq_left, exists_eq_right, Bool.not_eq_true', Bool.not_eq_false', List.mem_cons, List.not_mem_nil, or_false, false_or, Nat.reduceAdd, Nat.zero_add, List.set_cons_zero, List.set_cons_succ, all_shW, all_shT, all_shP, all_shI, atI_1]
  refine ⟨I400_9 ⟨by omega, by omega⟩, ?_⟩
  refine lc_pure (enc := dP) (fun _ => true) (fun p => .str (pT p)) ?_ (by simp only [LIM]; omega) ?_
  · intro p hp
    have h1 := bd9 hw p hp
    simp only [dP]
    try simp (implicitDefEqProofs := false) only [↓w_ok, ↓w_err, ↓w_bad, ↓wl_ok, ↓w_bind, ↓w_bindL, ↓wl_bind, ↓wl_bindL, ↓w_nx, ↓w_rt, ↓w_bk, ↓w_ct, ↓w_er, ↓w_bd, ↓w_sq, ↓w_of, ↓w_sIf, ↓w_and, ↓w_or, ↓w_bIf, ↓w_mk, ↓w_call, ↓w_tup, ↓w_lst, ↓wl_cons, ↓wl_nil, ↓w_bin, ↓w_not, ↓w_neg, ↓w_chain, ↓w_c, ↓w_set, ↓w_own, ↓w_ex, ↓w_ret, ↓w_retN, ↓w_skip, ↓w_raise, ↓w_to, ↓w_putR, ↓w_ref, ↓w_for, ↓w_lc, ↓wi_seq, ↓wi_r1, ↓wi_r2, ↓wi_enum, ↓m_var, ↓m_peek, ↓m_retOwn, ↓m_fix, ↓m_app, ↓m_ext, ↓m_putL, ↓m_put, ↓m_putR, ↓m_ixR, ↓env_set, ↓env_0, ↓env_s, ↓env_n, ↓env_wp, ↓t_n, ↓t_u, ↓t_0, ↓t_s, ↓bX_bl, ↓o_add, ↓o_addT, ↓o_addL, ↓o_addS, ↓o_cat, ↓o_sub, ↓o_mul, ↓o_mod, ↓o_fdiv, ↓o_pow, ↓o_eq, ↓o_ne, ↓o_ic, ↓o_isN, ↓o_ixL, ↓o_ixT, ↓f_lenL, ↓f_lenT, ↓f_tupL, ↓f_tupT, ↓f_listL, ↓f_listT, ↓f_min2, ↓f_max2, ↓f_reprB, ↓w_sl, ↓w_slA, ↓w_slB, ↓w_slC, ↓o_slL, ↓o_slT, ↓o_slF, ↓o_slLL, ↓o_slLF, ↓wi_zip, ↓wi_ok, ↓src_lst, ↓src_ref, ↓zip_tt, ↓zip_ll, ↓zip_rl, ↓zip_lr, ↓w_isi, ↓o_inL, ↓o_inT, ↓dr_eq, ↓dr_ne, ↓dp_ref, ↓dp_lst, ↓dp_tup, ↓dp_frg, ↓dp_int, ↓dp_bl, ↓dp_str, ↓dp_non, ↓dp_dW, ↓dp_dP, ↓dp_dT, ↓dp_dWs, ↓dp_dTs, ↓dr_in, ↓dr_add, ↓dr_cat, ↓dr_b1, ↓dr_sl, ↓w_isiD, ↓f_sort, ↓w_rev, ↓w_appR, ↓w_refA, ↓w_listR1, ↓o_cmpD, ↓dr_cmpD, ↓w_revA, ↓o_repT, ↓f_reprD, ↓w_dct0, ↓w_dct1, ↓dr_dget, ↓o_dget, ↓dr_inK, ↓o_inK, ↓o_getD, ↓w_dget2, ↓m_putD, ↓wi_keys, ↓f_listK, ↓f_sortK, ↓m_pop, ↓m_pop0, ↓m_insL, ↓m_ins, ↓m_refP, ↓w_clrR, ↓dp_dct, ↓w_chain3, ↓w_join, ↓w_fJoin, ↓w_split, ↓o_inS, ↓dr_inS, ↓wi_str, ↓w_fmt, ↓w_jsN, ↓w_jsC, ↓f_strI, ↓f_intI, ↓f_intB, ↓f_intS, ↓f_lenS, ↓o_ixS, Option.bind_some, Option.bind_none, Option.some.injEq, exists_eq_left', List.map_cons, List.map_nil, if_true, if_false, reduceIte, reduceCtorEq, Nat.reduceEqDiff, List.length_cons, List.length_nil, atI_0, decide_eq_true_eq, decide_eq_false_iff_not, true_and, and_true, false_and, and_false, not_true, not_false_iff, false_implies, true_implies, der_ref, der_lst, der_tup, der_frg, der_int, der_bl, der_str, der_non, der_dW, der_dP, der_dT, der_dWs, der_dTs, der_dct, isDK_d, kOf_int, kOf_str, kD_int, forall_const, not_true_eq_false, not_false_eq_true, exists_eq_left, exists_eq_right, Bool.not_eq_true', Bool.not_eq_false', List.mem_cons, List.not_mem_nil, or_false, false_or, Nat.reduceAdd, Nat.zero_add, List.set_cons_zero, List.set_cons_succ, all_shW, all_shT, all_shP, all_shI]
    rw [emp_app]
    refine ⟨I400_9 ⟨by omega, by omega⟩, ?_, ?_, I400_9 ⟨by omega, by omega⟩, ?_, rfl⟩
    · rw [len_sT (by omega) (by omega)]; decide
    · rw [len_sd (by omega) (by omega)]; decide
    · have := len_pT h1
      unfold pT at this
      rw [this]; decide
  rw [filt_t, show (rs.map fun n => D.str (pT n)) = (rs.map pT).map D.str by rw [List.map_map]; rfl]
  have e2 : [D.str (sT m)] ++ (rs.map pT).map D.str = (sT m :: rs.map pT).map D.str := rfl
  try simp (implicitDefEqProofs := false) only [↓w_ok, ↓w_err, ↓w_bad, ↓wl_ok, ↓w_bind, ↓w_bindL, ↓wl_bind, ↓wl_bindL, ↓w_nx, ↓w_rt, ↓w_bk, ↓w_ct, ↓w_er, ↓w_bd, ↓w_sq, ↓w_of, ↓w_sIf, ↓w_and, ↓w_or, ↓w_bIf, ↓w_mk, ↓w_call, ↓w_tup, ↓w_lst, ↓wl_cons, ↓wl_nil, ↓w_bin, ↓w_not, ↓w_neg, ↓w_chain, ↓w_c, ↓w_set, ↓w_own, ↓w_ex, ↓w_ret, ↓w_retN, ↓w_skip, ↓w_raise, ↓w_to, ↓w_putR, ↓w_ref, ↓w_for, ↓w_lc, ↓wi_seq, ↓wi_r1, ↓wi_r2, ↓wi_enum, ↓m_var, ↓m_peek, ↓m_retOwn, ↓m_fix, ↓m_app, ↓m_ext, ↓m_putL, ↓m_put, ↓m_putR, ↓m_ixR, ↓env_set, ↓env_0, ↓env_s, ↓env_n, ↓env_wp, ↓t_n, ↓t_u, ↓t_0, ↓t_s, ↓bX_bl, ↓o_add, ↓o_addT, ↓o_addL, ↓o_addS, ↓o_cat, ↓o_sub, ↓o_mul, ↓o_mod, ↓o_fdiv, ↓o_pow, ↓o_eq, ↓o_ne, ↓o_ic, ↓o_isN, ↓o_ixL, ↓o_ixT, ↓f_lenL, ↓f_lenT, ↓f_tupL, ↓f_tupT, ↓f_listL, ↓f_listT, ↓f_min2, ↓f_max2, ↓f_reprB, ↓w_sl, ↓w_slA, ↓w_slB, ↓w_slC, ↓o_slL, ↓o_slT, ↓o_slF, ↓o_slLL, ↓o_slLF, ↓wi_zip, ↓wi_ok, ↓src_lst, ↓src_ref, ↓zip_tt, ↓zip_ll, ↓zip_rl, ↓zip_lr, ↓w_isi, ↓o_inL, ↓o_inT, ↓dr_eq, ↓dr_ne, ↓dp_ref, ↓dp_lst, ↓dp_tup, ↓dp_frg, ↓dp_int, ↓dp_bl, ↓dp_str, ↓dp_non, ↓dp_dW, ↓dp_dP, ↓dp_dT, ↓dp_dWs, ↓dp_dTs, ↓dr_in, ↓dr_add, ↓dr_cat, ↓dr_b1, ↓dr_sl, ↓w_isiD, ↓f_sort, ↓w_rev, ↓w_appR, ↓w_refA, ↓w_listR1, ↓o_cmpD, ↓dr_cmpD, ↓w_revA, ↓o_repT, ↓f_reprD, ↓w_dct0, ↓w_dct1, ↓dr_dget, ↓o_dget, ↓dr_inK, ↓o_inK, ↓o_getD, ↓w_dget2, ↓m_putD, ↓wi_keys, ↓f_listK, ↓f_sortK, ↓m_pop, ↓m_pop0, ↓m_insL, ↓m_ins, ↓m_refP, ↓w_clrR, ↓dp_dct, ↓w_chain3, ↓w_join, ↓w_fJoin, ↓w_split, ↓o_inS, ↓dr_inS, ↓wi_str, ↓w_fmt, ↓w_jsN, ↓w_jsC, ↓f_strI, ↓f_intI, ↓f_intB, ↓f_intS, ↓f_lenS, ↓o_ixS, Option.bind_some, Option.bind_none, Option.some.injEq, exists_eq_left', List.map_cons, List.map_nil, if_true, if_false, reduceIte, reduceCtorEq, Nat.reduceEqDiff, List.length_cons, List.length_nil, atI_0, decide_eq_true_eq, decide_eq_false_iff_not, true_and, and_true, false_and, and_false, not_true, not_false_iff, false_implies, true_implies, der_ref, der_lst, der_tup, der_frg, der_int, der_bl, der_str, der_non, der_dW, der_dP, der_dT, der_dWs, der_dTs, der_dct, isDK_d, kOf_int, kOf_str, kD_int, forall_const, not_true_eq_false, not_false_eq_true, exists_eq_left, exists_eq_right, Bool.not_eq_true', Bool.not_eq_false', List.mem_cons, List.not_mem_nil, or_false, false_or, Nat.reduceAdd, Nat.zero_add, List.set_cons_zero, List.set_cons_succ, all_shW, all_shT, all_shP, all_shI, e2, List.length_map, List.length_append]
  refine ⟨by simp only [LIM]; omega, ?_⟩
  rw [show D.str (sT m) :: (rs.map pT).map D.str = (sT m :: rs.map pT).map D.str from rfl, w_fJoin]
  exact ⟨strs_gb hw, h⟩
theorem readg_spec {m : Int} {rs : List (Int × Int)} {st : Sto} {Q : D → Sto → Prop} {E} (hw : WebOk m rs) (h : Q (dWeb m rs) st) : RsP (m_read_web [.str (gTx m rs)] st) Q E := by
  have m1 := hw.m1
  have m8 := hw.m8
  have ln := hw.ln
  have lj := len_join blank.1 (len3 hw)
  rw [List.length_cons, List.length_map] at lj
  have sp : Txt.split (Txt.join " " (sT m :: rs.map pT)) " " = sT m :: rs.map pT := split_join blank.1 blank.2.1 (by simp) fun p hp => by
    rcases List.mem_cons.mp hp with rfl | hp
    · rw [tl_sT (by omega) (by omega)]; simp; omega
    · obtain ⟨n, hn, rfl⟩ := List.mem_map.mp hp
      rw [tl_pT (bd9 hw n hn)]
      simp
      omega
  have ec : cut (D.str (sT m) :: (rs.map pT).map D.str) (some 1) none = rs.map fun p => D.str (pT p) := by
    have := cut_one (f := D.str) (xs := sT m :: rs.map pT)
    rw [List.map_cons] at this
    rw [this, List.tail_cons, List.map_map]
    rfl
  unfold m_read_web gTx
  try simp (implicitDefEqProofs := false) only [↓w_ok, ↓w_err, ↓w_bad, ↓wl_ok, ↓w_bind, ↓w_bindL, ↓wl_bind, ↓wl_bindL, ↓w_nx, ↓w_rt, ↓w_bk, ↓w_ct, ↓w_er, ↓w_bd, ↓w_sq, ↓w_of, ↓w_sIf, ↓w_and, ↓w_or, ↓w_bIf, ↓w_mk, ↓w_call, ↓w_tup, ↓w_lst, ↓wl_cons, ↓wl_nil, ↓w_bin, ↓w_not, ↓w_neg, ↓w_chain, ↓w_c, ↓w_set, ↓w_own, ↓w_ex, ↓w_ret, ↓w_retN, ↓w_skip, ↓w_raise, ↓w_to, ↓w_putR, ↓w_ref, ↓w_for, ↓w_lc, ↓wi_seq, ↓wi_r1, ↓wi_r2, ↓wi_enum, ↓m_var, ↓m_peek, ↓m_retOwn, ↓m_fix, ↓m_app, ↓m_ext, ↓m_putL, ↓m_put, ↓m_putR, ↓m_ixR, ↓env_set, ↓env_0, ↓env_s, ↓env_n, ↓env_wp, ↓t_n, ↓t_u, ↓t_0, ↓t_s, ↓bX_bl, ↓o_add, ↓o_addT, ↓o_addL, ↓o_addS, ↓o_cat, ↓o_sub, ↓o_mul, ↓o_mod, ↓o_fdiv, ↓o_pow, ↓o_eq, ↓o_ne, ↓o_ic, ↓o_isN, ↓o_ixL, ↓o_ixT, ↓f_lenL, ↓f_lenT, ↓f_tupL, ↓f_tupT, ↓f_listL, ↓f_listT, ↓f_min2, ↓f_max2, ↓f_reprB, ↓w_sl, ↓w_slA, ↓w_slB, ↓w_slC, ↓o_slL, ↓o_slT, ↓o_slF, ↓o_slLL, ↓o_slLF, ↓wi_zip, ↓wi_ok, ↓src_lst, ↓src_ref, ↓zip_tt, ↓zip_ll, ↓zip_rl, ↓zip_lr, ↓w_isi, ↓o_inL, ↓o_inT, ↓dr_eq, ↓dr_ne, ↓dp_ref, ↓dp_lst, ↓dp_tup, ↓dp_frg, ↓dp_int, ↓dp_bl, ↓dp_str, ↓dp_non, ↓dp_dW, ↓dp_dP, ↓dp_dT, ↓dp_dWs, ↓dp_dTs, ↓dr_in, ↓dr_add, ↓dr_cat, ↓dr_b1, ↓dr_sl, ↓w_isiD, ↓f_sort, ↓w_rev, ↓w_appR, ↓w_refA, ↓w_listR1, ↓o_cmpD, ↓dr_cmpD, ↓w_revA, ↓o_repT, ↓f_reprD, ↓w_dct0, ↓w_dct1, ↓dr_dget, ↓o_dget, ↓dr_inK, ↓o_inK, ↓o_getD, ↓w_dget2, ↓m_putD, ↓wi_keys, ↓f_listK, ↓f_sortK, ↓m_pop, ↓m_pop0, ↓m_insL, ↓m_ins, ↓m_refP, ↓w_clrR, ↓dp_dct, ↓w_chain3, ↓w_join, ↓w_fJoin, ↓w_split, ↓o_inS, ↓dr_inS, ↓wi_str, ↓w_fmt, ↓w_jsN, ↓w_jsC, ↓f_strI, ↓f_intI, ↓f_intB, ↓f_intS, ↓f_lenS, ↓o_ixS, Option.bind_some, Option.bind_none, Option.some.injEq, exists_eq_left', List.map_cons, List.map_nil, if_true, if_false, reduceIte, reduceCtorEq, Nat.reduceEqDiff, List.length_cons, List.length_nil, atI_0, decide_eq_true_eq, decide_eq_false_iff_not, true_and, and_true, false_and, and_false, not_true, not_false_iff, false_implies, true_implies, der_ref, der_lst, der_tup, der_frg, der_int, der_bl, der_str, der_non, der_dW, der_dP, der_dT, der_dWs, der_dTs, der_dct, isDK_d, kOf_int, kOf_str, kD_int, forall_const, not_true_eq_false, not_false_eq_true, exists_eq_left, exists_eq_right, Bool.not_eq_true', Bool.not_eq_false', List.mem_cons, List.not_mem_nil, or_false, false_or, Nat.reduceAdd, Nat.zero_add, List.set_cons_zero, List.set_cons_succ, all_shW, all_shT, all_shP, all_shI, sp, blank.2.2.1]
  refine ⟨⟨by decide, by simp only [LIM]; omega⟩, ?_⟩
  refine numin_spec (by omega) (by omega) ?_
  try simp (implicitDefEqProofs := false) only [↓w_ok, ↓w_err, ↓w_bad, ↓wl_ok, ↓w_bind, ↓w_bindL, ↓wl_bind, ↓wl_bindL, ↓w_nx, ↓w_rt, ↓w_bk, ↓w_ct, ↓w_er, ↓w_bd, ↓w_sq, ↓w_of, ↓w_sIf, ↓w_and, ↓w_or, ↓w_bIf, ↓w_mk, ↓w_call, ↓w_tup, ↓w_lst, ↓wl_cons, ↓wl_nil, ↓w_bin, ↓w_not, ↓w_neg, ↓w_chain, ↓w_c, ↓w_set, ↓w_own, ↓w_ex, ↓w_ret, ↓w_retN, ↓w_skip, ↓w_raise, ↓w_to, ↓w_putR, ↓w_ref, ↓w_for, ↓w_lc, ↓wi_seq, ↓wi_r1, ↓wi_r2, ↓wi_enum, ↓m_var, ↓m_peek, ↓m_retOwn, ↓m_fix, ↓m_app, ↓m_ext, ↓m_putL, ↓m_put, ↓m_putR, ↓m_ixR, ↓env_set, ↓env_0, ↓env_s, ↓env_n, ↓env_wp, ↓t_n, ↓t_u, ↓t_0, ↓t_s, ↓bX_bl, ↓o_add, ↓o_addT, ↓o_addL, ↓o_addS, ↓o_cat, ↓o_sub, ↓o_mul, ↓o_mod, ↓o_fdiv, ↓o_pow, ↓o_eq, ↓o_ne, ↓o_ic, ↓o_isN, ↓o_ixL, ↓o_ixT, ↓f_lenL, ↓f_lenT, ↓f_tupL, ↓f_tupT, ↓f_listL, ↓f_listT, ↓f_min2, ↓f_max2, ↓f_reprB, ↓w_sl, ↓w_slA, ↓w_slB, ↓w_slC, ↓o_slL, ↓o_slT, ↓o_slF, ↓o_slLL, ↓o_slLF, ↓wi_zip, ↓wi_ok, ↓src_lst, ↓src_ref, ↓zip_tt, ↓zip_ll, ↓zip_rl, ↓zip_lr, ↓w_isi, ↓o_inL, ↓o_inT, ↓dr_eq, ↓dr_ne, ↓dp_ref, ↓dp_lst, ↓dp_tup, ↓dp_frg, ↓dp_int, ↓dp_bl, ↓dp_str, ↓dp_non, ↓dp_dW, ↓dp_dP, ↓dp_dT, ↓dp_dWs, ↓dp_dTs, ↓dr_in, ↓dr_add, ↓dr_cat, ↓dr_b1, ↓dr_sl, ↓w_isiD, ↓f_sort, ↓w_rev, ↓w_appR, ↓w_refA, ↓w_listR1, ↓o_cmpD, ↓dr_cmpD, ↓w_revA, ↓o_repT, ↓f_reprD, ↓w_dct0, ↓w_dct1, ↓dr_dget, ↓o_dget, ↓dr_inK, ↓o_inK, ↓o_getD, ↓w_dget2, ↓m_putD, ↓wi_keys, ↓f_listK, ↓f_sortK, ↓m_pop, ↓m_pop0, ↓m_insL, ↓m_ins, ↓m_refP, ↓w_clrR, ↓dp_dct, ↓w_chain3, ↓w_join, ↓w_fJoin, ↓w_split, ↓o_inS, ↓dr_inS, ↓wi_str, ↓w_fmt, ↓w_jsN, ↓w_jsC, ↓f_strI, ↓f_intI, ↓f_intB, ↓f_intS, ↓f_lenS, ↓o_ixS, Option.bind_some, Option.bind_none, Option.some.injEq, exists_eq_left', List.map_cons, List.map_nil, if_true, if_false, reduceIte, reduceCtorEq, Nat.reduceEqDiff, List.length_cons, List.length_nil, atI_0, decide_eq_true_eq, decide_eq_false_iff_not, true_and, and_true, false_and, and_false, not_true, not_false_iff, false_implies, true_implies, der_ref, der_lst, der_tup, der_frg, der_int, der_bl, der_str, der_non, der_dW, der_dP, der_dT, der_dWs, der_dTs, der_dct, isDK_d, kOf_int, kOf_str, kD_int, forall_const, not_true_eq_false, not_false_eq_true, exists_eq_left, exists_eq_right, Bool.not_eq_true', Bool.not_eq_false', List.mem_cons, List.not_mem_nil, or_false, false_or, Nat.reduceAdd, Nat.zero_add, List.set_cons_zero, List.set_cons_succ, all_shW, all_shT, all_shP, all_shI, ec]
  refine lc_pure (enc := fun p => D.str (pT p)) (fun _ => true) (fun p => dP p) ?_ (by simp only [LIM]; omega) ?_
  · intro p hp
    have hp2 := bd9 hw p hp
    try simp (implicitDefEqProofs := false) only [↓w_ok, ↓w_err, ↓w_bad, ↓wl_ok, ↓w_bind, ↓w_bindL, ↓wl_bind, ↓wl_bindL, ↓w_nx, ↓w_rt, ↓w_bk, ↓w_ct, ↓w_er, ↓w_bd, ↓w_sq, ↓w_of, ↓w_sIf, ↓w_and, ↓w_or, ↓w_bIf, ↓w_mk, ↓w_call, ↓w_tup, ↓w_lst, ↓wl_cons, ↓wl_nil, ↓w_bin, ↓w_not, ↓w_neg, ↓w_chain, ↓w_c, ↓w_set, ↓w_own, ↓w_ex, ↓w_ret, ↓w_retN, ↓w_skip, ↓w_raise, ↓w_to, ↓w_putR, ↓w_ref, ↓w_for, ↓w_lc, ↓wi_seq, ↓wi_r1, ↓wi_r2, ↓wi_enum, ↓m_var, ↓m_peek, ↓m_retOwn, ↓m_fix, ↓m_app, ↓m_ext, ↓m_putL, ↓m_put, ↓m_putR, ↓m_ixR, ↓env_set, ↓env_0, ↓env_s, ↓env_n, ↓env_wp, ↓t_n, ↓t_u, ↓t_0, ↓t_s, ↓bX_bl, ↓o_add, ↓o_addT, ↓o_addL, ↓o_addS, ↓o_cat, ↓o_sub, ↓o_mul, ↓o_mod, ↓o_fdiv, ↓o_pow, ↓o_eq, ↓o_ne, ↓o_ic, ↓o_isN, ↓o_ixL, ↓o_ixT, ↓f_lenL, ↓f_lenT, ↓f_tupL, ↓f_tupT, ↓f_listL, ↓f_listT, ↓f_min2, ↓f_max2, ↓f_reprB, ↓w_sl, ↓w_slA, ↓w_slB, ↓w_slC, ↓o_slL, ↓o_slT, ↓o_slF, ↓o_slLL, ↓o_slLF, ↓wi_zip, ↓wi_ok, ↓src_lst, ↓src_ref, ↓zip_tt, ↓zip_ll, ↓zip_rl, ↓zip_lr, ↓w_isi, ↓o_inL, ↓o_inT, ↓dr_eq, ↓dr_ne, ↓dp_ref, ↓dp_lst, ↓dp_tup, ↓dp_frg, ↓dp_int, ↓dp_bl, ↓dp_str, ↓dp_non, ↓dp_dW, ↓dp_dP, ↓dp_dT, ↓dp_dWs, ↓dp_dTs, ↓dr_in, ↓dr_add, ↓dr_cat, ↓dr_b1, ↓dr_sl, ↓w_isiD, ↓f_sort, ↓w_rev, ↓w_appR, ↓w_refA, ↓w_listR1, ↓o_cmpD, ↓dr_cmpD, ↓w_revA, ↓o_repT, ↓f_reprD, ↓w_dct0, ↓w_dct1, ↓dr_dget, ↓o_dget, ↓dr_inK, ↓o_inK, ↓o_getD, ↓w_dget2, ↓m_putD, ↓wi_keys, ↓f_listK, ↓f_sortK, ↓m_pop, ↓m_pop0, ↓m_insL, ↓m_ins, ↓m_refP, ↓w_clrR, ↓dp_dct, ↓w_chain3, ↓w_join, ↓w_fJoin, ↓w_split, ↓o_inS, ↓dr_inS, ↓wi_str, ↓w_fmt, ↓w_jsN, ↓w_jsC, ↓f_strI, ↓f_intI, ↓f_intB, ↓f_intS, ↓f_lenS, ↓o_ixS, Option.bind_some, Option.bind_none, Option.some.injEq, exists_eq_left', List.map_cons, List.map_nil, if_true, if_false, reduceIte, reduceCtorEq, Nat.reduceEqDiff, List.length_cons, List.length_nil, atI_0, decide_eq_true_eq, decide_eq_false_iff_not, true_and, and_true, false_and, and_false, not_true, not_false_iff, false_implies, true_implies, der_ref, der_lst, der_tup, der_frg, der_int, der_bl, der_str, der_non, der_dW, der_dP, der_dT, der_dWs, der_dTs, der_dct, isDK_d, kOf_int, kOf_str, kD_int, forall_const, not_true_eq_false, not_false_eq_true, exists_eq_left, exists_eq_right, Bool.not_eq_true', Bool.not_eq_false', List.mem_cons, List.not_mem_nil, or_false, false_or, Nat.reduceAdd, Nat.zero_add, List.set_cons_zero, List.set_cons_succ, all_shW, all_shT, all_shP, all_shI]
    rw [pT_join]
    exact numsin_spec (l := [p.1, p.2]) dash.1 dash.2.1 (by decide) dash.2.2.1 (fun n hn => by
      simp only [List.mem_cons, List.not_mem_nil, or_false] at hn
      omega) (by simp) (by simp) ⟨rfl, rfl⟩
  rw [filt_t]
  rw [show (rs.map fun p => dP p) = rs.map dP from rfl]
  try simp (implicitDefEqProofs := false) only [↓w_ok, ↓w_err, ↓w_bad, ↓wl_ok, ↓w_bind, ↓w_bindL, ↓wl_bind, ↓wl_bindL, ↓w_nx, ↓w_rt, ↓w_bk, ↓w_ct, ↓w_er, ↓w_bd, ↓w_sq, ↓w_of, ↓w_sIf, ↓w_and, ↓w_or, ↓w_bIf, ↓w_mk, ↓w_call, ↓w_tup, ↓w_lst, ↓wl_cons, ↓wl_nil, ↓w_bin, ↓w_not, ↓w_neg, ↓w_chain, ↓w_c, ↓w_set, ↓w_own, ↓w_ex, ↓w_ret, ↓w_retN, ↓w_skip, ↓w_raise, ↓w_to, ↓w_putR, ↓w_ref, ↓w_for, ↓w_lc, ↓wi_seq, ↓wi_r1, ↓wi_r2, ↓wi_enum, ↓m_var, ↓m_peek, ↓m_retOwn, ↓m_fix, ↓m_app, ↓m_ext, ↓m_putL, ↓m_put, ↓m_putR, ↓m_ixR, ↓env_set, ↓env_0, ↓env_s, ↓env_n, ↓env_wp, ↓t_n, ↓t_u, ↓t_0, ↓t_s, ↓bX_bl, ↓o_add, ↓o_addT, ↓o_addL, ↓o_addS, ↓o_cat, ↓o_sub, ↓o_mul, ↓o_mod, ↓o_fdiv, ↓o_pow, ↓o_eq, ↓o_ne, ↓o_ic, ↓o_isN, ↓o_ixL, ↓o_ixT, ↓f_lenL, ↓f_lenT, ↓f_tupL, ↓f_tupT, ↓f_listL, ↓f_listT, ↓f_min2, ↓f_max2, ↓f_reprB, ↓w_sl, ↓w_slA, ↓w_slB, ↓w_slC, ↓o_slL, ↓o_slT, ↓o_slF, ↓o_slLL, ↓o_slLF, ↓wi_zip, ↓wi_ok, ↓src_lst, ↓src_ref, ↓zip_tt, ↓zip_ll, ↓zip_rl, ↓zip_lr, ↓w_isi, ↓o_inL, ↓o_inT, ↓dr_eq, ↓dr_ne, ↓dp_ref, ↓dp_lst, ↓dp_tup, ↓dp_frg, ↓dp_int, ↓dp_bl, ↓dp_str, ↓dp_non, ↓dp_dW, ↓dp_dP, ↓dp_dT, ↓dp_dWs, ↓dp_dTs, ↓dr_in, ↓dr_add, ↓dr_cat, ↓dr_b1, ↓dr_sl, ↓w_isiD, ↓f_sort, ↓w_rev, ↓w_appR, ↓w_refA, ↓w_listR1, ↓o_cmpD, ↓dr_cmpD, ↓w_revA, ↓o_repT, ↓f_reprD, ↓w_dct0, ↓w_dct1, ↓dr_dget, ↓o_dget, ↓dr_inK, ↓o_inK, ↓o_getD, ↓w_dget2, ↓m_putD, ↓wi_keys, ↓f_listK, ↓f_sortK, ↓m_pop, ↓m_pop0, ↓m_insL, ↓m_ins, ↓m_refP, ↓w_clrR, ↓dp_dct, ↓w_chain3, ↓w_join, ↓w_fJoin, ↓w_split, ↓o_inS, ↓dr_inS, ↓wi_str, ↓w_fmt, ↓w_jsN, ↓w_jsC, ↓f_strI, ↓f_intI, ↓f_intB, ↓f_intS, ↓f_lenS, ↓o_ixS, Option.bind_some, Option.bind_none, Option.some.injEq, exists_eq_left', List.map_cons, List.map_nil, if_true, if_false, reduceIte, reduceCtorEq, Nat.reduceEqDiff, List.length_cons, List.length_nil, atI_0, decide_eq_true_eq, decide_eq_false_iff_not, true_and, and_true, false_and, and_false, not_true, not_false_iff, false_implies, true_implies, der_ref, der_lst, der_tup, der_frg, der_int, der_bl, der_str, der_non, der_dW, der_dP, der_dT, der_dWs, der_dTs, der_dct, isDK_d, kOf_int, kOf_str, kD_int, forall_const, not_true_eq_false, not_false_eq_true, exists_eq_left, exists_eq_right, Bool.not_eq_true', Bool.not_eq_false', List.mem_cons, List.not_mem_nil, or_false, false_or, Nat.reduceAdd, Nat.zero_add, List.set_cons_zero, List.set_cons_succ, all_shW, all_shT, all_shP, all_shI]
  rw [← show dWeb m rs = .tup [.int m, .tup (rs.map dP)] from rfl]
  refine isweb_true hw ?_
  try simp (implicitDefEqProofs := false) only [↓w_ok, ↓w_err, ↓w_bad, ↓wl_ok, ↓w_bind, ↓w_bindL, ↓wl_bind, ↓wl_bindL, ↓w_nx, ↓w_rt, ↓w_bk, ↓w_ct, ↓w_er, ↓w_bd, ↓w_sq, ↓w_of, ↓w_sIf, ↓w_and, ↓w_or, ↓w_bIf, ↓w_mk, ↓w_call, ↓w_tup, ↓w_lst, ↓wl_cons, ↓wl_nil, ↓w_bin, ↓w_not, ↓w_neg, ↓w_chain, ↓w_c, ↓w_set, ↓w_own, ↓w_ex, ↓w_ret, ↓w_retN, ↓w_skip, ↓w_raise, ↓w_to, ↓w_putR, ↓w_ref, ↓w_for, ↓w_lc, ↓wi_seq, ↓wi_r1, ↓wi_r2, ↓wi_enum, ↓m_var, ↓m_peek, ↓m_retOwn, ↓m_fix, ↓m_app, ↓m_ext, ↓m_putL, ↓m_put, ↓m_putR, ↓m_ixR, ↓env_set, ↓env_0, ↓env_s, ↓env_n, ↓env_wp, ↓t_n, ↓t_u, ↓t_0, ↓t_s, ↓bX_bl, ↓o_add, ↓o_addT, ↓o_addL, ↓o_addS, ↓o_cat, ↓o_sub, ↓o_mul, ↓o_mod, ↓o_fdiv, ↓o_pow, ↓o_eq, ↓o_ne, ↓o_ic, ↓o_isN, ↓o_ixL, ↓o_ixT, ↓f_lenL, ↓f_lenT, ↓f_tupL, ↓f_tupT, ↓f_listL, ↓f_listT, ↓f_min2, ↓f_max2, ↓f_reprB, ↓w_sl, ↓w_slA, ↓w_slB, ↓w_slC, ↓o_slL, ↓o_slT, ↓o_slF, ↓o_slLL, ↓o_slLF, ↓wi_zip, ↓wi_ok, ↓src_lst, ↓src_ref, ↓zip_tt, ↓zip_ll, ↓zip_rl, ↓zip_lr, ↓w_isi, ↓o_inL, ↓o_inT, ↓dr_eq, ↓dr_ne, ↓dp_ref, ↓dp_lst, ↓dp_tup, ↓dp_frg, ↓dp_int, ↓dp_bl, ↓dp_str, ↓dp_non, ↓dp_dW, ↓dp_dP, ↓dp_dT, ↓dp_dWs, ↓dp_dTs, ↓dr_in, ↓dr_add, ↓dr_cat, ↓dr_b1, ↓dr_sl, ↓w_isiD, ↓f_sort, ↓w_rev, ↓w_appR, ↓w_refA, ↓w_listR1, ↓o_cmpD, ↓dr_cmpD, ↓w_revA, ↓o_repT, ↓f_reprD, ↓w_dct0, ↓w_dct1, ↓dr_dget, ↓o_dget, ↓dr_inK, ↓o_inK, ↓o_getD, ↓w_dget2, ↓m_putD, ↓wi_keys, ↓f_listK, ↓f_sortK, ↓m_pop, ↓m_pop0, ↓m_insL, ↓m_ins, ↓m_refP, ↓w_clrR, ↓dp_dct, ↓w_chain3, ↓w_join, ↓w_fJoin, ↓w_split, ↓o_inS, ↓dr_inS, ↓wi_str, ↓w_fmt, ↓w_jsN, ↓w_jsC, ↓f_strI, ↓f_intI, ↓f_intB, ↓f_intS, ↓f_lenS, ↓o_ixS, Option.bind_some, Option.bind_none, Option.some.injEq, exists_eq_left', List.map_cons, List.map_nil, if_true, if_false, reduceIte, reduceCtorEq, Nat.reduceEqDiff, List.length_cons, List.length_nil, atI_0, decide_eq_true_eq, decide_eq_false_iff_not, true_and, and_true, false_and, and_false, not_true, not_false_iff, false_implies, true_implies, der_ref, der_lst, der_tup, der_frg, der_int, der_bl, der_str, der_non, der_dW, der_dP, der_dT, der_dWs, der_dTs, der_dct, isDK_d, kOf_int, kOf_str, kD_int, forall_const, not_true_eq_false, not_false_eq_true, exists_eq_left, exists_eq_right, Bool.not_eq_true', Bool.not_eq_false', List.mem_cons, List.not_mem_nil, or_false, false_or, Nat.reduceAdd, Nat.zero_add, List.set_cons_zero, List.set_cons_succ, all_shW, all_shT, all_shP, all_shI, Bool.not_true, Bool.false_eq_true]
  exact h
theorem law_true : ∀ ns : List Int, ns.length ≤ 63 → ∃ st, m_law [.frg (ns.map D.int)] [] = .ok (.bl true) st := by
  intro ns _
  suffices h : RsP (m_law [.frg (ns.map D.int)] []) (fun d _ => d = .bl true) (fun _ _ _ => False) by
    cases z : m_law [.frg (ns.map D.int)] [] with
    | ok d st => rw [z] at h; exact ⟨st, by rw [show d = .bl true from h]⟩
    | err c a st => rw [z] at h; exact h.elim
    | bad => rw [z] at h; exact h.elim
  unfold m_law
  try simp (implicitDefEqProofs := false) only [↓w_ok, ↓w_err, ↓w_bad, ↓wl_ok, ↓w_bind, ↓w_bindL, ↓wl_bind, ↓wl_bindL, ↓w_nx, ↓w_rt, ↓w_bk, ↓w_ct, ↓w_er, ↓w_bd, ↓w_sq, ↓w_of, ↓w_sIf, ↓w_and, ↓w_or, ↓w_bIf, ↓w_mk, ↓w_call, ↓w_tup, ↓w_lst, ↓wl_cons, ↓wl_nil, ↓w_bin, ↓w_not, ↓w_neg, ↓w_chain, ↓w_c, ↓w_set, ↓w_own, ↓w_ex, ↓w_ret, ↓w_retN, ↓w_skip, ↓w_raise, ↓w_to, ↓w_putR, ↓w_ref, ↓w_for, ↓w_lc, ↓wi_seq, ↓wi_r1, ↓wi_r2, ↓wi_enum, ↓m_var, ↓m_peek, ↓m_retOwn, ↓m_fix, ↓m_app, ↓m_ext, ↓m_putL, ↓m_put, ↓m_putR, ↓m_ixR, ↓env_set, ↓env_0, ↓env_s, ↓env_n, ↓env_wp, ↓t_n, ↓t_u, ↓t_0, ↓t_s, ↓bX_bl, ↓o_add, ↓o_addT, ↓o_addL, ↓o_addS, ↓o_cat, ↓o_sub, ↓o_mul, ↓o_mod, ↓o_fdiv, ↓o_pow, ↓o_eq, ↓o_ne, ↓o_ic, ↓o_isN, ↓o_ixL, ↓o_ixT, ↓f_lenL, ↓f_lenT, ↓f_tupL, ↓f_tupT, ↓f_listL, ↓f_listT, ↓f_min2, ↓f_max2, ↓f_reprB, ↓w_sl, ↓w_slA, ↓w_slB, ↓w_slC, ↓o_slL, ↓o_slT, ↓o_slF, ↓o_slLL, ↓o_slLF, ↓wi_zip, ↓wi_ok, ↓src_lst, ↓src_ref, ↓zip_tt, ↓zip_ll, ↓zip_rl, ↓zip_lr, ↓w_isi, ↓o_inL, ↓o_inT, ↓dr_eq, ↓dr_ne, ↓dp_ref, ↓dp_lst, ↓dp_tup, ↓dp_frg, ↓dp_int, ↓dp_bl, ↓dp_str, ↓dp_non, ↓dp_dW, ↓dp_dP, ↓dp_dT, ↓dp_dWs, ↓dp_dTs, ↓dr_in, ↓dr_add, ↓dr_cat, ↓dr_b1, ↓dr_sl, ↓w_isiD, ↓f_sort, ↓w_rev, ↓w_appR, ↓w_refA, ↓w_listR1, ↓o_cmpD, ↓dr_cmpD, ↓w_revA, ↓o_repT, ↓f_reprD, ↓w_dct0, ↓w_dct1, ↓dr_dget, ↓o_dget, ↓dr_inK, ↓o_inK, ↓o_getD, ↓w_dget2, ↓m_putD, ↓wi_keys, ↓f_listK, ↓f_sortK, ↓m_pop, ↓m_pop0, ↓m_insL, ↓m_ins, ↓m_refP, ↓w_clrR, ↓dp_dct, ↓w_chain3, ↓w_join, ↓w_fJoin, ↓w_split, ↓o_inS, ↓dr_inS, ↓wi_str, ↓w_fmt, ↓w_jsN, ↓w_jsC, ↓f_strI, ↓f_intI, ↓f_intB, ↓f_intS, ↓f_lenS, ↓o_ixS, Option.bind_some, Option.bind_none, Option.some.injEq, exists_eq_left', List.map_cons, List.map_nil, if_true, if_false, reduceIte, reduceCtorEq, Nat.reduceEqDiff, List.length_cons, List.length_nil, atI_0, decide_eq_true_eq, decide_eq_false_iff_not, true_and, and_true, false_and, and_false, not_true, not_false_iff, false_implies, true_implies, der_ref, der_lst, der_tup, der_frg, der_int, der_bl, der_str, der_non, der_dW, der_dP, der_dT, der_dWs, der_dTs, der_dct, isDK_d, kOf_int, kOf_str, kD_int, forall_const, not_true_eq_false, not_false_eq_true, exists_eq_left, exists_eq_right, Bool.not_eq_true', Bool.not_eq_false', List.mem_cons, List.not_mem_nil, or_false, false_or, Nat.reduceAdd, Nat.zero_add, List.set_cons_zero, List.set_cons_succ, all_shW, all_shT, all_shP, all_shI]
  refine pot_spec fun st hp hl => ?_
  try simp (implicitDefEqProofs := false) only [↓w_ok, ↓w_err, ↓w_bad, ↓wl_ok, ↓w_bind, ↓w_bindL, ↓wl_bind, ↓wl_bindL, ↓w_nx, ↓w_rt, ↓w_bk, ↓w_ct, ↓w_er, ↓w_bd, ↓w_sq, ↓w_of, ↓w_sIf, ↓w_and, ↓w_or, ↓w_bIf, ↓w_mk, ↓w_call, ↓w_tup, ↓w_lst, ↓wl_cons, ↓wl_nil, ↓w_bin, ↓w_not, ↓w_neg, ↓w_chain, ↓w_c, ↓w_set, ↓w_own, ↓w_ex, ↓w_ret, ↓w_retN, ↓w_skip, ↓w_raise, ↓w_to, ↓w_putR, ↓w_ref, ↓w_for, ↓w_lc, ↓wi_seq, ↓wi_r1, ↓wi_r2, ↓wi_enum, ↓m_var, ↓m_peek, ↓m_retOwn, ↓m_fix, ↓m_app, ↓m_ext, ↓m_putL, ↓m_put, ↓m_putR, ↓m_ixR, ↓env_set, ↓env_0, ↓env_s, ↓env_n, ↓env_wp, ↓t_n, ↓t_u, ↓t_0, ↓t_s, ↓bX_bl, ↓o_add, ↓o_addT, ↓o_addL, ↓o_addS, ↓o_cat, ↓o_sub, ↓o_mul, ↓o_mod, ↓o_fdiv, ↓o_pow, ↓o_eq, ↓o_ne, ↓o_ic, ↓o_isN, ↓o_ixL, ↓o_ixT, ↓f_lenL, ↓f_lenT, ↓f_tupL, ↓f_tupT, ↓f_listL, ↓f_listT, ↓f_min2, ↓f_max2, ↓f_reprB, ↓w_sl, ↓w_slA, ↓w_slB, ↓w_slC, ↓o_slL, ↓o_slT, ↓o_slF, ↓o_slLL, ↓o_slLF, ↓wi_zip, ↓wi_ok, ↓src_lst, ↓src_ref, ↓zip_tt, ↓zip_ll, ↓zip_rl, ↓zip_lr, ↓w_isi, ↓o_inL, ↓o_inT, ↓dr_eq, ↓dr_ne, ↓dp_ref, ↓dp_lst, ↓dp_tup, ↓dp_frg, ↓dp_int, ↓dp_bl, ↓dp_str, ↓dp_non, ↓dp_dW, ↓dp_dP, ↓dp_dT, ↓dp_dWs, ↓dp_dTs, ↓dr_in, ↓dr_add, ↓dr_cat, ↓dr_b1, ↓dr_sl, ↓w_isiD, ↓f_sort, ↓w_rev, ↓w_appR, ↓w_refA, ↓w_listR1, ↓o_cmpD, ↓dr_cmpD, ↓w_revA, ↓o_repT, ↓f_reprD, ↓w_dct0, ↓w_dct1, ↓dr_dget, ↓o_dget, ↓dr_inK, ↓o_inK, ↓o_getD, ↓w_dget2, ↓m_putD, ↓wi_keys, ↓f_listK, ↓f_sortK, ↓m_pop, ↓m_pop0, ↓m_insL, ↓m_ins, ↓m_refP, ↓w_clrR, ↓dp_dct, ↓w_chain3, ↓w_join, ↓w_fJoin, ↓w_split, ↓o_inS, ↓dr_inS, ↓wi_str, ↓w_fmt, ↓w_jsN, ↓w_jsC, ↓f_strI, ↓f_intI, ↓f_intB, ↓f_intS, ↓f_lenS, ↓o_ixS, Option.bind_some, Option.bind_none, Option.some.injEq, exists_eq_left', List.map_cons, List.map_nil, if_true, if_false, reduceIte, reduceCtorEq, Nat.reduceEqDiff, List.length_cons, List.length_nil, atI_0, decide_eq_true_eq, decide_eq_false_iff_not, true_and, and_true, false_and, and_false, not_true, not_false_iff, false_implies, true_implies, der_ref, der_lst, der_tup, der_frg, der_int, der_bl, der_str, der_non, der_dW, der_dP, der_dT, der_dWs, der_dTs, der_dct, isDK_d, kOf_int, kOf_str, kD_int, forall_const, not_true_eq_false, not_false_eq_true, exists_eq_left, exists_eq_right, Bool.not_eq_true', Bool.not_eq_false', List.mem_cons, List.not_mem_nil, or_false, false_or, Nat.reduceAdd, Nat.zero_add, List.set_cons_zero, List.set_cons_succ, all_shW, all_shT, all_shP, all_shI, rangeD_map, B62]
  refine ⟨by decide, ?_⟩
  refine for_rule (fun _ _ r s => Pot 0 s ∧ r 1 = some (false, .ref 0)) ⟨hp, by try simp (implicitDefEqProofs := false) only [↓w_ok, ↓w_err, ↓w_bad, ↓wl_ok, ↓w_bind, ↓w_bindL, ↓wl_bind, ↓wl_bindL, ↓w_nx, ↓w_rt, ↓w_bk, ↓w_ct, ↓w_er, ↓w_bd, ↓w_sq, ↓w_of, ↓w_sIf, ↓w_and, ↓w_or, ↓w_bIf, ↓w_mk, ↓w_call, ↓w_tup, ↓w_lst, ↓wl_cons, ↓wl_nil, ↓w_bin, ↓w_not, ↓w_neg, ↓w_chain, ↓w_c, ↓w_set, ↓w_own, ↓w_ex, ↓w_ret, ↓w_retN, ↓w_skip, ↓w_raise, ↓w_to, ↓w_putR, ↓w_ref, ↓w_for, ↓w_lc, ↓wi_seq, ↓wi_r1, ↓wi_r2, ↓wi_enum, ↓m_var, ↓m_peek, ↓m_retOwn, ↓m_fix, ↓m_app, ↓m_ext, ↓m_putL, ↓m_put, ↓m_putR, ↓m_ixR, ↓env_set, ↓env_0, ↓env_s, ↓env_n, ↓env_wp, ↓t_n, ↓t_u, ↓t_0, ↓t_s, ↓bX_bl, ↓o_add, ↓o_addT, ↓o_addL, ↓o_addS, ↓o_cat, ↓o_sub, ↓o_mul, ↓o_mod, ↓o_fdiv, ↓o_pow, ↓o_eq, ↓o_ne, ↓o_ic, ↓o_isN, ↓o_ixL, ↓o_ixT, ↓f_lenL, ↓f_lenT, ↓f_tupL, ↓f_tupT, ↓f_listL, ↓f_listT, ↓f_min2, ↓f_max2, ↓f_reprB, ↓w_sl, ↓w_slA, ↓w_slB, ↓w_slC, ↓o_slL, ↓o_slT, ↓o_slF, ↓o_slLL, ↓o_slLF, ↓wi_zip, ↓wi_ok, ↓src_lst, ↓src_ref, ↓zip_tt, ↓zip_ll, ↓zip_rl, ↓zip_lr, ↓w_isi, ↓o_inL, ↓o_inT, ↓dr_eq, ↓dr_ne, ↓dp_ref, ↓dp_lst, ↓dp_tup, ↓dp_frg, ↓dp_int, ↓dp_bl, ↓dp_str, ↓dp_non, ↓dp_dW, ↓dp_dP, ↓dp_dT, ↓dp_dWs, ↓dp_dTs, ↓dr_in, ↓dr_add, ↓dr_cat, ↓dr_b1, ↓dr_sl, ↓w_isiD, ↓f_sort, ↓w_rev, ↓w_appR, ↓w_refA, ↓w_listR1, ↓o_cmpD, ↓dr_cmpD, ↓w_revA, ↓o_repT, ↓f_reprD, ↓w_dct0, ↓w_dct1, ↓dr_dget, ↓o_dget, ↓dr_inK, ↓o_inK, ↓o_getD, ↓w_dget2, ↓m_putD, ↓wi_keys, ↓f_listK, ↓f_sortK, ↓m_pop, ↓m_pop0, ↓m_insL, ↓m_ins, ↓m_refP, ↓w_clrR, ↓dp_dct, ↓w_chain3, ↓w_join, ↓w_fJoin, ↓w_split, ↓o_inS, ↓dr_inS, ↓wi_str, ↓w_fmt, ↓w_jsN, ↓w_jsC, ↓f_strI, ↓f_intI, ↓f_intB, ↓f_intS, ↓f_lenS, ↓o_ixS, Option.bind_some, Option.bind_none, Option.some.injEq, exists_eq_left', List.map_cons, List.map_nil, if_true, if_false, reduceIte, reduceCtorEq, Nat.reduceEqDiff, List.length_cons, List.length_nil, atI_0, decide_eq_true_eq, decide_eq_false_iff_not, true_and, and_true, false_and, and_false, not_true, not_false_iff, false_implies, true_implies, der_ref, der_lst, der_tup, der_frg, der_int, der_bl, der_str, der_non, der_dW, der_dP, der_dT, der_dWs, der_dTs, der_dct, isDK_d, kOf_int, kOf_str, kD_int, forall_const, not_true_eq_false, not_false_eq_true, exists_eq_left, exists_eq_right, Bool.not_eq_true', Bool.not_eq_false', List.mem_cons, List.not_mem_nil, or_false, false_or, Nat.reduceAdd, Nat.zero_add, List.set_cons_zero, List.set_cons_succ, all_shW, all_shT, all_shP, all_shI]⟩ ?_ ?_
  · rintro done a rest r s _ ⟨hp, r1⟩
    try simp (implicitDefEqProofs := false) only [↓w_ok, ↓w_err, ↓w_bad, ↓wl_ok, ↓w_bind, ↓w_bindL, ↓wl_bind, ↓wl_bindL, ↓w_nx, ↓w_rt, ↓w_bk, ↓w_ct, ↓w_er, ↓w_bd, ↓w_sq, ↓w_of, ↓w_sIf, ↓w_and, ↓w_or, ↓w_bIf, ↓w_mk, ↓w_call, ↓w_tup, ↓w_lst, ↓wl_cons, ↓wl_nil, ↓w_bin, ↓w_not, ↓w_neg, ↓w_chain, ↓w_c, ↓w_set, ↓w_own, ↓w_ex, ↓w_ret, ↓w_retN, ↓w_skip, ↓w_raise, ↓w_to, ↓w_putR, ↓w_ref, ↓w_for, ↓w_lc, ↓wi_seq, ↓wi_r1, ↓wi_r2, ↓wi_enum, ↓m_var, ↓m_peek, ↓m_retOwn, ↓m_fix, ↓m_app, ↓m_ext, ↓m_putL, ↓m_put, ↓m_putR, ↓m_ixR, ↓env_set, ↓env_0, ↓env_s, ↓env_n, ↓env_wp, ↓t_n, ↓t_u, ↓t_0, ↓t_s, ↓bX_bl, ↓o_add, ↓o_addT, ↓o_addL, ↓o_addS, ↓o_cat, ↓o_sub, ↓o_mul, ↓o_mod, ↓o_fdiv, ↓o_pow, ↓o_eq, ↓o_ne, ↓o_ic, ↓o_isN, ↓o_ixL, ↓o_ixT, ↓f_lenL, ↓f_lenT, ↓f_tupL, ↓f_tupT, ↓f_listL, ↓f_listT, ↓f_min2, ↓f_max2, ↓f_reprB, ↓w_sl, ↓w_slA, ↓w_slB, ↓w_slC, ↓o_slL, ↓o_slT, ↓o_slF, ↓o_slLL, ↓o_slLF, ↓wi_zip, ↓wi_ok, ↓src_lst, ↓src_ref, ↓zip_tt, ↓zip_ll, ↓zip_rl, ↓zip_lr, ↓w_isi, ↓o_inL, ↓o_inT, ↓dr_eq, ↓dr_ne, ↓dp_ref, ↓dp_lst, ↓dp_tup, ↓dp_frg, ↓dp_int, ↓dp_bl, ↓dp_str, ↓dp_non, ↓dp_dW, ↓dp_dP, ↓dp_dT, ↓dp_dWs, ↓dp_dTs, ↓dr_in, ↓dr_add, ↓dr_cat, ↓dr_b1, ↓dr_sl, ↓w_isiD, ↓f_sort, ↓w_rev, ↓w_appR, ↓w_refA, ↓w_listR1, ↓o_cmpD, ↓dr_cmpD, ↓w_revA, ↓o_repT, ↓f_reprD, ↓w_dct0, ↓w_dct1, ↓dr_dget, ↓o_dget, ↓dr_inK, ↓o_inK, ↓o_getD, ↓w_dget2, ↓m_putD, ↓wi_keys, ↓f_listK, ↓f_sortK, ↓m_pop, ↓m_pop0, ↓m_insL, ↓m_ins, ↓m_refP, ↓w_clrR, ↓dp_dct, ↓w_chain3, ↓w_join, ↓w_fJoin, ↓w_split, ↓o_inS, ↓dr_inS, ↓wi_str, ↓w_fmt, ↓w_jsN, ↓w_jsC, ↓f_strI, ↓f_intI, ↓f_intB, ↓f_intS, ↓f_lenS, ↓o_ixS, Option.bind_some, Option.bind_none, Option.some.injEq, exists_eq_left', List.map_cons, List.map_nil, if_true, if_false, reduceIte, reduceCtorEq, Nat.reduceEqDiff, List.length_cons, List.length_nil, atI_0, decide_eq_true_eq, decide_eq_false_iff_not, true_and, and_true, false_and, and_false, not_true, not_false_iff, false_implies, true_implies, der_ref, der_lst, der_tup, der_frg, der_int, der_bl, der_str, der_non, der_dW, der_dP, der_dT, der_dWs, der_dTs, der_dct, isDK_d, kOf_int, kOf_str, kD_int, forall_const, not_true_eq_false, not_false_eq_true, exists_eq_left, exists_eq_right, Bool.not_eq_true', Bool.not_eq_false', List.mem_cons, List.not_mem_nil, or_false, false_or, Nat.reduceAdd, Nat.zero_add, List.set_cons_zero, List.set_cons_succ, all_shW, all_shT, all_shP, all_shI, r1]
    refine web_spec hp (by decide) (by decide) fun m rs s1 hw _ hp1 _ => ?_
    have ln := hw.ln
    have sG : smD 7 (.str (gTx m rs)) := smD_str.mpr so_gTx
    have sw : smD 7 (dWeb m rs) := by
      unfold dWeb
      rw [smD_tup]
      refine ⟨by simp [LIM], fun x hx => ?_⟩
      simp only [List.mem_cons, List.not_mem_nil, or_false] at hx
      rcases hx with rfl | rfl
      · exact smD_int
      · rw [smD_tup]
        refine ⟨by rw [List.length_map]; simp only [LIM]; omega, fun y hy => ?_⟩
        obtain ⟨p, _, rfl⟩ := List.mem_map.mp hy
        exact smD_dP
    have ee : ∀ d : D, eqD d d = true := fun d => eqD_iff.mpr rfl
    try simp (implicitDefEqProofs := false) only [↓w_ok, ↓w_err, ↓w_bad, ↓wl_ok, ↓w_bind, ↓w_bindL, ↓wl_bind, ↓wl_bindL, ↓w_nx, ↓w_rt, ↓w_bk, ↓w_ct, ↓w_er, ↓w_bd, ↓w_sq, ↓w_of, ↓w_sIf, ↓w_and, ↓w_or, ↓w_bIf, ↓w_mk, ↓w_call, ↓w_tup, ↓w_lst, ↓wl_cons, ↓wl_nil, ↓w_bin, ↓w_not, ↓w_neg, ↓w_chain, ↓w_c, ↓w_set, ↓w_own, ↓w_ex, ↓w_ret, ↓w_retN, ↓w_skip, ↓w_raise, ↓w_to, ↓w_putR, ↓w_ref, ↓w_for, ↓w_lc, ↓wi_seq, ↓wi_r1, ↓wi_r2, ↓wi_enum, ↓m_var, ↓m_peek, ↓m_retOwn, ↓m_fix, ↓m_app, ↓m_ext, ↓m_putL, ↓m_put, ↓m_putR, ↓m_ixR, ↓env_set, ↓env_0, ↓env_s, ↓env_n, ↓env_wp, ↓t_n, ↓t_u, ↓t_0, ↓t_s, ↓bX_bl, ↓o_add, ↓o_addT, ↓o_addL, ↓o_addS, ↓o_cat, ↓o_sub, ↓o_mul, ↓o_mod, ↓o_fdiv, ↓o_pow, ↓o_eq, ↓o_ne, ↓o_ic, ↓o_isN, ↓o_ixL, ↓o_ixT, ↓f_lenL, ↓f_lenT, ↓f_tupL, ↓f_tupT, ↓f_listL, ↓f_listT, ↓f_min2, ↓f_max2, ↓f_reprB, ↓w_sl, ↓w_slA, ↓w_slB, ↓w_slC, ↓o_slL, ↓o_slT, ↓o_slF, ↓o_slLL, ↓o_slLF, ↓wi_zip, ↓wi_ok, ↓src_lst, ↓src_ref, ↓zip_tt, ↓zip_ll, ↓zip_rl, ↓zip_lr, ↓w_isi, ↓o_inL, ↓o_inT, ↓dr_eq, ↓dr_ne, ↓dp_ref, ↓dp_lst, ↓dp_tup, ↓dp_frg, ↓dp_int, ↓dp_bl, ↓dp_str, ↓dp_non, ↓dp_dW, ↓dp_dP, ↓dp_dT, ↓dp_dWs, ↓dp_dTs, ↓dr_in, ↓dr_add, ↓dr_cat, ↓dr_b1, ↓dr_sl, ↓w_isiD, ↓f_sort, ↓w_rev, ↓w_appR, ↓w_refA, ↓w_listR1, ↓o_cmpD, ↓dr_cmpD, ↓w_revA, ↓o_repT, ↓f_reprD, ↓w_dct0, ↓w_dct1, ↓dr_dget, ↓o_dget, ↓dr_inK, ↓o_inK, ↓o_getD, ↓w_dget2, ↓m_putD, ↓wi_keys, ↓f_listK, ↓f_sortK, ↓m_pop, ↓m_pop0, ↓m_insL, ↓m_ins, ↓m_refP, ↓w_clrR, ↓dp_dct, ↓w_chain3, ↓w_join, ↓w_fJoin, ↓w_split, ↓o_inS, ↓dr_inS, ↓wi_str, ↓w_fmt, ↓w_jsN, ↓w_jsC, ↓f_strI, ↓f_intI, ↓f_intB, ↓f_intS, ↓f_lenS, ↓o_ixS, Option.bind_some, Option.bind_none, Option.some.injEq, exists_eq_left', List.map_cons, List.map_nil, if_true, if_false, reduceIte, reduceCtorEq, Nat.reduceEqDiff, List.length_cons, List.length_nil, atI_0, decide_eq_true_eq, decide_eq_false_iff_not, true_and, and_true, false_and, and_false, not_true, not_false_iff, false_implies, true_implies, der_ref, der_lst, der_tup, der_frg, der_int, der_bl, der_str, der_non, der_dW, der_dP, der_dT, der_dWs, der_dTs, der_dct, isDK_d, kOf_int, kOf_str, kD_int, forall_const, not_true_eq_false, not_false_eq_true, exists_eq_left, exists_eq_right, Bool.not_eq_true', Bool.not_eq_false', List.mem_cons, List.not_mem_nil, or_false, false_or, Nat.reduceAdd, Nat.zero_add, List.set_cons_zero, List.set_cons_succ, all_shW, all_shT, all_shP, all_shI, r1]
    refine gtext_spec hw ?_
    try simp (implicitDefEqProofs := false) only [↓w_ok, ↓w_err, ↓w_bad, ↓wl_ok, ↓w_bind, ↓w_bindL, ↓wl_bind, ↓wl_bindL, ↓w_nx, ↓w_rt, ↓w_bk, ↓w_ct, ↓w_er, ↓w_bd, ↓w_sq, ↓w_of, ↓w_sIf, ↓w_and, ↓w_or, ↓w_bIf, ↓w_mk, ↓w_call, ↓w_tup, ↓w_lst, ↓wl_cons, ↓wl_nil, ↓w_bin, ↓w_not, ↓w_neg, ↓w_chain, ↓w_c, ↓w_set, ↓w_own, ↓w_ex, ↓w_ret, ↓w_retN, ↓w_skip, ↓w_raise, ↓w_to, ↓w_putR, ↓w_ref, ↓w_for, ↓w_lc, ↓wi_seq, ↓wi_r1, ↓wi_r2, ↓wi_enum, ↓m_var, ↓m_peek, ↓m_retOwn, ↓m_fix, ↓m_app, ↓m_ext, ↓m_putL, ↓m_put, ↓m_putR, ↓m_ixR, ↓env_set, ↓env_0, ↓env_s, ↓env_n, ↓env_wp, ↓t_n, ↓t_u, ↓t_0, ↓t_s, ↓bX_bl, ↓o_add, ↓o_addT, ↓o_addL, ↓o_addS, ↓o_cat, ↓o_sub, ↓o_mul, ↓o_mod, ↓o_fdiv, ↓o_pow, ↓o_eq, ↓o_ne, ↓o_ic, ↓o_isN, ↓o_ixL, ↓o_ixT, ↓f_lenL, ↓f_lenT, ↓f_tupL, ↓f_tupT, ↓f_listL, ↓f_listT, ↓f_min2, ↓f_max2, ↓f_reprB, ↓w_sl, ↓w_slA, ↓w_slB, ↓w_slC, ↓o_slL, ↓o_slT, ↓o_slF, ↓o_slLL, ↓o_slLF, ↓wi_zip, ↓wi_ok, ↓src_lst, ↓src_ref, ↓zip_tt, ↓zip_ll, ↓zip_rl, ↓zip_lr, ↓w_isi, ↓o_inL, ↓o_inT, ↓dr_eq, ↓dr_ne, ↓dp_ref, ↓dp_lst, ↓dp_tup, ↓dp_frg, ↓dp_int, ↓dp_bl, ↓dp_str, ↓dp_non, ↓dp_dW, ↓dp_dP, ↓dp_dT, ↓dp_dWs, ↓dp_dTs, ↓dr_in, ↓dr_add, ↓dr_cat, ↓dr_b1, ↓dr_sl, ↓w_isiD, ↓f_sort, ↓w_rev, ↓w_appR, ↓w_refA, ↓w_listR1, ↓o_cmpD, ↓dr_cmpD, ↓w_revA, ↓o_repT, ↓f_reprD, ↓w_dct0, ↓w_dct1, ↓dr_dget, ↓o_dget, ↓dr_inK, ↓o_inK, ↓o_getD, ↓w_dget2, ↓m_putD, ↓wi_keys, ↓f_listK, ↓f_sortK, ↓m_pop, ↓m_pop0, ↓m_insL, ↓m_ins, ↓m_refP, ↓w_clrR, ↓dp_dct, ↓w_chain3, ↓w_join, ↓w_fJoin, ↓w_split, ↓o_inS, ↓dr_inS, ↓wi_str, ↓w_fmt, ↓w_jsN, ↓w_jsC, ↓f_strI, ↓f_intI, ↓f_intB, ↓f_intS, ↓f_lenS, ↓o_ixS, Option.bind_some, Option.bind_none, Option.some.injEq, exists_eq_left', List.map_cons, List.map_nil, if_true, if_false, reduceIte, reduceCtorEq, Nat.reduceEqDiff, List.length_cons, List.length_nil, atI_0, decide_eq_true_eq, decide_eq_false_iff_not, true_and, and_true, false_and, and_false, not_true, not_false_iff, false_implies, true_implies, der_ref, der_lst, der_tup, der_frg, der_int, der_bl, der_str, der_non, der_dW, der_dP, der_dT, der_dWs, der_dTs, der_dct, isDK_d, kOf_int, kOf_str, kD_int, forall_const, not_true_eq_false, not_false_eq_true, exists_eq_left, exists_eq_right, Bool.not_eq_true', Bool.not_eq_false', List.mem_cons, List.not_mem_nil, or_false, false_or, Nat.reduceAdd, Nat.zero_add, List.set_cons_zero, List.set_cons_succ, all_shW, all_shT, all_shP, all_shI, r1]
    refine showg_spec hw ?_
    try simp (implicitDefEqProofs := false) only [↓w_ok, ↓w_err, ↓w_bad, ↓wl_ok, ↓w_bind, ↓w_bindL, ↓wl_bind, ↓wl_bindL, ↓w_nx, ↓w_rt, ↓w_bk, ↓w_ct, ↓w_er, ↓w_bd, ↓w_sq, ↓w_of, ↓w_sIf, ↓w_and, ↓w_or, ↓w_bIf, ↓w_mk, ↓w_call, ↓w_tup, ↓w_lst, ↓wl_cons, ↓wl_nil, ↓w_bin, ↓w_not, ↓w_neg, ↓w_chain, ↓w_c, ↓w_set, ↓w_own, ↓w_ex, ↓w_ret, ↓w_retN, ↓w_skip, ↓w_raise, ↓w_to, ↓w_putR, ↓w_ref, ↓w_for, ↓w_lc, ↓wi_seq, ↓wi_r1, ↓wi_r2, ↓wi_enum, ↓m_var, ↓m_peek, ↓m_retOwn, ↓m_fix, ↓m_app, ↓m_ext, ↓m_putL, ↓m_put, ↓m_putR, ↓m_ixR, ↓env_set, ↓env_0, ↓env_s, ↓env_n, ↓env_wp, ↓t_n, ↓t_u, ↓t_0, ↓t_s, ↓bX_bl, ↓o_add, ↓o_addT, ↓o_addL, ↓o_addS, ↓o_cat, ↓o_sub, ↓o_mul, ↓o_mod, ↓o_fdiv, ↓o_pow, ↓o_eq, ↓o_ne, ↓o_ic, ↓o_isN, ↓o_ixL, ↓o_ixT, ↓f_lenL, ↓f_lenT, ↓f_tupL, ↓f_tupT, ↓f_listL, ↓f_listT, ↓f_min2, ↓f_max2, ↓f_reprB, ↓w_sl, ↓w_slA, ↓w_slB, ↓w_slC, ↓o_slL, ↓o_slT, ↓o_slF, ↓o_slLL, ↓o_slLF, ↓wi_zip, ↓wi_ok, ↓src_lst, ↓src_ref, ↓zip_tt, ↓zip_ll, ↓zip_rl, ↓zip_lr, ↓w_isi, ↓o_inL, ↓o_inT, ↓dr_eq, ↓dr_ne, ↓dp_ref, ↓dp_lst, ↓dp_tup, ↓dp_frg, ↓dp_int, ↓dp_bl, ↓dp_str, ↓dp_non, ↓dp_dW, ↓dp_dP, ↓dp_dT, ↓dp_dWs, ↓dp_dTs, ↓dr_in, ↓dr_add, ↓dr_cat, ↓dr_b1, ↓dr_sl, ↓w_isiD, ↓f_sort, ↓w_rev, ↓w_appR, ↓w_refA, ↓w_listR1, ↓o_cmpD, ↓dr_cmpD, ↓w_revA, ↓o_repT, ↓f_reprD, ↓w_dct0, ↓w_dct1, ↓dr_dget, ↓o_dget, ↓dr_inK, ↓o_inK, ↓o_getD, ↓w_dget2, ↓m_putD, ↓wi_keys, ↓f_listK, ↓f_sortK, ↓m_pop, ↓m_pop0, ↓m_insL, ↓m_ins, ↓m_refP, ↓w_clrR, ↓dp_dct, ↓w_chain3, ↓w_join, ↓w_fJoin, ↓w_split, ↓o_inS, ↓dr_inS, ↓wi_str, ↓w_fmt, ↓w_jsN, ↓w_jsC, ↓f_strI, ↓f_intI, ↓f_intB, ↓f_intS, ↓f_lenS, ↓o_ixS, Option.bind_some, Option.bind_none, Option.some.injEq, exists_eq_left', List.map_cons, List.map_nil, if_true, if_false, reduceIte, reduceCtorEq, Nat.reduceEqDiff, List.length_cons, List.length_nil, atI_0, decide_eq_true_eq, decide_eq_false_iff_not, true_and, and_true, false_and, and_false, not_true, not_false_iff, false_implies, true_implies, der_ref, der_lst, der_tup, der_frg, der_int, der_bl, der_str, der_non, der_dW, der_dP, der_dT, der_dWs, der_dTs, der_dct, isDK_d, kOf_int, kOf_str, kD_int, forall_const, not_true_eq_false, not_false_eq_true, exists_eq_left, exists_eq_right, Bool.not_eq_true', Bool.not_eq_false', List.mem_cons, List.not_mem_nil, or_false, false_or, Nat.reduceAdd, Nat.zero_add, List.set_cons_zero, List.set_cons_succ, all_shW, all_shT, all_shP, all_shI, r1]
    refine same_spec 7 _ _ _ _ _ (by decide) sG sG ?_
    try simp (implicitDefEqProofs := false) only [↓w_ok, ↓w_err, ↓w_bad, ↓wl_ok, ↓w_bind, ↓w_bindL, ↓wl_bind, ↓wl_bindL, ↓w_nx, ↓w_rt, ↓w_bk, ↓w_ct, ↓w_er, ↓w_bd, ↓w_sq, ↓w_of, ↓w_sIf, ↓w_and, ↓w_or, ↓w_bIf, ↓w_mk, ↓w_call, ↓w_tup, ↓w_lst, ↓wl_cons, ↓wl_nil, ↓w_bin, ↓w_not, ↓w_neg, ↓w_chain, ↓w_c, ↓w_set, ↓w_own, ↓w_ex, ↓w_ret, ↓w_retN, ↓w_skip, ↓w_raise, ↓w_to, ↓w_putR, ↓w_ref, ↓w_for, ↓w_lc, ↓wi_seq, ↓wi_r1, ↓wi_r2, ↓wi_enum, ↓m_var, ↓m_peek, ↓m_retOwn, ↓m_fix, ↓m_app, ↓m_ext, ↓m_putL, ↓m_put, ↓m_putR, ↓m_ixR, ↓env_set, ↓env_0, ↓env_s, ↓env_n, ↓env_wp, ↓t_n, ↓t_u, ↓t_0, ↓t_s, ↓bX_bl, ↓o_add, ↓o_addT, ↓o_addL, ↓o_addS, ↓o_cat, ↓o_sub, ↓o_mul, ↓o_mod, ↓o_fdiv, ↓o_pow, ↓o_eq, ↓o_ne, ↓o_ic, ↓o_isN, ↓o_ixL, ↓o_ixT, ↓f_lenL, ↓f_lenT, ↓f_tupL, ↓f_tupT, ↓f_listL, ↓f_listT, ↓f_min2, ↓f_max2, ↓f_reprB, ↓w_sl, ↓w_slA, ↓w_slB, ↓w_slC, ↓o_slL, ↓o_slT, ↓o_slF, ↓o_slLL, ↓o_slLF, ↓wi_zip, ↓wi_ok, ↓src_lst, ↓src_ref, ↓zip_tt, ↓zip_ll, ↓zip_rl, ↓zip_lr, ↓w_isi, ↓o_inL, ↓o_inT, ↓dr_eq, ↓dr_ne, ↓dp_ref, ↓dp_lst, ↓dp_tup, ↓dp_frg, ↓dp_int, ↓dp_bl, ↓dp_str, ↓dp_non, ↓dp_dW, ↓dp_dP, ↓dp_dT, ↓dp_dWs, ↓dp_dTs, ↓dr_in, ↓dr_add, ↓dr_cat, ↓dr_b1, ↓dr_sl, ↓w_isiD, ↓f_sort, ↓w_rev, ↓w_appR, ↓w_refA, ↓w_listR1, ↓o_cmpD, ↓dr_cmpD, ↓w_revA, ↓o_repT, ↓f_reprD, ↓w_dct0, ↓w_dct1, ↓dr_dget, ↓o_dget, ↓dr_inK, ↓o_inK, ↓o_getD, ↓w_dget2, ↓m_putD, ↓wi_keys, ↓f_listK, ↓f_sortK, ↓m_pop, ↓m_pop0, ↓m_insL, ↓m_ins, ↓m_refP, ↓w_clrR, ↓dp_dct, ↓w_chain3, ↓w_join, ↓w_fJoin, ↓w_split, ↓o_inS, ↓dr_inS, ↓wi_str, ↓w_fmt, ↓w_jsN, ↓w_jsC, ↓f_strI, ↓f_intI, ↓f_intB, ↓f_intS, ↓f_lenS, ↓o_ixS, Option.bind_some, Option.bind_none, Option.some.injEq, exists_eq_left', List.map_cons, List.map_nil, if_true, if_false, reduceIte, reduceCtorEq, Nat.reduceEqDiff, List.length_cons, List.length_nil, atI_0, decide_eq_true_eq, decide_eq_false_iff_not, true_and, and_true, false_and, and_false, not_true, not_false_iff, false_implies, true_implies, der_ref, der_lst, der_tup, der_frg, der_int, der_bl, der_str, der_non, der_dW, der_dP, der_dT, der_dWs, der_dTs, der_dct, isDK_d, kOf_int, kOf_str, kD_int, forall_const, not_true_eq_false, not_false_eq_true, exists_eq_left, exists_eq_right, Bool.not_eq_true', Bool.not_eq_false', List.mem_cons, List.not_mem_nil, or_false, false_or, Nat.reduceAdd, Nat.zero_add, List.set_cons_zero, List.set_cons_succ, all_shW, all_shT, all_shP, all_shI, r1, ee, Bool.not_true, Bool.false_eq_true, Bool.true_eq_false]
    refine readg_spec hw ?_
    try simp (implicitDefEqProofs := false) only [↓w_ok, ↓w_err, ↓w_bad, ↓wl_ok, ↓w_bind, ↓w_bindL, ↓wl_bind, ↓wl_bindL, ↓w_nx, ↓w_rt, ↓w_bk, ↓w_ct, ↓w_er, ↓w_bd, ↓w_sq, ↓w_of, ↓w_sIf, ↓w_and, ↓w_or, ↓w_bIf, ↓w_mk, ↓w_call, ↓w_tup, ↓w_lst, ↓wl_cons, ↓wl_nil, ↓w_bin, ↓w_not, ↓w_neg, ↓w_chain, ↓w_c, ↓w_set, ↓w_own, ↓w_ex, ↓w_ret, ↓w_retN, ↓w_skip, ↓w_raise, ↓w_to, ↓w_putR, ↓w_ref, ↓w_for, ↓w_lc, ↓wi_seq, ↓wi_r1, ↓wi_r2, ↓wi_enum, ↓m_var, ↓m_peek, ↓m_retOwn, ↓m_fix, ↓m_app, ↓m_ext, ↓m_putL, ↓m_put, ↓m_putR, ↓m_ixR, ↓env_set, ↓env_0, ↓env_s, ↓env_n, ↓env_wp, ↓t_n, ↓t_u, ↓t_0, ↓t_s, ↓bX_bl, ↓o_add, ↓o_addT, ↓o_addL, ↓o_addS, ↓o_cat, ↓o_sub, ↓o_mul, ↓o_mod, ↓o_fdiv, ↓o_pow, ↓o_eq, ↓o_ne, ↓o_ic, ↓o_isN, ↓o_ixL, ↓o_ixT, ↓f_lenL, ↓f_lenT, ↓f_tupL, ↓f_tupT, ↓f_listL, ↓f_listT, ↓f_min2, ↓f_max2, ↓f_reprB, ↓w_sl, ↓w_slA, ↓w_slB, ↓w_slC, ↓o_slL, ↓o_slT, ↓o_slF, ↓o_slLL, ↓o_slLF, ↓wi_zip, ↓wi_ok, ↓src_lst, ↓src_ref, ↓zip_tt, ↓zip_ll, ↓zip_rl, ↓zip_lr, ↓w_isi, ↓o_inL, ↓o_inT, ↓dr_eq, ↓dr_ne, ↓dp_ref, ↓dp_lst, ↓dp_tup, ↓dp_frg, ↓dp_int, ↓dp_bl, ↓dp_str, ↓dp_non, ↓dp_dW, ↓dp_dP, ↓dp_dT, ↓dp_dWs, ↓dp_dTs, ↓dr_in, ↓dr_add, ↓dr_cat, ↓dr_b1, ↓dr_sl, ↓w_isiD, ↓f_sort, ↓w_rev, ↓w_appR, ↓w_refA, ↓w_listR1, ↓o_cmpD, ↓dr_cmpD, ↓w_revA, ↓o_repT, ↓f_reprD, ↓w_dct0, ↓w_dct1, ↓dr_dget, ↓o_dget, ↓dr_inK, ↓o_inK, ↓o_getD, ↓w_dget2, ↓m_putD, ↓wi_keys, ↓f_listK, ↓f_sortK, ↓m_pop, ↓m_pop0, ↓m_insL, ↓m_ins, ↓m_refP, ↓w_clrR, ↓dp_dct, ↓w_chain3, ↓w_join, ↓w_fJoin, ↓w_split, ↓o_inS, ↓dr_inS, ↓wi_str, ↓w_fmt, ↓w_jsN, ↓w_jsC, ↓f_strI, ↓f_intI, ↓f_intB, ↓f_intS, ↓f_lenS, ↓o_ixS, Option.bind_some, Option.bind_none, Option.some.injEq, exists_eq_left', List.map_cons, List.map_nil, if_true, if_false, reduceIte, reduceCtorEq, Nat.reduceEqDiff, List.length_cons, List.length_nil, atI_0, decide_eq_true_eq, decide_eq_false_iff_not, true_and, and_true, false_and, and_false, not_true, not_false_iff, false_implies, true_implies, der_ref, der_lst, der_tup, der_frg, der_int, der_bl, der_str, der_non, der_dW, der_dP, der_dT, der_dWs, der_dTs, der_dct, isDK_d, kOf_int, kOf_str, kD_int, forall_const, not_true_eq_false, not_false_eq_true, exists_eq_left, exists_eq_right, Bool.not_eq_true', Bool.not_eq_false', List.mem_cons, List.not_mem_nil, or_false, false_or, Nat.reduceAdd, Nat.zero_add, List.set_cons_zero, List.set_cons_succ, all_shW, all_shT, all_shP, all_shI, r1]
    refine same_spec 7 _ _ _ _ _ (by decide) sw sw ?_
    try simp (implicitDefEqProofs := false) only [↓w_ok, ↓w_err, ↓w_bad, ↓wl_ok, ↓w_bind, ↓w_bindL, ↓wl_bind, ↓wl_bindL, ↓w_nx, ↓w_rt, ↓w_bk, ↓w_ct, ↓w_er, ↓w_bd, ↓w_sq, ↓w_of, ↓w_sIf, ↓w_and, ↓w_or, ↓w_bIf, ↓w_mk, ↓w_call, ↓w_tup, ↓w_lst, ↓wl_cons, ↓wl_nil, ↓w_bin, ↓w_not, ↓w_neg, ↓w_chain, ↓w_c, ↓w_set, ↓w_own, ↓w_ex, ↓w_ret, ↓w_retN, ↓w_skip, ↓w_raise, ↓w_to, ↓w_putR, ↓w_ref, ↓w_for, ↓w_lc, ↓wi_seq, ↓wi_r1, ↓wi_r2, ↓wi_enum, ↓m_var, ↓m_peek, ↓m_retOwn, ↓m_fix, ↓m_app, ↓m_ext, ↓m_putL, ↓m_put, ↓m_putR, ↓m_ixR, ↓env_set, ↓env_0, ↓env_s, ↓env_n, ↓env_wp, ↓t_n, ↓t_u, ↓t_0, ↓t_s, ↓bX_bl, ↓o_add, ↓o_addT, ↓o_addL, ↓o_addS, ↓o_cat, ↓o_sub, ↓o_mul, ↓o_mod, ↓o_fdiv, ↓o_pow, ↓o_eq, ↓o_ne, ↓o_ic, ↓o_isN, ↓o_ixL, ↓o_ixT, ↓f_lenL, ↓f_lenT, ↓f_tupL, ↓f_tupT, ↓f_listL, ↓f_listT, ↓f_min2, ↓f_max2, ↓f_reprB, ↓w_sl, ↓w_slA, ↓w_slB, ↓w_slC, ↓o_slL, ↓o_slT, ↓o_slF, ↓o_slLL, ↓o_slLF, ↓wi_zip, ↓wi_ok, ↓src_lst, ↓src_ref, ↓zip_tt, ↓zip_ll, ↓zip_rl, ↓zip_lr, ↓w_isi, ↓o_inL, ↓o_inT, ↓dr_eq, ↓dr_ne, ↓dp_ref, ↓dp_lst, ↓dp_tup, ↓dp_frg, ↓dp_int, ↓dp_bl, ↓dp_str, ↓dp_non, ↓dp_dW, ↓dp_dP, ↓dp_dT, ↓dp_dWs, ↓dp_dTs, ↓dr_in, ↓dr_add, ↓dr_cat, ↓dr_b1, ↓dr_sl, ↓w_isiD, ↓f_sort, ↓w_rev, ↓w_appR, ↓w_refA, ↓w_listR1, ↓o_cmpD, ↓dr_cmpD, ↓w_revA, ↓o_repT, ↓f_reprD, ↓w_dct0, ↓w_dct1, ↓dr_dget, ↓o_dget, ↓dr_inK, ↓o_inK, ↓o_getD, ↓w_dget2, ↓m_putD, ↓wi_keys, ↓f_listK, ↓f_sortK, ↓m_pop, ↓m_pop0, ↓m_insL, ↓m_ins, ↓m_refP, ↓w_clrR, ↓dp_dct, ↓w_chain3, ↓w_join, ↓w_fJoin, ↓w_split, ↓o_inS, ↓dr_inS, ↓wi_str, ↓w_fmt, ↓w_jsN, ↓w_jsC, ↓f_strI, ↓f_intI, ↓f_intB, ↓f_intS, ↓f_lenS, ↓o_ixS, Option.bind_some, Option.bind_none, Option.some.injEq, exists_eq_left', List.map_cons, List.map_nil, if_true, if_false, reduceIte, reduceCtorEq, Nat.reduceEqDiff, List.length_cons, List.length_nil, atI_0, decide_eq_true_eq, decide_eq_false_iff_not, true_and, and_true, false_and, and_false, not_true, not_false_iff, false_implies, true_implies, der_ref, der_lst, der_tup, der_frg, der_int, der_bl, der_str, der_non, der_dW, der_dP, der_dT, der_dWs, der_dTs, der_dct, isDK_d, kOf_int, kOf_str, kD_int, forall_const, not_true_eq_false, not_false_eq_true, exists_eq_left, exists_eq_right, Bool.not_eq_true', Bool.not_eq_false', List.mem_cons, List.not_mem_nil, or_false, false_or, Nat.reduceAdd, Nat.zero_add, List.set_cons_zero, List.set_cons_succ, all_shW, all_shT, all_shP, all_shI, r1, ee, Bool.not_true, Bool.false_eq_true, Bool.true_eq_false]
    exact hp1
  · rintro r s ⟨hp, r1⟩
    try simp (implicitDefEqProofs := false) only [↓w_ok, ↓w_err, ↓w_bad, ↓wl_ok, ↓w_bind, ↓w_bindL, ↓wl_bind, ↓wl_bindL, ↓w_nx, ↓w_rt, ↓w_bk, ↓w_ct, ↓w_er, ↓w_bd, ↓w_sq, ↓w_of, ↓w_sIf, ↓w_and, ↓w_or, ↓w_bIf, ↓w_mk, ↓w_call, ↓w_tup, ↓w_lst, ↓wl_cons, ↓wl_nil, ↓w_bin, ↓w_not, ↓w_neg, ↓w_chain, ↓w_c, ↓w_set, ↓w_own, ↓w_ex, ↓w_ret, ↓w_retN, ↓w_skip, ↓w_raise, ↓w_to, ↓w_putR, ↓w_ref, ↓w_for, ↓w_lc, ↓wi_seq, ↓wi_r1, ↓wi_r2, ↓wi_enum, ↓m_var, ↓m_peek, ↓m_retOwn, ↓m_fix, ↓m_app, ↓m_ext, ↓m_putL, ↓m_put, ↓m_putR, ↓m_ixR, ↓env_set, ↓env_0, ↓env_s, ↓env_n, ↓env_wp, ↓t_n, ↓t_u, ↓t_0, ↓t_s, ↓bX_bl, ↓o_add, ↓o_addT, ↓o_addL, ↓o_addS, ↓o_cat, ↓o_sub, ↓o_mul, ↓o_mod, ↓o_fdiv, ↓o_pow, ↓o_eq, ↓o_ne, ↓o_ic, ↓o_isN, ↓o_ixL, ↓o_ixT, ↓f_lenL, ↓f_lenT, ↓f_tupL, ↓f_tupT, ↓f_listL, ↓f_listT, ↓f_min2, ↓f_max2, ↓f_reprB, ↓w_sl, ↓w_slA, ↓w_slB, ↓w_slC, ↓o_slL, ↓o_slT, ↓o_slF, ↓o_slLL, ↓o_slLF, ↓wi_zip, ↓wi_ok, ↓src_lst, ↓src_ref, ↓zip_tt, ↓zip_ll, ↓zip_rl, ↓zip_lr, ↓w_isi, ↓o_inL, ↓o_inT, ↓dr_eq, ↓dr_ne, ↓dp_ref, ↓dp_lst, ↓dp_tup, ↓dp_frg, ↓dp_int, ↓dp_bl, ↓dp_str, ↓dp_non, ↓dp_dW, ↓dp_dP, ↓dp_dT, ↓dp_dWs, ↓dp_dTs, ↓dr_in, ↓dr_add, ↓dr_cat, ↓dr_b1, ↓dr_sl, ↓w_isiD, ↓f_sort, ↓w_rev, ↓w_appR, ↓w_refA, ↓w_listR1, ↓o_cmpD, ↓dr_cmpD, ↓w_revA, ↓o_repT, ↓f_reprD, ↓w_dct0, ↓w_dct1, ↓dr_dget, ↓o_dget, ↓dr_inK, ↓o_inK, ↓o_getD, ↓w_dget2, ↓m_putD, ↓wi_keys, ↓f_listK, ↓f_sortK, ↓m_pop, ↓m_pop0, ↓m_insL, ↓m_ins, ↓m_refP, ↓w_clrR, ↓dp_dct, ↓w_chain3, ↓w_join, ↓w_fJoin, ↓w_split, ↓o_inS, ↓dr_inS, ↓wi_str, ↓w_fmt, ↓w_jsN, ↓w_jsC, ↓f_strI, ↓f_intI, ↓f_intB, ↓f_intS, ↓f_lenS, ↓o_ixS, Option.bind_some, Option.bind_none, Option.some.injEq, exists_eq_left', List.map_cons, List.map_nil, if_true, if_false, reduceIte, reduceCtorEq, Nat.reduceEqDiff, List.length_cons, List.length_nil, atI_0, decide_eq_true_eq, decide_eq_false_iff_not, true_and, and_true, false_and, and_false, not_true, not_false_iff, false_implies, true_implies, der_ref, der_lst, der_tup, der_frg, der_int, der_bl, der_str, der_non, der_dW, der_dP, der_dT, der_dWs, der_dTs, der_dct, isDK_d, kOf_int, kOf_str, kD_int, forall_const, not_true_eq_false, not_false_eq_true, exists_eq_left, exists_eq_right, Bool.not_eq_true', Bool.not_eq_false', List.mem_cons, List.not_mem_nil, or_false, false_or, Nat.reduceAdd, Nat.zero_add, List.set_cons_zero, List.set_cons_succ, all_shW, all_shT, all_shP, all_shI]
end K71

namespace K71
open PySem L2 Sm
def topS (i : Nat) : Stmt := PySem.Challenge.pw_roofpost_k71_webs_written.main.body.getD i (.Pass ⟨0, 0, 0, 0⟩)
structure Tx (K : PySem.W.Frag) (mg : Str → Option Value) where
  a_is_count : Addr
  d_is_count : FuncData
  u_is_count : Fun K "is_count" "is_count" (topS 5) a_is_count d_is_count
  g_is_count : mg "is_count" = some (.ref a_is_count)
  b_is_count : Binds K d_is_count ["thing", "low", "high"] []
  a_is_road : Addr
  d_is_road : FuncData
  u_is_road : Fun K "is_road" "is_road" (topS 6) a_is_road d_is_road
  g_is_road : mg "is_road" = some (.ref a_is_road)
  b_is_road : Binds K d_is_road ["many", "thing"] []
  a_has_ring : Addr
  d_has_ring : FuncData
  u_has_ring : Fun K "has_ring" "has_ring" (topS 7) a_has_ring d_has_ring
  g_has_ring : mg "has_ring" = some (.ref a_has_ring)
  b_has_ring : Binds K d_has_ring ["many", "roads"] []
  a_is_web : Addr
  d_is_web : FuncData
  u_is_web : Fun K "is_web" "is_web" (topS 8) a_is_web d_is_web
  g_is_web : mg "is_web" = some (.ref a_is_web)
  b_is_web : Binds K d_is_web ["thing"] []
  a_show_web : Addr
  d_show_web : FuncData
  u_show_web : Fun K "show_web" "show_web" (topS 12) a_show_web d_show_web
  g_show_web : mg "show_web" = some (.ref a_show_web)
  b_show_web : Binds K d_show_web ["web"] []
  a_number_in : Addr
  d_number_in : FuncData
  u_number_in : Fun K "number_in" "number_in" (topS 13) a_number_in d_number_in
  g_number_in : mg "number_in" = some (.ref a_number_in)
  b_number_in : Binds K d_number_in ["word"] []
  a_numbers_in : Addr
  d_numbers_in : FuncData
  u_numbers_in : Fun K "numbers_in" "numbers_in" (topS 14) a_numbers_in d_numbers_in
  g_numbers_in : mg "numbers_in" = some (.ref a_numbers_in)
  b_numbers_in : Binds K d_numbers_in ["word", "mark"] []
  a_read_web : Addr
  d_read_web : FuncData
  u_read_web : Fun K "read_web" "read_web" (topS 15) a_read_web d_read_web
  g_read_web : mg "read_web" = some (.ref a_read_web)
  b_read_web : Binds K d_read_web ["text"] []
  a__law_blend : Addr
  d__law_blend : FuncData
  u__law_blend : Fun K "_law_blend" "_law_blend" (topS 17) a__law_blend d__law_blend
  g__law_blend : mg "_law_blend" = some (.ref a__law_blend)
  b__law_blend : Binds K d__law_blend ["cell", "at"] []
  a__law_pot : Addr
  d__law_pot : FuncData
  u__law_pot : Fun K "_law_pot" "_law_pot" (topS 18) a__law_pot d__law_pot
  g__law_pot : mg "_law_pot" = some (.ref a__law_pot)
  b__law_pot : Binds K d__law_pot ["script"] []
  a__law_pick : Addr
  d__law_pick : FuncData
  u__law_pick : Fun K "_law_pick" "_law_pick" (topS 19) a__law_pick d__law_pick
  g__law_pick : mg "_law_pick" = some (.ref a__law_pick)
  b__law_pick : Binds K d__law_pick ["pot", "many"] []
  a__law_same : Addr
  d__law_same : FuncData
  u__law_same : Fun K "_law_same" "_law_same" (topS 20) a__law_same d__law_same
  g__law_same : mg "_law_same" = some (.ref a__law_same)
  b__law_same : Binds K d__law_same ["found", "due"] []
  a__law_order : Addr
  d__law_order : FuncData
  u__law_order : Fun K "_law_order" "_law_order" (topS 21) a__law_order d__law_order
  g__law_order : mg "_law_order" = some (.ref a__law_order)
  b__law_order : Binds K d__law_order ["pot", "many"] []
  a__law_web : Addr
  d__law_web : FuncData
  u__law_web : Fun K "_law_web" "_law_web" (topS 22) a__law_web d__law_web
  g__law_web : mg "_law_web" = some (.ref a__law_web)
  b__law_web : Binds K d__law_web ["pot", "most"] []
  a__law_web_text : Addr
  d__law_web_text : FuncData
  u__law_web_text : Fun K "_law_web_text" "_law_web_text" (topS 23) a__law_web_text d__law_web_text
  g__law_web_text : mg "_law_web_text" = some (.ref a__law_web_text)
  b__law_web_text : Binds K d__law_web_text ["web"] []
  a_law : Addr
  d_law : FuncData
  u_law : Fun K "law" "law" (topS 24) a_law d_law
  g_law : mg "law" = some (.ref a_law)
  b_law : Binds K d_law ["script"] []
  z_all : mg "all" = none
  z_bool : mg "bool" = none
  z_enumerate : mg "enumerate" = none
  z_int : mg "int" = none
  z_isinstance : mg "isinstance" = none
  z_len : mg "len" = none
  z_list : mg "list" = none
  z_max : mg "max" = none
  z_min : mg "min" = none
  z_range : mg "range" = none
  z_sorted : mg "sorted" = none
  z_str : mg "str" = none
  z_tuple : mg "tuple" = none
  z_zip : mg "zip" = none
  tk_FIGURES : Tok
  c_FIGURES : mg "FIGURES" = some (.str "0123456789" tk_FIGURES)
  tk_MOST_FIGURES : Tok
  c_MOST_FIGURES : mg "MOST_FIGURES" = some (.int 4 tk_MOST_FIGURES)
  tk_MOST_HOUSES : Tok
  c_MOST_HOUSES : mg "MOST_HOUSES" = some (.int 8 tk_MOST_HOUSES)
  e_NoText : Addr
  g_NoText : mg "NoText" = some (.ref e_NoText)
  x_NoText : PySem.W.excIn K e_NoText [.type "ValueError", .type "Exception", .type "BaseException", .type "object"] "ValueError.__new__" = true
  k_NoText : PySem.W.keepIn K (.ref e_NoText) = true
  s_NoText : PySem.W.subIn K (.ref e_NoText) (.type "BaseException") = some true
  t_NoText : PySem.W.typeIn K (.ref e_NoText) = some (.type "type")
section
variable {P : Program} {w : World} {K : PySem.W.Frag} {mg : Str → Option Value} {base : Heap}
theorem sc_is_count : FnScope ["thing", "low", "high"] ["thing", "low", "high"] (defScope (topS 5)) := ⟨rfl, rfl, rfl, by decide +kernel, rfl, by decide +kernel, by decide +kernel⟩
theorem ok_is_count (T : Tx K mg) : FnOk P w K mg base (L2.CX P w) 1 T.a_is_count T.d_is_count ["thing", "low", "high"] (spF ⟨K, mg, P, w⟩ 3 false m_is_count) := by
  have sc := sc_is_count
  refine fj_of T.u_is_count sc rfl ?_
  intro cdv A outer s H E B hr hL tk
  exact jss_one (js_ret (je_and (je_isiD (by rfl) T.z_isinstance (by rfl) T.z_int (by decide +kernel) (by decide) (((je_var (i := 0) (by rfl) (.inl (by rfl)))).bo)) (je_and (je_not (je_isiD (by rfl) T.z_isinstance (by rfl) T.z_bool (by decide +kernel) (by decide) (((je_var (i := 0) (by rfl) (.inl (by rfl)))).bo))) (je_one (je_chain jc_ile jc_ile (((je_var (i := 1) (by rfl) (.inl (by rfl)))).bo) (((je_var (i := 0) (by rfl) (.inl (by rfl)))).bo) (((je_var (i := 2) (by rfl) (.inl (by rfl)))).bo))))))
theorem sc_is_road : FnScope ["many", "thing", "one"] ["many", "thing"] (defScope (topS 6)) := ⟨rfl, rfl, rfl, by decide +kernel, rfl, by decide +kernel, by decide +kernel⟩
theorem ok_is_road (T : Tx K mg) : FnOk P w K mg base (L2.CX P w) 2 T.a_is_road T.d_is_road ["many", "thing"] (spF ⟨K, mg, P, w⟩ 2 false m_is_road) := by
  have sc := sc_is_road
  refine fj_of T.u_is_road sc rfl ?_
  intro cdv A outer s H E B hr hL tk
  exact jss_cons (js_if ((jw_or (jt_not ((je_isiD (by rfl) T.z_isinstance (by rfl) T.z_tuple (by decide +kernel) (by decide) (((je_var (i := 1) (by rfl) (.inl (by rfl)))).bo)).jt)) (jw_or ((jc_ne hr.units).der.jt ((je_bt jb_len.der (by rfl) T.z_len (by decide +kernel) (ja_bo (((je_var (i := 1) (by rfl) (.inl (by rfl)))).bo) (ja_nil))).bo) ((je_int).bo) (nomark _)) (jw_or1 (jt_not ((je_bt (jb_all rfl).der (by rfl) T.z_all (by decide +kernel) (ja_bo ((je_lc (own := [("one", 2)]) rfl sc.nd (ji_seq ((je_var (i := 1) (by rfl) (.inl (by rfl))))) (blkOk_by (N := ["many", "thing", "one"]) (sc := defScope (topS 6)) (by decide +kernel)) (by decide) (fun _ _ _ _ _ => (jg_name (i := 2) sc.nd (by rfl) (.inl (by rfl)) hL)) (fun _ _ _ _ _ => jp_nil) (fun _ _ _ _ _ => je_call (fr := false) (n := 3) takes_nv (ok_is_count T) (hr.mono (by decide)) (by rfl) T.g_is_count T.u_is_count.kp T.b_is_count (ja_sh ((je_var (i := 2) (by rfl) (.inl (by rfl)))) (ja_sh (je_int) (ja_sh (je_sub (((je_var (i := 0) (by rfl) (.inr (.inl (by rfl))))).bo) ((je_int).bo)) (ja_nil)))))).give.bo) (ja_nil))).jt))))).jt) (jss_one (js_ret (je_bl))) (jss_nil))
    (jss_one (js_ret (jc_ilt.je ((je_ix (((je_var (i := 1) (by rfl) (.inl (by rfl)))).bo) ((je_int).bo)).bo) ((je_ix (((je_var (i := 1) (by rfl) (.inl (by rfl)))).bo) ((je_int).bo)).bo) (nomark _))))
theorem sc_has_ring : FnScope ["many", "roads", "groups", "one", "other", "elder", "group"] ["many", "roads"] (defScope (topS 7)) := ⟨rfl, rfl, rfl, by decide +kernel, rfl, by decide +kernel, by decide +kernel⟩
theorem ok_has_ring (T : Tx K mg) : FnOk P w K mg base (L2.CX P w) 1 T.a_has_ring T.d_has_ring ["many", "roads"] (spF ⟨K, mg, P, w⟩ 2 false m_has_ring) := by
  have sc := sc_has_ring
  refine fj_of T.u_has_ring sc rfl ?_
  intro cdv A outer s H E B hr hL tk
  exact jss_cons (js_set (i := 2) sc.nd (by rfl) (.inr (by rfl)) hL ((je_listR1 rfl (by rfl) T.z_list (by rfl) T.z_range (((je_var (i := 0) (by rfl) (.inl (by rfl)))).bo)).give))
    (jss_cons (js_for (passes_of (by rfl)) (by rfl) (ji_seq ((je_var (i := 1) (by rfl) (.inl (by rfl))))) (jg_tup (by rfl) (jgs_cons (jg_name (i := 3) sc.nd (by rfl) (.inr (by rfl)) hL) (jgs_cons (jg_name (i := 4) sc.nd (by rfl) (.inl (by rfl)) hL) jgs_nil))) (jss_cons (js_if ((jc_eq hr.units).der.jt ((je_ix (((je_var (i := 2) (by rfl) (.inr (.inl (by rfl))))).bo) (((je_var (i := 3) (by rfl) (.inr (.inl (by rfl))))).bo)).bo) ((je_ix (((je_var (i := 2) (by rfl) (.inr (.inl (by rfl))))).bo) (((je_var (i := 4) (by rfl) (.inl (by rfl)))).bo)).bo) (nomark _)) (jss_one (js_ret (je_bl))) (jss_nil))
    (jss_cons (js_set (i := 5) sc.nd (by rfl) (.inr (by rfl)) hL (je_ix (((je_var (i := 2) (by rfl) (.inr (.inl (by rfl))))).bo) (((je_var (i := 4) (by rfl) (.inl (by rfl)))).bo)))
    (jss_one (js_set (i := 2) sc.nd (by rfl) (.inr (by rfl)) hL ((je_lc (own := [("group", 6)]) rfl sc.nd (ji_seq ((je_var (i := 2) (by rfl) (.inr (.inl (by rfl)))))) (blkOk_by (N := ["many", "roads", "groups", "one", "other", "elder", "group"]) (sc := defScope (topS 7)) (by decide +kernel)) (by decide) (fun _ _ _ _ _ => (jg_name (i := 6) sc.nd (by rfl) (.inl (by rfl)) hL)) (fun _ _ _ _ _ => jp_nil) (fun _ _ _ _ _ => je_if ((jc_eq hr.units).der.jt (((je_var (i := 6) (by rfl) (.inl (by rfl)))).bo) (((je_var (i := 5) (by rfl) (.inr (.inl (by rfl))))).bo) (nomark _)) (je_ix (((je_var (i := 2) (by rfl) (.inr (.inl (by rfl))))).bo) (((je_var (i := 3) (by rfl) (.inr (.inl (by rfl))))).bo)) ((je_var (i := 6) (by rfl) (.inl (by rfl)))))).give))))))
    (jss_one (js_ret (je_bl))))
theorem sc_is_web : FnScope ["thing", "many", "roads", "road", "one", "other"] ["thing"] (defScope (topS 8)) := ⟨rfl, rfl, rfl, by decide +kernel, rfl, by decide +kernel, by decide +kernel⟩
theorem ok_is_web (T : Tx K mg) : FnOk P w K mg base (L2.CX P w) 3 T.a_is_web T.d_is_web ["thing"] (spF ⟨K, mg, P, w⟩ 1 false m_is_web) := by
  have sc := sc_is_web
  refine fj_of T.u_is_web sc rfl ?_
  intro cdv A outer s H E B hr hL tk
  exact jss_cons (js_if ((jw_or (jt_not ((je_isiD (by rfl) T.z_isinstance (by rfl) T.z_tuple (by decide +kernel) (by decide) (((je_var (i := 0) (by rfl) (.inl (by rfl)))).bo)).jt)) (jw_or ((jc_ne hr.units).der.jt ((je_bt jb_len.der (by rfl) T.z_len (by decide +kernel) (ja_bo (((je_var (i := 0) (by rfl) (.inl (by rfl)))).bo) (ja_nil))).bo) ((je_int).bo) (nomark _)) (jw_or1 (jt_not ((je_call (fr := false) (n := 3) tk (ok_is_count T) (hr.mono (by decide)) (by rfl) T.g_is_count T.u_is_count.kp T.b_is_count (ja_sh (je_ix (((je_var (i := 0) (by rfl) (.inl (by rfl)))).bo) ((je_int).bo)) (ja_sh (je_int) (ja_sh ((je_gint (by rfl) T.c_MOST_HOUSES)) (ja_nil))))).jt))))).jt) (jss_one (js_ret (je_bl))) (jss_nil))
    (jss_cons (js_to (jg_tup (by rfl) (jgs_cons (jg_name (i := 1) sc.nd (by rfl) (.inr (by rfl)) hL) (jgs_cons (jg_name (i := 2) sc.nd (by rfl) (.inl (by rfl)) hL) jgs_nil))) ((je_var (i := 0) (by rfl) (.inl (by rfl)))))
    (jss_cons (js_if ((jw_or (jt_not ((je_isiD (by rfl) T.z_isinstance (by rfl) T.z_tuple (by decide +kernel) (by decide) (((je_var (i := 2) (by rfl) (.inl (by rfl)))).bo)).jt)) (jw_or1 (jt_not ((je_bt (jb_all rfl).der (by rfl) T.z_all (by decide +kernel) (ja_bo ((je_lc (own := [("road", 3)]) rfl sc.nd (ji_seq ((je_var (i := 2) (by rfl) (.inl (by rfl))))) (blkOk_by (N := ["thing", "many", "roads", "road", "one", "other"]) (sc := defScope (topS 8)) (by decide +kernel)) (by decide) (fun _ _ _ _ _ => (jg_name (i := 3) sc.nd (by rfl) (.inl (by rfl)) hL)) (fun _ _ _ _ _ => jp_nil) (fun _ _ _ _ _ => je_call (fr := false) (n := 2) takes_nv (ok_is_road T) (hr.mono (by decide)) (by rfl) T.g_is_road T.u_is_road.kp T.b_is_road (ja_sh ((je_var (i := 1) (by rfl) (.inr (.inl (by rfl))))) (ja_sh ((je_var (i := 3) (by rfl) (.inl (by rfl)))) (ja_nil))))).give.bo) (ja_nil))).jt)))).jt) (jss_one (js_ret (je_bl))) (jss_nil))
    (jss_one (js_ret (je_and (je_bt (jb_all rfl).der (by rfl) T.z_all (by decide +kernel) (ja_bo ((je_lc (own := [("one", 4), ("other", 5)]) rfl sc.nd (ji_zip (by rfl) T.z_zip (ja_sh ((je_var (i := 2) (by rfl) (.inl (by rfl)))) (ja_sh (je_slAD (((je_var (i := 2) (by rfl) (.inl (by rfl)))).bo) (jo_some ((je_int).bo)) jo_none) (ja_nil)))) (blkOk_by (N := ["thing", "many", "roads", "road", "one", "other"]) (sc := defScope (topS 8)) (by decide +kernel)) (by decide) (fun _ _ _ _ _ => (jg_tup (by rfl) (jgs_cons (jg_name (i := 4) sc.nd (by rfl) (.inl (by rfl)) hL) (jgs_cons (jg_name (i := 5) sc.nd (by rfl) (.inl (by rfl)) hL) jgs_nil)))) (fun _ _ _ _ _ => jp_nil) (fun _ _ _ _ _ => (jc_ltD hr.units).der.je (((je_var (i := 4) (by rfl) (.inl (by rfl)))).bo) (((je_var (i := 5) (by rfl) (.inl (by rfl)))).bo) (nomark _))).give.bo) (ja_nil))) (je_one (je_not (je_call (fr := false) (n := 2) tk (ok_has_ring T) (hr.mono (by decide)) (by rfl) T.g_has_ring T.u_has_ring.kp T.b_has_ring (ja_sh ((je_var (i := 1) (by rfl) (.inr (.inl (by rfl))))) (ja_sh ((je_var (i := 2) (by rfl) (.inl (by rfl)))) (ja_nil)))))))))))
theorem sc_show_web : FnScope ["web", "one", "other"] ["web"] (defScope (topS 12)) := ⟨rfl, rfl, rfl, by decide +kernel, rfl, by decide +kernel, by decide +kernel⟩
theorem ok_show_web (T : Tx K mg) : FnOk P w K mg base (L2.CX P w) 1 T.a_show_web T.d_show_web ["web"] (spF ⟨K, mg, P, w⟩ 1 false m_show_web) := by
  have sc := sc_show_web
  refine fj_of T.u_show_web sc rfl ?_
  intro cdv A outer s H E B hr hL tk
  exact jss_one (js_ret (je_join (je_str) ((je_addD ((je_lst (ja_sh (je_ty jb_str (by rfl) T.z_str (by decide +kernel) (ja_bo ((je_ix (((je_var (i := 0) (by rfl) (.inl (by rfl)))).bo) ((je_int).bo)).bo) (ja_nil))) (ja_nil))).give.bo) ((je_lc (own := [("one", 1), ("other", 2)]) rfl sc.nd (ji_seq (je_ix (((je_var (i := 0) (by rfl) (.inl (by rfl)))).bo) ((je_int).bo))) (blkOk_by (N := ["web", "one", "other"]) (sc := defScope (topS 12)) (by decide +kernel)) (by decide) (fun _ _ _ _ _ => (jg_tup (by rfl) (jgs_cons (jg_name (i := 1) sc.nd (by rfl) (.inl (by rfl)) hL) (jgs_cons (jg_name (i := 2) sc.nd (by rfl) (.inl (by rfl)) hL) jgs_nil)))) (fun _ _ _ _ _ => jp_nil) (fun _ _ _ _ _ => je_addD ((je_addD ((je_ty jb_str (by rfl) T.z_str (by decide +kernel) (ja_bo (((je_var (i := 1) (by rfl) (.inl (by rfl)))).bo) (ja_nil))).bo) ((je_str).bo)).bo) ((je_ty jb_str (by rfl) T.z_str (by decide +kernel) (ja_bo (((je_var (i := 2) (by rfl) (.inl (by rfl)))).bo) (ja_nil))).bo))).give.bo)).bo)))
theorem sc_number_in : FnScope ["word", "sign"] ["word"] (defScope (topS 13)) := ⟨rfl, rfl, rfl, by decide +kernel, rfl, by decide +kernel, by decide +kernel⟩
theorem ok_number_in (T : Tx K mg) : FnOk P w K mg base (L2.CX P w) 1 T.a_number_in T.d_number_in ["word"] (spF ⟨K, mg, P, w⟩ 1 false m_number_in) := by
  have sc := sc_number_in
  refine fj_of T.u_number_in sc rfl ?_
  intro cdv A outer s H E B hr hL tk
  exact jss_cons (js_if ((jw_or (jt_not (jt_chain jc_ile jc_ile ((je_int).bo) ((je_bt jb_len.der (by rfl) T.z_len (by decide +kernel) (ja_bo (((je_var (i := 0) (by rfl) (.inl (by rfl)))).bo) (ja_nil))).bo) (((je_gint (by rfl) T.c_MOST_FIGURES)).bo))) (jw_or1 (jt_not ((je_bt (jb_all rfl).der (by rfl) T.z_all (by decide +kernel) (ja_bo ((je_lc (own := [("sign", 1)]) rfl sc.nd (ji_str ((je_var (i := 0) (by rfl) (.inl (by rfl))))) (blkOk_by (N := ["word", "sign"]) (sc := defScope (topS 13)) (by decide +kernel)) (by decide) (fun _ _ _ _ _ => (jg_name (i := 1) sc.nd (by rfl) (.inl (by rfl)) hL)) (fun _ _ _ _ _ => jp_nil) (fun _ _ _ _ _ => jc_inS.je (((je_var (i := 1) (by rfl) (.inl (by rfl)))).bo) (((je_gstr (by rfl) T.c_FIGURES)).bo) rfl)).give.bo) (ja_nil))).jt)))).jt) (jss_one (js_ret (je_non))) (jss_nil))
    (jss_one (js_ret (je_if ((jw_and (jc_igt.jt ((je_bt jb_len.der (by rfl) T.z_len (by decide +kernel) (ja_bo (((je_var (i := 0) (by rfl) (.inl (by rfl)))).bo) (ja_nil))).bo) ((je_int).bo) (nomark _)) (jw_and1 ((jc_eq hr.units).der.jt ((je_ix (((je_var (i := 0) (by rfl) (.inl (by rfl)))).bo) ((je_int).bo)).bo) ((je_str).bo) (nomark _)))).jt) (je_non) (je_ty jb_int (by rfl) T.z_int (by decide +kernel) (ja_bo (((je_var (i := 0) (by rfl) (.inl (by rfl)))).bo) (ja_nil))))))
theorem sc_numbers_in : FnScope ["word", "mark", "part"] ["word", "mark"] (defScope (topS 14)) := ⟨rfl, rfl, rfl, by decide +kernel, rfl, by decide +kernel, by decide +kernel⟩
theorem ok_numbers_in (T : Tx K mg) : FnOk P w K mg base (L2.CX P w) 2 T.a_numbers_in T.d_numbers_in ["word", "mark"] (spF ⟨K, mg, P, w⟩ 2 false m_numbers_in) := by
  have sc := sc_numbers_in
  refine fj_of T.u_numbers_in sc rfl ?_
  intro cdv A outer s H E B hr hL tk
  exact jss_one (js_ret (je_ty jb_tuple.der (by rfl) T.z_tuple (by decide +kernel) (ja_bo ((je_lc (own := [("part", 2)]) rfl sc.nd (ji_seq ((je_split ((je_var (i := 0) (by rfl) (.inl (by rfl)))) ((je_var (i := 1) (by rfl) (.inl (by rfl))))).give)) (blkOk_by (N := ["word", "mark", "part"]) (sc := defScope (topS 14)) (by decide +kernel)) (by decide) (fun _ _ _ _ _ => (jg_name (i := 2) sc.nd (by rfl) (.inl (by rfl)) hL)) (fun _ _ _ _ _ => jp_nil) (fun _ _ _ _ _ => je_call (fr := false) (n := 1) takes_nv (ok_number_in T) (hr.mono (by decide)) (by rfl) T.g_number_in T.u_number_in.kp T.b_number_in (ja_sh ((je_var (i := 2) (by rfl) (.inl (by rfl)))) (ja_nil)))).give.bo) (ja_nil))))
theorem sc_read_web : FnScope ["text", "words", "found", "word"] ["text"] (defScope (topS 15)) := ⟨rfl, rfl, rfl, by decide +kernel, rfl, by decide +kernel, by decide +kernel⟩
theorem ok_read_web (T : Tx K mg) : FnOk P w K mg base (L2.CX P w) 4 T.a_read_web T.d_read_web ["text"] (spF ⟨K, mg, P, w⟩ 1 false m_read_web) := by
  have sc := sc_read_web
  refine fj_of T.u_read_web sc rfl ?_
  intro cdv A outer s H E B hr hL tk
  exact jss_cons (js_set (i := 1) sc.nd (by rfl) (.inl rfl) hL ((je_split ((je_var (i := 0) (by rfl) (.inl (by rfl)))) (je_str)).give))
    (jss_cons (js_set (i := 2) sc.nd (by rfl) (.inl rfl) hL (je_tup (ja_sh (je_call (fr := false) (n := 1) tk (ok_number_in T) (hr.mono (by decide)) (by rfl) T.g_number_in T.u_number_in.kp T.b_number_in (ja_sh (je_ix (((je_var (i := 1) (by rfl) (.inl (by rfl)))).bo) ((je_int).bo)) (ja_nil))) (ja_sh (je_ty jb_tuple.der (by rfl) T.z_tuple (by decide +kernel) (ja_bo ((je_lc (own := [("word", 3)]) rfl sc.nd (ji_seq (je_slAD (((je_var (i := 1) (by rfl) (.inl (by rfl)))).bo) (jo_some ((je_int).bo)) jo_none)) (blkOk_by (N := ["text", "words", "found", "word"]) (sc := defScope (topS 15)) (by decide +kernel)) (by decide) (fun _ _ _ _ _ => (jg_name (i := 3) sc.nd (by rfl) (.inl (by rfl)) hL)) (fun _ _ _ _ _ => jp_nil) (fun _ _ _ _ _ => je_call (fr := false) (n := 2) takes_nv (ok_numbers_in T) (hr.mono (by decide)) (by rfl) T.g_numbers_in T.u_numbers_in.kp T.b_numbers_in (ja_sh ((je_var (i := 3) (by rfl) (.inl (by rfl)))) (ja_sh (je_str) (ja_nil))))).give.bo) (ja_nil))) (ja_nil)))))
    (jss_cons (js_if (jt_not ((je_call (fr := false) (n := 1) tk (ok_is_web T) (hr.mono (by decide)) (by rfl) T.g_is_web T.u_is_web.kp T.b_is_web (ja_sh ((je_var (i := 2) (by rfl) (.inl (by rfl)))) (ja_nil))).jt)) (jss_one (js_raise (by rfl) tk PySem.F.excBase_ValueError T.x_NoText T.g_NoText T.k_NoText T.s_NoText T.t_NoText (by rfl))) (jss_nil))
    (jss_one (js_ret ((je_var (i := 2) (by rfl) (.inl (by rfl))))))))
theorem sc__law_blend : FnScope ["cell", "at", "one", "two", "three"] ["cell", "at"] (defScope (topS 17)) := ⟨rfl, rfl, rfl, by decide +kernel, rfl, by decide +kernel, by decide +kernel⟩
theorem ok__law_blend (T : Tx K mg) : FnOk P w K mg base (L2.CX P w) 1 T.a__law_blend T.d__law_blend ["cell", "at"] (spF ⟨K, mg, P, w⟩ 2 false m__law_blend) := by
  have sc := sc__law_blend
  refine fj_of T.u__law_blend sc rfl ?_
  intro cdv A outer s H E B hr hL tk
  exact jss_cons (js_if (jc_ige.jt (((je_var (i := 0) (by rfl) (.inl (by rfl)))).bo) ((je_pow ((je_int).bo) ((je_int).bo)).bo) (nomark _)) (jss_one (js_ret ((je_var (i := 0) (by rfl) (.inl (by rfl)))))) (jss_nil))
    (jss_cons (js_set (i := 2) sc.nd (by rfl) (.inl rfl) hL (je_mod ((je_addD ((je_addD ((je_mul ((je_mod (((je_var (i := 0) (by rfl) (.inl (by rfl)))).bo) ((je_int).bo)).bo) ((je_int).bo)).bo) ((je_mul (((je_var (i := 1) (by rfl) (.inl (by rfl)))).bo) ((je_int).bo)).bo)).bo) ((je_int).bo)).bo) ((je_int).bo)))
    (jss_cons (js_set (i := 3) sc.nd (by rfl) (.inl rfl) hL (je_mod ((je_addD ((je_addD ((je_mul (((je_var (i := 2) (by rfl) (.inl (by rfl)))).bo) (((je_var (i := 2) (by rfl) (.inl (by rfl)))).bo)).bo) ((je_mul (((je_var (i := 1) (by rfl) (.inl (by rfl)))).bo) ((je_int).bo)).bo)).bo) ((je_mod (((je_var (i := 0) (by rfl) (.inl (by rfl)))).bo) ((je_int).bo)).bo)).bo) ((je_int).bo)))
    (jss_cons (js_set (i := 4) sc.nd (by rfl) (.inl rfl) hL (je_mod ((je_addD ((je_addD ((je_mul (((je_var (i := 3) (by rfl) (.inl (by rfl)))).bo) (((je_var (i := 3) (by rfl) (.inl (by rfl)))).bo)).bo) ((je_mul (((je_var (i := 2) (by rfl) (.inl (by rfl)))).bo) ((je_int).bo)).bo)).bo) ((je_int).bo)).bo) ((je_int).bo)))
    (jss_one (js_ret (je_addD ((je_mul ((je_addD ((je_mul (((je_var (i := 2) (by rfl) (.inl (by rfl)))).bo) ((je_int).bo)).bo) (((je_var (i := 3) (by rfl) (.inl (by rfl)))).bo)).bo) ((je_int).bo)).bo) (((je_var (i := 4) (by rfl) (.inl (by rfl)))).bo)))))))
theorem sc__law_pot : FnScope ["script", "cells", "k", "cell"] ["script"] (defScope (topS 18)) := ⟨rfl, rfl, rfl, by decide +kernel, rfl, by decide +kernel, by decide +kernel⟩
theorem ok__law_pot (T : Tx K mg) : FnOk P w K mg base (L2.CX P w) 1 T.a__law_pot T.d__law_pot ["script"] (spF ⟨K, mg, P, w⟩ 1 false m__law_pot) := by
  have sc := sc__law_pot
  refine fj_of T.u__law_pot sc rfl ?_
  intro cdv A outer s H E B hr hL tk
  exact jss_cons (js_own (i := 1) sc.nd (by rfl) (.inl rfl) hL (je_ty jb_list.der (by rfl) T.z_list (by decide +kernel) (ja_bo ((je_slAD (((je_var (i := 0) (by rfl) (.inl (by rfl)))).bo) jo_none (jo_some ((je_int).bo))).bo) (ja_nil))))
    (jss_cons (js_for (passes_of (by rfl)) (by rfl) (ji_enum (by rfl) T.z_enumerate (ja_sh (je_slAD (((je_var (i := 0) (by rfl) (.inl (by rfl)))).bo) (jo_some ((je_int).bo)) (jo_some ((je_int).bo))) (ja_nil))) (jg_tup (by rfl) (jgs_cons (jg_name (i := 2) sc.nd (by rfl) (.inl (by rfl)) hL) (jgs_cons (jg_name (i := 3) sc.nd (by rfl) (.inl (by rfl)) hL) jgs_nil))) (jss_one (js_put (i := 1) (by rfl) (.inl (by rfl)) (je_addD ((je_ix ((je_peek (i := 1) (by rfl) (.inl (by rfl)))) ((je_mod (((je_var (i := 2) (by rfl) (.inl (by rfl)))).bo) ((je_int).bo)).bo)).bo) (((je_var (i := 3) (by rfl) (.inl (by rfl)))).bo)) ((je_mod (((je_var (i := 2) (by rfl) (.inl (by rfl)))).bo) ((je_int).bo)).bo))))
    (jss_one (js_fix (i := 1) (js_ret (je_ref (je_lst (ja_sh ((je_var (i := 1) (by rfl) (.inl (by rfl)))) (ja_sh (je_int) (ja_sh (je_int) (ja_nil))))))))))
theorem sc__law_pick : FnScope ["pot", "many", "at", "cell", "found"] ["pot", "many"] (defScope (topS 19)) := ⟨rfl, rfl, rfl, by decide +kernel, rfl, by decide +kernel, by decide +kernel⟩
theorem ok__law_pick (T : Tx K mg) : FnOk P w K mg base (L2.CX P w) 2 T.a__law_pick T.d__law_pick ["pot", "many"] (spF ⟨K, mg, P, w⟩ 2 false m__law_pick) := by
  have sc := sc__law_pick
  refine fj_of T.u__law_pick sc rfl ?_
  intro cdv A outer s H E B hr hL tk
  exact jss_cons (js_if (jc_ilt.jt ((je_ix (((je_var (i := 0) (by rfl) (.inl (by rfl)))).bo) ((je_int).bo)).bo) (((je_var (i := 1) (by rfl) (.inl (by rfl)))).bo) (nomark _)) (jss_cons (js_set (i := 2) sc.nd (by rfl) (.inl rfl) hL (je_ix (((je_var (i := 0) (by rfl) (.inl (by rfl)))).bo) ((je_int).bo)))
    (jss_cons (js_set (i := 3) sc.nd (by rfl) (.inl rfl) hL (je_mul ((je_int).bo) (((je_var (i := 2) (by rfl) (.inl (by rfl)))).bo)))
    (jss_cons (js_if (jc_ilt.jt (((je_var (i := 2) (by rfl) (.inl (by rfl)))).bo) ((je_bt jb_len.der (by rfl) T.z_len (by decide +kernel) (ja_bo ((je_ix (((je_var (i := 0) (by rfl) (.inl (by rfl)))).bo) ((je_int).bo)).bo) (ja_nil))).bo) (nomark _)) (jss_one (js_set (i := 3) sc.nd (by rfl) (.inl rfl) hL (je_ix ((je_ix (((je_var (i := 0) (by rfl) (.inl (by rfl)))).bo) ((je_int).bo)).bo) (((je_var (i := 2) (by rfl) (.inl (by rfl)))).bo)))) (jss_one (js_if ((jc_ne hr.units).der.jt ((je_ix (((je_var (i := 0) (by rfl) (.inl (by rfl)))).bo) ((je_int).bo)).bo) ((je_lst (ja_nil)).give.bo) (nomark _)) (jss_one (js_set (i := 3) sc.nd (by rfl) (.inl rfl) hL (je_mod ((je_ix ((je_ix (((je_var (i := 0) (by rfl) (.inl (by rfl)))).bo) ((je_int).bo)).bo) ((je_mod ((je_addD ((je_mul (((je_var (i := 2) (by rfl) (.inl (by rfl)))).bo) ((je_int).bo)).bo) ((je_int).bo)).bo) ((je_bt jb_len.der (by rfl) T.z_len (by decide +kernel) (ja_bo ((je_ix (((je_var (i := 0) (by rfl) (.inl (by rfl)))).bo) ((je_int).bo)).bo) (ja_nil))).bo)).bo)).bo) ((je_addD ((je_pow ((je_int).bo) ((je_int).bo)).bo) ((je_mul ((je_int).bo) (((je_var (i := 2) (by rfl) (.inl (by rfl)))).bo)).bo)).bo)))) (jss_nil))))
    (jss_cons (js_putR (je_addD (((je_var (i := 2) (by rfl) (.inl (by rfl)))).bo) ((je_int).bo)) ((je_var (i := 0) (by rfl) (.inl (by rfl)))) ((je_int).bo))
    (jss_one (js_putR (je_call (fr := false) (n := 2) tk (ok__law_blend T) (hr.mono (by decide)) (by rfl) T.g__law_blend T.u__law_blend.kp T.b__law_blend (ja_sh ((je_var (i := 3) (by rfl) (.inl (by rfl)))) (ja_sh ((je_var (i := 2) (by rfl) (.inl (by rfl)))) (ja_nil)))) ((je_var (i := 0) (by rfl) (.inl (by rfl)))) ((je_int).bo))))))) (jss_nil))
    (jss_cons (js_set (i := 4) sc.nd (by rfl) (.inl rfl) hL (je_mod ((je_ix (((je_var (i := 0) (by rfl) (.inl (by rfl)))).bo) ((je_int).bo)).bo) (((je_var (i := 1) (by rfl) (.inl (by rfl)))).bo)))
    (jss_cons (js_putR (je_fdiv ((je_ix (((je_var (i := 0) (by rfl) (.inl (by rfl)))).bo) ((je_int).bo)).bo) (((je_var (i := 1) (by rfl) (.inl (by rfl)))).bo)) ((je_var (i := 0) (by rfl) (.inl (by rfl)))) ((je_int).bo))
    (jss_one (js_ret ((je_var (i := 4) (by rfl) (.inl (by rfl))))))))
theorem sc__law_same : FnScope ["found", "due", "one", "other"] ["found", "due"] (defScope (topS 20)) := ⟨rfl, rfl, rfl, by decide +kernel, rfl, by decide +kernel, by decide +kernel⟩
theorem ok__law_same (T : Tx K mg) : ∀ n : Nat, FnOk P w K mg base (L2.CX P w) (1 + n) T.a__law_same T.d__law_same ["found", "due"] (spF ⟨K, mg, P, w⟩ 2 false (m__law_same n))
  | 0 => by
    rw [z__law_same]
    exact fj_bad
  | n + 1 => by
    have ih := ok__law_same T n
    have sc := sc__law_same
    rw [e__law_same]
    refine fj_of T.u__law_same sc rfl ?_
    intro cdv A outer s H E B hr hL tk
    exact jss_cons (js_if ((jw_or (jc_is.jt (((je_var (i := 1) (by rfl) (.inl (by rfl)))).bo) ((je_non).bo) (nomark _)) (jw_or1 ((je_isiD (by rfl) T.z_isinstance (by rfl) T.z_bool (by decide +kernel) (by decide) (((je_var (i := 1) (by rfl) (.inl (by rfl)))).bo)).jt))).jt) (jss_one (js_ret (je_and ((jc_eq hr.units).der.je ((je_isiD (by rfl) T.z_isinstance (by rfl) T.z_bool (by decide +kernel) (by decide) (((je_var (i := 0) (by rfl) (.inl (by rfl)))).bo)).bo) ((je_isiD (by rfl) T.z_isinstance (by rfl) T.z_bool (by decide +kernel) (by decide) (((je_var (i := 1) (by rfl) (.inl (by rfl)))).bo)).bo) (nomark _)) (je_one ((jc_eq hr.units).der.je (((je_var (i := 0) (by rfl) (.inl (by rfl)))).bo) (((je_var (i := 1) (by rfl) (.inl (by rfl)))).bo) (nomark _)))))) (jss_nil))
      (jss_cons (js_if ((je_isiD (by rfl) T.z_isinstance (by rfl) T.z_str (by decide +kernel) (by decide) (((je_var (i := 1) (by rfl) (.inl (by rfl)))).bo)).jt) (jss_one (js_ret (je_and (je_isiD (by rfl) T.z_isinstance (by rfl) T.z_str (by decide +kernel) (by decide) (((je_var (i := 0) (by rfl) (.inl (by rfl)))).bo)) (je_one ((jc_eq hr.units).der.je (((je_var (i := 0) (by rfl) (.inl (by rfl)))).bo) (((je_var (i := 1) (by rfl) (.inl (by rfl)))).bo) (nomark _)))))) (jss_nil))
      (jss_cons (js_if ((je_isiD (by rfl) T.z_isinstance (by rfl) T.z_int (by decide +kernel) (by decide) (((je_var (i := 1) (by rfl) (.inl (by rfl)))).bo)).jt) (jss_one (js_ret (je_and (je_isiD (by rfl) T.z_isinstance (by rfl) T.z_int (by decide +kernel) (by decide) (((je_var (i := 0) (by rfl) (.inl (by rfl)))).bo)) (je_and (je_not (je_isiD (by rfl) T.z_isinstance (by rfl) T.z_bool (by decide +kernel) (by decide) (((je_var (i := 0) (by rfl) (.inl (by rfl)))).bo))) (je_one ((jc_eq hr.units).der.je (((je_var (i := 0) (by rfl) (.inl (by rfl)))).bo) (((je_var (i := 1) (by rfl) (.inl (by rfl)))).bo) (nomark _))))))) (jss_nil))
      (jss_cons (js_if ((jw_or ((jc_ne hr.units).der.jt ((je_isiD (by rfl) T.z_isinstance (by rfl) T.z_tuple (by decide +kernel) (by decide) (((je_var (i := 1) (by rfl) (.inl (by rfl)))).bo)).bo) ((je_isiD (by rfl) T.z_isinstance (by rfl) T.z_tuple (by decide +kernel) (by decide) (((je_var (i := 0) (by rfl) (.inl (by rfl)))).bo)).bo) (nomark _)) (jw_or1 ((jc_ne hr.units).der.jt ((je_isiD (by rfl) T.z_isinstance (by rfl) T.z_list (by decide +kernel) (by decide) (((je_var (i := 1) (by rfl) (.inl (by rfl)))).bo)).bo) ((je_isiD (by rfl) T.z_isinstance (by rfl) T.z_list (by decide +kernel) (by decide) (((je_var (i := 0) (by rfl) (.inl (by rfl)))).bo)).bo) (nomark _)))).jt) (jss_one (js_ret (je_bl))) (jss_nil))
      (jss_one (js_ret (je_and ((jc_eq hr.units).der.je ((je_bt jb_len.der (by rfl) T.z_len (by decide +kernel) (ja_bo (((je_var (i := 0) (by rfl) (.inl (by rfl)))).bo) (ja_nil))).bo) ((je_bt jb_len.der (by rfl) T.z_len (by decide +kernel) (ja_bo (((je_var (i := 1) (by rfl) (.inl (by rfl)))).bo) (ja_nil))).bo) (nomark _)) (je_one (je_bt (jb_all rfl).der (by rfl) T.z_all (by decide +kernel) (ja_bo ((je_lc (own := [("one", 2), ("other", 3)]) rfl sc.nd (ji_zip (by rfl) T.z_zip (ja_sh ((je_var (i := 0) (by rfl) (.inl (by rfl)))) (ja_sh ((je_var (i := 1) (by rfl) (.inl (by rfl)))) (ja_nil)))) (blkOk_by (N := ["found", "due", "one", "other"]) (sc := defScope (topS 20)) (by decide +kernel)) (by decide) (fun _ _ _ _ _ => (jg_tup (by rfl) (jgs_cons (jg_name (i := 2) sc.nd (by rfl) (.inl (by rfl)) hL) (jgs_cons (jg_name (i := 3) sc.nd (by rfl) (.inl (by rfl)) hL) jgs_nil)))) (fun _ _ _ _ _ => jp_nil) (fun _ _ _ _ _ => je_call (fr := false) (n := 2) takes_nv ih (hr.mono (Nat.le_refl _)) (by rfl) T.g__law_same T.u__law_same.kp T.b__law_same (ja_sh ((je_var (i := 2) (by rfl) (.inl (by rfl)))) (ja_sh ((je_var (i := 3) (by rfl) (.inl (by rfl)))) (ja_nil))))).give.bo) (ja_nil))))))))))
theorem sc__law_order : FnScope ["pot", "many", "order", "k"] ["pot", "many"] (defScope (topS 21)) := ⟨rfl, rfl, rfl, by decide +kernel, rfl, by decide +kernel, by decide +kernel⟩
theorem ok__law_order (T : Tx K mg) : FnOk P w K mg base (L2.CX P w) 3 T.a__law_order T.d__law_order ["pot", "many"] (spF ⟨K, mg, P, w⟩ 2 true m__law_order) := by
  have sc := sc__law_order
  refine fj_of T.u__law_order sc rfl ?_
  intro cdv A outer s H E B hr hL tk
  exact jss_cons (js_own (i := 2) sc.nd (by rfl) (.inl rfl) hL (je_lst (ja_nil)))
    (jss_cons (js_for (passes_of (by rfl)) (by rfl) (ji_range1 (by rfl) T.z_range (ja_bo (((je_var (i := 1) (by rfl) (.inl (by rfl)))).bo) (ja_nil))) (jg_name (i := 3) sc.nd (by rfl) (.inl (by rfl)) hL) (jss_one (js_ins (i := 2) (by rfl) (.inl (by rfl)) (ja_sh (je_call (fr := false) (n := 2) tk (ok__law_pick T) (hr.mono (by decide)) (by rfl) T.g__law_pick T.u__law_pick.kp T.b__law_pick (ja_sh ((je_var (i := 0) (by rfl) (.inl (by rfl)))) (ja_sh (je_addD (((je_var (i := 3) (by rfl) (.inl (by rfl)))).bo) ((je_int).bo)) (ja_nil)))) (ja_sh ((je_var (i := 3) (by rfl) (.inl (by rfl)))) (ja_nil))))))
    (jss_one (js_retOwn (i := 2) (by rfl) (.inl (by rfl)))))
theorem sc__law_web : FnScope ["pot", "most", "often", "many", "order", "roads", "k", "pair"] ["pot", "most"] (defScope (topS 22)) := ⟨rfl, rfl, rfl, by decide +kernel, rfl, by decide +kernel, by decide +kernel⟩
theorem ok__law_web (T : Tx K mg) : FnOk P w K mg base (L2.CX P w) 4 T.a__law_web T.d__law_web ["pot", "most"] (spF ⟨K, mg, P, w⟩ 2 false m__law_web) := by
  have sc := sc__law_web
  refine fj_of T.u__law_web sc rfl ?_
  intro cdv A outer s H E B hr hL tk
  exact jss_cons (js_set (i := 2) sc.nd (by rfl) (.inl rfl) hL (je_call (fr := false) (n := 2) tk (ok__law_pick T) (hr.mono (by decide)) (by rfl) T.g__law_pick T.u__law_pick.kp T.b__law_pick (ja_sh ((je_var (i := 0) (by rfl) (.inl (by rfl)))) (ja_sh (je_int) (ja_nil)))))
    (jss_cons (js_set (i := 3) sc.nd (by rfl) (.inl rfl) hL (je_addD ((je_int).bo) ((je_call (fr := false) (n := 2) tk (ok__law_pick T) (hr.mono (by decide)) (by rfl) T.g__law_pick T.u__law_pick.kp T.b__law_pick (ja_sh ((je_var (i := 0) (by rfl) (.inl (by rfl)))) (ja_sh ((je_var (i := 1) (by rfl) (.inl (by rfl)))) (ja_nil)))).bo)))
    (jss_cons (js_set (i := 4) sc.nd (by rfl) (.inl rfl) hL ((je_call (fr := true) (n := 2) tk (ok__law_order T) (hr.mono (by decide)) (by rfl) T.g__law_order T.u__law_order.kp T.b__law_order (ja_sh ((je_var (i := 0) (by rfl) (.inl (by rfl)))) (ja_sh ((je_var (i := 3) (by rfl) (.inl (by rfl)))) (ja_nil)))).give))
    (jss_cons (js_own (i := 5) sc.nd (by rfl) (.inl rfl) hL (je_lst (ja_nil)))
    (jss_cons (js_for (passes_of (by rfl)) (by rfl) (ji_range2 (by rfl) T.z_range (ja_bo ((je_int).bo) (ja_bo (((je_var (i := 3) (by rfl) (.inl (by rfl)))).bo) (ja_nil)))) (jg_name (i := 6) sc.nd (by rfl) (.inl (by rfl)) hL) (jss_one (js_if (jc_ige.jt ((je_call (fr := false) (n := 2) tk (ok__law_pick T) (hr.mono (by decide)) (by rfl) T.g__law_pick T.u__law_pick.kp T.b__law_pick (ja_sh ((je_var (i := 0) (by rfl) (.inl (by rfl)))) (ja_sh (je_int) (ja_nil)))).bo) (((je_var (i := 2) (by rfl) (.inl (by rfl)))).bo) (nomark _)) (jss_cons (js_set (i := 7) sc.nd (by rfl) (.inl rfl) hL (je_tup (ja_sh (je_ix (((je_var (i := 4) (by rfl) (.inl (by rfl)))).bo) (((je_var (i := 6) (by rfl) (.inl (by rfl)))).bo)) (ja_sh (je_ix (((je_var (i := 4) (by rfl) (.inl (by rfl)))).bo) ((je_call (fr := false) (n := 2) tk (ok__law_pick T) (hr.mono (by decide)) (by rfl) T.g__law_pick T.u__law_pick.kp T.b__law_pick (ja_sh ((je_var (i := 0) (by rfl) (.inl (by rfl)))) (ja_sh ((je_var (i := 6) (by rfl) (.inl (by rfl)))) (ja_nil)))).bo)) (ja_nil)))))
    (jss_one (js_app (i := 5) (by rfl) (.inl (by rfl)) (ja_sh (je_tup (ja_sh (je_bt (jb_best_min rfl hr.units).der (by rfl) T.z_min (by decide +kernel) (ja_bo (((je_var (i := 7) (by rfl) (.inl (by rfl)))).bo) (ja_nil))) (ja_sh (je_bt (jb_best_max rfl hr.units).der (by rfl) T.z_max (by decide +kernel) (ja_bo (((je_var (i := 7) (by rfl) (.inl (by rfl)))).bo) (ja_nil))) (ja_nil)))) (ja_nil))))) (jss_nil))))
    (jss_one (js_ret (je_tup (ja_sh ((je_var (i := 3) (by rfl) (.inl (by rfl)))) (ja_sh (je_ty jb_tuple.der (by rfl) T.z_tuple (by decide +kernel) (ja_bo ((je_bt (jb_sort hr.units).der (by rfl) T.z_sorted (by decide +kernel) (ja_bo ((je_peek (i := 5) (by rfl) (.inl (by rfl)))) (ja_nil))).give.bo) (ja_nil))) (ja_nil))))))))))
theorem sc__law_web_text : FnScope ["web", "one", "other"] ["web"] (defScope (topS 23)) := ⟨rfl, rfl, rfl, by decide +kernel, rfl, by decide +kernel, by decide +kernel⟩
theorem ok__law_web_text (T : Tx K mg) : FnOk P w K mg base (L2.CX P w) 1 T.a__law_web_text T.d__law_web_text ["web"] (spF ⟨K, mg, P, w⟩ 1 false m__law_web_text) := by
  have sc := sc__law_web_text
  refine fj_of T.u__law_web_text sc rfl ?_
  intro cdv A outer s H E B hr hL tk
  exact jss_one (js_ret (je_join (je_str) ((je_addD ((je_lst (ja_sh (je_ty jb_str (by rfl) T.z_str (by decide +kernel) (ja_bo ((je_ix (((je_var (i := 0) (by rfl) (.inl (by rfl)))).bo) ((je_int).bo)).bo) (ja_nil))) (ja_nil))).give.bo) ((je_lc (own := [("one", 1), ("other", 2)]) rfl sc.nd (ji_seq (je_ix (((je_var (i := 0) (by rfl) (.inl (by rfl)))).bo) ((je_int).bo))) (blkOk_by (N := ["web", "one", "other"]) (sc := defScope (topS 23)) (by decide +kernel)) (by decide) (fun _ _ _ _ _ => (jg_tup (by rfl) (jgs_cons (jg_name (i := 1) sc.nd (by rfl) (.inl (by rfl)) hL) (jgs_cons (jg_name (i := 2) sc.nd (by rfl) (.inl (by rfl)) hL) jgs_nil)))) (fun _ _ _ _ _ => jp_nil) (fun _ _ _ _ _ => je_joined (JJ.cons (je_fmt ((je_var (i := 1) (by rfl) (.inl (by rfl))))) (JJ.cons (je_str) (JJ.cons (je_fmt ((je_var (i := 2) (by rfl) (.inl (by rfl))))) (JJ.nil)))))).give.bo)).bo)))
theorem sc_law : FnScope ["script", "pot", "turn", "web", "text"] ["script"] (defScope (topS 24)) := ⟨rfl, rfl, rfl, by decide +kernel, rfl, by decide +kernel, by decide +kernel⟩
theorem ok_law (T : Tx K mg) : FnOk P w K mg base (L2.CX P w) 10 T.a_law T.d_law ["script"] (spF ⟨K, mg, P, w⟩ 1 false m_law) := by
  have sc := sc_law
  refine fj_of T.u_law sc rfl ?_
  intro cdv A outer s H E B hr hL tk
  exact jss_cons (js_set (i := 1) sc.nd (by rfl) (.inl rfl) hL (je_call (fr := false) (n := 1) tk (ok__law_pot T) (hr.mono (by decide)) (by rfl) T.g__law_pot T.u__law_pot.kp T.b__law_pot (ja_sh ((je_var (i := 0) (by rfl) (.inl (by rfl)))) (ja_nil))))
    (jss_cons (js_for (passes_of (by rfl)) (by rfl) (ji_range1 (by rfl) T.z_range (ja_bo ((je_int).bo) (ja_nil))) (jg_name (i := 2) sc.nd (by rfl) (.inl (by rfl)) hL) (jss_cons (js_set (i := 3) sc.nd (by rfl) (.inl rfl) hL (je_call (fr := false) (n := 2) tk (ok__law_web T) (hr.mono (by decide)) (by rfl) T.g__law_web T.u__law_web.kp T.b__law_web (ja_sh ((je_var (i := 1) (by rfl) (.inl (by rfl)))) (ja_sh (je_int) (ja_nil)))))
    (jss_cons (js_set (i := 4) sc.nd (by rfl) (.inl rfl) hL (je_call (fr := false) (n := 1) tk (ok__law_web_text T) (hr.mono (by decide)) (by rfl) T.g__law_web_text T.u__law_web_text.kp T.b__law_web_text (ja_sh ((je_var (i := 3) (by rfl) (.inl (by rfl)))) (ja_nil))))
    (jss_one (js_if ((jw_or (jt_not ((je_call (fr := false) (n := 2) tk (ok__law_same T 8) (hr.mono (by decide)) (by rfl) T.g__law_same T.u__law_same.kp T.b__law_same (ja_sh (je_call (fr := false) (n := 1) tk (ok_show_web T) (hr.mono (by decide)) (by rfl) T.g_show_web T.u_show_web.kp T.b_show_web (ja_sh ((je_var (i := 3) (by rfl) (.inl (by rfl)))) (ja_nil))) (ja_sh ((je_var (i := 4) (by rfl) (.inl (by rfl)))) (ja_nil)))).jt)) (jw_or1 (jt_not ((je_call (fr := false) (n := 2) tk (ok__law_same T 8) (hr.mono (by decide)) (by rfl) T.g__law_same T.u__law_same.kp T.b__law_same (ja_sh (je_call (fr := false) (n := 1) tk (ok_read_web T) (hr.mono (by decide)) (by rfl) T.g_read_web T.u_read_web.kp T.b_read_web (ja_sh ((je_var (i := 4) (by rfl) (.inl (by rfl)))) (ja_nil))) (ja_sh ((je_var (i := 3) (by rfl) (.inl (by rfl)))) (ja_nil)))).jt)))).jt) (jss_one (js_ret (je_bl))) (jss_nil))))))
    (jss_one (js_ret (je_bl))))
end
theorem all_mk {l : PySem.W.OpenLaw} {w : World} {K : PySem.W.Frag} {h : Heap} {mg : Str → Option Value} {fa f5 f6 f7 f8 f12 f13 f14 f15 f17 f18 f19 f20 f21 f22 f23 f24 e_NoText : Addr} {tk_FIGURES tk_MOST_FIGURES tk_MOST_HOUSES : Tok} {od5 an5 od6 an6 od7 an7 od8 an8 od12 an12 od13 an13 od14 an14 od15 an15 od17 an17 od18 an18 od19 an19 od20 an20 od21 an21 od22 an22 od23 an23 od24 an24 : Option Addr} {sl5 sl6 sl7 sl8 sl12 sl13 sl14 sl15 sl17 sl18 sl19 sl20 sl21 sl22 sl23 sl24 : Array (Option Value)} {oc5 kV5 dc5 pm5 cd5 ct5 oc6 kV6 dc6 pm6 cd6 ct6 oc7 kV7 dc7 pm7 cd7 ct7 oc8 kV8 dc8 pm8 cd8 ct8 oc12 kV12 dc12 pm12 cd12 ct12 oc13 kV13 dc13 pm13 cd13 ct13 oc14 kV14 dc14 pm14 cd14 ct14 oc15 kV15 dc15 pm15 cd15 ct15 oc17 kV17 dc17 pm17 cd17 ct17 oc18 kV18 dc18 pm18 cd18 ct18 oc19 kV19 dc19 pm19 cd19 ct19 oc20 kV20 dc20 pm20 cd20 ct20 oc21 kV21 dc21 pm21 cd21 ct21 oc22 kV22 dc22 pm22 cd22 ct22 oc23 kV23 dc23 pm23 cd23 ct23 oc24 kV24 dc24 pm24 cd24 ct24 : Value} (X : K.In h) (G : h.Ns mainGlobals mg) (hfa : mg "law" = some (.ref fa))
    (a5 : PySem.W.nsIn K mainGlobals "is_count" = some (some (.ref f5))) (l5 : K.lookup f5 = some ⟨oc5, od5, .func (PySem.W.fnOf "is_count" "is_count" (defArgs (topS 5)) (defBody (topS 5)) (defScope (topS 5)) .none kV5 dc5 pm5 an5 cd5 ct5), sl5⟩) (c5 : PySem.W.codeIn K cd5 "is_count" = true) (k5 : PySem.W.keepIn K (.ref f5) = true)
    (a6 : PySem.W.nsIn K mainGlobals "is_road" = some (some (.ref f6))) (l6 : K.lookup f6 = some ⟨oc6, od6, .func (PySem.W.fnOf "is_road" "is_road" (defArgs (topS 6)) (defBody (topS 6)) (defScope (topS 6)) .none kV6 dc6 pm6 an6 cd6 ct6), sl6⟩) (c6 : PySem.W.codeIn K cd6 "is_road" = true) (k6 : PySem.W.keepIn K (.ref f6) = true)
    (a7 : PySem.W.nsIn K mainGlobals "has_ring" = some (some (.ref f7))) (l7 : K.lookup f7 = some ⟨oc7, od7, .func (PySem.W.fnOf "has_ring" "has_ring" (defArgs (topS 7)) (defBody (topS 7)) (defScope (topS 7)) .none kV7 dc7 pm7 an7 cd7 ct7), sl7⟩) (c7 : PySem.W.codeIn K cd7 "has_ring" = true) (k7 : PySem.W.keepIn K (.ref f7) = true)
    (a8 : PySem.W.nsIn K mainGlobals "is_web" = some (some (.ref f8))) (l8 : K.lookup f8 = some ⟨oc8, od8, .func (PySem.W.fnOf "is_web" "is_web" (defArgs (topS 8)) (defBody (topS 8)) (defScope (topS 8)) .none kV8 dc8 pm8 an8 cd8 ct8), sl8⟩) (c8 : PySem.W.codeIn K cd8 "is_web" = true) (k8 : PySem.W.keepIn K (.ref f8) = true)
    (a12 : PySem.W.nsIn K mainGlobals "show_web" = some (some (.ref f12))) (l12 : K.lookup f12 = some ⟨oc12, od12, .func (PySem.W.fnOf "show_web" "show_web" (defArgs (topS 12)) (defBody (topS 12)) (defScope (topS 12)) .none kV12 dc12 pm12 an12 cd12 ct12), sl12⟩) (c12 : PySem.W.codeIn K cd12 "show_web" = true) (k12 : PySem.W.keepIn K (.ref f12) = true)
    (a13 : PySem.W.nsIn K mainGlobals "number_in" = some (some (.ref f13))) (l13 : K.lookup f13 = some ⟨oc13, od13, .func (PySem.W.fnOf "number_in" "number_in" (defArgs (topS 13)) (defBody (topS 13)) (defScope (topS 13)) .none kV13 dc13 pm13 an13 cd13 ct13), sl13⟩) (c13 : PySem.W.codeIn K cd13 "number_in" = true) (k13 : PySem.W.keepIn K (.ref f13) = true)
    (a14 : PySem.W.nsIn K mainGlobals "numbers_in" = some (some (.ref f14))) (l14 : K.lookup f14 = some ⟨oc14, od14, .func (PySem.W.fnOf "numbers_in" "numbers_in" (defArgs (topS 14)) (defBody (topS 14)) (defScope (topS 14)) .none kV14 dc14 pm14 an14 cd14 ct14), sl14⟩) (c14 : PySem.W.codeIn K cd14 "numbers_in" = true) (k14 : PySem.W.keepIn K (.ref f14) = true)
    (a15 : PySem.W.nsIn K mainGlobals "read_web" = some (some (.ref f15))) (l15 : K.lookup f15 = some ⟨oc15, od15, .func (PySem.W.fnOf "read_web" "read_web" (defArgs (topS 15)) (defBody (topS 15)) (defScope (topS 15)) .none kV15 dc15 pm15 an15 cd15 ct15), sl15⟩) (c15 : PySem.W.codeIn K cd15 "read_web" = true) (k15 : PySem.W.keepIn K (.ref f15) = true)
    (a17 : PySem.W.nsIn K mainGlobals "_law_blend" = some (some (.ref f17))) (l17 : K.lookup f17 = some ⟨oc17, od17, .func (PySem.W.fnOf "_law_blend" "_law_blend" (defArgs (topS 17)) (defBody (topS 17)) (defScope (topS 17)) .none kV17 dc17 pm17 an17 cd17 ct17), sl17⟩) (c17 : PySem.W.codeIn K cd17 "_law_blend" = true) (k17 : PySem.W.keepIn K (.ref f17) = true)
    (a18 : PySem.W.nsIn K mainGlobals "_law_pot" = some (some (.ref f18))) (l18 : K.lookup f18 = some ⟨oc18, od18, .func (PySem.W.fnOf "_law_pot" "_law_pot" (defArgs (topS 18)) (defBody (topS 18)) (defScope (topS 18)) .none kV18 dc18 pm18 an18 cd18 ct18), sl18⟩) (c18 : PySem.W.codeIn K cd18 "_law_pot" = true) (k18 : PySem.W.keepIn K (.ref f18) = true)
    (a19 : PySem.W.nsIn K mainGlobals "_law_pick" = some (some (.ref f19))) (l19 : K.lookup f19 = some ⟨oc19, od19, .func (PySem.W.fnOf "_law_pick" "_law_pick" (defArgs (topS 19)) (defBody (topS 19)) (defScope (topS 19)) .none kV19 dc19 pm19 an19 cd19 ct19), sl19⟩) (c19 : PySem.W.codeIn K cd19 "_law_pick" = true) (k19 : PySem.W.keepIn K (.ref f19) = true)
    (a20 : PySem.W.nsIn K mainGlobals "_law_same" = some (some (.ref f20))) (l20 : K.lookup f20 = some ⟨oc20, od20, .func (PySem.W.fnOf "_law_same" "_law_same" (defArgs (topS 20)) (defBody (topS 20)) (defScope (topS 20)) .none kV20 dc20 pm20 an20 cd20 ct20), sl20⟩) (c20 : PySem.W.codeIn K cd20 "_law_same" = true) (k20 : PySem.W.keepIn K (.ref f20) = true)
    (a21 : PySem.W.nsIn K mainGlobals "_law_order" = some (some (.ref f21))) (l21 : K.lookup f21 = some ⟨oc21, od21, .func (PySem.W.fnOf "_law_order" "_law_order" (defArgs (topS 21)) (defBody (topS 21)) (defScope (topS 21)) .none kV21 dc21 pm21 an21 cd21 ct21), sl21⟩) (c21 : PySem.W.codeIn K cd21 "_law_order" = true) (k21 : PySem.W.keepIn K (.ref f21) = true)
    (a22 : PySem.W.nsIn K mainGlobals "_law_web" = some (some (.ref f22))) (l22 : K.lookup f22 = some ⟨oc22, od22, .func (PySem.W.fnOf "_law_web" "_law_web" (defArgs (topS 22)) (defBody (topS 22)) (defScope (topS 22)) .none kV22 dc22 pm22 an22 cd22 ct22), sl22⟩) (c22 : PySem.W.codeIn K cd22 "_law_web" = true) (k22 : PySem.W.keepIn K (.ref f22) = true)
    (a23 : PySem.W.nsIn K mainGlobals "_law_web_text" = some (some (.ref f23))) (l23 : K.lookup f23 = some ⟨oc23, od23, .func (PySem.W.fnOf "_law_web_text" "_law_web_text" (defArgs (topS 23)) (defBody (topS 23)) (defScope (topS 23)) .none kV23 dc23 pm23 an23 cd23 ct23), sl23⟩) (c23 : PySem.W.codeIn K cd23 "_law_web_text" = true) (k23 : PySem.W.keepIn K (.ref f23) = true)
    (a24 : PySem.W.nsIn K mainGlobals "law" = some (some (.ref f24))) (l24 : K.lookup f24 = some ⟨oc24, od24, .func (PySem.W.fnOf "law" "law" (defArgs (topS 24)) (defBody (topS 24)) (defScope (topS 24)) .none kV24 dc24 pm24 an24 cd24 ct24), sl24⟩) (c24 : PySem.W.codeIn K cd24 "law" = true) (k24 : PySem.W.keepIn K (.ref f24) = true)
    (z_all : PySem.W.nsIn K mainGlobals "all" = some none)
    (z_bool : PySem.W.nsIn K mainGlobals "bool" = some none)
    (z_enumerate : PySem.W.nsIn K mainGlobals "enumerate" = some none)
    (z_int : PySem.W.nsIn K mainGlobals "int" = some none)
    (z_isinstance : PySem.W.nsIn K mainGlobals "isinstance" = some none)
    (z_len : PySem.W.nsIn K mainGlobals "len" = some none)
    (z_list : PySem.W.nsIn K mainGlobals "list" = some none)
    (z_max : PySem.W.nsIn K mainGlobals "max" = some none)
    (z_min : PySem.W.nsIn K mainGlobals "min" = some none)
    (z_range : PySem.W.nsIn K mainGlobals "range" = some none)
    (z_sorted : PySem.W.nsIn K mainGlobals "sorted" = some none)
    (z_str : PySem.W.nsIn K mainGlobals "str" = some none)
    (z_tuple : PySem.W.nsIn K mainGlobals "tuple" = some none)
    (z_zip : PySem.W.nsIn K mainGlobals "zip" = some none)
    (c_FIGURES : PySem.W.nsIn K mainGlobals "FIGURES" = some (some (.str "0123456789" tk_FIGURES)))
    (c_MOST_FIGURES : PySem.W.nsIn K mainGlobals "MOST_FIGURES" = some (some (.int 4 tk_MOST_FIGURES)))
    (c_MOST_HOUSES : PySem.W.nsIn K mainGlobals "MOST_HOUSES" = some (some (.int 8 tk_MOST_HOUSES)))
    (g_NoText : PySem.W.nsIn K mainGlobals "NoText" = some (some (.ref e_NoText))) (x_NoText : PySem.W.excIn K e_NoText [.type "ValueError", .type "Exception", .type "BaseException", .type "object"] "ValueError.__new__" = true) (k_NoText : PySem.W.keepIn K (.ref e_NoText) = true) (s_NoText : PySem.W.subIn K (.ref e_NoText) (.type "BaseException") = some true) (t_NoText : PySem.W.typeIn K (.ref e_NoText) = some (.type "type")) :
    ∃ fd : FuncData, (∀ (s : Shared) (v : Value), BindsTo s fd ⟨[v], []⟩ [("script", v)]) ∧ ∀ base : Heap, K.In base → base.Ns mainGlobals mg → FnOk l.prog w K mg base (L2.CX l.prog w) 10 fa fd ["script"] (spF ⟨K, mg, l.prog, w⟩ 1 false m_law) := by
  have e := hfa.symm.trans (PySem.W.mg_of X G a24)
  cases e
  have u5 := fun_mk (st := topS 5) l5 c5 k5
  have b5 := u5.binds (ps := ["thing", "low", "high"]) fun _ _ _ _ _ _ us hl => match us, hl with | [_, _, _], _ => rfl
  have u6 := fun_mk (st := topS 6) l6 c6 k6
  have b6 := u6.binds (ps := ["many", "thing"]) fun _ _ _ _ _ _ us hl => match us, hl with | [_, _], _ => rfl
  have u7 := fun_mk (st := topS 7) l7 c7 k7
  have b7 := u7.binds (ps := ["many", "roads"]) fun _ _ _ _ _ _ us hl => match us, hl with | [_, _], _ => rfl
  have u8 := fun_mk (st := topS 8) l8 c8 k8
  have b8 := u8.binds (ps := ["thing"]) fun _ _ _ _ _ _ us hl => match us, hl with | [_], _ => rfl
  have u12 := fun_mk (st := topS 12) l12 c12 k12
  have b12 := u12.binds (ps := ["web"]) fun _ _ _ _ _ _ us hl => match us, hl with | [_], _ => rfl
  have u13 := fun_mk (st := topS 13) l13 c13 k13
  have b13 := u13.binds (ps := ["word"]) fun _ _ _ _ _ _ us hl => match us, hl with | [_], _ => rfl
  have u14 := fun_mk (st := topS 14) l14 c14 k14
  have b14 := u14.binds (ps := ["word", "mark"]) fun _ _ _ _ _ _ us hl => match us, hl with | [_, _], _ => rfl
  have u15 := fun_mk (st := topS 15) l15 c15 k15
  have b15 := u15.binds (ps := ["text"]) fun _ _ _ _ _ _ us hl => match us, hl with | [_], _ => rfl
  have u17 := fun_mk (st := topS 17) l17 c17 k17
  have b17 := u17.binds (ps := ["cell", "at"]) fun _ _ _ _ _ _ us hl => match us, hl with | [_, _], _ => rfl
  have u18 := fun_mk (st := topS 18) l18 c18 k18
  have b18 := u18.binds (ps := ["script"]) fun _ _ _ _ _ _ us hl => match us, hl with | [_], _ => rfl
  have u19 := fun_mk (st := topS 19) l19 c19 k19
  have b19 := u19.binds (ps := ["pot", "many"]) fun _ _ _ _ _ _ us hl => match us, hl with | [_, _], _ => rfl
  have u20 := fun_mk (st := topS 20) l20 c20 k20
  have b20 := u20.binds (ps := ["found", "due"]) fun _ _ _ _ _ _ us hl => match us, hl with | [_, _], _ => rfl
  have u21 := fun_mk (st := topS 21) l21 c21 k21
  have b21 := u21.binds (ps := ["pot", "many"]) fun _ _ _ _ _ _ us hl => match us, hl with | [_, _], _ => rfl
  have u22 := fun_mk (st := topS 22) l22 c22 k22
  have b22 := u22.binds (ps := ["pot", "most"]) fun _ _ _ _ _ _ us hl => match us, hl with | [_, _], _ => rfl
  have u23 := fun_mk (st := topS 23) l23 c23 k23
  have b23 := u23.binds (ps := ["web"]) fun _ _ _ _ _ _ us hl => match us, hl with | [_], _ => rfl
  have u24 := fun_mk (st := topS 24) l24 c24 k24
  have b24 := u24.binds (ps := ["script"]) fun _ _ _ _ _ _ us hl => match us, hl with | [_], _ => rfl
  refine ⟨PySem.W.fnOf "law" "law" (defArgs (topS 24)) (defBody (topS 24)) (defScope (topS 24)) .none kV24 dc24 pm24 an24 cd24 ct24, fun s v => .of_eq rfl, fun base _ _ => ok_law (P := l.prog) (w := w) (base := base) (⟨f5, _, u5, PySem.W.mg_of X G a5, b5, f6, _, u6, PySem.W.mg_of X G a6, b6, f7, _, u7, PySem.W.mg_of X G a7, b7, f8, _, u8, PySem.W.mg_of X G a8, b8, f12, _, u12, PySem.W.mg_of X G a12, b12, f13, _, u13, PySem.W.mg_of X G a13, b13, f14, _, u14, PySem.W.mg_of X G a14, b14, f15, _, u15, PySem.W.mg_of X G a15, b15, f17, _, u17, PySem.W.mg_of X G a17, b17, f18, _, u18, PySem.W.mg_of X G a18, b18, f19, _, u19, PySem.W.mg_of X G a19, b19, f20, _, u20, PySem.W.mg_of X G a20, b20, f21, _, u21, PySem.W.mg_of X G a21, b21, f22, _, u22, PySem.W.mg_of X G a22, b22, f23, _, u23, PySem.W.mg_of X G a23, b23, fa, _, u24, PySem.W.mg_of X G a24, b24, PySem.W.mg_none_of X G z_all, PySem.W.mg_none_of X G z_bool, PySem.W.mg_none_of X G z_enumerate, PySem.W.mg_none_of X G z_int, PySem.W.mg_none_of X G z_isinstance, PySem.W.mg_none_of X G z_len, PySem.W.mg_none_of X G z_list, PySem.W.mg_none_of X G z_max, PySem.W.mg_none_of X G z_min, PySem.W.mg_none_of X G z_range, PySem.W.mg_none_of X G z_sorted, PySem.W.mg_none_of X G z_str, PySem.W.mg_none_of X G z_tuple, PySem.W.mg_none_of X G z_zip, tk_FIGURES, PySem.W.mg_of X G c_FIGURES, tk_MOST_FIGURES, PySem.W.mg_of X G c_MOST_FIGURES, tk_MOST_HOUSES, PySem.W.mg_of X G c_MOST_HOUSES, e_NoText, PySem.W.mg_of X G g_NoText, x_NoText, k_NoText, s_NoText, t_NoText⟩ : Tx K mg)⟩
end K71


open PySem PySem.W PyProof.Rows in
set_option maxRecDepth 100000 in
set_option maxHeartbeats 0 in
theorem PySem.Challenge.cw_roofpost_k71_webs_written_holds : PySem.Challenge.rw_roofpost_k71_webs_written.Holds := by
  w_on; o_law; k_head; (case hw => w_witness2)
  k_fill
  refine Sm.walk_law (l := PySem.Challenge.rw_roofpost_k71_webs_written) (L := 10) (g := K71.m_law) rfl rfl ⟨rfl, by decide, by decide⟩ (fun w h Y => PySem.W.kIn_of Y) ?F K71.law_true
  case F =>
    intro w mg fa h KX G hmg
    refine' K71.all_mk (l := PySem.Challenge.rw_roofpost_k71_webs_written) (w := w) KX G hmg ?a5 ?l5 ?c5 ?k5 ?a6 ?l6 ?c6 ?k6 ?a7 ?l7 ?c7 ?k7 ?a8 ?l8 ?c8 ?k8 ?a12 ?l12 ?c12 ?k12 ?a13 ?l13 ?c13 ?k13 ?a14 ?l14 ?c14 ?k14 ?a15 ?l15 ?c15 ?k15 ?a17 ?l17 ?c17 ?k17 ?a18 ?l18 ?c18 ?k18 ?a19 ?l19 ?c19 ?k19 ?a20 ?l20 ?c20 ?k20 ?a21 ?l21 ?c21 ?k21 ?a22 ?l22 ?c22 ?k22 ?a23 ?l23 ?c23 ?k23 ?a24 ?l24 ?c24 ?k24 ?z_all ?z_bool ?z_enumerate ?z_int ?z_isinstance ?z_len ?z_list ?z_max ?z_min ?z_range ?z_sorted ?z_str ?z_tuple ?z_zip ?c_FIGURES ?c_MOST_FIGURES ?c_MOST_HOUSES ?g_NoText ?x_NoText ?k_NoText ?s_NoText ?t_NoText
    (case a5 => k_is)
    (case l5 => k_is)
    (case c5 => k_is)
    (case k5 => k_is)
    (case a6 => k_is)
    (case l6 => k_is)
    (case c6 => k_is)
    (case k6 => k_is)
    (case a7 => k_is)
    (case l7 => k_is)
    (case c7 => k_is)
    (case k7 => k_is)
    (case a8 => k_is)
    (case l8 => k_is)
    (case c8 => k_is)
    (case k8 => k_is)
    (case a12 => k_is)
    (case l12 => k_is)
    (case c12 => k_is)
    (case k12 => k_is)
    (case a13 => k_is)
    (case l13 => k_is)
    (case c13 => k_is)
    (case k13 => k_is)
    (case a14 => k_is)
    (case l14 => k_is)
    (case c14 => k_is)
    (case k14 => k_is)
    (case a15 => k_is)
    (case l15 => k_is)
    (case c15 => k_is)
    (case k15 => k_is)
    (case a17 => k_is)
    (case l17 => k_is)
    (case c17 => k_is)
    (case k17 => k_is)
    (case a18 => k_is)
    (case l18 => k_is)
    (case c18 => k_is)
    (case k18 => k_is)
    (case a19 => k_is)
    (case l19 => k_is)
    (case c19 => k_is)
    (case k19 => k_is)
    (case a20 => k_is)
    (case l20 => k_is)
    (case c20 => k_is)
    (case k20 => k_is)
    (case a21 => k_is)
    (case l21 => k_is)
    (case c21 => k_is)
    (case k21 => k_is)
    (case a22 => k_is)
    (case l22 => k_is)
    (case c22 => k_is)
    (case k22 => k_is)
    (case a23 => k_is)
    (case l23 => k_is)
    (case c23 => k_is)
    (case k23 => k_is)
    (case a24 => k_is)
    (case l24 => k_is)
    (case c24 => k_is)
    (case k24 => k_is)
    (case z_all => k_is)
    (case z_bool => k_is)
    (case z_enumerate => k_is)
    (case z_int => k_is)
    (case z_isinstance => k_is)
    (case z_len => k_is)
    (case z_list => k_is)
    (case z_max => k_is)
    (case z_min => k_is)
    (case z_range => k_is)
    (case z_sorted => k_is)
    (case z_str => k_is)
    (case z_tuple => k_is)
    (case z_zip => k_is)
    (case c_FIGURES => k_is)
    (case c_MOST_FIGURES => k_is)
    (case c_MOST_HOUSES => k_is)
    (case g_NoText => k_is)
    (case x_NoText => k_exc)
    (case k_NoText => k_is)
    (case s_NoText => k_is)
    (case t_NoText => k_is)
