import PyProof.Rows.All
import Wide.All
import OpenK.AllK
import Wide.FinOn
import HandS.ForMost
import HandS.Exc
import HandS.TryOnly
import HandS.ExcOwn
import HandS.WordsExc
import HandS.Deep
import HandS.Wide
import KE.KeyNested
import KE.KDictKeyed
import HandS.TupAny
import KE.LtData
import HandS.TupLe
import HandS.Zip
import HandS.Iter
import HandS.IsInst
import KE.SortData
import HandS.Style
import KE.DataMinMax
import HandS.Conv
import KE.DataCmp
import PyProof.ReprRoads
import PyProof.ReprText
import PyProof.FitsInt
import HandS.TupMul
import HandS.SortInts
import HandS.More
import KE.KDictWalk
import HandS.Text
import HandS.FStr
import KE.KTryMore
import HandS.ExcIs
import HandS.ExcValue
import HandS.ExcField
import KE.KExcIs
import HandS.SetFor
import KE.GoesEnum
import KE.GoesMore
import KE.SortCalls
import HandS.ExcInit
import PyProof.EqAt
import PyProof.StrBlock2
import HandS.TupSets
import KE.IntTextLaws
import HandS.Sort
import KE.DataFind
import KE.KEqDict
import HandS.TupLen
import HandS.Strs
import PySem.Challenge.RW_roofpost_k14_the_fewest_told
set_option Elab.async false
set_option linter.all false
set_option maxRecDepth 100000
set_option maxHeartbeats 4000000
namespace Sm
open PySem L2

inductive D where
  | non | bl (b : Bool) | int (i : Int) | str (x : Str) | tup (xs : List D) | lst (xs : List D) | dct (ks vs : List D) | ref (n : Nat) | exc (c : Str) (f : Option Int) | frg (xs : List D)
inductive SO where
  | lst (xs : List D) | dct (ks vs : List D) | ins (c : Str) (ns : List Str) (xs : List D) | lk (ks vs : List D) | gone
abbrev Sto := List SO
abbrev Env := Nat → Option (Bool × D)
def Env.set (r : Env) (i : Nat) (x : Option (Bool × D)) : Env := fun j => if j = i then x else r j
theorem Env.set_same (r : Env) (i : Nat) (x : Option (Bool × D)) : r.set i x i = x := if_pos rfl
theorem Env.set_ne {r : Env} {i j : Nat} {x : Option (Bool × D)} (h : j ≠ i) : r.set i x j = r j := if_neg h
inductive Rs where
  | ok (d : D) (st : Sto) | err (c : Str) (a : Option (Str × D)) (st : Sto) | bad
def Rs.bind (r : Rs) (k : D → Sto → Rs) : Rs :=
  match r with
  | .ok d st => k d st
  | .err c a st => .err c a st
  | .bad => .bad
inductive Rt where
  | nx (r : Env) (st : Sto) | rt (d : D) (st : Sto) | bk (r : Env) (st : Sto) | ct (r : Env) (st : Sto) | err (c : Str) (a : Option (Str × D)) (r : Env) (st : Sto) | bad
abbrev Ev := Env → Sto → Rs
abbrev Sv := Env → Sto → Rt
abbrev Fn := List D → Sto → Rs

structure Wd where
  H : Hp
  M : Addr → Prop
  u : List Addr

def KL (K : PySem.W.Frag) (a : Addr) (xs : List V) : Prop :=
  ∃ (o : Obj) (its : Array Value) (n : Nat), K.lookup a = some o ∧ o.cls = .type "list" ∧ o.dict = none ∧ o.data = .seq its n ∧ its.size ≤ sizeLine ∧ Vals xs its.toList
def KT (K : PySem.W.Frag) (a : Addr) (xs : List V) : Prop :=
  ∃ (o : Obj) (its : Array Value) (n : Nat), K.lookup a = some o ∧ o.cls = .type "tuple" ∧ o.data = .seq its n ∧ its.size ≤ sizeLine ∧ Vals xs its.toList
def Im (w : Wd) (a : Addr) (o : HO) : Prop := w.H a = some o ∧ ¬ w.M a
def FrI (K : PySem.W.Frag) (w : Wd) (a : Addr) (xs : List V) : Prop := (∃ o, Im w a (.frz o (.lst xs))) ∨ KL K a xs
def TpI (K : PySem.W.Frag) (w : Wd) (a : Addr) (xs : List V) : Prop := Im w a (.tup xs) ∨ (∃ o, Im w a (.frz o (.tup xs))) ∨ KT K a xs
theorem Im.sq {K : PySem.W.Frag} {w : Wd} {a : Addr} {xs : List V} (h : Im w a (.lst xs)) : SqL K w.H a xs := .inl (.inl h.1)
theorem FrI.sq {K : PySem.W.Frag} {w : Wd} {a : Addr} {xs : List V} (h : FrI K w a xs) : SqL K w.H a xs := by
  rcases h with ⟨o, h⟩ | h
  · exact .inl (.inr ⟨o, h.1⟩)
  · exact .inr h
theorem TpI.sq {K : PySem.W.Frag} {w : Wd} {a : Addr} {xs : List V} (h : TpI K w a xs) : SqT K w.H a xs := by
  rcases h with h | ⟨o, h⟩ | h
  · exact .inl (.inl h.1)
  · exact .inl (.inr ⟨o, h.1⟩)
  · exact .inr h

def ExF (cls : Value) (d : Option Addr) (a : Addr) : Heap → Prop := fun h => ∃ (oe : Obj) (vs : Array Value), h.get? a = some oe ∧ Zc cls d oe ∧ oe.data = .fields vs
def ExI (w : Wd) (cls : Value) (f : Option Int) (a : Addr) : Prop := ∃ (φ : Heap → Prop) (d : Option Addr), Im w a (.ext φ) ∧ (∀ h, φ h → ExF cls d a h) ∧ match f with
  | none => d = none
  | some n => ∃ x, d = some x ∧ Im w x (.xd [("number", .int n)])
structure Cfg where
  K : PySem.W.Frag
  mg : Str → Option Value
  P : Program
  w : World

def kD : Key → D
  | .inl i => .int i
  | .inr x => .str x
mutual
def NK (F : PySem.W.Frag) (w : Wd) : NestedKey → V → Prop
  | .none, v => v = .non
  | .num i, v => v = .int i
  | .text x, v => v = .str x
  | .tup ks, v => ∃ a vs, v = .ref a ∧ TpI F w a vs ∧ NKs F w ks vs
def NKs (F : PySem.W.Frag) (w : Wd) : List NestedKey → List V → Prop
  | [], vs => vs = []
  | k :: ks, vs => ∃ v r, vs = v :: r ∧ NK F w k v ∧ NKs F w ks r
end
mutual
def nkD : NestedKey → D
  | .none => .non
  | .num i => .int i
  | .text x => .str x
  | .tup ks => .tup (nkDs ks)
def nkDs : List NestedKey → List D
  | [] => []
  | k :: ks => nkD k :: nkDs ks
end
def ND0 (P : Program) (W : World) (a : Addr) (xs : List (NestedKey × Addr × Value)) : Heap → Prop := fun h => xs.length ≤ sizeLine ∧ (a == sysModules) = false ∧
  ∃ o es ep, h.get? a = some o ∧ o.ExactDict ∧ o.data = .dict es ep ∧ es.toList = xs.map (entryOfKey (nestedKind P W)) ∧ (xs.map (·.1)).Nodup
def NDO (P : Program) (W : World) (a : Addr) (xs : List (NestedKey × Addr × Value)) : HO := .ext (ND0 P W a xs)
def DcO (G : Cfg) (w : Wd) (a : Addr) (ks : List D) (vs : List V) (o : HO) : Prop := (∃ kvs : List (Key × V), o = .dK kvs ∧ ks = kvs.map (fun p => kD p.1) ∧ vs = kvs.map (·.2)) ∨
  (∃ xs : List (NestedKey × Addr × Value), o = NDO G.P G.w a xs ∧ ks = .non :: xs.map (fun x => nkD x.1) ∧ Vals vs (xs.map (·.2.2)) ∧ ∀ x ∈ xs, NK G.K w x.1 (.ref x.2.1) ∧ x.1.depth ≤ 8)
theorem DcO.mut {G : Cfg} {w : Wd} {a : Addr} {ks : List D} {vs : List V} {o : HO} (h : DcO G w a ks vs o) : Mut (some o) := by
  rcases h with ⟨_, rfl, _⟩ | ⟨_, rfl, _⟩ <;> exact True.intro
def DcI (G : Cfg) (w : Wd) (a : Addr) (ks : List D) (vs : List V) : Prop := ∃ o ob, Im w a (.frz ob o) ∧ DcO G w a ks vs o
mutual
def RD (G : Cfg) (w : Wd) : D → V → Prop
  | .non, v => v = .non
  | .bl b, v => v = .bl b
  | .int i, v => v = .int i
  | .str x, v => v = .str x
  | .tup ds, v => ∃ a vs, v = .ref a ∧ TpI G.K w a vs ∧ RDs G w ds vs
  | .lst ds, v => ∃ a vs, v = .ref a ∧ Im w a (.lst vs) ∧ RDs G w ds vs
  | .dct ks ds, v => ∃ a vs, v = .ref a ∧ (DcI G w a ks vs ∧ a ∉ w.u) ∧ RDs G w ds vs
  | .ref n, v => ∃ a, v = .ref a ∧ w.u[n]? = some a
  | .exc c f, v => ∃ a C, v = .ref a ∧ G.mg c = some (.ref C) ∧ ExI w (.ref C) f a
  | .frg ds, v => ∃ a vs, v = .ref a ∧ FrI G.K w a vs ∧ RDs G w ds vs
def RDs (G : Cfg) (w : Wd) : List D → List V → Prop
  | [], vs => vs = []
  | d :: ds, vs => ∃ v r, vs = v :: r ∧ RD G w d v ∧ RDs G w ds r
end

structure WF (w : Wd) : Prop where
  mh : ∀ a, w.M a → w.H a ≠ none
  um : ∀ a, a ∈ w.u → w.M a ∨ ∃ ob o, w.H a = some (.frz ob o)
  nd : w.u.Nodup
theorem WF.un {w : Wd} (f : WF w) {a : Addr} (h : a ∈ w.u) : w.H a ≠ none := by
  rcases f.um a h with m | ⟨_, _, e⟩
  · exact f.mh a m
  · rw [e]; simp
theorem WF.mm {w : Wd} (f : WF w) {a : Addr} {o : HO} (h : a ∈ w.u) (e : w.H a = some o) (n : ∀ ob u, o ≠ .frz ob u) : w.M a := by
  rcases f.um a h with m | ⟨ob, u, e2⟩
  · exact m
  · rw [e] at e2
    cases e2
    exact absurd rfl (n ob u)
structure Ext (w w' : Wd) : Prop where
  hk : ∀ a, w.H a ≠ none → (a ∉ w.u ∨ ¬ w.M a) → w'.H a = w.H a
  mt : ∀ a, w.M a → w'.M a
  mn : ∀ a, w.H a ≠ none → ¬ w.M a → ¬ w'.M a
  mu : ∃ r, w'.u = w.u ++ r ∧ ∀ a ∈ r, w.H a = none
  hh : ∀ a, w.H a ≠ none → w'.H a ≠ none
theorem Ext.refl (w : Wd) : Ext w w := ⟨fun _ _ _ => rfl, fun _ h => h, fun _ _ h => h, ⟨[], by simp, fun _ h => nomatch h⟩, fun _ h => h⟩
theorem Ext.trans {a b c : Wd} (x : Ext a b) (y : Ext b c) : Ext a c := by
  obtain ⟨r, er, fr⟩ := x.mu
  obtain ⟨q, eq, fq⟩ := y.mu
  have nb : ∀ z, a.H z ≠ none → z ∉ a.u → z ∉ b.u := fun z h n m => by
    rw [er] at m
    rcases List.mem_append.mp m with m | m
    · exact n m
    · exact h (fr z m)
  refine ⟨fun z h n => ?_, fun z h => y.mt z (x.mt z h), fun z h n => y.mn z (x.hh z h) (x.mn z h n), ⟨r ++ q, by rw [eq, er, List.append_assoc], fun z hz => ?_⟩, fun z h => y.hh z (x.hh z h)⟩
  · rw [y.hk z (x.hh z h) (n.imp (nb z h) (x.mn z h)), x.hk z h n]
  · rcases List.mem_append.mp hz with hz | hz
    · exact fr z hz
    · cases e : a.H z with
      | none => rfl
      | some o => exact absurd (fq z hz) (x.hh z (by rw [e]; simp))
theorem Im.ext {w w' : Wd} {a : Addr} {o : HO} (f : WF w) (x : Ext w w') (h : Im w a o) : Im w' a o := by
  have hn : w.H a ≠ none := by rw [h.1]; simp
  exact ⟨by rw [x.hk a hn (.inr h.2)]; exact h.1, x.mn a hn h.2⟩
theorem TpI.ext {K : PySem.W.Frag} {w w' : Wd} {a : Addr} {xs : List V} (f : WF w) (x : Ext w w') (h : TpI K w a xs) : TpI K w' a xs := by
  rcases h with h | ⟨o, h⟩ | h
  · exact .inl (h.ext f x)
  · exact .inr (.inl ⟨o, h.ext f x⟩)
  · exact .inr (.inr h)

structure Wk (w w' : Wd) : Prop where
  im : ∀ a o, Im w a o → Im w' a o
  mu : ∃ r, w'.u = w.u ++ r ∧ ∀ a ∈ r, ∀ o, ¬ Im w a o
theorem Ext.wk {w w' : Wd} (f : WF w) (x : Ext w w') : Wk w w' := ⟨fun _ _ h => h.ext f x, let ⟨r, e, fr⟩ := x.mu; ⟨r, e, fun a h o i => by have e1 := i.1; rw [fr a h] at e1; cases e1⟩⟩
theorem Wk.refl (w : Wd) : Wk w w := ⟨fun _ _ h => h, [], by simp, fun _ h => nomatch h⟩
theorem Wk.trans {a b c : Wd} (x : Wk a b) (y : Wk b c) : Wk a c := ⟨fun z o h => y.im z o (x.im z o h), by
  obtain ⟨r, er, fr⟩ := x.mu
  obtain ⟨q, eq, fq⟩ := y.mu
  refine ⟨r ++ q, by rw [eq, er, List.append_assoc], fun z hz o i => ?_⟩
  rcases List.mem_append.mp hz with hz | hz
  · exact fr z hz o i
  · exact fq z hz o (x.im z o i)⟩
theorem Wk.get {w w' : Wd} (x : Wk w w') {n : Nat} {a : Addr} (h : w.u[n]? = some a) : w'.u[n]? = some a := by
  obtain ⟨r, e, _⟩ := x.mu
  rw [e, List.getElem?_append_left (List.getElem?_eq_some_iff.mp h).1]
  exact h
theorem Wk.out {w w' : Wd} (x : Wk w w') {a : Addr} {o : HO} (i : Im w a o) (n : a ∉ w.u) : a ∉ w'.u := by
  obtain ⟨r, e, f⟩ := x.mu
  rw [e]
  intro m
  rcases List.mem_append.mp m with m | m
  · exact n m
  · exact f a m o i
theorem Wk.fr {K : PySem.W.Frag} {w w' : Wd} {a : Addr} {xs : List V} (x : Wk w w') (h : FrI K w a xs) : FrI K w' a xs := by
  rcases h with ⟨o, h⟩ | h
  · exact .inl ⟨o, x.im _ _ h⟩
  · exact .inr h
theorem Wk.tp {K : PySem.W.Frag} {w w' : Wd} {a : Addr} {xs : List V} (x : Wk w w') (h : TpI K w a xs) : TpI K w' a xs := by
  rcases h with h | ⟨o, h⟩ | h
  · exact .inl (x.im _ _ h)
  · exact .inr (.inl ⟨o, x.im _ _ h⟩)
  · exact .inr (.inr h)
mutual
theorem NK.wk {F : PySem.W.Frag} {w w' : Wd} (x : Wk w w') : ∀ (k : NestedKey) (v : V), NK F w k v → NK F w' k v
  | .none, v, h => by unfold NK at *; exact h
  | .num i, v, h => by unfold NK at *; exact h
  | .text y, v, h => by unfold NK at *; exact h
  | .tup ks, v, h => by
    unfold NK at *
    obtain ⟨a, vs, e, t, r⟩ := h
    exact ⟨a, vs, e, x.tp t, NKs.wk x ks vs r⟩
theorem NKs.wk {F : PySem.W.Frag} {w w' : Wd} (x : Wk w w') : ∀ (ks : List NestedKey) (vs : List V), NKs F w ks vs → NKs F w' ks vs
  | [], vs, h => by unfold NKs at *; exact h
  | k :: ks, vs, h => by
    unfold NKs at *
    obtain ⟨v, r, e, h1, h2⟩ := h
    exact ⟨v, r, e, NK.wk x k v h1, NKs.wk x ks r h2⟩
end
theorem DcO.wk {G : Cfg} {w w' : Wd} (x : Wk w w') {a : Addr} {ks : List D} {vs : List V} {o : HO} (h : DcO G w a ks vs o) : DcO G w' a ks vs o := by
  rcases h with h | ⟨xs, e1, e2, e3, e4⟩
  · exact .inl h
  · exact .inr ⟨xs, e1, e2, e3, fun y hy => ⟨NK.wk x _ _ (e4 y hy).1, (e4 y hy).2⟩⟩
mutual
theorem RD.wk {G : Cfg} {w w' : Wd} (x : Wk w w') : ∀ (d : D) (v : V), RD G w d v → RD G w' d v
  | .non, v, h => by unfold RD at *; exact h
  | .bl b, v, h => by unfold RD at *; exact h
  | .int i, v, h => by unfold RD at *; exact h
  | .str s, v, h => by unfold RD at *; exact h
  | .tup ds, v, h => by
    unfold RD at *
    obtain ⟨a, vs, e, t, r⟩ := h
    exact ⟨a, vs, e, x.tp t, RDs.wk x ds vs r⟩
  | .lst ds, v, h => by
    unfold RD at *
    obtain ⟨a, vs, e, t, r⟩ := h
    exact ⟨a, vs, e, x.im _ _ t, RDs.wk x ds vs r⟩
  | .dct ks ds, v, h => by
    unfold RD at *
    obtain ⟨a, vs, e, ⟨⟨o, ob, t, q⟩, nu⟩, r2⟩ := h
    exact ⟨a, vs, e, ⟨⟨o, ob, x.im _ _ t, q.wk x⟩, x.out t nu⟩, RDs.wk x ds vs r2⟩
  | .ref n, v, h => by
    unfold RD at *
    obtain ⟨a, e, t⟩ := h
    exact ⟨a, e, x.get t⟩
  | .exc c f, v, h => by
    unfold RD at *
    obtain ⟨a, C, e, g, φ, d, i, p, q⟩ := h
    refine ⟨a, C, e, g, φ, d, x.im _ _ i, p, ?_⟩
    cases f with
    | none => exact q
    | some n => obtain ⟨z, e1, e2⟩ := q; exact ⟨z, e1, x.im _ _ e2⟩
  | .frg ds, v, h => by
    unfold RD at *
    obtain ⟨a, vs, e, t, r⟩ := h
    exact ⟨a, vs, e, x.fr t, RDs.wk x ds vs r⟩
theorem RDs.wk {G : Cfg} {w w' : Wd} (x : Wk w w') : ∀ (ds : List D) (vs : List V), RDs G w ds vs → RDs G w' ds vs
  | [], vs, h => by unfold RDs at *; exact h
  | d :: ds, vs, h => by
    unfold RDs at *
    obtain ⟨v, r, e, h1, h2⟩ := h
    exact ⟨v, r, e, RD.wk x d v h1, RDs.wk x ds r h2⟩
end
def RC (G : Cfg) (w : Wd) (a : Addr) : D → Prop
  | .lst ds => ∃ vs, w.H a = some (.lst vs) ∧ RDs G w ds vs
  | .dct ks ds => ∃ o vs, w.H a = some o ∧ DcO G w a ks vs o ∧ RDs G w ds vs
  | _ => False
def RSO (G : Cfg) (w : Wd) (a : Addr) : SO → Prop
  | .lst ds => RC G w a (.lst ds)
  | .dct ks ds => RC G w a (.dct ks ds)
  | .ins c ns xs => ∃ C dx fv, w.H a = some (.ins C dx fv) ∧ G.mg c = some (.ref C) ∧ fv.map (·.1) = ns ∧ RDs G w xs (fv.map (·.2))
  | .lk ks ds => ∃ vs, DcI G w a ks vs ∧ RDs G w ds vs
  | .gone => True
theorem RC.wk {G : Cfg} {w w' : Wd} (x : Wk w w') {a : Addr} (e : w'.H a = w.H a) : ∀ {d : D}, RC G w a d → RC G w' a d := fun {d} h => by
  cases d with
  | lst ds =>
    obtain ⟨vs, e1, r⟩ := h
    exact ⟨vs, e.trans e1, RDs.wk x _ _ r⟩
  | dct ks ds =>
    obtain ⟨o, vs, t, q, r2⟩ := h
    exact ⟨o, vs, e.trans t, q.wk x, RDs.wk x ds vs r2⟩
  | _ => exact (show False from h).elim
theorem RSO.wk {G : Cfg} {w w' : Wd} (x : Wk w w') {a : Addr} (e : w'.H a = w.H a) : ∀ {o : SO}, RSO G w a o → RSO G w' a o := fun {o} h => by
  cases o with
  | lst ds => exact RC.wk (d := .lst ds) x e h
  | dct ks ds => exact RC.wk (d := .dct ks ds) x e h
  | ins c ns xs =>
    obtain ⟨C, dx, fv, e1, g, en, r⟩ := h
    exact ⟨C, dx, fv, e.trans e1, g, en, RDs.wk x _ _ r⟩
  | lk ks ds =>
    obtain ⟨vs, ⟨o, ob, t, q⟩, r⟩ := h
    exact ⟨vs, ⟨o, ob, x.im _ _ t, q.wk x⟩, RDs.wk x ds vs r⟩
  | gone => exact True.intro
structure RSt (G : Cfg) (w : Wd) (st : Sto) : Prop where
  len : st.length = w.u.length
  at_ : ∀ (n : Nat) (o : SO) (a : Addr), st[n]? = some o → w.u[n]? = some a → RSO G w a o
end Sm

namespace Sm
open PySem L2

def RE (G : Cfg) (w : Wd) (o : Option Addr) (x : Option (Bool × D)) (y : Option (Option V)) : Prop :=
  match x with
  | none => o = none
  | some (false, d) => o = none ∧ ∃ v, y = some (some v) ∧ RD G w d v
  | some (true, d) => ∃ a, o = some a ∧ y = some (some (.ref a)) ∧ RC G w a d
structure Bs extends Wd where
  L : Nat
structure Rel (G : Cfg) (B : Bs) (O : Nat → Option Addr) (r : Env) (st : Sto) (s : L2.St) (w : Wd) : Prop where
  wf : WF w
  wb : WF B.toWd
  base : Ext B.toWd w
  ln : s.length = B.L
  sto : RSt G w st
  own : ∀ i a, O i = some a → w.M a ∧ a ∉ w.u ∧ B.H a = none
  inj : ∀ i j a, O i = some a → O j = some a → i = j
  env : ∀ i, RE G w (O i) (r i) (s[i]?)

theorem RSt.keep {G : Cfg} {w w' : Wd} {st : Sto} (h : RSt G w st) (x : Wk w w') (e : w'.u = w.u) (k : ∀ a ∈ w.u, w'.H a = w.H a) : RSt G w' st :=
  ⟨by rw [e]; exact h.len, fun n o a h1 h2 => by
    rw [e] at h2
    exact RSO.wk x (k a (List.mem_of_getElem? h2)) (h.at_ n o a h1 h2)⟩
theorem RE.wk {G : Cfg} {w w' : Wd} {o : Option Addr} {x : Option (Bool × D)} {y : Option (Option V)} (k : Wk w w') (e : ∀ a, o = some a → w'.H a = w.H a) (h : RE G w o x y) : RE G w' o x y := by
  match x, h with
  | none, h => exact h
  | some (false, d), ⟨h1, v, h2, h3⟩ => exact ⟨h1, v, h2, h3.wk k⟩
  | some (true, d), ⟨a, h1, h2, h3⟩ => exact ⟨a, h1, h2, h3.wk k (e a h1)⟩
theorem Rel.keep {G : Cfg} {B : Bs} {O : Nat → Option Addr} {r : Env} {st : Sto} {s : L2.St} {w w' : Wd} (h : Rel G B O r st s w) (f : WF w') (x : Ext w w') (e : w'.u = w.u) (k : ∀ a ∈ w.u, w'.H a = w.H a) : Rel G B O r st s w' :=
  ⟨f, h.wb, h.base.trans x, h.ln, h.sto.keep (x.wk h.wf) e k, fun i a q => ⟨x.mt a (h.own i a q).1, by rw [e]; exact (h.own i a q).2.1, (h.own i a q).2.2⟩, h.inj,
    fun i => (h.env i).wk (x.wk h.wf) fun a q => x.hk a (h.wf.mh a (h.own i a q).1) (.inl (h.own i a q).2.1)⟩

def Wd.add (w : Wd) (p : Addr) (o : HO) (b : Bool) : Wd := ⟨upd w.H p o, fun a => w.M a ∨ (b = true ∧ a = p), w.u⟩
theorem Wd.add_wf {w : Wd} {p : Addr} {o : HO} {b : Bool} (f : WF w) (h : w.H p = none) : WF (w.add p o b) := by
  refine ⟨fun a m => ?_, fun a m => (f.um a m).imp .inl fun ⟨ob, u, e⟩ => ⟨ob, u, (upd_ne (fun z => by rw [z, h] at e; cases e)).trans e⟩, f.nd⟩
  show upd w.H p o a ≠ none
  by_cases e : a = p
  · subst e; rw [upd_same]; simp
  · rw [upd_ne e]
    rcases m with m | ⟨_, m⟩
    · exact f.mh a m
    · exact absurd m e
theorem Wd.add_ext {w : Wd} {p : Addr} {o : HO} {b : Bool} (h : w.H p = none) : Ext w (w.add p o b) := by
  have ne : ∀ a, w.H a ≠ none → a ≠ p := fun a n e => n (by rw [e]; exact h)
  refine ⟨fun a n _ => upd_ne (ne a n), fun a m => .inl m, fun a n m z => ?_, ⟨[], by simp [Wd.add], fun _ z => nomatch z⟩, fun a n => ?_⟩
  · rcases z with z | ⟨_, z⟩
    · exact m z
    · exact ne a n z
  · show upd w.H p o a ≠ none
    rw [upd_ne (ne a n)]; exact n
theorem Rel.add {G : Cfg} {B : Bs} {O : Nat → Option Addr} {r : Env} {st : Sto} {s : L2.St} {w : Wd} {p : Addr} {o : HO} {b : Bool} (h : Rel G B O r st s w) (hp : w.H p = none) : Rel G B O r st s (w.add p o b) :=
  h.keep (Wd.add_wf h.wf hp) (Wd.add_ext hp) rfl fun a m => upd_ne (fun e => h.wf.un m (by rw [e]; exact hp))
theorem Wd.add_im {w : Wd} {p : Addr} {o : HO} (f : WF w) (hp : w.H p = none) : Im (w.add p o false) p o := by
  refine ⟨upd_same, fun z => ?_⟩
  rcases z with z | ⟨z, _⟩
  · exact f.mh p z hp
  · cases z

inductive Kd where
  | sh | fr | bo
def RR (G : Cfg) (k : Kd) (O : Nat → Option Addr) (w0 w : Wd) (d : D) (v : V) : Prop :=
  match k with
  | .sh => RD G w d v
  | .fr => ∃ a, v = .ref a ∧ w0.H a = none ∧ w.M a ∧ a ∉ w.u ∧ RC G w a d
  | .bo => RD G w d v ∨ ∃ a i, v = .ref a ∧ O i = some a ∧ w.M a ∧ a ∉ w.u ∧ RC G w a d
theorem RR.ext {G : Cfg} {k : Kd} {O : Nat → Option Addr} {w0 w w' : Wd} {d : D} {v : V} (f : WF w) (x : Ext w w') (h : RR G k O w0 w d v) : RR G k O w0 w' d v := by
  have no : ∀ a, w.M a → a ∉ w.u → a ∉ w'.u := fun a m n z => by
    obtain ⟨r, e, fr⟩ := x.mu
    rw [e] at z
    rcases List.mem_append.mp z with z | z
    · exact n z
    · exact f.mh a m (fr a z)
  match k, h with
  | .sh, h => exact RD.wk (x.wk f) d v h
  | .fr, ⟨a, e, n, m, u, c⟩ => exact ⟨a, e, n, x.mt a m, no a m u, c.wk (x.wk f) (x.hk a (f.mh a m) (.inl u))⟩
  | .bo, .inl h => exact .inl (RD.wk (x.wk f) d v h)
  | .bo, .inr ⟨a, i, e, o, m, u, c⟩ => exact .inr ⟨a, i, e, o, x.mt a m, no a m u, c.wk (x.wk f) (x.hk a (f.mh a m) (.inl u))⟩
theorem RR.rebase {G : Cfg} {k : Kd} {O : Nat → Option Addr} {w0 w1 w : Wd} {d : D} {v : V} (x : Ext w0 w1) (h : RR G k O w1 w d v) : RR G k O w0 w d v := by
  match k, h with
  | .sh, h => exact h
  | .fr, ⟨a, e, n, m, u, c⟩ =>
    refine ⟨a, e, ?_, m, u, c⟩
    cases q : w0.H a with
    | none => rfl
    | some o => exact absurd n (x.hh a (by rw [q]; simp))
  | .bo, h => exact h
def RX (G : Cfg) (w : Wd) (c : Str) (a : Option (Str × D)) (cls : Value) (dd : Option Addr) : Prop :=
  ∃ C, G.mg c = some (.ref C) ∧ cls = .ref C ∧ match a with
    | none => dd = none
    | some (f, d) => ∃ x v, dd = some x ∧ Im w x (.xd [(f, v)]) ∧ RD G w d v
def post (G : Cfg) (B : Bs) (k : Kd) (Wx : WX) (O : Nat → Option Addr) (r : Env) (s : L2.St) (w0 : Wd) (x : Rs) (Q : VK) : Prop :=
  match x with
  | .ok d st' => ∀ w' v, Rel G B O r st' s w' → Ext w0 w' → RR G k O w0 w' d v → Q v w'.H
  | .err c a st' => ∀ w' cls dd, Rel G B O r st' s w' → Ext w0 w' → RX G w' c a cls dd → Wx cls dd s w'.H
  | .bad => False
def tE (G : Cfg) (B : Bs) (k : Kd) (Wx : WX) (f : Ev) : TE := fun s H Q => ∃ O r st w, w.H = H ∧ Rel G B O r st s w ∧ post G B k Wx O r s w (f r st) Q
abbrev cg (X : Cx) : Cfg := ⟨X.K, X.mg, X.prog, X.w⟩
def JE (X : Cx) (B : Bs) (k : Kd) (Wx : WX) (e : Expr) (f : Ev) : Prop := PE X e (tE (cg X) B k Wx f)
theorem pe_imp {X : Cx} {e : Expr} {t t' : TE} (h : PE X e t) (q : ∀ s H Q, t' s H Q → t s H Q) : PE X e t' := ⟨fun pins s σ H Q I h' => h.run pins s σ H Q I (q σ H Q h')⟩
theorem post.rebase {G : Cfg} {B : Bs} {k : Kd} {Wx : WX} {O : Nat → Option Addr} {r : Env} {s : L2.St} {w0 w1 : Wd} {x : Rs} {Q : VK} (e : Ext w0 w1) (h : post G B k Wx O r s w0 x Q) : post G B k Wx O r s w1 x Q := by
  match x, h with
  | .ok d st', h => exact fun w' v q e1 r1 => h w' v q (e.trans e1) (r1.rebase e)
  | .err c a st', h => exact fun w' cls dd q e1 r1 => h w' cls dd q (e.trans e1) r1
  | .bad, h => exact h.elim
theorem post.mono {G : Cfg} {B : Bs} {k : Kd} {Wx : WX} {O : Nat → Option Addr} {r : Env} {s : L2.St} {w0 : Wd} {x : Rs} {Q Q' : VK} (h : post G B k Wx O r s w0 x Q) (q : ∀ v H, Q v H → Q' v H) : post G B k Wx O r s w0 x Q' := by
  match x, h with
  | .ok d st', h => exact fun w' v q0 e1 r1 => q _ _ (h w' v q0 e1 r1)
  | .err c a st', h => exact h
  | .bad, h => exact h.elim
theorem post.bind {G : Cfg} {B : Bs} {k k1 : Kd} {Wx : WX} {O : Nat → Option Addr} {r : Env} {s : L2.St} {w0 : Wd} {x : Rs} {g : D → Sto → Rs} {Q : VK} (h : post G B k Wx O r s w0 (x.bind g) Q) :
    post G B k1 Wx O r s w0 x (fun v H1 => ∃ d st1 w1, w1.H = H1 ∧ Rel G B O r st1 s w1 ∧ Ext w0 w1 ∧ RR G k1 O w0 w1 d v ∧ post G B k Wx O r s w0 (g d st1) Q) := by
  match x, h with
  | .ok d st', h => exact fun w' v q e1 r1 => ⟨d, st', w', rfl, q, e1, r1, h⟩
  | .err c a st', h => exact h
  | .bad, h => exact h.elim
theorem tE.bind {G : Cfg} {B : Bs} {k k1 : Kd} {Wx : WX} {f : Ev} {g : D → Env → Sto → Rs} {s : L2.St} {H : Hp} {Q : VK} (h : tE G B k Wx (fun r st => (f r st).bind fun d st1 => g d r st1) s H Q) :
    tE G B k1 Wx f s H (fun v H1 => ∃ O r w0 d st1 w1, w1.H = H1 ∧ Rel G B O r st1 s w1 ∧ Ext w0 w1 ∧ RR G k1 O w0 w1 d v ∧ post G B k Wx O r s w0 (g d r st1) Q) := by
  obtain ⟨O, r, st, w, e, R, h⟩ := h
  refine ⟨O, r, st, w, e, R, h.bind.mono ?_⟩
  rintro v H1 ⟨d, st1, w1, e1, R1, x1, rr, h1⟩
  exact ⟨O, r, w, d, st1, w1, e1, R1, x1, rr, h1⟩

section
variable {X : Cx} {B : Bs} {Wx : WX}
def bVar (i : Nat) : Ev := fun r st => match r i with | some (false, d) => .ok d st | _ => .bad
theorem je_var {i : Nat} {x : Str} {pos : Pos} (hN : X.N[i]? = some x) (hv : Vis X.env.scope x) (hd : (x == ("__debug__" : Str)) = false := by decide) (hcd : (x == ("__classdict__" : Str)) = false := by decide) : JE X B .sh Wx (.Name x pos) (bVar i) := by
  refine pe_imp (pe_var (pos := pos) hN hv hd hcd) ?_
  rintro s H Q ⟨O, r, st, w, rfl, R, h⟩
  have q := R.env i
  unfold bVar at h
  match e : r i, h with
  | none, h => exact h.elim
  | some (true, d), h => exact h.elim
  | some (false, d), h =>
    rw [e] at q
    obtain ⟨_, v, e1, e2⟩ := q
    exact ⟨v, e1, h w v R (Ext.refl w) e2⟩
def bPeek (i : Nat) : Ev := fun r st => match r i with | some (_, d) => .ok d st | _ => .bad
theorem je_peek {i : Nat} {x : Str} {pos : Pos} (hN : X.N[i]? = some x) (hv : Vis X.env.scope x) (hd : (x == ("__debug__" : Str)) = false := by decide) (hcd : (x == ("__classdict__" : Str)) = false := by decide) : JE X B .bo Wx (.Name x pos) (bPeek i) := by
  refine pe_imp (pe_var (pos := pos) hN hv hd hcd) ?_
  rintro s H Q ⟨O, r, st, w, rfl, R, h⟩
  have q := R.env i
  unfold bPeek at h
  match e : r i, h with
  | none, h => exact h.elim
  | some (true, d), h =>
    rw [e] at q
    obtain ⟨a, o, e1, e2⟩ := q
    exact ⟨_, e1, h w _ R (Ext.refl w) (.inr ⟨a, i, rfl, o, (R.own i a o).1, (R.own i a o).2.1, e2⟩)⟩
  | some (false, d), h =>
    rw [e] at q
    obtain ⟨_, v, e1, e2⟩ := q
    exact ⟨v, e1, h w v R (Ext.refl w) (.inl e2)⟩
def bC (d : D) : Ev := fun _ st => .ok d st
theorem je_c {e : Expr} {v : V} {d : D} (h : PE X e (tC v)) (q : ∀ w, RD (cg X) w d v) : JE X B .sh Wx e (bC d) := by
  refine pe_imp h ?_
  rintro s H Q ⟨O, r, st, w, rfl, R, h⟩
  exact h w v R (Ext.refl w) (q w)
theorem je_int {i j pos} : JE X B .sh Wx (.Constant (.int i) j pos) (bC (.int i)) := je_c pe_int fun _ => by unfold RD; rfl
theorem je_bl {b j pos} : JE X B .sh Wx (.Constant (.bool b) j pos) (bC (.bl b)) := je_c pe_bl fun _ => by unfold RD; rfl
theorem je_non {j pos} : JE X B .sh Wx (.Constant .none j pos) (bC .non) := je_c pe_non fun _ => by unfold RD; rfl
theorem je_str {x j pos} : JE X B .sh Wx (.Constant (.str x) j pos) (bC (.str x)) := je_c pe_str fun _ => by unfold RD; rfl

theorem JE.bo {e : Expr} {f : Ev} (h : JE X B .sh Wx e f) : JE X B .bo Wx e f := by
  refine pe_imp h ?_
  rintro s H Q ⟨O, r, st, w, rfl, R, q⟩
  refine ⟨O, r, st, w, rfl, R, ?_⟩
  match f r st, q with
  | .ok d st', q => exact fun w' v R' x rr => q w' v R' x (.inl rr)
  | .err c a st', q => exact q
  | .bad, q => exact q.elim
def Wd.fix (w : Wd) (a : Addr) : Wd := ⟨w.H, fun b => w.M b ∧ b ≠ a, w.u⟩
theorem Wd.fix_wk (w : Wd) (a : Addr) : Wk w (w.fix a) := ⟨fun b o h => ⟨h.1, fun m => h.2 m.1⟩, [], by simp [Wd.fix], fun _ h => nomatch h⟩
theorem Rel.fix {G : Cfg} {O : Nat → Option Addr} {r : Env} {st : Sto} {s : L2.St} {w : Wd} {a : Addr} (R : Rel G B O r st s w) (hb : B.H a = none) (hu : a ∉ w.u) (ho : ∀ i, O i ≠ some a) : Rel G B O r st s (w.fix a) := by
  refine ⟨⟨fun b m => R.wf.mh b m.1, fun b m => (R.wf.um b m).imp (fun z => ⟨z, fun e => hu (by rw [← e]; exact m)⟩) id, R.wf.nd⟩, R.wb, ⟨R.base.hk, fun b m => ⟨R.base.mt b m, fun e => R.wb.mh b m (by rw [e]; exact hb)⟩, fun b n m z => R.base.mn b n m z.1, R.base.mu, R.base.hh⟩, R.ln,
    R.sto.keep (w.fix_wk a) rfl (fun _ _ => rfl), fun i b e => ⟨⟨(R.own i b e).1, fun q => ho i (by rw [e, q])⟩, (R.own i b e).2⟩, R.inj, fun i => (R.env i).wk (w.fix_wk a) fun _ _ => rfl⟩
theorem RC.give {G : Cfg} {w : Wd} {a : Addr} {d : D} (h : RC G w a d) (nd : ∀ ks ds, d ≠ .dct ks ds) : RD G (w.fix a) d (.ref a) := by
  cases d with
  | lst ds =>
    obtain ⟨vs, e, r⟩ := h
    unfold RD
    exact ⟨a, vs, rfl, ⟨e, fun m => m.2 rfl⟩, RDs.wk (w.fix_wk a) _ _ r⟩
  | dct ks ds => exact absurd rfl (nd ks ds)
  | _ => exact (show False from h).elim
def Wd.lock (w : Wd) (a : Addr) (o : HO) : Wd := ⟨upd w.H a o, fun b => w.M b ∧ b ≠ a, w.u⟩
theorem Wd.lock_wk {w : Wd} {a : Addr} {o : HO} (m : w.M a) : Wk w (w.lock a o) := ⟨fun b o' h => ⟨by
  show upd w.H a o b = some o'
  rw [upd_ne (fun e => h.2 (by rw [e]; exact m))]; exact h.1, fun z => h.2 z.1⟩, [], by simp [Wd.lock], fun _ h => nomatch h⟩
theorem Rel.lock {G : Cfg} {O : Nat → Option Addr} {r : Env} {st : Sto} {s : L2.St} {w : Wd} {a : Addr} {o : HO} (R : Rel G B O r st s w) (hm : w.M a) (hb : B.H a = none) (hu : a ∉ w.u) (ho : ∀ i, O i ≠ some a) : Rel G B O r st s (w.lock a o) := by
  have ne : ∀ b, b ∈ w.u → b ≠ a := fun b m e => hu (by rw [← e]; exact m)
  refine ⟨⟨fun b m => ?_, fun b m => (R.wf.um b m).imp (fun z => ⟨z, ne b m⟩) fun ⟨ob, u, e⟩ => ⟨ob, u, (upd_ne (ne b m)).trans e⟩, R.wf.nd⟩, R.wb, ⟨fun b n z => ?_, fun b m => ⟨R.base.mt b m, fun e => R.wb.mh b m (by rw [e]; exact hb)⟩, fun b n m z => R.base.mn b n m z.1, R.base.mu, fun b n => ?_⟩, R.ln,
    R.sto.keep (w.lock_wk hm) rfl (fun b m => upd_ne (ne b m)), fun i b e => ⟨⟨(R.own i b e).1, fun q => ho i (by rw [e, q])⟩, (R.own i b e).2⟩, R.inj, fun i => (R.env i).wk (w.lock_wk hm) fun b e => upd_ne (fun q => ho i (by rw [e, q]))⟩
  · show upd w.H a o b ≠ none
    rw [upd_ne m.2]; exact R.wf.mh b m.1
  · show upd w.H a o b = B.H b
    rw [upd_ne (fun e => n (by rw [e]; exact hb))]; exact R.base.hk b n z
  · show upd w.H a o b ≠ none
    rw [upd_ne (fun e => n (by rw [e]; exact hb))]; exact R.base.hh b n
theorem RC.giveD {G : Cfg} {w : Wd} {a : Addr} {ks ds : List D} (m : w.M a) (nu : a ∉ w.u) (h : RC G w a (.dct ks ds)) : ∃ o, w.H a = some o ∧ Mut (some o) ∧ ∀ ob, RD G (w.lock a (.frz ob o)) (.dct ks ds) (.ref a) := by
  obtain ⟨o, vs, e, q, r2⟩ := h
  refine ⟨o, e, q.mut, fun ob => ?_⟩
  unfold RD
  exact ⟨a, vs, rfl, ⟨⟨o, ob, ⟨upd_same, fun z => z.2 rfl⟩, q.wk (w.lock_wk m)⟩, nu⟩, RDs.wk (w.lock_wk m) _ _ r2⟩
def tGive (t : TE) : TE := fun s H Q => t s H fun v H1 => Q v H1 ∨ ∃ d u, H1 d = some u ∧ Mut (some u) ∧ ∀ od, Q v (upd H1 d (.frz od u))
theorem pe_give {e : Expr} {t : TE} (h : PE X e t) : PE X e (tGive t) := by
  refine ⟨fun pins s σ H Q I q => thn (h.run pins s σ H _ I q) fun v s1 ⟨x, H1, I1, r1, q1⟩ => ?_⟩
  rcases q1 with q1 | ⟨d, u, hd, mu, q1⟩
  · exact ⟨x, H1, I1, r1, q1⟩
  · obtain ⟨od, I2⟩ := I1.lock hd mu
    exact ⟨x, _, I2, r1, q1 od⟩
theorem JE.give {e : Expr} {f : Ev} (h : JE X B .fr Wx e f) : JE X B .sh Wx e f := by
  refine pe_imp (pe_give h) ?_
  rintro s H Q ⟨O, r, st, w, rfl, R, q⟩
  refine ⟨O, r, st, w, rfl, R, ?_⟩
  match f r st, q with
  | .ok d st', q =>
    rintro w' v R' x ⟨a, rfl, n, m, u, c⟩
    have hb : B.H a = none := by
      cases z : B.H a with
      | none => rfl
      | some o => exact absurd n (R.base.hh a (by rw [z]; simp))
    have ho : ∀ i, O i ≠ some a := fun i z => R.wf.mh a (R.own i a z).1 n
    by_cases hd : ∃ ks ds, d = .dct ks ds
    · obtain ⟨ks, ds, rfl⟩ := hd
      obtain ⟨o, e1, mu, e2⟩ := c.giveD m u
      refine .inr ⟨a, o, e1, mu, fun ob => q (w'.lock a _) _ (R'.lock m hb u ho) ⟨fun b nb nu => ?_, fun b mb => ⟨x.mt b mb, fun e => R.wf.mh b mb (by rw [e]; exact n)⟩, fun b nb mb z => x.mn b nb mb z.1, x.mu, fun b nb => ?_⟩ (e2 ob)⟩
      · show upd w'.H a _ b = w.H b
        rw [upd_ne (fun e => nb (by rw [e]; exact n))]; exact x.hk b nb nu
      · show upd w'.H a _ b ≠ none
        rw [upd_ne (fun e => nb (by rw [e]; exact n))]; exact x.hh b nb
    · exact .inl (q (w'.fix a) _ (R'.fix hb u ho) ⟨x.hk, fun b mb => ⟨x.mt b mb, fun e => R.wf.mh b mb (by rw [e]; exact n)⟩, fun b nb mb z => x.mn b nb mb z.1, x.mu, x.hh⟩ (c.give fun ks ds e => hd ⟨ks, ds, e⟩))
  | .err c a st', q => exact q
  | .bad, q => exact q.elim
end
end Sm

namespace Sm
open PySem L2

mutual
def D.py : D → PyData
  | .non => .none
  | .bl b => .bool b
  | .int i => .int i
  | .str x => .str x
  | .tup xs => .tuple (pys xs)
  | .lst xs => .list (pys xs)
  | _ => .dict []
def pys : List D → List PyData
  | [] => []
  | d :: ds => d.py :: pys ds
end
mutual
def shp : Nat → D → Bool
  | _, .non => true
  | _, .bl _ => true
  | _, .int _ => true
  | _, .str x => PyData.strOk x
  | 0, .tup _ => false
  | n + 1, .tup xs => shps n xs
  | 0, .lst _ => false
  | n + 1, .lst xs => shps n xs
  | _, _ => false
def shps : Nat → List D → Bool
  | _, [] => true
  | n, d :: ds => shp n d && shps n ds
end
theorem shps_all (n : Nat) (ds : List D) : shps n ds = ds.all (shp n) := by
  induction ds with
  | nil => simp [shps]
  | cons d ds ih => simp [shps, ih]
theorem pys_map (ds : List D) : pys ds = ds.map D.py := by
  induction ds with
  | nil => simp [pys]
  | cons d ds ih => simp [pys, ih]
mutual
theorem shp_lay : ∀ (n : Nat) (d : D), shp n d = true → d.py.canLay0 = true ∧ d.py.depth ≤ n
  | n, .non, _ => by simp [D.py, PyData.canLay0, PyData.depth]
  | n, .bl _, _ => by simp [D.py, PyData.canLay0, PyData.depth]
  | n, .int _, _ => by simp [D.py, PyData.canLay0, PyData.depth]
  | n, .str x, h => by
    have h' : PyData.strOk x = true := by simpa [shp] using h
    simp [D.py, PyData.canLay0, PyData.depth, h']
  | 0, .tup _, h => by simp [shp] at h
  | n + 1, .tup xs, h => by
    have q := shps_lay n xs (by simpa [shp] using h)
    simp only [D.py, PyData.canLay0, PyData.depth]
    exact ⟨q.1, by omega⟩
  | 0, .lst _, h => by simp [shp] at h
  | n + 1, .lst xs, h => by
    have q := shps_lay n xs (by simpa [shp] using h)
    simp only [D.py, PyData.canLay0, PyData.depth]
    exact ⟨q.1, by omega⟩
  | n, .dct _ _, h => by simp [shp] at h
  | n, .ref _, h => by simp [shp] at h
  | n, .exc _ _, h => by simp [shp] at h
  | n, .frg _, h => by simp [shp] at h
theorem shps_lay : ∀ (n : Nat) (ds : List D), shps n ds = true → PyData.canLayAll0 (pys ds) = true ∧ PyData.depthAll (pys ds) ≤ n
  | n, [], _ => by simp [pys, PyData.canLayAll0, PyData.depthAll]
  | n, d :: ds, h => by
    have h' : shp n d = true ∧ shps n ds = true := by simpa [shps] using h
    have a := shp_lay n d h'.1
    have b := shps_lay n ds h'.2
    simp only [pys, PyData.canLayAll0, PyData.depthAll]
    exact ⟨by simp [a.1, b.1], by omega⟩
end
theorem shp_shaped {d : D} (h : shp 60 d = true) : SeqAt.shaped d.py = true := by
  have q := shp_lay 60 d h
  unfold SeqAt.shaped
  rw [q.1, Bool.true_and, decide_eq_true_eq]
  omega
mutual
theorem RD.dp {G : Cfg} {w : Wd} : ∀ (n : Nat) (d : D) (v : V), shp n d = true → RD G w d v → Dp G.K w.H v d.py
  | n, .non, v, _, h => by unfold RD at h; subst h; simp only [D.py]; exact .non
  | n, .bl b, v, _, h => by unfold RD at h; subst h; simp only [D.py]; exact .bl b
  | n, .int i, v, _, h => by unfold RD at h; subst h; simp only [D.py]; exact .int i
  | n, .str x, v, _, h => by unfold RD at h; subst h; simp only [D.py]; exact .str x
  | 0, .tup _, v, s, _ => by simp [shp] at s
  | n + 1, .tup ds, v, s, h => by
    unfold RD at h
    obtain ⟨a, vs, rfl, t, r⟩ := h
    simp only [D.py]
    exact .tup t.sq (RDs.dp n ds vs (by simpa [shp] using s) r)
  | 0, .lst _, v, s, _ => by simp [shp] at s
  | n + 1, .lst ds, v, s, h => by
    unfold RD at h
    obtain ⟨a, vs, rfl, t, r⟩ := h
    simp only [D.py]
    exact .lst t.sq (RDs.dp n ds vs (by simpa [shp] using s) r)
  | n, .dct _ _, _, s, _ => by simp [shp] at s
  | n, .ref _, _, s, _ => by simp [shp] at s
  | n, .exc _ _, _, s, _ => by simp [shp] at s
  | n, .frg _, _, s, _ => by simp [shp] at s
theorem RDs.dp {G : Cfg} {w : Wd} : ∀ (n : Nat) (ds : List D) (vs : List V), shps n ds = true → RDs G w ds vs → DpAll G.K w.H vs (pys ds)
  | n, [], vs, _, h => by unfold RDs at h; subst h; simp only [pys]; exact .nil
  | n, d :: ds, vs, s, h => by
    unfold RDs at h
    obtain ⟨v, r, rfl, h1, h2⟩ := h
    have s' : shp n d = true ∧ shps n ds = true := by simpa [shps] using s
    simp only [pys]
    exact .cons (RD.dp n d v s'.1 h1) (RDs.dp n ds r s'.2 h2)
end
theorem RC.dp {G : Cfg} {w : Wd} {a : Addr} {n : Nat} {d : D} (s : shp n d = true) (h : RC G w a d) : Dp G.K w.H (.ref a) d.py := by
  cases d with
  | lst ds =>
    obtain ⟨vs, e, r⟩ := h
    cases n with
    | zero => simp [shp] at s
    | succ n =>
      simp only [D.py]
      exact .lst (.of e) (RDs.dp n ds vs (by simpa [shp] using s) r)
  | dct ks ds => simp [shp] at s
  | _ => exact (show False from h).elim
def RCQ (G : Cfg) (w : Wd) (a : Addr) : D → Prop
  | .lst ds => ∃ vs, w.H a = some (.lst vs) ∧ RDs G w ds vs
  | .dct ks ds => ∃ o vs, Rd w.H a o ∧ DcO G w a ks vs o ∧ RDs G w ds vs
  | _ => False
theorem RC.cq {G : Cfg} {w : Wd} {a : Addr} {d : D} (h : RC G w a d) : RCQ G w a d := by
  cases d with
  | lst ds => exact h
  | dct ks ds => obtain ⟨o, vs, e, q, r⟩ := h; exact ⟨o, vs, .inl e, q, r⟩
  | _ => exact (show False from h).elim
theorem RCQ.dp {G : Cfg} {w : Wd} {a : Addr} {n : Nat} {d : D} (s : shp n d = true) (h : RCQ G w a d) : Dp G.K w.H (.ref a) d.py := by
  cases d with
  | lst ds => exact RC.dp (d := .lst ds) s h
  | dct ks ds => simp [shp] at s
  | _ => exact (show False from h).elim
def RQ (G : Cfg) (w : Wd) (d : D) (v : V) : Prop := RD G w d v ∨ ∃ a, v = .ref a ∧ RCQ G w a d
theorem RR.q {G : Cfg} {O : Nat → Option Addr} {w0 w : Wd} {d : D} {v : V} (h : RR G .bo O w0 w d v) : RQ G w d v := by
  rcases h with h | ⟨a, i, e, _, _, _, c⟩
  · exact .inl h
  · exact .inr ⟨a, e, c.cq⟩
theorem RQ.dp {G : Cfg} {w : Wd} {n : Nat} {d : D} {v : V} (s : shp n d = true) (h : RQ G w d v) : Dp G.K w.H v d.py := by
  rcases h with h | ⟨a, rfl, c⟩
  · exact RD.dp n d v s h
  · exact c.dp s
theorem RR.dp {G : Cfg} {O : Nat → Option Addr} {w0 w : Wd} {n : Nat} {d : D} {v : V} (s : shp n d = true) (h : RR G .bo O w0 w d v) : Dp G.K w.H v d.py := RQ.dp s h.q
def eqv (a b : D) : Bool := PyData.eqv a.py b.py

theorem RDs.length {G : Cfg} {w : Wd} : ∀ {ds : List D} {vs : List V}, RDs G w ds vs → ds.length = vs.length
  | [], vs, h => by unfold RDs at h; subst h; rfl
  | d :: ds, vs, h => by
    unfold RDs at h
    obtain ⟨v, r, rfl, _, h2⟩ := h
    simp [RDs.length h2]
theorem RDs.append {G : Cfg} {w : Wd} : ∀ {ds es : List D} {vs us : List V}, RDs G w ds vs → RDs G w es us → RDs G w (ds ++ es) (vs ++ us)
  | [], es, vs, us, h, k => by unfold RDs at h; subst h; exact k
  | d :: ds, es, vs, us, h, k => by
    unfold RDs at h
    obtain ⟨v, r, rfl, h1, h2⟩ := h
    show RDs G w (d :: (ds ++ es)) (v :: (r ++ us))
    unfold RDs
    exact ⟨v, _, rfl, h1, RDs.append h2 k⟩
theorem RDs.get {G : Cfg} {w : Wd} : ∀ {ds : List D} {vs : List V} {i : Nat} {d : D}, RDs G w ds vs → ds[i]? = some d → ∃ v, vs[i]? = some v ∧ RD G w d v
  | [], vs, i, d, h, e => by simp at e
  | x :: ds, vs, 0, d, h, e => by
    unfold RDs at h
    obtain ⟨v, r, rfl, h1, h2⟩ := h
    simp at e; subst e
    exact ⟨v, rfl, h1⟩
  | x :: ds, vs, i + 1, d, h, e => by
    unfold RDs at h
    obtain ⟨v, r, rfl, h1, h2⟩ := h
    obtain ⟨u, e1, e2⟩ := RDs.get (i := i) h2 (by simpa using e)
    exact ⟨u, by simpa using e1, e2⟩
theorem RDs.take {G : Cfg} {w : Wd} : ∀ {ds : List D} {vs : List V} (n : Nat), RDs G w ds vs → RDs G w (ds.take n) (vs.take n)
  | ds, vs, 0, h => by simp only [List.take_zero]; unfold RDs; rfl
  | [], vs, n + 1, h => by unfold RDs at h; subst h; simp only [List.take_nil]; unfold RDs; rfl
  | x :: ds, vs, n + 1, h => by
    unfold RDs at h
    obtain ⟨v, r, rfl, h1, h2⟩ := h
    simp only [List.take_succ_cons]
    unfold RDs
    exact ⟨v, _, rfl, h1, RDs.take n h2⟩
theorem RDs.drop {G : Cfg} {w : Wd} : ∀ {ds : List D} {vs : List V} (n : Nat), RDs G w ds vs → RDs G w (ds.drop n) (vs.drop n)
  | ds, vs, 0, h => h
  | [], vs, n + 1, h => by unfold RDs at h; subst h; simp only [List.drop_nil]; unfold RDs; rfl
  | x :: ds, vs, n + 1, h => by
    unfold RDs at h
    obtain ⟨v, r, rfl, h1, h2⟩ := h
    exact RDs.drop n h2
theorem RDs.set {G : Cfg} {w : Wd} {d : D} {v : V} (q : RD G w d v) : ∀ {ds : List D} {vs : List V} (i : Nat), RDs G w ds vs → RDs G w (ds.set i d) (vs.set i v)
  | [], vs, i, h => by unfold RDs at h; subst h; simp only [List.set_nil]; unfold RDs; rfl
  | x :: ds, vs, 0, h => by
    unfold RDs at h
    obtain ⟨u, r, rfl, h1, h2⟩ := h
    simp only [List.set_cons_zero]
    unfold RDs
    exact ⟨v, r, rfl, q, h2⟩
  | x :: ds, vs, i + 1, h => by
    unfold RDs at h
    obtain ⟨u, r, rfl, h1, h2⟩ := h
    simp only [List.set_cons_succ]
    unfold RDs
    exact ⟨u, _, rfl, h1, RDs.set q i h2⟩
theorem RDs.one {G : Cfg} {w : Wd} {d : D} {v : V} (q : RD G w d v) : RDs G w [d] [v] := by
  unfold RDs
  exact ⟨v, [], rfl, q, by unfold RDs; rfl⟩

theorem RQ.lst {G : Cfg} {w : Wd} {ds : List D} {v : V} (h : RQ G w (.lst ds) v) : ∃ a vs, v = .ref a ∧ w.H a = some (.lst vs) ∧ RDs G w ds vs := by
  rcases h with h | ⟨a, rfl, c⟩
  · unfold RD at h
    obtain ⟨a, vs, rfl, t, r⟩ := h
    exact ⟨a, vs, rfl, t.1, r⟩
  · obtain ⟨vs, e, r⟩ := c
    exact ⟨a, vs, rfl, e, r⟩
theorem RR.lst {G : Cfg} {O : Nat → Option Addr} {w0 w : Wd} {ds : List D} {v : V} (h : RR G .bo O w0 w (.lst ds) v) : ∃ a vs, v = .ref a ∧ w.H a = some (.lst vs) ∧ RDs G w ds vs := RQ.lst  h.q
theorem RQ.tup {G : Cfg} {w : Wd} {ds : List D} {v : V} (h : RQ G w (.tup ds) v) : ∃ a vs, v = .ref a ∧ SqT G.K w.H a vs ∧ RDs G w ds vs := by
  rcases h with h | ⟨a, rfl, c⟩
  · unfold RD at h
    obtain ⟨a, vs, rfl, t, r⟩ := h
    exact ⟨a, vs, rfl, t.sq, r⟩
  · exact (show False from c).elim
theorem RR.tup {G : Cfg} {O : Nat → Option Addr} {w0 w : Wd} {ds : List D} {v : V} (h : RR G .bo O w0 w (.tup ds) v) : ∃ a vs, v = .ref a ∧ SqT G.K w.H a vs ∧ RDs G w ds vs := RQ.tup  h.q
theorem RQ.int {G : Cfg} {w : Wd} {i : Int} {v : V} (h : RQ G w (.int i) v) : v = .int i := by
  rcases h with h | ⟨a, rfl, c⟩
  · unfold RD at h; exact h
  · exact (show False from c).elim
theorem RR.int {G : Cfg} {O : Nat → Option Addr} {w0 w : Wd} {i : Int} {v : V} (h : RR G .bo O w0 w (.int i) v) : v = .int i := RQ.int  h.q
theorem RQ.str {G : Cfg} {w : Wd} {i : Str} {v : V} (h : RQ G w (.str i) v) : v = .str i := by
  rcases h with h | ⟨a, rfl, c⟩
  · unfold RD at h; exact h
  · exact (show False from c).elim
theorem RR.str {G : Cfg} {O : Nat → Option Addr} {w0 w : Wd} {i : Str} {v : V} (h : RR G .bo O w0 w (.str i) v) : v = .str i := RQ.str  h.q
theorem RQ.bl {G : Cfg} {w : Wd} {i : Bool} {v : V} (h : RQ G w (.bl i) v) : v = .bl i := by
  rcases h with h | ⟨a, rfl, c⟩
  · unfold RD at h; exact h
  · exact (show False from c).elim
theorem RR.bl {G : Cfg} {O : Nat → Option Addr} {w0 w : Wd} {i : Bool} {v : V} (h : RR G .bo O w0 w (.bl i) v) : v = .bl i := RQ.bl  h.q
theorem RQ.non {G : Cfg} {w : Wd} {v : V} (h : RQ G w .non v) : v = .non := by
  rcases h with h | ⟨a, rfl, c⟩
  · unfold RD at h; exact h
  · exact (show False from c).elim
theorem RR.non {G : Cfg} {O : Nat → Option Addr} {w0 w : Wd} {v : V} (h : RR G .bo O w0 w .non v) : v = .non := RQ.non  h.q

def LIM : Nat := 1000000
theorem LIM_le : LIM ≤ sizeLine := by rw [sizeLine_eq]; decide
def bBin (F : D → D → Sto → Rs) (f g : Ev) : Ev := fun r st => (f r st).bind fun a st1 => (g r st1).bind fun b st2 => F a b st2
def SemOp (X : Cx) (B : Bs) (k : Kd) (Wx : WX) (F : D → D → Sto → Rs) (r : R2) : Prop :=
  ∀ (O : Nat → Option Addr) (e : Env) (s : L2.St) (w0 w : Wd) (a b : D) (x y : V) (st : Sto) (Q : VK), Rel (cg X) B O e st s w → Ext w0 w → RQ (cg X) w a x → RQ (cg X) w b y →
    post (cg X) B k Wx O e s w0 (F a b st) Q → r x y w.H Q
section
variable {X : Cx} {B : Bs} {k : Kd} {Wx : WX} {a b c : Expr} {f g h : Ev} {pos : Pos}
theorem tE_bin {F : D → D → Sto → Rs} {r : R2} (sem : SemOp X B k Wx F r) {s : L2.St} {H : Hp} {Q : VK} (q : tE (cg X) B k Wx (bBin F f g) s H Q) : tOp r (tE (cg X) B .bo Wx f) (tE (cg X) B .bo Wx g) s H Q := by
  obtain ⟨O, e, st, w, rfl, R, q⟩ := q
  refine ⟨O, e, st, w, rfl, R, (post.bind q).mono ?_⟩
  rintro v H1 ⟨d1, st1, w1, rfl, R1, x1, rr1, q1⟩
  refine ⟨O, e, st1, w1, rfl, R1, (post.bind (q1.rebase x1)).mono ?_⟩
  rintro v2 H2 ⟨d2, st2, w2, rfl, R2, x2, rr2, q2⟩
  exact sem O e s w1 w2 d1 d2 v v2 st2 Q R2 x2 (rr1.ext R1.wf x2).q rr2.q q2
theorem je_bin {op : Operator} {F : D → D → Sto → Rs} {r : R2} (ho : OpR X (binaryOp op) r) (sem : SemOp X B k Wx F r) (ha : JE X B .bo Wx a f) (hb : JE X B .bo Wx b g) : JE X B k Wx (.BinOp a op b pos) (bBin F f g) :=
  pe_imp (pe_op ho ha hb) fun _ _ _ q => tE_bin sem q
theorem je_cmp {op : CmpOp} {F : D → D → Sto → Rs} {r : R2} (ho : OpR X (compareOp op) r) (sem : SemOp X B .sh Wx F r) (hm : behindInMarks op b = false) (ha : JE X B .bo Wx a f) (hb : JE X B .bo Wx b g) : JE X B .sh Wx (.Compare a [op] [b] pos) (bBin F f g) :=
  pe_imp (pe_cmpR ho ha hb hm) fun _ _ _ q => tE_bin sem q
def JT (X : Cx) (B : Bs) (Wx : WX) (e : Expr) (f : Ev) : Prop := PT X e (tTest (tE (cg X) B .sh Wx f))
theorem pt_imp {e : Expr} {t t' : TT} (h : PT X e t) (q : ∀ s H Q, t' s H Q → t s H Q) : PT X e t' := ⟨fun pins s σ H Q I h' => h.run pins s σ H Q I (q σ H Q h')⟩
theorem JE.jt {e : Expr} {f : Ev} (h : JE X B .sh Wx e f) (he : ∀ whole, isTrue e X.env whole = (do let v ← whole; standAt e.pos; holding [v] (truthy v)) := by intro _; rfl) : JT X B Wx e f := pt_val h he
theorem jt_cmp {op : CmpOp} {F : D → D → Sto → Rs} {r : R2} (ho : OpR X (compareOp op) r) (sem : SemOp X B .sh Wx F r) (hm : behindInMarks op b = false) (ha : JE X B .bo Wx a f) (hb : JE X B .bo Wx b g) : JT X B Wx (.Compare a [op] [b] pos) (bBin F f g) :=
  pt_imp (pt_cmpR ho ha hb hm) fun _ _ _ q => tE_bin sem q

theorem post.val {O : Nat → Option Addr} {e : Env} {s : L2.St} {w0 w : Wd} {d : D} {v : V} {st : Sto} {Q : VK} (R : Rel (cg X) B O e st s w) (x : Ext w0 w) (q : post (cg X) B .sh Wx O e s w0 (.ok d st) Q) (h : RD (cg X) w d v) : Q v w.H := q w v R x h
theorem post.new {O : Nat → Option Addr} {e : Env} {s : L2.St} {w0 w : Wd} {d : D} {p : Addr} {o : HO} {st : Sto} {Q : VK} (R : Rel (cg X) B O e st s w) (x : Ext w0 w) (q : post (cg X) B .sh Wx O e s w0 (.ok d st) Q) (hp : w.H p = none)
    (h : ∀ w', Im w' p o → Wk w w' → RD (cg X) w' d (.ref p)) : Q (.ref p) (upd w.H p o) :=
  q (w.add p o false) (.ref p) (R.add hp) (x.trans (Wd.add_ext hp)) (h _ (Wd.add_im R.wf hp) ((Wd.add_ext hp).wk R.wf))
theorem post.own {O : Nat → Option Addr} {e : Env} {s : L2.St} {w0 w : Wd} {d : D} {p : Addr} {o : HO} {st : Sto} {Q : VK} (R : Rel (cg X) B O e st s w) (x : Ext w0 w) (q : post (cg X) B .fr Wx O e s w0 (.ok d st) Q) (hp : w.H p = none)
    (h : ∀ w', w'.H p = some o → Wk w w' → RC (cg X) w' p d) : Q (.ref p) (upd w.H p o) := by
  refine q (w.add p o true) (.ref p) (R.add hp) (x.trans (Wd.add_ext hp)) ⟨p, rfl, ?_, .inr ⟨rfl, rfl⟩, fun m => R.wf.un m hp, h _ upd_same ((Wd.add_ext hp).wk R.wf)⟩
  cases z : w0.H p with
  | none => rfl
  | some o => exact absurd hp (x.hh p (by rw [z]; simp))

def opAdd : D → D → Sto → Rs
  | .int i, .int j, st => .ok (.int (i + j)) st
  | .str x, .str y, st => if x.length + y.length ≤ LIM then .ok (.str (x ++ y)) st else .bad
  | .tup xs, .tup ys, st => if xs.length + ys.length ≤ LIM then .ok (.tup (xs ++ ys)) st else .bad
  | .lst xs, .lst ys, st => if xs.length + ys.length ≤ LIM then .ok (.lst (xs ++ ys)) st else .bad
  | _, _, _ => .bad
theorem RDs.nil_of {G : Cfg} {w : Wd} {ds : List D} {vs : List V} (h : RDs G w ds vs) (e : vs = []) : ds = [] := by
  have := h.length
  rw [e] at this
  exact List.length_eq_zero_iff.mp this
end
end Sm

namespace Sm
open PySem L2

theorem rdI {G : Cfg} {w : Wd} {i : Int} : RD G w (.int i) (.int i) := by unfold RD; rfl
theorem rdS {G : Cfg} {w : Wd} {i : Str} : RD G w (.str i) (.str i) := by unfold RD; rfl
theorem rdB {G : Cfg} {w : Wd} {i : Bool} : RD G w (.bl i) (.bl i) := by unfold RD; rfl
theorem rdN {G : Cfg} {w : Wd} : RD G w .non .non := by unfold RD; rfl
theorem rdT {G : Cfg} {w : Wd} {a : Addr} {ds : List D} {vs : List V} (h : Im w a (.tup vs)) (r : RDs G w ds vs) : RD G w (.tup ds) (.ref a) := by unfold RD; exact ⟨a, vs, rfl, .inl h, r⟩
theorem rdL {G : Cfg} {w : Wd} {a : Addr} {ds : List D} {vs : List V} (h : Im w a (.lst vs)) (r : RDs G w ds vs) : RD G w (.lst ds) (.ref a) := by unfold RD; exact ⟨a, vs, rfl, h, r⟩
section
variable {X : Cx} {B : Bs} {k : Kd} {Wx : WX} {a b c : Expr} {f g h : Ev} {pos : Pos}

def rAddA (K : PySem.W.Frag) : R2 := fun x y H Q => ((rI0 fun i j => .int (i + j)) x y H Q) ∨ ((∃ i j, x = .str i ∧ y = .str j ∧ i.length + j.length ≤ sizeLine ∧ Q (.str (i ++ j)) H) ∨ (rCatA K x y H Q ∨ rCat x y H Q))
theorem op_addA : OpR X (binaryOp .Add) (rAddA X.K) := op_add.or (op_add_str.or (op_catA.or op_cat))
theorem sem_add : SemOp X B .sh Wx opAdd (rAddA X.K) := by
  intro O e s w0 w a b x y st Q R xt ra rb q
  have hl := LIM_le
  cases a with
  | int i =>
    cases b with
    | int j =>
      exact .inl ⟨i, j, ra.int, rb.int, post.val R xt q rdI⟩
    | _ => exact (show False from q).elim
  | str i =>
    cases b with
    | str j =>
      by_cases hz : i.length + j.length ≤ LIM
      · simp only [opAdd, if_pos hz] at q
        exact .inr (.inl ⟨i, j, ra.str, rb.str, by omega, post.val R xt q rdS⟩)
      · simp only [opAdd, if_neg hz] at q
        exact q.elim
    | _ => exact (show False from q).elim
  | tup ds =>
    cases b with
    | tup es =>
      by_cases hz : ds.length + es.length ≤ LIM
      · simp only [opAdd, if_pos hz] at q
        obtain ⟨p1, vs, rfl, t1, r1⟩ := ra.tup
        obtain ⟨p2, us, rfl, t2, r2⟩ := rb.tup
        refine .inr (.inr (.inl ⟨p1, p2, vs, us, rfl, rfl, t1, t2, by rw [← r1.length, ← r2.length]; omega, fun z => ?_, fun _ z => ?_, fun _ _ p hp => post.new R xt q hp fun w' i k => ?_⟩))
        · rw [r1.nil_of z] at q
          refine post.val R xt q ?_
          rcases rb with h | ⟨_, _, c⟩
          · exact h
          · exact (show False from c).elim
        · rw [r2.nil_of z, List.append_nil] at q
          refine post.val R xt q ?_
          rcases ra with h | ⟨_, _, c⟩
          · exact h
          · exact (show False from c).elim
        · exact rdT i (RDs.append (RDs.wk k _ _ r1) (RDs.wk k _ _ r2))
      · simp only [opAdd, if_neg hz] at q
        exact q.elim
    | _ => exact (show False from q).elim
  | lst ds =>
    cases b with
    | lst es =>
      by_cases hz : ds.length + es.length ≤ LIM
      · simp only [opAdd, if_pos hz] at q
        obtain ⟨p1, vs, rfl, t1, r1⟩ := ra.lst
        obtain ⟨p2, us, rfl, t2, r2⟩ := rb.lst
        refine .inr (.inr (.inr ⟨p1, p2, vs, us, rfl, rfl, t1, t2, by rw [← r1.length, ← r2.length]; omega, fun p hp => post.new R xt q hp fun w' i k => ?_⟩))
        exact rdL i (RDs.append (RDs.wk k _ _ r1) (RDs.wk k _ _ r2))
      · simp only [opAdd, if_neg hz] at q
        exact q.elim
    | _ => exact (show False from q).elim
  | _ => exact (show False from q).elim
def opCat : D → D → Sto → Rs
  | .lst xs, .lst ys, st => if xs.length + ys.length ≤ LIM then .ok (.lst (xs ++ ys)) st else .bad
  | _, _, _ => .bad
theorem sem_cat : SemOp X B .fr Wx opCat rCat := by
  intro O e s w0 w a b x y st Q R xt ra rb q
  have hl := LIM_le
  cases a with
  | lst ds =>
    cases b with
    | lst es =>
      by_cases hz : ds.length + es.length ≤ LIM
      · simp only [opCat, if_pos hz] at q
        obtain ⟨p1, vs, rfl, t1, r1⟩ := ra.lst
        obtain ⟨p2, us, rfl, t2, r2⟩ := rb.lst
        refine ⟨p1, p2, vs, us, rfl, rfl, t1, t2, by rw [← r1.length, ← r2.length]; omega, fun p hp => post.own R xt q hp fun w' i k => ?_⟩
        exact ⟨_, i, RDs.append (RDs.wk k _ _ r1) (RDs.wk k _ _ r2)⟩
      · simp only [opCat, if_neg hz] at q
        exact q.elim
    | _ => exact (show False from q).elim
  | _ => exact (show False from q).elim
def opSub : D → D → Sto → Rs
  | .int i, .int j, st => .ok (.int (i - j)) st
  | _, _, _ => .bad
theorem je_sub (ha : JE X B .bo Wx a f) (hb : JE X B .bo Wx b g) : JE X B .sh Wx (.BinOp a .Sub b pos) (bBin opSub f g) := by
  refine je_bin op_sub ?_ ha hb
  intro O e s w0 w a b x y st Q R xt ra rb q
  cases a with
  | int i =>
    cases b with
    | int j => exact ⟨i, j, ra.int, rb.int, post.val R xt q rdI⟩
    | _ => exact (show False from q).elim
  | _ => exact (show False from q).elim
def M64 : Int := 18446744073709551616
def opMul : D → D → Sto → Rs
  | .int i, .int j, st => if (-M64 < i ∧ i < M64) ∨ (-M64 < j ∧ j < M64) then .ok (.int (i * j)) st else .bad
  | _, _, _ => .bad
theorem je_mul (ha : JE X B .bo Wx a f) (hb : JE X B .bo Wx b g) : JE X B .sh Wx (.BinOp a .Mult b pos) (bBin opMul f g) := by
  refine je_bin op_mul ?_ ha hb
  intro O e s w0 w a b x y st Q R xt ra rb q
  cases a with
  | int i =>
    cases b with
    | int j =>
      by_cases hz : (-M64 < i ∧ i < M64) ∨ (-M64 < j ∧ j < M64)
      · simp only [opMul, if_pos hz] at q
        refine ⟨i, j, ra.int, rb.int, ?_, post.val R xt q rdI⟩
        have e : M64 = 2 ^ 64 := by decide
        rw [e] at hz
        exact hz
      · simp only [opMul, if_neg hz] at q
        exact q.elim
    | _ => exact (show False from q).elim
  | _ => exact (show False from q).elim
def opMod : D → D → Sto → Rs
  | .int i, .int j, st => if 0 < j then .ok (.int (i % j)) st else .bad
  | _, _, _ => .bad
theorem je_mod (ha : JE X B .bo Wx a f) (hb : JE X B .bo Wx b g) : JE X B .sh Wx (.BinOp a .Mod b pos) (bBin opMod f g) := by
  refine je_bin op_mod ?_ ha hb
  intro O e s w0 w a b x y st Q R xt ra rb q
  cases a with
  | int i =>
    cases b with
    | int j =>
      by_cases hz : 0 < j
      · simp only [opMod, if_pos hz] at q
        exact ⟨i, j, ra.int, rb.int, hz, post.val R xt q rdI⟩
      · simp only [opMod, if_neg hz] at q
        exact q.elim
    | _ => exact (show False from q).elim
  | _ => exact (show False from q).elim
def D40 : Int := 1000000000000000000000000000000000000000000000000000000000000
def opFdiv : D → D → Sto → Rs
  | .int i, .int j, st => if 0 < j ∧ j < D40 then .ok (.int (i / j)) st else .bad
  | _, _, _ => .bad
theorem je_fdiv (ha : JE X B .bo Wx a f) (hb : JE X B .bo Wx b g) : JE X B .sh Wx (.BinOp a .FloorDiv b pos) (bBin opFdiv f g) := by
  refine je_bin op_fdivW ?_ ha hb
  intro O e s w0 w a b x y st Q R xt ra rb q
  cases a with
  | int i =>
    cases b with
    | int j =>
      by_cases hz : 0 < j ∧ j < D40
      · simp only [opFdiv, if_pos hz] at q
        refine ⟨i, j, ra.int, rb.int, wide_div (b := 200) hz.1 ?_ (by decide) (by decide), post.val R xt q rdI⟩
        have h1 : D40 < 2 ^ 200 := by decide
        have h2 := hz.2
        omega
      · simp only [opFdiv, if_neg hz] at q
        exact q.elim
    | _ => exact (show False from q).elim
  | _ => exact (show False from q).elim
def opPow : D → D → Sto → Rs
  | .int i, .int j, st => if (0 ≤ j ∧ j ≤ 1000) ∧ (0 ≤ i ∧ i < M64) then .ok (.int (i ^ j.toNat)) st else .bad
  | _, _, _ => .bad
theorem je_pow (ha : JE X B .bo Wx a f) (hb : JE X B .bo Wx b g) : JE X B .sh Wx (.BinOp a .Pow b pos) (bBin opPow f g) := by
  refine je_bin op_pow ?_ ha hb
  intro O e s w0 w a b x y st Q R xt ra rb q
  cases a with
  | int i =>
    cases b with
    | int j =>
      by_cases hz : (0 ≤ j ∧ j ≤ 1000) ∧ (0 ≤ i ∧ i < M64)
      · simp only [opPow, if_pos hz] at q
        have e : M64 = 2 ^ 64 := by decide
        rw [e] at hz
        exact ⟨i, j, ra.int, rb.int, ⟨hz.1.1, by omega, by omega⟩, post.val R xt q rdI⟩
      · simp only [opPow, if_neg hz] at q
        exact q.elim
    | _ => exact (show False from q).elim
  | _ => exact (show False from q).elim
def bNeg (f : Ev) : Ev := fun r st => (f r st).bind fun a st1 => match a with | .int i => .ok (.int (-i)) st1 | _ => .bad
theorem je_neg (ha : JE X B .bo Wx a f) : JE X B .sh Wx (.UnaryOp .USub a pos) (bNeg f) := by
  refine pe_imp (pe_un un_neg ha) ?_
  rintro s H Q ⟨O, e, st, w, rfl, R, q⟩
  refine ⟨O, e, st, w, rfl, R, (post.bind q).mono ?_⟩
  rintro v H1 ⟨d1, st1, w1, rfl, R1, x1, rr1, q1⟩
  cases d1 with
  | int i => exact ⟨i, rr1.int, post.val R1 x1 q1 rdI⟩
  | _ => exact (show False from q1).elim

def opEq (a b : D) (st : Sto) : Rs := if shp 60 a && shp 60 b then .ok (.bl (eqv a b)) st else .bad
def opNe (a b : D) (st : Sto) : Rs := if shp 60 a && shp 60 b then .ok (.bl (!eqv a b)) st else .bad
theorem sem_eq : SemOp X B .sh Wx opEq (rEqD X.K) := by
  intro O e s w0 w a b x y st Q R xt ra rb q
  cases z : shp 60 a && shp 60 b with
  | false => simp [opEq, z, post] at q
  | true =>
    rw [opEq, if_pos z] at q
    rw [Bool.and_eq_true] at z
    exact ⟨_, _, RQ.dp z.1 ra, RQ.dp z.2 rb, shp_shaped z.1, shp_shaped z.2, post.val R xt q rdB⟩
theorem sem_ne : SemOp X B .sh Wx opNe (rNeD X.K) := by
  intro O e s w0 w a b x y st Q R xt ra rb q
  cases z : shp 60 a && shp 60 b with
  | false => simp [opNe, z, post] at q
  | true =>
    rw [opNe, if_pos z] at q
    rw [Bool.and_eq_true] at z
    exact ⟨_, _, RQ.dp z.1 ra, RQ.dp z.2 rb, shp_shaped z.1, shp_shaped z.2, post.val R xt q rdB⟩
def intCmp (h : Int → Int → Bool) : D → D → Sto → Rs
  | .int i, .int j, st => .ok (.bl (h i j)) st
  | _, _, _ => .bad
theorem sem_ic {h : Int → Int → Bool} : SemOp X B .sh Wx (intCmp h) (rI0 fun i j => .bl (h i j)) := by
  intro O e s w0 w a b x y st Q R xt ra rb q
  cases a with
  | int i =>
    cases b with
    | int j =>
      exact ⟨i, j, ra.int, rb.int, post.val R xt q rdB⟩
    | _ => exact (show False from q).elim
  | _ => exact (show False from q).elim
abbrev icLe : D → D → Sto → Rs := intCmp fun i j => decide (i ≤ j)
abbrev icLt : D → D → Sto → Rs := intCmp fun i j => decide (i < j)
abbrev icGe : D → D → Sto → Rs := intCmp fun i j => decide (j ≤ i)
abbrev icGt : D → D → Sto → Rs := intCmp fun i j => decide (j < i)
def isN : D → Bool
  | .non => true
  | _ => false
def opIs (neg : Bool) : D → D → Sto → Rs
  | d, .non, st => .ok (.bl (neg ^^ isN d)) st
  | .bl i, .bl j, st => .ok (.bl (neg ^^ decide (i = j))) st
  | _, _, _ => .bad
theorem RQ.isN {G : Cfg} {w : Wd} {d : D} {v : V} (h : RQ G w d v) : decide (v = .non) = isN d := by
  rcases h with h | ⟨a, rfl, c⟩
  · cases d with
    | non => unfold RD at h; subst h; rfl
    | bl _ => unfold RD at h; subst h; rfl
    | int _ => unfold RD at h; subst h; rfl
    | str _ => unfold RD at h; subst h; rfl
    | tup _ => unfold RD at h; obtain ⟨_, _, rfl, _⟩ := h; rfl
    | lst _ => unfold RD at h; obtain ⟨_, _, rfl, _⟩ := h; rfl
    | dct _ _ => unfold RD at h; obtain ⟨_, _, rfl, _⟩ := h; rfl
    | ref _ => unfold RD at h; obtain ⟨_, rfl, _⟩ := h; rfl
    | frg _ => unfold RD at h; obtain ⟨_, _, rfl, _⟩ := h; rfl
    | exc _ _ => unfold RD at h; obtain ⟨_, _, rfl, _⟩ := h; rfl
  · cases d with
    | lst _ => rfl
    | dct _ _ => rfl
    | _ => exact (show False from c).elim
theorem RR.isN {G : Cfg} {O : Nat → Option Addr} {w0 w : Wd} {d : D} {v : V} (h : RR G .bo O w0 w d v) : decide (v = .non) = isN d := RQ.isN  h.q
def rIsA : R2 := fun x y H Q => (y = .non ∧ Q (.bl (decide (x = .non))) H) ∨ (∃ a b, x = .bl a ∧ y = .bl b ∧ Q (.bl (decide (a = b))) H)
def rIsNotA : R2 := fun x y H Q => (y = .non ∧ Q (.bl (!decide (x = .non))) H) ∨ (∃ a b, x = .bl a ∧ y = .bl b ∧ Q (.bl (!decide (a = b))) H)
theorem sem_is : SemOp X B .sh Wx (opIs false) rIsA := by
  intro O e s w0 w a b x y st Q R xt ra rb q
  cases b with
  | non =>
    have q' : post (cg X) B .sh Wx O e s w0 (.ok (.bl (false ^^ isN a)) st) Q := by cases a <;> exact q
    refine .inl ⟨rb.non, ?_⟩
    rw [ra.isN]
    have z := post.val R xt q' rdB
    rw [Bool.false_xor] at z
    exact z
  | bl j =>
    cases a with
    | bl i =>
      refine .inr ⟨i, j, ra.bl, rb.bl, ?_⟩
      have z := post.val R xt q rdB
      rw [Bool.false_xor] at z
      exact z
    | _ => exact (show False from q).elim
  | _ => cases a <;> exact (show False from q).elim
theorem sem_isnot : SemOp X B .sh Wx (opIs true) rIsNotA := by
  intro O e s w0 w a b x y st Q R xt ra rb q
  cases b with
  | non =>
    have q' : post (cg X) B .sh Wx O e s w0 (.ok (.bl (true ^^ isN a)) st) Q := by cases a <;> exact q
    refine .inl ⟨rb.non, ?_⟩
    rw [ra.isN]
    have z := post.val R xt q' rdB
    rw [Bool.true_xor] at z
    exact z
  | bl j =>
    cases a with
    | bl i =>
      refine .inr ⟨i, j, ra.bl, rb.bl, ?_⟩
      have z := post.val R xt q rdB
      rw [Bool.true_xor] at z
      exact z
    | _ => exact (show False from q).elim
  | _ => cases a <;> exact (show False from q).elim
structure JC (X : Cx) (B : Bs) (Wx : WX) (op : CmpOp) (F : D → D → Sto → Rs) : Prop where
  ex : ∃ r, OpR X (compareOp op) r ∧ SemOp X B .sh Wx F r
theorem jc_eq (hu : X.A.units + 64 < cLine) : JC X B Wx .Eq opEq := ⟨_, op_eqD hu, sem_eq⟩
theorem jc_ne (hu : X.A.units + 64 < cLine) : JC X B Wx .NotEq opNe := ⟨_, op_neD hu, sem_ne⟩
theorem jc_ile : JC X B Wx .LtE icLe := ⟨_, op_le, sem_ic⟩
theorem jc_ilt : JC X B Wx .Lt icLt := ⟨_, op_lt, sem_ic⟩
theorem jc_ige : JC X B Wx .GtE icGe := ⟨_, op_ge, sem_ic⟩
theorem jc_igt : JC X B Wx .Gt icGt := ⟨_, op_gt, sem_ic⟩
theorem jc_is : JC X B Wx .Is (opIs false) := ⟨_, op_isN.or op_is_bl, sem_is⟩
theorem jc_isnot : JC X B Wx .IsNot (opIs true) := ⟨_, op_notN.or op_isnot_bl, sem_isnot⟩
theorem JC.je {op : CmpOp} {F : D → D → Sto → Rs} (j : JC X B Wx op F) (ha : JE X B .bo Wx a f) (hb : JE X B .bo Wx b g) (hm : behindInMarks op b = false) : JE X B .sh Wx (.Compare a [op] [b] pos) (bBin F f g) :=
  let ⟨_, h1, h2⟩ := j.ex; je_cmp h1 h2 hm ha hb
theorem JC.jt {op : CmpOp} {F : D → D → Sto → Rs} (j : JC X B Wx op F) (ha : JE X B .bo Wx a f) (hb : JE X B .bo Wx b g) (hm : behindInMarks op b = false) : JT X B Wx (.Compare a [op] [b] pos) (bBin F f g) :=
  let ⟨_, h1, h2⟩ := j.ex; jt_cmp h1 h2 hm ha hb
def bChain (F F' : D → D → Sto → Rs) (f g h : Ev) : Ev := fun r st => (f r st).bind fun a st1 => (g r st1).bind fun b st2 => (F a b st2).bind fun z st3 => match z with
  | .bl true => (h r st3).bind fun c st4 => F' b c st4
  | .bl false => .ok (.bl false) st3
  | _ => .bad
theorem tE_chain {F F' : D → D → Sto → Rs} {r r' : R2} (s1 : SemOp X B .sh Wx F r) (s2 : SemOp X B .sh Wx F' r') {s : L2.St} {H : Hp} {Q : VK} (q : tE (cg X) B .sh Wx (bChain F F' f g h) s H Q) :
    tChain r r' (tE (cg X) B .bo Wx f) (tE (cg X) B .bo Wx g) (tE (cg X) B .bo Wx h) s H Q := by
  obtain ⟨O, e, st, w, rfl, R, q⟩ := q
  refine ⟨O, e, st, w, rfl, R, (post.bind q).mono ?_⟩
  rintro v H1 ⟨d1, st1, w1, rfl, R1, x1, rr1, q1⟩
  refine ⟨O, e, st1, w1, rfl, R1, (post.bind (q1.rebase x1)).mono ?_⟩
  rintro v2 H2 ⟨d2, st2, w2, rfl, R2, x2, rr2, q2⟩
  refine s1 O e s w2 w2 d1 d2 v v2 st2 _ R2 (Ext.refl _) (rr1.ext R1.wf x2).q rr2.q ((post.bind (k1 := .sh) (q2.rebase x2)).mono ?_)
  rintro v3 H3 ⟨d3, st3, w3, rfl, R3, x3, rr3, q3⟩
  cases d3 with
  | bl z =>
    have e3 : v3 = .bl z := by
      have u : RD (cg X) w3 (.bl z) v3 := rr3
      unfold RD at u; exact u
    refine ⟨z, e3, ?_⟩
    cases z with
    | false => exact post.val R3 x3 q3 rdB
    | true =>
      refine ⟨O, e, st3, w3, rfl, R3, (post.bind (q3.rebase x3)).mono ?_⟩
      rintro v4 H4 ⟨d4, st4, w4, rfl, R4, x4, rr4, q4⟩
      exact s2 O e s w3 w4 d2 d4 v2 v4 st4 Q R4 x4 (rr2.ext R2.wf (x3.trans x4)).q rr4.q q4
  | _ => exact (show False from q3).elim
theorem je_chain {op op' : CmpOp} {F F' : D → D → Sto → Rs} (j : JC X B Wx op F) (j' : JC X B Wx op' F') (ha : JE X B .bo Wx a f) (hb : JE X B .bo Wx b g) (hc : JE X B .bo Wx c h) (hm : lastMarks [op, op'] [b, c] = false := by with_unfolding_all rfl) :
    JE X B .sh Wx (.Compare a [op, op'] [b, c] pos) (bChain F F' f g h) :=
  let ⟨_, h1, h2⟩ := j.ex; let ⟨_, h3, h4⟩ := j'.ex; pe_imp (pe_chain h1 h3 ha hb hc hm) fun _ _ _ q => tE_chain h2 h4 q
end
end Sm

namespace Sm
open PySem L2

theorem RR.shB {G : Cfg} {O : Nat → Option Addr} {w0 w : Wd} {b : Bool} {v : V} (h : RR G .sh O w0 w (.bl b) v) : v = .bl b := by
  have z : RD G w (.bl b) v := h
  unfold RD at z; exact z
def bAnd (f g : Ev) : Ev := fun r st => (f r st).bind fun d st1 => match d with
  | .bl true => g r st1
  | .bl false => .ok (.bl false) st1
  | _ => .bad
def bOr (f g : Ev) : Ev := fun r st => (f r st).bind fun d st1 => match d with
  | .bl true => .ok (.bl true) st1
  | .bl false => g r st1
  | _ => .bad
def bNot (f : Ev) : Ev := fun r st => (f r st).bind fun d st1 => match d with
  | .bl b => .ok (.bl (!b)) st1
  | _ => .bad
def bIf (c f g : Ev) : Ev := fun r st => (c r st).bind fun d st1 => match d with
  | .bl true => f r st1
  | .bl false => g r st1
  | _ => .bad
section
variable {X : Cx} {B : Bs} {k : Kd} {Wx : WX} {a b c : Expr} {rest : List Expr} {f g h : Ev} {pos : Pos}
theorem je_one {op} (h : JE X B k Wx a f) : JE X B k Wx (.BoolOp op [a] pos) f := pe_one h
theorem tE_and {s : L2.St} {H : Hp} {Q : VK} (q : tE (cg X) B .sh Wx (bAnd f g) s H Q) : tAndV (tE (cg X) B .sh Wx f) (tE (cg X) B .sh Wx g) s H Q := by
  obtain ⟨O, e, st, w, rfl, R, q⟩ := q
  refine ⟨O, e, st, w, rfl, R, (post.bind (k1 := .sh) q).mono ?_⟩
  rintro v H1 ⟨d1, st1, w1, rfl, R1, x1, rr1, q1⟩
  cases d1 with
  | bl z =>
    refine ⟨z, rr1.shB, ?_⟩
    cases z with
    | false => exact post.val R1 x1 q1 rdB
    | true => exact ⟨O, e, st1, w1, rfl, R1, q1.rebase x1⟩
  | _ => exact (show False from q1).elim
theorem je_and (ha : JE X B .sh Wx a f) (hb : JE X B .sh Wx (.BoolOp .And (b :: rest) pos) g) : JE X B .sh Wx (.BoolOp .And (a :: b :: rest) pos) (bAnd f g) := pe_imp (pe_and ha hb) fun _ _ _ q => tE_and q
def JW (X : Cx) (B : Bs) (Wx : WX) (e : Expr) (f : Ev) : Prop := PW X e (tTest (tE (cg X) B .sh Wx f))
theorem pw_imp {e : Expr} {t t' : TT} (h : PW X e t) (q : ∀ s H Q, t' s H Q → t s H Q) : PW X e t' := ⟨fun wh pins s σ H Q I h' => h.run wh pins s σ H Q I (q σ H Q h')⟩
theorem JW.jt (h : JW X B Wx a f) : JT X B Wx a f := PW.pt h
theorem jw_and1 (h : JT X B Wx a f) : JW X B Wx (.BoolOp .And [a] pos) f := pw_and1 h
theorem jw_or1 (h : JT X B Wx a f) : JW X B Wx (.BoolOp .Or [a] pos) f := pw_or1 h
theorem jw_and (ha : JT X B Wx a f) (hb : JW X B Wx (.BoolOp .And (b :: rest) pos) g) : JW X B Wx (.BoolOp .And (a :: b :: rest) pos) (bAnd f g) := by
  refine pw_imp (pw_and ha hb) ?_
  rintro s H Q ⟨O, e, st, w, rfl, R, q⟩
  refine ⟨O, e, st, w, rfl, R, (post.bind (k1 := .sh) q).mono ?_⟩
  rintro v H1 ⟨d1, st1, w1, rfl, R1, x1, rr1, q1⟩
  cases d1 with
  | bl z =>
    refine ⟨z, rr1.shB, ?_⟩
    cases z with
    | false =>
      obtain ⟨z, e1, q2⟩ := post.val R1 x1 q1 rdB
      cases e1
      exact q2
    | true => exact ⟨O, e, st1, w1, rfl, R1, q1.rebase x1⟩
  | _ => exact (show False from q1).elim
theorem jw_or (ha : JT X B Wx a f) (hb : JW X B Wx (.BoolOp .Or (b :: rest) pos) g) : JW X B Wx (.BoolOp .Or (a :: b :: rest) pos) (bOr f g) := by
  refine pw_imp (pw_or ha hb) ?_
  rintro s H Q ⟨O, e, st, w, rfl, R, q⟩
  refine ⟨O, e, st, w, rfl, R, (post.bind (k1 := .sh) q).mono ?_⟩
  rintro v H1 ⟨d1, st1, w1, rfl, R1, x1, rr1, q1⟩
  cases d1 with
  | bl z =>
    refine ⟨z, rr1.shB, ?_⟩
    cases z with
    | true =>
      obtain ⟨z, e1, q2⟩ := post.val R1 x1 q1 rdB
      cases e1
      exact q2
    | false => exact ⟨O, e, st1, w1, rfl, R1, q1.rebase x1⟩
  | _ => exact (show False from q1).elim
theorem jt_not (ha : JT X B Wx a f) : JT X B Wx (.UnaryOp .Not a pos) (bNot f) := by
  refine pt_imp (pt_not ha) ?_
  rintro s H Q ⟨O, e, st, w, rfl, R, q⟩
  refine ⟨O, e, st, w, rfl, R, (post.bind (k1 := .sh) q).mono ?_⟩
  rintro v H1 ⟨d1, st1, w1, rfl, R1, x1, rr1, q1⟩
  cases d1 with
  | bl z =>
    refine ⟨z, rr1.shB, ?_⟩
    obtain ⟨z', e1, q2⟩ := post.val R1 x1 q1 rdB
    cases e1
    exact q2
  | _ => exact (show False from q1).elim
theorem je_if (hc : JT X B Wx c h) (ha : JE X B k Wx a f) (hb : JE X B k Wx b g) : JE X B k Wx (.IfExp c a b pos) (bIf h f g) := by
  refine pe_imp (pe_ifExp hc ha hb) ?_
  rintro s H Q ⟨O, e, st, w, rfl, R, q⟩
  refine ⟨O, e, st, w, rfl, R, (post.bind (k1 := .sh) q).mono ?_⟩
  rintro v H1 ⟨d1, st1, w1, rfl, R1, x1, rr1, q1⟩
  cases d1 with
  | bl z =>
    refine ⟨z, rr1.shB, ?_⟩
    cases z with
    | true => exact ⟨O, e, st1, w1, rfl, R1, q1.rebase x1⟩
    | false => exact ⟨O, e, st1, w1, rfl, R1, q1.rebase x1⟩
  | _ => exact (show False from q1).elim
end

inductive RsL where
  | ok (ds : List D) (st : Sto) | err (c : Str) (a : Option (Str × D)) (st : Sto) | bad
def Rs.bindL (r : Rs) (k : D → Sto → RsL) : RsL :=
  match r with
  | .ok d st => k d st
  | .err c a st => .err c a st
  | .bad => .bad
def RsL.bindL (r : RsL) (k : List D → Sto → RsL) : RsL :=
  match r with
  | .ok d st => k d st
  | .err c a st => .err c a st
  | .bad => .bad
def RsL.bind (r : RsL) (k : List D → Sto → Rs) : Rs :=
  match r with
  | .ok d st => k d st
  | .err c a st => .err c a st
  | .bad => .bad
def evs : List Ev → Env → Sto → RsL
  | [], _, st => .ok [] st
  | f :: fs, r, st => (f r st).bindL fun d st1 => (evs fs r st1).bindL fun ds st2 => .ok (d :: ds) st2
theorem evs_len : ∀ {fs : List Ev} {r : Env} {st : Sto} {ds : List D} {st' : Sto}, evs fs r st = .ok ds st' → ds.length = fs.length
  | [], _, _, _, _, h => by
    unfold evs at h; cases h; rfl
  | f :: fs, r, st, ds, st', h => by
    unfold evs at h
    cases e : f r st with
    | ok d st1 =>
      rw [e] at h
      unfold Rs.bindL at h
      simp only at h
      cases e2 : evs fs r st1 with
      | ok ds2 st2 =>
        rw [e2] at h
        unfold RsL.bindL at h
        simp only at h
        cases h
        simp [evs_len e2]
      | err _ _ _ => rw [e2] at h; cases h
      | bad => rw [e2] at h; cases h
    | err _ _ _ => rw [e] at h; cases h
    | bad => rw [e] at h; cases h
def RRs (G : Cfg) (k : Kd) (O : Nat → Option Addr) (w : Wd) : List D → List V → Prop
  | [], vs => vs = []
  | d :: ds, vs => ∃ v r, vs = v :: r ∧ RR G k O w w d v ∧ RRs G k O w ds r
theorem RRs.sh {G : Cfg} {O : Nat → Option Addr} {w : Wd} : ∀ {ds : List D} {vs : List V}, RRs G .sh O w ds vs → RDs G w ds vs
  | [], vs, h => by unfold RDs; exact h
  | d :: ds, vs, h => by
    obtain ⟨v, r, e, h1, h2⟩ := h
    unfold RDs
    exact ⟨v, r, e, h1, RRs.sh h2⟩
def postL (G : Cfg) (B : Bs) (k : Kd) (Wx : WX) (O : Nat → Option Addr) (r : Env) (s : L2.St) (w0 : Wd) (x : RsL) (Q : List V → Hp → Prop) : Prop :=
  match x with
  | .ok ds st' => ∀ w' vs, Rel G B O r st' s w' → Ext w0 w' → RRs G k O w' ds vs → Q vs w'.H
  | .err c a st' => ∀ w' cls dd, Rel G B O r st' s w' → Ext w0 w' → RX G w' c a cls dd → Wx cls dd s w'.H
  | .bad => False
def tA (G : Cfg) (B : Bs) (k : Kd) (Wx : WX) (fs : List Ev) : TA := fun s H Q => ∃ O r st w, w.H = H ∧ Rel G B O r st s w ∧ postL G B k Wx O r s w (evs fs r st) Q
def JA (X : Cx) (B : Bs) (k : Kd) (Wx : WX) (es : List Expr) (fs : List Ev) : Prop := PA X es (tA (cg X) B k Wx fs)
theorem pa_imp {X : Cx} {es : List Expr} {t t' : TA} (h : PA X es t) (q : ∀ s H Q, t' s H Q → t s H Q) : PA X es t' := ⟨fun pos pins s σ H Q I h' => h.run pos pins s σ H Q I (q σ H Q h')⟩
theorem postL.bind {G : Cfg} {B : Bs} {k k1 : Kd} {Wx : WX} {O : Nat → Option Addr} {r : Env} {s : L2.St} {w0 : Wd} {x : RsL} {g : List D → Sto → Rs} {Q : VK} (h : post G B k Wx O r s w0 (x.bind g) Q) :
    postL G B k1 Wx O r s w0 x (fun vs H1 => ∃ ds st1 w1, w1.H = H1 ∧ Rel G B O r st1 s w1 ∧ Ext w0 w1 ∧ RRs G k1 O w1 ds vs ∧ x = .ok ds st1 ∧ post G B k Wx O r s w0 (g ds st1) Q) := by
  match x, h with
  | .ok d st', h => exact fun w' v q e1 r1 => ⟨d, st', w', rfl, q, e1, r1, rfl, h⟩
  | .err c a st', h => exact h
  | .bad, h => exact h.elim
section
variable {X : Cx} {B : Bs} {k : Kd} {Wx : WX} {a b c : Expr} {es : List Expr} {fs : List Ev} {f g h : Ev} {pos : Pos}
theorem ja_nil : JA X B k Wx [] [] := by
  refine pa_imp pa_nil ?_
  rintro s H Q ⟨O, r, st, w, rfl, R, q⟩
  exact q w [] R (Ext.refl w) rfl
theorem ja_cons (hk : k ≠ .fr) (ha : JE X B k Wx a f) (hs : JA X B k Wx es fs) (hst : starEach (a :: es) X.env = (false, eval a X.env) :: starEach es X.env := by rfl) : JA X B k Wx (a :: es) (f :: fs) := by
  refine pa_imp (pa_cons ha hs hst) ?_
  rintro s H Q ⟨O, r, st, w, rfl, R, q⟩
  have re : ∀ {w1 w2 w3 : Wd} {d : D} {v : V}, RR (cg X) k O w1 w3 d v → RR (cg X) k O w2 w3 d v := fun {w1 w2 w3 d v} h => by
    match k, hk, h with
    | .sh, _, h => exact h
    | .bo, _, h => exact h
  refine ⟨O, r, st, w, rfl, R, ?_⟩
  unfold evs at q
  cases e : f r st with
  | ok d st1 =>
    rw [e] at q
    intro w1 v R1 x1 rr1
    refine ⟨O, r, st1, w1, rfl, R1, ?_⟩
    unfold Rs.bindL at q
    simp only at q
    cases e2 : evs fs r st1 with
    | ok ds st2 =>
      rw [e2] at q
      exact fun w2 vs R2 x2 rr2 => q w2 (v :: vs) R2 (x1.trans x2) ⟨v, vs, rfl, re (rr1.ext R1.wf x2), rr2⟩
    | err c a st2 =>
      rw [e2] at q
      exact fun w2 cls dd R2 x2 rx => q w2 cls dd R2 (x1.trans x2) rx
    | bad =>
      rw [e2] at q
      exact q.elim
  | err c a st1 =>
    rw [e] at q
    exact q
  | bad =>
    rw [e] at q
    exact q.elim
theorem ja_sh (ha : JE X B .sh Wx a f) (hs : JA X B .sh Wx es fs) (hst : starEach (a :: es) X.env = (false, eval a X.env) :: starEach es X.env := by rfl) : JA X B .sh Wx (a :: es) (f :: fs) := ja_cons (by intro z; cases z) ha hs hst
theorem ja_bo (ha : JE X B .bo Wx a f) (hs : JA X B .bo Wx es fs) (hst : starEach (a :: es) X.env = (false, eval a X.env) :: starEach es X.env := by rfl) : JA X B .bo Wx (a :: es) (f :: fs) := ja_cons (by intro z; cases z) ha hs hst

def bTup (fs : List Ev) : Ev := fun r st => (evs fs r st).bind fun ds st1 => .ok (.tup ds) st1
def bLst (fs : List Ev) : Ev := fun r st => (evs fs r st).bind fun ds st1 => .ok (.lst ds) st1
theorem je_tup {x1} (h : JA X B .sh Wx es fs) (hl : fs.length ≤ LIM := by exact Nat.le_of_ble_eq_true rfl) : JE X B .sh Wx (.Tuple es x1 pos) (bTup fs) := by
  refine pe_imp (pe_tup h) ?_
  rintro s H Q ⟨O, r, st, w, rfl, R, q⟩
  refine ⟨O, r, st, w, rfl, R, ?_⟩
  have q' := postL.bind (k1 := .sh) q
  cases e : evs fs r st with
  | ok ds st1 =>
    rw [e] at q'
    intro w1 vs R1 x1 rr1
    obtain ⟨ds', st', w', e1, R', x', rr', e2, q2⟩ := q' w1 vs R1 x1 rr1
    cases e2
    have lm := LIM_le
    have el := evs_len e
    have rl := (rr1.sh).length
    refine ⟨by omega, fun p hp => post.new R1 x1 q2 hp fun w2 i k => rdT i (RDs.wk k _ _ rr1.sh)⟩
  | err c a st1 => rw [e] at q'; exact q'
  | bad => rw [e] at q'; exact q'.elim
theorem je_lst (h : JA X B .sh Wx es fs) (hl : fs.length ≤ LIM := by exact Nat.le_of_ble_eq_true rfl) : JE X B .fr Wx (.List es pos) (bLst fs) := by
  refine pe_imp (pe_lst h) ?_
  rintro s H Q ⟨O, r, st, w, rfl, R, q⟩
  refine ⟨O, r, st, w, rfl, R, ?_⟩
  have q' := postL.bind (k1 := .sh) q
  cases e : evs fs r st with
  | ok ds st1 =>
    rw [e] at q'
    intro w1 vs R1 x1 rr1
    obtain ⟨ds', st', w', e1, R', x', rr', e2, q2⟩ := q' w1 vs R1 x1 rr1
    cases e2
    have lm := LIM_le
    have el := evs_len e
    have rl := (rr1.sh).length
    refine ⟨by omega, fun p hp => post.own R1 x1 q2 hp fun w2 i k => ⟨_, i, RDs.wk k _ _ rr1.sh⟩⟩
  | err c a st1 => rw [e] at q'; exact q'
  | bad => rw [e] at q'; exact q'.elim

theorem atI_rds {G : Cfg} {w : Wd} {ds : List D} {vs : List V} {i : Int} {d : D} (h : RDs G w ds vs) (e : atI ds i = some d) : ∃ v, atI vs i = some v ∧ RD G w d v := by
  unfold atI at *
  rw [← h.length]
  cases z : ixN ds.length i with
  | none => rw [z] at e; cases e
  | some j =>
    rw [z] at e
    exact h.get e
def opIx : D → D → Sto → Rs
  | .lst ds, .int i, st => match atI ds i with | some d => .ok d st | none => .bad
  | .tup ds, .int i, st => match atI ds i with | some d => .ok d st | none => .bad
  | .str x, .int i, st => if x.length ≤ LIM then match atI x.cps.toList i with | some c => .ok (.str ⟨#[c]⟩) st | none => .bad else .bad
  | .ref n, .int i, st => match st[n]? with
    | some (.lst ds) => (match atI ds i with | some d => .ok d st | none => .bad)
    | _ => .bad
  | _, _, _ => .bad
theorem RQ.refd {G : Cfg} {w : Wd} {n : Nat} {v : V} (h : RQ G w (.ref n) v) : RD G w (.ref n) v := by
  rcases h with h | ⟨a, rfl, c⟩
  · exact h
  · exact (show False from c).elim
theorem RR.refd {G : Cfg} {O : Nat → Option Addr} {w0 w : Wd} {n : Nat} {v : V} (h : RR G .bo O w0 w (.ref n) v) : RD G w (.ref n) v := RQ.refd  h.q
theorem RSt.ref {G : Cfg} {w : Wd} {st : Sto} {n : Nat} {so : SO} {v : V} (S : RSt G w st) (h : RD G w (.ref n) v) (e : st[n]? = some so) : ∃ al, v = .ref al ∧ w.u[n]? = some al ∧ RSO G w al so := by
  unfold RD at h
  obtain ⟨al, rfl, ea⟩ := h
  exact ⟨al, rfl, ea, S.at_ n so al e ea⟩
theorem sem_ix : SemOp X B .sh Wx opIx (rIx X.K) := by
  intro O e s w0 w a b x y st Q R xt ra rb q
  have lm := LIM_le
  cases a with
  | lst ds =>
    cases b with
    | int i =>
      cases z : atI ds i with
      | none => simp only [opIx, z] at q; exact q.elim
      | some d =>
        simp only [opIx, z] at q
        obtain ⟨p, vs, rfl, t, r⟩ := ra.lst
        obtain ⟨v, e1, e2⟩ := atI_rds r z
        exact .inl ⟨p, vs, i, v, rfl, rb.int, .of t, e1, post.val R xt q e2⟩
    | _ => exact (show False from q).elim
  | tup ds =>
    cases b with
    | int i =>
      cases z : atI ds i with
      | none => simp only [opIx, z] at q; exact q.elim
      | some d =>
        simp only [opIx, z] at q
        obtain ⟨p, vs, rfl, t, r⟩ := ra.tup
        obtain ⟨v, e1, e2⟩ := atI_rds r z
        exact .inr (.inl ⟨p, vs, i, v, rfl, rb.int, t, e1, post.val R xt q e2⟩)
    | _ => exact (show False from q).elim
  | str u =>
    cases b with
    | int i =>
      by_cases hz : u.length ≤ LIM
      · cases z : atI u.cps.toList i with
        | none => simp only [opIx, if_pos hz, z] at q; exact q.elim
        | some c =>
          simp only [opIx, if_pos hz, z] at q
          exact .inr (.inr ⟨u, i, c, ra.str, rb.int, by omega, z, post.val R xt q rdS⟩)
      · simp only [opIx, if_neg hz] at q
        exact q.elim
    | _ => exact (show False from q).elim
  | ref n =>
    cases b with
    | int i =>
      cases zs : st[n]? with
      | none => simp only [opIx, zs] at q; exact q.elim
      | some so =>
        cases so with
        | lst ds =>
          cases z : atI ds i with
          | none => simp only [opIx, zs, z] at q; exact q.elim
          | some d =>
            simp only [opIx, zs, z] at q
            obtain ⟨al, rfl, ea, vs, hl, r⟩ := R.sto.ref ra.refd zs
            obtain ⟨v, e1, e2⟩ := atI_rds r z
            exact .inl ⟨al, vs, i, v, rfl, rb.int, .of hl, e1, post.val R xt q e2⟩
        | _ => simp only [opIx, zs] at q; exact q.elim
    | _ => exact (show False from q).elim
  | _ => exact (show False from q).elim
theorem je_ix (ha : JE X B .bo Wx a f) (hb : JE X B .bo Wx b g) (hs : PlainIx b := by intro _ _; rfl) : JE X B .sh Wx (.Subscript a b pos) (bBin opIx f g) :=
  pe_imp (pe_ix ix_seq ha hb hs) fun _ _ _ q => tE_bin sem_ix q

def cut {α : Type} (xs : List α) (lo hi : Option Int) : List α := (xs.drop (HT.sIx xs.length 0 lo)).take (HT.sIx xs.length xs.length hi - HT.sIx xs.length 0 lo)
theorem cut_rds {G : Cfg} {w : Wd} {ds : List D} {vs : List V} {lo hi : Option Int} (h : RDs G w ds vs) : RDs G w (cut ds lo hi) (cutV vs lo hi) := by
  unfold cut cutV
  rw [← h.length]
  exact (h.drop _).take _
end
end Sm

namespace Sm
open PySem L2
def evO : Option Ev → Env → Sto → (Option Int → Sto → Rs) → Rs
  | none, _, st, k => k none st
  | some f, r, st, k => (f r st).bind fun d st1 => match d with | .int i => k (some i) st1 | _ => .bad
def tO (G : Cfg) (B : Bs) (Wx : WX) : Option Ev → L2.TO
  | none => tNoPart
  | some f => tPart (tE G B .bo Wx f)
def JO (X : Cx) (B : Bs) (Wx : WX) (e : Option Expr) (f : Option Ev) : Prop := PO X e (tO (cg X) B Wx f)
def bSl (F : D → Option Int → Option Int → Sto → Rs) (f : Ev) (lo hi : Option Ev) : Ev := fun r st => (f r st).bind fun a st1 => evO lo r st1 fun l st2 => evO hi r st2 fun u st3 => F a l u st3
def SemSl (X : Cx) (B : Bs) (k : Kd) (Wx : WX) (F : D → Option Int → Option Int → Sto → Rs) (r : V → Option Int → Option Int → Hp → VK → Prop) : Prop :=
  ∀ (O : Nat → Option Addr) (e : Env) (s : L2.St) (w0 w : Wd) (a : D) (x : V) (lo hi : Option Int) (st : Sto) (Q : VK), Rel (cg X) B O e st s w → Ext w0 w → RQ (cg X) w a x →
    post (cg X) B k Wx O e s w0 (F a lo hi st) Q → r x lo hi w.H Q
section
variable {X : Cx} {B : Bs} {k : Kd} {Wx : WX} {a b c : Expr} {es : List Expr} {fs : List Ev} {f g h : Ev} {pos : Pos}
theorem jo_none : JO X B Wx none none := po_none
theorem jo_some (h : JE X B .bo Wx a f) : JO X B Wx (some a) (some f) := po_some h
theorem evO_bind {O : Nat → Option Addr} {e : Env} {s : L2.St} {w : Wd} {st : Sto} {Q : VK} {lo : Option Ev} {kk : Option Int → Sto → Rs} (R : Rel (cg X) B O e st s w) (q : post (cg X) B k Wx O e s w (evO lo e st kk) Q) :
    tO (cg X) B Wx lo s w.H (fun o H1 => ∃ st1 w1, w1.H = H1 ∧ Rel (cg X) B O e st1 s w1 ∧ Ext w w1 ∧ post (cg X) B k Wx O e s w (kk o st1) Q) := by
  cases lo with
  | none => exact ⟨st, w, rfl, R, Ext.refl w, q⟩
  | some f =>
    refine ⟨O, e, st, w, rfl, R, (post.bind q).mono ?_⟩
    rintro v H1 ⟨d1, st1, w1, rfl, R1, x1, rr1, q1⟩
    cases d1 with
    | int i => exact ⟨i, rr1.int, st1, w1, rfl, R1, x1, q1⟩
    | _ => exact (show False from q1).elim
theorem to_mono {G : Cfg} {lo : Option Ev} {s : L2.St} {H : Hp} {Q Q' : Option Int → Hp → Prop} (h : tO G B Wx lo s H Q) (q : ∀ o H, Q o H → Q' o H) : tO G B Wx lo s H Q' := by
  cases lo with
  | none => exact q _ _ h
  | some f =>
    obtain ⟨O, e, st, w, e1, R, p⟩ := h
    exact ⟨O, e, st, w, e1, R, p.mono fun v H ⟨i, e2, q2⟩ => ⟨i, e2, q _ _ q2⟩⟩
theorem je_sl {F : D → Option Int → Option Int → Sto → Rs} {r : V → Option Int → Option Int → Hp → VK → Prop} {lo hi : Option Expr} {fl fh : Option Ev} {p2 : Pos} (hr : SlR X r) (sem : SemSl X B k Wx F r) (he : JE X B .bo Wx a f) (hl : JO X B Wx lo fl) (hu : JO X B Wx hi fh) :
    JE X B k Wx (.Subscript a (.Slice lo hi none p2) pos) (bSl F f fl fh) := by
  refine pe_imp (pe_slice hr he hl hu) ?_
  rintro s H Q ⟨O, e, st, w, rfl, R, q⟩
  refine ⟨O, e, st, w, rfl, R, (post.bind q).mono ?_⟩
  rintro v H1 ⟨d1, st1, w1, rfl, R1, x1, rr1, q1⟩
  refine to_mono (evO_bind R1 (q1.rebase x1)) ?_
  rintro l H2 ⟨st2, w2, rfl, R2, x2, q2⟩
  refine to_mono (evO_bind R2 (q2.rebase x2)) ?_
  rintro u H3 ⟨st3, w3, rfl, R3, x3, q3⟩
  exact sem O e s w2 w3 d1 v l u st3 Q R3 x3 (rr1.ext R1.wf (x2.trans x3)).q q3
def opSlL : D → Option Int → Option Int → Sto → Rs
  | .lst ds, lo, hi, st => .ok (.lst (cut ds lo hi)) st
  | .frg ds, lo, hi, st => .ok (.lst (cut ds lo hi)) st
  | _, _, _, _ => .bad
theorem RQ.frg {G : Cfg} {w : Wd} {ds : List D} {v : V} (h : RQ G w (.frg ds) v) : ∃ a vs, v = .ref a ∧ SqL G.K w.H a vs ∧ RDs G w ds vs := by
  rcases h with h | ⟨a, rfl, c⟩
  · unfold RD at h
    obtain ⟨a, vs, rfl, t, r⟩ := h
    exact ⟨a, vs, rfl, t.sq, r⟩
  · exact (show False from c).elim
theorem RR.frg {G : Cfg} {O : Nat → Option Addr} {w0 w : Wd} {ds : List D} {v : V} (h : RR G .bo O w0 w (.frg ds) v) : ∃ a vs, v = .ref a ∧ SqL G.K w.H a vs ∧ RDs G w ds vs := RQ.frg  h.q
def opSl : D → Option Int → Option Int → Sto → Rs
  | .lst ds, lo, hi, st => .ok (.lst (cut ds lo hi)) st
  | .frg ds, lo, hi, st => .ok (.lst (cut ds lo hi)) st
  | .tup ds, lo, hi, st => .ok (.tup (cut ds lo hi)) st
  | _, _, _, _ => .bad
theorem cut_whole {α : Type} {xs : List α} {lo hi : Option Int} (h : HT.sIx xs.length 0 lo = 0 ∧ HT.sIx xs.length xs.length hi = xs.length) : cut xs lo hi = xs := by
  unfold cut
  rw [h.1, h.2]
  simp
theorem sem_sl : SemSl X B .sh Wx opSl (fun x lo hi H Q => rSlL X.K x lo hi H Q ∨ rSlA X.K x lo hi H Q) := by
  intro O e s w0 w a x lo hi st Q R xt ra q
  cases a with
  | lst ds =>
    obtain ⟨p, vs, rfl, t, r⟩ := ra.lst
    exact .inl ⟨p, vs, rfl, .of t, fun p2 hp => post.new R xt q hp fun w' i k => rdL i (cut_rds (RDs.wk k _ _ r))⟩
  | frg ds =>
    obtain ⟨p, vs, rfl, t, r⟩ := ra.frg
    exact .inl ⟨p, vs, rfl, t, fun p2 hp => post.new R xt q hp fun w' i k => rdL i (cut_rds (RDs.wk k _ _ r))⟩
  | tup ds =>
    obtain ⟨p, vs, rfl, t, r⟩ := ra.tup
    refine .inr ⟨p, vs, rfl, t, fun z => ?_, fun _ p2 hp => post.new R xt q hp fun w' i k => rdT i (cut_rds (RDs.wk k _ _ r))⟩
    rw [← r.length] at z
    have q' : post (cg X) B .sh Wx O e s w0 (.ok (.tup (cut ds lo hi)) st) Q := q
    rw [cut_whole z] at q'
    refine post.val R xt q' ?_
    rcases ra with h | ⟨_, _, c⟩
    · exact h
    · exact (show False from c).elim
  | _ => exact (show False from q).elim
structure RelF (G : Cfg) (st : Sto) (w : Wd) : Prop where
  wf : WF w
  sto : RSt G w st
def postF (G : Cfg) (fr : Bool) (w0 : Wd) (x : Rs) (Q : VK) (E : XK) : Prop :=
  match x with
  | .ok d st' => ∀ w' v, RelF G st' w' → Ext w0 w' → (if fr = true then RR G .fr (fun _ => none) w0 w' d v else RD G w' d v) → Q v w'.H
  | .err c a st' => ∀ w' cls dd, RelF G st' w' → Ext w0 w' → RX G w' c a cls dd → E cls dd w'.H
  | .bad => False
def spF (G : Cfg) (n : Nat) (fr : Bool) (g : Fn) : Sp := fun vs H Q E => vs.length = n ∧ ∃ w ds st, w.H = H ∧ RelF G st w ∧ RDs G w ds vs ∧ postF G fr w (g ds st) Q E
def kdF (fr : Bool) : Kd := if fr = true then .fr else .sh
def bCall (g : Fn) (fs : List Ev) : Ev := fun r st => (evs fs r st).bind g
theorem Rel.toF {G : Cfg} {O : Nat → Option Addr} {r : Env} {st : Sto} {s : L2.St} {w : Wd} (R : Rel G B O r st s w) : RelF G st w := ⟨R.wf, R.sto⟩
theorem Rel.ofF {G : Cfg} {O : Nat → Option Addr} {r : Env} {st st' : Sto} {s : L2.St} {w w' : Wd} (R : Rel G B O r st s w) (F : RelF G st' w') (x : Ext w w') : Rel G B O r st' s w' := by
  have nu : ∀ i a, O i = some a → a ∉ w'.u := fun i a e z => by
    obtain ⟨q, e2, fr⟩ := x.mu
    rw [e2] at z
    rcases List.mem_append.mp z with z | z
    · exact (R.own i a e).2.1 z
    · exact R.wf.mh a (R.own i a e).1 (fr a z)
  exact ⟨F.wf, R.wb, R.base.trans x, R.ln, F.sto, fun i a e => ⟨x.mt a (R.own i a e).1, nu i a e, (R.own i a e).2.2⟩, R.inj, fun i => (R.env i).wk (x.wk R.wf) fun a e => x.hk a (R.wf.mh a (R.own i a e).1) (.inl (R.own i a e).2.1)⟩
theorem sp_of {n : Nat} {fr : Bool} {gF : Fn} {O : Nat → Option Addr} {e : Env} {s : L2.St} {w0 w : Wd} {st : Sto} {ds : List D} {vs : List V} {Q : VK} (R : Rel (cg X) B O e st s w) (xt : Ext w0 w) (r : RDs (cg X) w ds vs) (hn : vs.length = n)
    (q : post (cg X) B (kdF fr) Wx O e s w0 (gF ds st) Q) : spF (cg X) n fr gF vs w.H Q (fun cls dd H => Wx cls dd s H) := by
  refine ⟨hn, w, ds, st, rfl, R.toF, r, ?_⟩
  have q := q.rebase xt
  cases z : gF ds st with
  | ok d st' =>
    rw [z] at q
    intro w' v F x h
    refine q w' v (R.ofF F x) x ?_
    cases fr with
    | true =>
      have h : RR (cg X) .fr (fun _ => none) w w' d v := h
      exact h
    | false =>
      have h : RD (cg X) w' d v := h
      exact h
  | err c a st' =>
    rw [z] at q
    intro w' cls dd F x h
    exact q w' cls dd (R.ofF F x) x h
  | bad => rw [z] at q; exact q.elim
theorem tE_call {n : Nat} {fr : Bool} {gF : Fn} {s : L2.St} {H : Hp} {Q : VK} (hn : fs.length = n) (q : tE (cg X) B (kdF fr) Wx (bCall gF fs) s H Q) : tCallS (spF (cg X) n fr gF) (WE Wx) (tA (cg X) B .sh Wx fs) s H Q := by
  obtain ⟨O, r, st, w, rfl, R, q⟩ := q
  refine ⟨O, r, st, w, rfl, R, ?_⟩
  have q' := postL.bind (k1 := .sh) q
  cases e : evs fs r st with
  | ok ds st1 =>
    rw [e] at q'
    intro w1 vs R1 x1 rr1
    obtain ⟨ds', st', w', e1, R', x', rr', e2, q2⟩ := q' w1 vs R1 x1 rr1
    cases e2
    have el := evs_len e
    have rl := (rr1.sh).length
    exact sp_of R1 x1 rr1.sh (by omega) q2
  | err c a st1 => rw [e] at q'; exact q'
  | bad => rw [e] at q'; exact q'.elim
end
end Sm

namespace Sm
open PySem L2
def postS (G : Cfg) (B : Bs) (fr : Bool) (Wx : WX) (w0 : Wd) (x : Rt) (D : Ends) : Prop :=
  match x with
  | .nx r st => ∀ O s w, Rel G B O r st s w → Wk w0 w → D.nx s w.H
  | .bk r st => ∀ O s w, Rel G B O r st s w → Wk w0 w → D.bk s w.H
  | .ct r st => ∀ O s w, Rel G B O r st s w → Wk w0 w → D.ct s w.H
  | .rt d st => ∀ w v, RelF G st w → Ext B.toWd w → (if fr = true then RR G .fr (fun _ => none) B.toWd w d v else RD G w d v) → D.rt v w.H
  | .err c a r st => ∀ O s w cls dd, Rel G B O r st s w → Wk w0 w → RX G w c a cls dd → Wx cls dd s w.H
  | .bad => False
def tS (G : Cfg) (B : Bs) (fr : Bool) (Wx : WX) (f : Sv) : TS := fun D s H => ∃ O r st w, w.H = H ∧ Rel G B O r st s w ∧ postS G B fr Wx w (f r st) D
def JS (X : Cx) (B : Bs) (fr : Bool) (Wx : WX) (st : Stmt) (f : Sv) : Prop := PS X st (tS (cg X) B fr Wx f)
def JSs (X : Cx) (B : Bs) (fr : Bool) (Wx : WX) (st : List Stmt) (f : Sv) : Prop := PSs X st (tS (cg X) B fr Wx f)
theorem ps_imp {X : Cx} {st : Stmt} {t t' : TS} (h : PS X st t) (q : ∀ D s H, t' D s H → t D s H) : PS X st t' := ⟨fun pins s σ H D I h' => h.run pins s σ H D I (q D σ H h')⟩
theorem pss_imp {X : Cx} {st : List Stmt} {t t' : TS} (h : PSs X st t) (q : ∀ D s H, t' D s H → t D s H) : PSs X st t' := ⟨fun pins s σ H D I h' => h.run pins s σ H D I (q D σ H h')⟩
theorem postS.weak {G : Cfg} {B : Bs} {fr : Bool} {Wx : WX} {w0 w1 : Wd} {x : Rt} {D : Ends} (k : Wk w0 w1) (h : postS G B fr Wx w0 x D) : postS G B fr Wx w1 x D := by
  match x, h with
  | .nx r st, h => exact fun O s w R k' => h O s w R (k.trans k')
  | .bk r st, h => exact fun O s w R k' => h O s w R (k.trans k')
  | .ct r st, h => exact fun O s w R k' => h O s w R (k.trans k')
  | .rt d st, h => exact h
  | .err c a r st, h => exact fun O s w cls dd R k' rx => h O s w cls dd R (k.trans k') rx
  | .bad, h => exact h

section
variable {G : Cfg} {B : Bs} {O : Nat → Option Addr} {r : Env} {st : Sto} {s : L2.St} {w : Wd}
def setO (O : Nat → Option Addr) (i : Nat) (a : Option Addr) : Nat → Option Addr := fun j => if j = i then a else O j
theorem Rel.put {i : Nat} {d : D} {v : V} (R : Rel G B O r st s w) (hi : i < B.L) (h : RD G w d v) : Rel G B (setO O i none) (r.set i (some (false, d))) st (s.set i (some v)) w := by
  refine ⟨R.wf, R.wb, R.base, by rw [List.length_set]; exact R.ln, R.sto, fun j a e => ?_, fun j k a e1 e2 => ?_, fun j => ?_⟩
  · unfold setO at e
    by_cases z : j = i
    · rw [if_pos z] at e; cases e
    · rw [if_neg z] at e; exact R.own j a e
  · unfold setO at e1 e2
    by_cases z : j = i
    · rw [if_pos z] at e1; cases e1
    · by_cases z' : k = i
      · rw [if_pos z'] at e2; cases e2
      · rw [if_neg z] at e1; rw [if_neg z'] at e2; exact R.inj j k a e1 e2
  · by_cases z : j = i
    · subst z
      rw [Env.set_same]
      exact ⟨if_pos rfl, v, by rw [List.getElem?_set_self (by rw [R.ln]; exact hi)], h⟩
    · rw [Env.set_ne z, List.getElem?_set_ne (Ne.symm z)]
      unfold setO
      rw [if_neg z]
      exact R.env j
theorem Rel.putOwn {i : Nat} {d : D} {a : Addr} (R : Rel G B O r st s w) (hi : i < B.L) (hm : w.M a) (hu : a ∉ w.u) (hb : B.H a = none) (ho : ∀ j, O j ≠ some a) (h : RC G w a d) :
    Rel G B (setO O i (some a)) (r.set i (some (true, d))) st (s.set i (some (.ref a))) w := by
  refine ⟨R.wf, R.wb, R.base, by rw [List.length_set]; exact R.ln, R.sto, fun j b e => ?_, fun j k b e1 e2 => ?_, fun j => ?_⟩
  · unfold setO at e
    by_cases z : j = i
    · rw [if_pos z] at e; cases e; exact ⟨hm, hu, hb⟩
    · rw [if_neg z] at e; exact R.own j b e
  · unfold setO at e1 e2
    by_cases z : j = i
    · by_cases z' : k = i
      · rw [z, z']
      · rw [if_pos z] at e1; rw [if_neg z'] at e2; cases e1; exact absurd e2 (ho k)
    · by_cases z' : k = i
      · rw [if_neg z] at e1; rw [if_pos z'] at e2; cases e2; exact absurd e1 (ho j)
      · rw [if_neg z] at e1; rw [if_neg z'] at e2; exact R.inj j k b e1 e2
  · by_cases z : j = i
    · subst z
      rw [Env.set_same]
      exact ⟨a, if_pos rfl, by rw [List.getElem?_set_self (by rw [R.ln]; exact hi)], h⟩
    · rw [Env.set_ne z, List.getElem?_set_ne (Ne.symm z)]
      unfold setO
      rw [if_neg z]
      exact R.env j
theorem Rel.drop {i : Nat} (R : Rel G B O r st s w) : Rel G B (setO O i none) (r.set i none) st s w := by
  refine ⟨R.wf, R.wb, R.base, R.ln, R.sto, fun j a e => ?_, fun j k a e1 e2 => ?_, fun j => ?_⟩
  · unfold setO at e
    by_cases z : j = i
    · rw [if_pos z] at e; cases e
    · rw [if_neg z] at e; exact R.own j a e
  · unfold setO at e1 e2
    by_cases z : j = i
    · rw [if_pos z] at e1; cases e1
    · by_cases z' : k = i
      · rw [if_pos z'] at e2; cases e2
      · rw [if_neg z] at e1; rw [if_neg z'] at e2; exact R.inj j k a e1 e2
  · by_cases z : j = i
    · subst z
      rw [Env.set_same]
      exact if_pos rfl
    · rw [Env.set_ne z]
      unfold setO
      rw [if_neg z]
      exact R.env j
theorem RR.fresh {w0 : Wd} {d : D} {v : V} (R0 : Rel G B O r st s w0) (h : RR G .fr O w0 w d v) : ∃ a, v = .ref a ∧ w.M a ∧ a ∉ w.u ∧ B.H a = none ∧ (∀ j, O j ≠ some a) ∧ RC G w a d := by
  obtain ⟨a, e, n, m, u, c⟩ := h
  refine ⟨a, e, m, u, ?_, fun i z => R0.wf.mh a (R0.own i a z).1 n, c⟩
  cases z : B.H a with
  | none => rfl
  | some o => exact absurd n (R0.base.hh a (by rw [z]; simp))
end

def sSkip : Sv := fun r st => .nx r st
def sSq (f g : Sv) : Sv := fun r st => match f r st with
  | .nx r1 st1 => g r1 st1
  | x => x
def ofRs (x : Rs) (r : Env) (k : D → Sto → Rt) : Rt := match x with
  | .ok d st => k d st
  | .err c a st => .err c a r st
  | .bad => .bad
def sEx (f : Ev) : Sv := fun r st => ofRs (f r st) r fun _ st1 => .nx r st1
def sSet (i : Nat) (f : Ev) : Sv := fun r st => ofRs (f r st) r fun d st1 => .nx (r.set i (some (false, d))) st1
def sOwn (i : Nat) (f : Ev) : Sv := fun r st => ofRs (f r st) r fun d st1 => .nx (r.set i (some (true, d))) st1
def sRet (f : Ev) : Sv := fun r st => ofRs (f r st) r fun d st1 => .rt d st1
def sRetN : Sv := fun _ st => .rt .non st
def sRetOwn (i : Nat) : Sv := fun r st => match r i with | some (true, d) => .rt d st | _ => .bad
def sIf (c : Ev) (f g : Sv) : Sv := fun r st => ofRs (c r st) r fun d st1 => match d with
  | .bl true => f r st1
  | .bl false => g r st1
  | _ => .bad
def sFix (i : Nat) (f : Sv) : Sv := fun r st => match r i with
  | some (true, d) => f (r.set i (some (false, d))) st
  | some (false, _) => f r st
  | none => .bad
section
variable {X : Cx} {B : Bs} {k : Kd} {fr : Bool} {Wx : WX} {a b c : Expr} {es : List Expr} {fs : List Ev} {f g h : Ev} {pos : Pos} {st1 st2 : Stmt} {rest : List Stmt} {F F' : Sv}
theorem tS_of {Dn : Ends} {s : L2.St} {H : Hp} {K : Env → D → Sto → Rt} (q : tS (cg X) B fr Wx (fun r st => ofRs (f r st) r (K r)) Dn s H) :
    tE (cg X) B k Wx f s H (fun v H1 => ∃ O r w0 d st1 w1, w1.H = H1 ∧ Rel (cg X) B O r st1 s w1 ∧ Ext w0 w1 ∧ (∃ st0, Rel (cg X) B O r st0 s w0) ∧ RR (cg X) k O w0 w1 d v ∧ postS (cg X) B fr Wx w0 (K r d st1) Dn) := by
  obtain ⟨O, r, st, w, rfl, R, q⟩ := q
  refine ⟨O, r, st, w, rfl, R, ?_⟩
  have q : postS (cg X) B fr Wx w (ofRs (f r st) r (K r)) Dn := q
  unfold ofRs at q
  cases z : f r st with
  | ok d st' =>
    rw [z] at q
    exact fun w' v R' x rr => ⟨O, r, w, d, st', w', rfl, R', x, ⟨st, R⟩, rr, q⟩
  | err c a st' =>
    rw [z] at q
    exact fun w' cls dd R' x rx => q O s w' cls dd R' (x.wk R.wf) rx
  | bad => rw [z] at q; exact q.elim
theorem jss_nil : JSs X B fr Wx [] sSkip := by
  refine pss_imp pss_nil ?_
  rintro D s H ⟨O, r, st, w, rfl, R, q⟩
  exact q O s w R (Wk.refl w)
theorem jss_cons (h1 : JS X B fr Wx st1 F) (h2 : JSs X B fr Wx rest F') : JSs X B fr Wx (st1 :: rest) (sSq F F') := by
  refine pss_imp (pss_cons h1 h2) ?_
  rintro D s H ⟨O, r, st, w, rfl, R, q⟩
  refine ⟨O, r, st, w, rfl, R, ?_⟩
  unfold sSq at q
  cases z : F r st with
  | nx r1 st1 =>
    rw [z] at q
    exact fun O' s' w' R' k' => ⟨O', r1, st1, w', rfl, R', postS.weak k' q⟩
  | rt d st1 => rw [z] at q; exact q
  | bk r1 st1 => rw [z] at q; exact q
  | ct r1 st1 => rw [z] at q; exact q
  | err c a r1 st1 => rw [z] at q; exact q
  | bad => rw [z] at q; exact q.elim
theorem jss_one (h1 : JS X B fr Wx st1 F) : JSs X B fr Wx [st1] F := pss_one h1
theorem js_ex (he : JE X B k Wx a f) (hs : swapsWith a none pos.line X.env = pure false := by rfl) : JS X B fr Wx (.Expr a pos) (sEx f) := by
  refine ps_imp (ps_expr he hs) ?_
  rintro D s H q
  obtain ⟨O, r, st, w, e, R, q⟩ := tS_of (k := k) q
  refine ⟨O, r, st, w, e, R, q.mono ?_⟩
  rintro v H1 ⟨O1, r1, w0, d, st1, w1, rfl, R1, x1, ⟨_, R0⟩, _, q1⟩
  exact q1 O1 s w1 R1 (x1.wk R0.wf)
theorem js_set {i : Nat} {x : Str} {pos' : Pos} (hN : X.N.Nodup) (hi : X.N[i]? = some x) (hx : Loc X.env.scope x) (hL : B.L = X.N.length) (he : JE X B .sh Wx a f) (hs : swapsWith a (some (.Name x pos')) pos.line X.env = pure false := by rfl)
    (hf : X.fn x = true ∨ X.env.scope.names.lookup x = some .local := by first | exact .inl rfl | exact .inr rfl | assumption) : JS X B fr Wx (.Assign [.Name x pos'] a pos) (sSet i f) := by
  refine ps_imp (ps_set hN hi hx he hs hf) ?_
  rintro D s H q
  obtain ⟨O, r, st, w, e, R, q⟩ := tS_of (k := .sh) q
  refine ⟨O, r, st, w, e, R, q.mono ?_⟩
  rintro v H1 ⟨O1, r1, w0, d, st1, w1, rfl, R1, x1, ⟨_, R0⟩, rr, q1⟩
  have hl : i < B.L := by rw [hL]; exact (List.getElem?_eq_some_iff.mp hi).1
  exact q1 _ _ w1 (R1.put hl rr) (x1.wk R0.wf)
theorem js_own {i : Nat} {x : Str} {pos' : Pos} (hN : X.N.Nodup) (hi : X.N[i]? = some x) (hx : Loc X.env.scope x) (hL : B.L = X.N.length) (he : JE X B .fr Wx a f) (hs : swapsWith a (some (.Name x pos')) pos.line X.env = pure false := by rfl)
    (hf : X.fn x = true ∨ X.env.scope.names.lookup x = some .local := by first | exact .inl rfl | exact .inr rfl | assumption) : JS X B fr Wx (.Assign [.Name x pos'] a pos) (sOwn i f) := by
  refine ps_imp (ps_set hN hi hx he hs hf) ?_
  rintro D s H q
  obtain ⟨O, r, st, w, e, R, q⟩ := tS_of (k := .fr) q
  refine ⟨O, r, st, w, e, R, q.mono ?_⟩
  rintro v H1 ⟨O1, r1, w0, d, st1, w1, rfl, R1, x1, ⟨_, R0⟩, rr, q1⟩
  have hl : i < B.L := by rw [hL]; exact (List.getElem?_eq_some_iff.mp hi).1
  obtain ⟨a, rfl, m, u, hb, ho, c⟩ := RR.fresh R0 rr
  exact q1 _ _ w1 (R1.putOwn hl m u hb ho c) (x1.wk R0.wf)
theorem js_ret (he : JE X B (kdF fr) Wx a f) : JS X B fr Wx (.Return (some a) pos) (sRet f) := by
  refine ps_imp (ps_ret he) ?_
  rintro D s H q
  obtain ⟨O, r, st, w, e, R, q⟩ := tS_of (k := kdF fr) q
  refine ⟨O, r, st, w, e, R, q.mono ?_⟩
  rintro v H1 ⟨O1, r1, w0, d, st1, w1, rfl, R1, x1, ⟨_, R0⟩, rr, q1⟩
  refine q1 w1 v R1.toF R1.base ?_
  cases fr with
  | true =>
    have rr : RR (cg X) .fr O1 w0 w1 d v := rr
    rw [if_pos rfl]
    exact RR.rebase (O := fun _ => none) R0.base rr
  | false => rw [if_neg (by simp)]; exact rr
theorem js_retOwn {i : Nat} {x : Str} {p : Pos} (hN : X.N[i]? = some x) (hv : Vis X.env.scope x) (hd : (x == ("__debug__" : Str)) = false := by decide) (hcd : (x == ("__classdict__" : Str)) = false := by decide) : JS X B true Wx (.Return (some (.Name x p)) pos) (sRetOwn i) := by
  refine ps_imp (ps_ret (pe_var (pos := p) hN hv hd hcd)) ?_
  rintro D s H ⟨O, r, st, w, rfl, R, q⟩
  have e := R.env i
  unfold sRetOwn at q
  match z : r i, q with
  | none, q => exact q.elim
  | some (false, d), q => exact q.elim
  | some (true, d), q =>
    rw [z] at e
    obtain ⟨a, o, e1, e2⟩ := e
    refine ⟨_, e1, q w _ R.toF R.base ?_⟩
    rw [if_pos rfl]
    exact ⟨a, rfl, (R.own i a o).2.2, (R.own i a o).1, (R.own i a o).2.1, e2⟩
theorem js_if {sa sb : List Stmt} (hc : JT X B Wx c h) (ha : JSs X B fr Wx sa F) (hb : JSs X B fr Wx sb F') : JS X B fr Wx (.If c sa sb pos) (sIf h F F') := by
  refine ps_imp (ps_if hc ha hb) ?_
  rintro D s H q
  obtain ⟨O, r, st, w, e, R, q⟩ := tS_of (k := .sh) q
  refine ⟨O, r, st, w, e, R, q.mono ?_⟩
  rintro v H1 ⟨O1, r1, w0, d, st1, w1, rfl, R1, x1, ⟨_, R0⟩, rr, q1⟩
  cases d with
  | bl z =>
    refine ⟨z, rr.shB, ?_⟩
    cases z with
    | true => exact ⟨O1, r1, st1, w1, rfl, R1, postS.weak (x1.wk R0.wf) q1⟩
    | false => exact ⟨O1, r1, st1, w1, rfl, R1, postS.weak (x1.wk R0.wf) q1⟩
  | _ => exact (show False from q1).elim
theorem Rel.giveSlot {i : Nat} {d : D} {O : Nat → Option Addr} {r : Env} {st : Sto} {s : L2.St} {w : Wd} {G : Cfg} (R : Rel G B O r st s w) (e : r i = some (true, d)) (nd : ∀ ks ds, d ≠ .dct ks ds) : ∃ O' w', w'.H = w.H ∧ Rel G B O' (r.set i (some (false, d))) st s w' ∧ Wk w w' := by
  have q := R.env i
  rw [e] at q
  obtain ⟨a, o, e1, c⟩ := q
  have own := R.own i a o
  refine ⟨setO O i none, w.fix a, rfl, ?_, w.fix_wk a⟩
  have R2 := (R.drop (i := i)).fix own.2.2 own.2.1 (fun j z => by
    unfold setO at z
    by_cases h : j = i
    · rw [if_pos h] at z; cases z
    · rw [if_neg h] at z; exact h (R.inj j i a z o))
  have hi : i < B.L := by
    rw [← R.ln]
    exact (List.getElem?_eq_some_iff.mp e1).1
  have R3 := R2.put hi (c.give nd)
  have es : s.set i (some (V.ref a)) = s := by
    refine List.ext_getElem? fun j => ?_
    by_cases h : i = j
    · subst h
      rw [List.getElem?_set_self (by rw [R.ln]; exact hi), e1]
    · rw [List.getElem?_set_ne h]
  rw [es] at R3
  have eo : setO (setO O i none) i none = setO O i none := by
    funext j; unfold setO; split <;> rfl
  have er : (r.set i none).set i (some (false, d)) = r.set i (some (false, d)) := by
    funext j; unfold Env.set; split <;> rfl
  rw [eo, er] at R3
  exact R3
theorem Rel.giveSlotD {i : Nat} {ks ds : List D} {O : Nat → Option Addr} {r : Env} {st : Sto} {s : L2.St} {w : Wd} {G : Cfg} (R : Rel G B O r st s w) (e : r i = some (true, .dct ks ds)) :
    ∃ a u, w.H a = some u ∧ Mut (some u) ∧ ∀ ob, ∃ O' w', w'.H = upd w.H a (.frz ob u) ∧ Rel G B O' (r.set i (some (false, .dct ks ds))) st s w' ∧ Wk w w' := by
  have q := R.env i
  rw [e] at q
  obtain ⟨a, o, e1, c⟩ := q
  have own := R.own i a o
  obtain ⟨u, h1, mu, h2⟩ := c.giveD own.1 own.2.1
  refine ⟨a, u, h1, mu, fun ob => ⟨setO O i none, w.lock a (.frz ob u), rfl, ?_, w.lock_wk own.1⟩⟩
  have R2 := (R.drop (i := i)).lock (o := .frz ob u) own.1 own.2.2 own.2.1 (fun j z => by
    unfold setO at z
    by_cases h : j = i
    · rw [if_pos h] at z; cases z
    · rw [if_neg h] at z; exact h (R.inj j i a z o))
  have hi : i < B.L := by
    rw [← R.ln]
    exact (List.getElem?_eq_some_iff.mp e1).1
  have R3 := R2.put hi (h2 ob)
  have es : s.set i (some (V.ref a)) = s := by
    refine List.ext_getElem? fun j => ?_
    by_cases h : i = j
    · subst h
      rw [List.getElem?_set_self (by rw [R.ln]; exact hi), e1]
    · rw [List.getElem?_set_ne h]
  rw [es] at R3
  have eo : setO (setO O i none) i none = setO O i none := by
    funext j; unfold setO; split <;> rfl
  have er : (r.set i none).set i (some (false, .dct ks ds)) = r.set i (some (false, .dct ks ds)) := by
    funext j; unfold Env.set; split <;> rfl
  rw [eo, er] at R3
  exact R3
def tFixS (t : TS) : TS := fun D s H => t D s H ∨ ∃ d u, H d = some u ∧ Mut (some u) ∧ ∀ od, t D s (upd H d (.frz od u))
theorem ps_fixS {st : Stmt} {t : TS} (h : PS X st t) : PS X st (tFixS t) := by
  refine ⟨fun pins s σ H D I q => ?_⟩
  rcases q with q | ⟨d, u, hd, mu, q⟩
  · exact h.run pins s σ H D I q
  · obtain ⟨od, I2⟩ := I.lock hd mu
    exact h.run pins s σ _ D I2 (q od)
theorem js_fix {i : Nat} (h1 : JS X B fr Wx st1 F) : JS X B fr Wx st1 (sFix i F) := by
  refine ps_imp (ps_fixS h1) ?_
  rintro D s H ⟨O, r, st, w, rfl, R, q⟩
  unfold sFix at q
  match z : r i, q with
  | none, q => exact q.elim
  | some (false, d), q => exact .inl ⟨O, r, st, w, rfl, R, q⟩
  | some (true, d), q =>
    by_cases hd : ∃ ks ds, d = .dct ks ds
    · obtain ⟨ks, ds, rfl⟩ := hd
      obtain ⟨a, u, h1, mu, h2⟩ := R.giveSlotD z
      refine .inr ⟨a, u, h1, mu, fun ob => ?_⟩
      obtain ⟨O', w', e, R', k'⟩ := h2 ob
      exact ⟨O', _, st, w', e, R', postS.weak k' q⟩
    · obtain ⟨O', w', e, R', k'⟩ := R.giveSlot z fun ks ds e => hd ⟨ks, ds, e⟩
      exact .inl ⟨O', _, st, w', e, R', postS.weak k' q⟩
end
end Sm

namespace Sm
open PySem L2
abbrev Tg := D → Env → Option Env
def tgN (i : Nat) : Tg := fun d r => some (r.set i (some (false, d)))
def tgs : List Tg → List D → Env → Option Env
  | [], [], r => some r
  | t :: ts, d :: ds, r => (t d r).bind (tgs ts ds)
  | _, _, _ => none
def tgU (ts : List Tg) : Tg := fun d r => match d with
  | .tup ds => tgs ts ds r
  | _ => none
def But (js : List Nat) (s s' : L2.St) : Prop := s'.length = s.length ∧ ∀ j, j ∉ js → s'[j]? = s[j]?
def tG (G : Cfg) (B : Bs) (js : List Nat) (t : Tg) : TG := fun v s H Q => ∃ O r st w d r', w.H = H ∧ Rel G B O r st s w ∧ RD G w d v ∧ t d r = some r' ∧ ∀ O' s', Rel G B O' r' st s' w → But js s s' → Q s' H
def tGs (G : Cfg) (B : Bs) (js : List Nat) (ts : List Tg) : TGs := fun vs s H Q => ∃ O r st w ds r', w.H = H ∧ Rel G B O r st s w ∧ RDs G w ds vs ∧ tgs ts ds r = some r' ∧ ∀ O' s', Rel G B O' r' st s' w → But js s s' → Q s' H
def JG (X : Cx) (B : Bs) (js : List Nat) (tg : Expr) (t : Tg) : Prop := PG X tg (tG (cg X) B js t)
def JGs (X : Cx) (B : Bs) (js : List Nat) (tg : List Expr) (t : List Tg) : Prop := PGs X tg (tGs (cg X) B js t)
theorem But.refl {js : List Nat} {s : L2.St} : But js s s := ⟨rfl, fun _ _ => rfl⟩
theorem But.trans {i j : List Nat} {a b c : L2.St} (x : But i a b) (y : But j b c) : But (i ++ j) a c := ⟨y.1.trans x.1, fun k n => by
  simp only [List.mem_append, not_or] at n
  rw [y.2 k n.2, x.2 k n.1]⟩
theorem But.set {i : Nat} {s : L2.St} {x : Option V} : But [i] s (s.set i x) := ⟨by rw [List.length_set], fun j n => by
  rw [List.getElem?_set_ne (fun e => n (by rw [e]; exact List.mem_singleton.mpr rfl))]⟩
theorem But.mono {i j : List Nat} {a b : L2.St} (x : But i a b) (h : ∀ k ∈ i, k ∈ j) : But j a b := ⟨x.1, fun k n => x.2 k fun m => n (h k m)⟩
section
variable {X : Cx} {B : Bs} {k : Kd} {fr : Bool} {Wx : WX} {a b c tg iter e elt : Expr} {es : List Expr} {fs : List Ev} {f g h : Ev} {pos : Pos} {st1 st2 : Stmt} {rest body : List Stmt} {F F' : Sv} {t : Tg} {ts : List Tg}
theorem pg_imp {t t' : TG} (h : PG X tg t) (q : ∀ v s H Q, t' v s H Q → t v s H Q) : PG X tg t' := ⟨fun pins s σ H v u Q I r h' => h.run pins s σ H v u Q I r (q v σ H Q h')⟩
theorem pgs_imp {t t' : TGs} (h : PGs X es t) (q : ∀ v s H Q, t' v s H Q → t v s H Q) : PGs X es t' := ⟨fun pins s σ H v u Q I r h' => h.run pins s σ H v u Q I r (q v σ H Q h')⟩
theorem jg_name {i : Nat} {x : Str} (hN : X.N.Nodup) (hi : X.N[i]? = some x) (hx : Loc X.env.scope x) (hL : B.L = X.N.length) (hf : X.fn x = true ∨ X.env.scope.names.lookup x = some .local := by first | exact .inl rfl | exact .inr rfl | assumption) : JG X B [i] (.Name x pos) (tgN i) := by
  refine pg_imp (pg_name hN hi hx hf) ?_
  rintro v s H Q ⟨O, r, st, w, d, r', rfl, R, rd, e, q⟩
  cases e
  have hl : i < B.L := by rw [hL]; exact (List.getElem?_eq_some_iff.mp hi).1
  exact q _ _ (R.put hl rd) But.set
theorem jgs_nil : JGs X B [] [] [] := by
  refine pgs_imp pgs_nil ?_
  rintro v s H Q ⟨O, r, st, w, ds, r', rfl, R, rd, e, q⟩
  cases ds with
  | nil =>
    cases e
    unfold RDs at rd
    exact ⟨rd, q _ _ R But.refl⟩
  | cons d ds => cases e
theorem jgs_cons {i j : List Nat} (h1 : JG X B i a t) (h2 : JGs X B j es ts) (hs : (assignEach (a :: es) X.env).map (·.2) = assign a X.env :: (assignEach es X.env).map (·.2) := by rfl) : JGs X B (i ++ j) (a :: es) (t :: ts) := by
  refine pgs_imp (pgs_cons h1 h2 hs) ?_
  rintro v s H Q ⟨O, r, st, w, ds, r', rfl, R, rd, e, q⟩
  cases ds with
  | nil => cases e
  | cons d ds =>
    unfold RDs at rd
    obtain ⟨v1, vr, rfl, rd1, rd2⟩ := rd
    have e : (t d r).bind (tgs ts ds) = some r' := e
    cases z : t d r with
    | none => rw [z] at e; cases e
    | some r1 =>
      rw [z] at e
      refine ⟨v1, vr, rfl, O, r, st, w, d, r1, rfl, R, rd1, z, fun O1 s1 R1 b1 => ?_⟩
      exact ⟨O1, r1, st, w, ds, r', rfl, R1, rd2, e, fun O2 s2 R2 b2 => q O2 s2 R2 (b1.trans b2)⟩
theorem jg_tup {kk n : Nat} {js : List Nat} (hc : X.calm = true) (h : JGs X B js es ts) (hn : ts.length = n := by rfl) (hn2 : (assignEach es X.env).length = n := by rfl) (hst : (assignEach es X.env).findIdx? (·.1) = none := by rfl) : JG X B js (.Tuple es kk pos) (tgU ts) := by
  refine pg_imp (pg_tup (n := n) hc h hn2 hst) ?_
  rintro v s H Q ⟨O, r, st, w, d, r', rfl, R, rd, e, q⟩
  cases d with
  | tup ds =>
    unfold RD at rd
    obtain ⟨p, vs, rfl, tt, rs⟩ := rd
    have e : tgs ts ds r = some r' := e
    have len : ∀ (ts : List Tg) (ds : List D) (r : Env), tgs ts ds r = some r' → ds.length = ts.length := by
      intro ts
      induction ts with
      | nil => intro ds r e; cases ds with
        | nil => rfl
        | cons _ _ => cases e
      | cons t ts ih => intro ds r e; cases ds with
        | nil => cases e
        | cons d ds =>
          have e : (t d r).bind (tgs ts ds) = some r' := e
          cases z : t d r with
          | none => rw [z] at e; cases e
          | some r1 =>
            rw [z] at e
            simp [ih ds r1 e]
    refine ⟨p, vs, rfl, tt.sq, by rw [← rs.length, len ts ds r e, hn], O, r, st, w, ds, r', rfl, R, rs, e, q⟩
  | _ => cases e

def sTo (t : Tg) (f : Ev) : Sv := fun r st => ofRs (f r st) r fun d st1 => match t d r with | some r' => .nx r' st1 | none => .bad
theorem js_to {js : List Nat} (hg : JG X B js tg t) (he : JE X B .sh Wx a f) (hs : swapsWithSole [tg] a pos.line X.env = pure false := by rfl) (hw : swappedStores [tg] a X.env = pure none := by rfl) (h1 : (assignEach [tg] X.env).map (·.2) = [assign tg X.env] := by rfl) : JS X B fr Wx (.Assign [tg] a pos) (sTo t f) := by
  refine ps_imp (ps_asg he hg hs hw h1) ?_
  rintro D s H q
  obtain ⟨O, r, st, w, e, R, q⟩ := tS_of (k := .sh) q
  refine ⟨O, r, st, w, e, R, q.mono ?_⟩
  rintro v H1 ⟨O1, r1, w0, d, st1, w1, rfl, R1, x1, ⟨_, R0⟩, rr, q1⟩
  cases z : t d r1 with
  | none => rw [z] at q1; exact q1.elim
  | some r' =>
    rw [z] at q1
    exact ⟨O1, r1, st1, w1, d, r', rfl, R1, rr, z, fun O' s' R' _ => q1 O' s' w1 R' (x1.wk R0.wf)⟩

abbrev Gd := List (Nat × SO)
def okG (gs : Gd) (st : Sto) : Prop := ∀ g ∈ gs, st[g.1]? = some g.2
def GdOk (G : Cfg) (w : Wd) (gs : Gd) : Prop := ∀ g ∈ gs, ∀ a, w.u[g.1]? = some a → RSO G w a g.2
theorem okG.at {G : Cfg} {w : Wd} {gs : Gd} {st : Sto} (h : okG gs st) (S : RSt G w st) : GdOk G w gs := fun g m a e => S.at_ g.1 _ a (h g m) e
theorem okG_nil {st : Sto} : okG [] st ↔ True := ⟨fun _ => trivial, fun _ g m => nomatch m⟩
inductive RsI where
  | ok (ds : List D) (gs : Gd) (st : Sto) | err (c : Str) (a : Option (Str × D)) (st : Sto) | bad
def Wks (G : Cfg) (w1 : Wd) (J : It) (ds : List D) (gs : Gd) : Prop :=
  ∀ w2, Wk w1 w2 → WF w2 → GdOk G w2 gs → ∀ i : Nat, (∀ d, ds[i]? = some d → J.go i w2.H ∧ ∀ x H', J.yld i w2.H x H' → ∃ w3, w3.H = H' ∧ Ext w2 w3 ∧ WF w3 ∧ w3.u = w2.u ∧ (∀ a ∈ w2.u, w3.H a = w2.H a) ∧ RD G w3 d x) ∧ (ds.length ≤ i → J.stop i w2.H)
abbrev Iv := Env → Sto → RsI
def tI (G : Cfg) (B : Bs) (Wx : WX) (f : Iv) : TI := fun s H R => ∃ O r st w, w.H = H ∧ Rel G B O r st s w ∧ match f r st with
  | .ok ds gs st1 => ∀ J w1, Rel G B O r st1 s w1 → Ext w w1 → Wks G w1 J ds gs → R J w1.H
  | .err c a st1 => ∀ w' cls dd, Rel G B O r st1 s w' → Ext w w' → RX G w' c a cls dd → Wx cls dd s w'.H
  | .bad => False
def JI (X : Cx) (B : Bs) (Wx : WX) (tg iter : Expr) (f : Iv) : Prop := PI X tg iter (tI (cg X) B Wx f)
theorem pi_imp {t t' : TI} (h : PI X tg iter t) (q : ∀ s H R, t' s H R → t s H R) : PI X tg iter t' := ⟨fun pins s σ H R I h' => h.run pins s σ H R I (q σ H R h')⟩
theorem pi_seq {te : TE} (he : PE X iter te) : PI X tg iter (fun σ H R => te σ H fun x H1 => (∃ a, x = .ref a ∧ (∃ xs, SqL X.K H1 a xs) ∧ R (Itl X.K a) H1) ∨ (∃ a, x = .ref a ∧ (∃ xs, SqT X.K H1 a xs) ∧ R (Itt X.K a) H1)) := by
  constructor
  intro pins s0 sl H R I h
  refine thn (he.run pins s0 sl H _ I h) ?_
  rintro v s1 ⟨x, H1, J1, rel, q1⟩
  have new : ∀ {o : Obj} (hd : ∀ c, o.data ≠ .cell c), Inv X pins sl H1 { s1 with heap := s1.heap.push o } ∧ ∀ b ∈ [s1.heap.objs.size], FpOk X pins H1 b := fun {o} _ => by
    refine ⟨J1.kept (t' := s1.toks) (fun b u z => Heap.get?_push_of_some _ z), fun b hb => ?_⟩
    rw [List.mem_singleton.mp hb]
    exact J1.fpOk (Nat.le_refl _) (J1.hok.fresh (Nat.le_refl _))
  rcases q1 with ⟨a, rfl, ⟨xs, hx⟩, hR⟩ | ⟨a, rfl, ⟨xs, hx⟩, hR⟩
  · cases rel
    obtain ⟨its, rv, pl, _⟩ := J1.list hx
    have N := new (o := { cls := .type "list_iterator", data := .fields #[.ref a, .int 0 0] }) (fun c z => by cases z)
    exact wpAny_pyIter_list pl.isList ⟨_, _, _, _, _, rfl, N.1, turn_list a _, ⟨_, Heap.get?_push_size _ rfl, rfl, rfl⟩, N.2, hR⟩
  · cases rel
    obtain ⟨its, rv, pl, _⟩ := J1.tuple hx
    have N := new (o := { cls := .type "tuple_iterator", data := .fields #[.ref a, .int 0 0] }) (fun c z => by cases z)
    exact wpAny_pyIter_tuple (show s1.heap.IsTuple a its.toArray from pl) ⟨_, _, _, _, _, rfl, N.1, turn_tuple a _, ⟨_, Heap.get?_push_size _ rfl, rfl, rfl⟩, N.2, hR⟩
def itSeq (f : Ev) : Iv := fun r st => match f r st with
  | .ok d st1 => match d with
    | .lst ds => .ok ds [] st1
    | .tup ds => .ok ds [] st1
    | .ref n => (match st1[n]? with
      | some (.lst ds) => .ok ds [(n, .lst ds)] st1
      | _ => .bad)
    | _ => .bad
  | .err c a st1 => .err c a st1
  | .bad => .bad
theorem RDs.none {G : Cfg} {w : Wd} {ds : List D} {vs : List V} {i : Nat} (h : RDs G w ds vs) (e : ds.length ≤ i) : vs.length ≤ i := by rw [← h.length]; exact e
theorem wks_list {G : Cfg} {w : Wd} {a : Addr} {ds : List D} {vs : List V} {K : PySem.W.Frag} (h : Im w a (.lst vs)) (r : RDs G w ds vs) : Wks G w (Itl K a) ds [] := by
  intro w2 k2 f2 _ i
  have h2 := k2.im _ _ h
  have r2 := RDs.wk k2 _ _ r
  refine ⟨fun d e => ?_, fun e => ⟨vs, h2.sq, r2.none e⟩⟩
  obtain ⟨v, e1, e2⟩ := r2.get e
  refine ⟨⟨vs, v, h2.sq, e1⟩, fun x H' y => ?_⟩
  obtain ⟨rfl, y⟩ := y
  have z := y vs h2.sq
  rw [e1] at z
  cases z
  exact ⟨w2, rfl, Ext.refl _, f2, rfl, fun _ _ => rfl, e2⟩
theorem wks_tup {G : Cfg} {w : Wd} {a : Addr} {ds : List D} {vs : List V} (h : TpI G.K w a vs) (r : RDs G w ds vs) : Wks G w (Itt G.K a) ds [] := by
  intro w2 k2 f2 _ i
  have h2 := k2.tp h
  have r2 := RDs.wk k2 _ _ r
  refine ⟨fun d e => ?_, fun e => ⟨vs, h2.sq, r2.none e⟩⟩
  obtain ⟨v, e1, e2⟩ := r2.get e
  refine ⟨⟨vs, v, h2.sq, e1⟩, fun x H' y => ?_⟩
  obtain ⟨rfl, y⟩ := y
  have z := y vs h2.sq
  rw [e1] at z
  cases z
  exact ⟨w2, rfl, Ext.refl _, f2, rfl, fun _ _ => rfl, e2⟩
theorem wks_ref {G : Cfg} {w : Wd} {n : Nat} {a : Addr} {ds : List D} {K : PySem.W.Frag} (h : w.u[n]? = some a) : Wks G w (Itl K a) ds [(n, .lst ds)] := by
  intro w2 k2 f2 g2 i
  obtain ⟨r, e, _⟩ := k2.mu
  have h2 : w2.u[n]? = some a := by rw [e, List.getElem?_append_left (List.getElem?_eq_some_iff.mp h).1]; exact h
  obtain ⟨vs, hH, r2⟩ := g2 (n, .lst ds) (List.mem_singleton.mpr rfl) a h2
  have sq : SqL K w2.H a vs := .of hH
  refine ⟨fun d e => ?_, fun e => ⟨vs, sq, r2.none e⟩⟩
  obtain ⟨v, e1, e2⟩ := r2.get e
  refine ⟨⟨vs, v, sq, e1⟩, fun x H' y => ?_⟩
  obtain ⟨rfl, y⟩ := y
  have z := y vs sq
  rw [e1] at z
  cases z
  exact ⟨w2, rfl, Ext.refl _, f2, rfl, fun _ _ => rfl, e2⟩
theorem ji_seq (he : JE X B .sh Wx iter f) : JI X B Wx tg iter (itSeq f) := by
  refine pi_imp (pi_seq he) ?_
  rintro s H R' ⟨O, r, st, w, rfl, R, q⟩
  refine ⟨O, r, st, w, rfl, R, ?_⟩
  unfold itSeq at q
  cases z : f r st with
  | ok d st1 =>
    rw [z] at q
    intro w1 v R1 x1 rr
    cases d with
    | lst ds =>
      have rr : RD (cg X) w1 (.lst ds) v := rr
      unfold RD at rr
      obtain ⟨a, vs, rfl, t, rs⟩ := rr
      exact .inl ⟨a, rfl, ⟨vs, t.sq⟩, q _ w1 R1 x1 (wks_list t rs)⟩
    | tup ds =>
      have rr : RD (cg X) w1 (.tup ds) v := rr
      unfold RD at rr
      obtain ⟨a, vs, rfl, t, rs⟩ := rr
      exact .inr ⟨a, rfl, ⟨vs, t.sq⟩, q _ w1 R1 x1 (wks_tup t rs)⟩
    | ref n =>
      have rr : RD (cg X) w1 (.ref n) v := rr
      cases y : st1[n]? with
      | none => simp only [y] at q
      | some so =>
        obtain ⟨al, rfl, eu, o⟩ := R1.sto.ref rr y
        cases so with
        | lst ds =>
          simp only [y] at q
          obtain ⟨vs, hH, rs⟩ := o
          exact .inl ⟨al, rfl, ⟨vs, .of hH⟩, q _ w1 R1 x1 (wks_ref eu)⟩
        | _ => simp only [y] at q
    | _ => exact (show False from q).elim
  | err c a st1 => rw [z] at q; exact q
  | bad => rw [z] at q; exact q.elim
def B62 : Int := 4611686018427387904
def rangeD (lo : Int) (n : Nat) : List D := (List.range n).map fun (i : Nat) => .int (lo + (i : Int))
def itR1 (f : Ev) : Iv := fun r st => match f r st with
  | .ok d st1 => match d with
    | .int j => if -B62 ≤ j ∧ j < B62 then .ok (rangeD 0 j.toNat) [] st1 else .bad
    | _ => .bad
  | .err c a st1 => .err c a st1
  | .bad => .bad
def itR2 (f g : Ev) : Iv := fun r st => match f r st with
  | .ok d st1 => match g r st1 with
    | .ok d2 st2 => match d, d2 with
      | .int i, .int j => if (-B62 ≤ i ∧ i < B62) ∧ (-B62 ≤ j ∧ j < B62) then .ok (rangeD i (j - i).toNat) [] st2 else .bad
      | _, _ => .bad
    | .err c a st1 => .err c a st1
    | .bad => .bad
  | .err c a st1 => .err c a st1
  | .bad => .bad
theorem wks_range {G : Cfg} {w : Wd} {lo : Int} {n : Nat} : Wks G w (Itr lo n) (rangeD lo n) [] := by
  intro w2 k2 f2 _ i
  refine ⟨fun d e => ?_, fun e => (show n ≤ i by simpa [rangeD] using e)⟩
  have hi : i < n := by
    have := (List.getElem?_eq_some_iff.mp e).1
    simpa [rangeD] using this
  refine ⟨hi, fun x H' y => ?_⟩
  obtain ⟨rfl, rfl⟩ := y
  refine ⟨w2, rfl, Ext.refl _, f2, rfl, fun _ _ => rfl, ?_⟩
  have e2 : d = .int (lo + (i : Int)) := by
    simp [rangeD, List.getElem?_map, List.getElem?_range hi] at e
    exact e.symm
  subst e2
  exact rdI
theorem ji_range1 {p : Pos} (hg : Gl X "range") (hm : X.mg "range" = none) (ha : JA X B .bo Wx [a] [f]) (hs : starEach [a] X.env = [(false, eval a X.env)] := by rfl) : JI X B Wx tg (.Call (.Name "range" p) [a] [] pos) (itR1 f) := by
  refine pi_imp (pi_range1 hg hm ha hs) ?_
  rintro s H R' ⟨O, r, st, w, rfl, R, q⟩
  refine ⟨O, r, st, w, rfl, R, ?_⟩
  unfold itR1 at q
  simp only [evs]
  cases z : f r st with
  | ok d st1 =>
    rw [z] at q
    intro w1 vs R1 x1 rr
    obtain ⟨v, vr, rfl, rr, e⟩ := rr
    cases d with
    | int j =>
      have e : vr = [] := e
      subst e
      by_cases hz : -B62 ≤ j ∧ j < B62
      · have q : ∀ J w1, Rel (cg X) B O r st1 s w1 → Ext w w1 → Wks (cg X) w1 J (rangeD 0 j.toNat) [] → R' J w1.H := by
          have q0 := q
          simp only [if_pos hz] at q0
          exact q0
        have eb : B62 = 2 ^ 62 := by decide
        rw [eb] at hz
        exact ⟨j, by rw [rr.int], hz.1, hz.2, q _ w1 R1 x1 wks_range⟩
      · simp only [if_neg hz] at q
    | _ => exact (show False from q).elim
  | err c a st1 => rw [z] at q; exact q
  | bad => rw [z] at q; exact q.elim
theorem ji_range2 {p : Pos} (hg : Gl X "range") (hm : X.mg "range" = none) (ha : JA X B .bo Wx [a, b] [f, g]) (hs : starEach [a, b] X.env = [(false, eval a X.env), (false, eval b X.env)] := by rfl) (hs2 : starEach [b] X.env = [(false, eval b X.env)] := by rfl) :
    JI X B Wx tg (.Call (.Name "range" p) [a, b] [] pos) (itR2 f g) := by
  refine pi_imp (pi_range2 hg hm ha hs hs2) ?_
  rintro s H R' ⟨O, r, st, w, rfl, R, q⟩
  refine ⟨O, r, st, w, rfl, R, ?_⟩
  unfold itR2 at q
  simp only [evs]
  cases z : f r st with
  | ok d st1 =>
    rw [z] at q
    simp only [Rs.bindL] at q ⊢
    cases z2 : g r st1 with
    | ok d2 st2 =>
      rw [z2] at q
      intro w1 vs R1 x1 rr
      obtain ⟨v, vr, rfl, rr, v2, vr2, rfl, rr2, e⟩ := rr
      have e : vr2 = [] := e
      subst e
      cases d with
      | int i =>
        cases d2 with
        | int j =>
          by_cases hz : (-B62 ≤ i ∧ i < B62) ∧ (-B62 ≤ j ∧ j < B62)
          · have q : ∀ J w1, Rel (cg X) B O r st2 s w1 → Ext w w1 → Wks (cg X) w1 J (rangeD i (j - i).toNat) [] → R' J w1.H := by
              have q0 := q
              simp only [if_pos hz] at q0
              exact q0
            have eb : B62 = 2 ^ 62 := by decide
            rw [eb] at hz
            exact ⟨i, j, by rw [rr.int, rr2.int], ⟨hz.1.1, hz.1.2, hz.2.1, hz.2.2⟩, q _ w1 R1 x1 wks_range⟩
          · simp only [if_neg hz] at q
        | _ => exact (show False from q).elim
      | _ => exact (show False from q).elim
    | err c a st1 => rw [z2] at q; exact q
    | bad => rw [z2] at q; exact q.elim
  | err c a st1 => rw [z] at q; exact q
  | bad => rw [z] at q; exact q.elim
end
end Sm

namespace Sm
open PySem L2
open Classical in
noncomputable def forL (t : Tg) (F : Sv) (gs : Gd) : List D → Env → Sto → Rt
  | [], r, st => if okG gs st then .nx r st else .bad
  | d :: ds, r, st => if okG gs st then (match t d r with
    | none => .bad
    | some r1 => match F r1 st with
      | .nx r2 st2 => forL t F gs ds r2 st2
      | .ct r2 st2 => forL t F gs ds r2 st2
      | .bk r2 st2 => .nx r2 st2
      | x => x) else .bad
noncomputable def sFor (it : Iv) (t : Tg) (F : Sv) : Sv := fun r st => match it r st with
  | .ok ds gs st1 => forL t F gs ds r st1
  | .err c a st1 => .err c a r st1
  | .bad => .bad
def whN (c : Ev) (F : Sv) : Nat → Env → Sto → Option Rt
  | 0, _, _ => none
  | n + 1, r, st => match c r st with
    | .ok (.bl true) st1 => match F r st1 with
      | .nx r2 st2 => whN c F n r2 st2
      | .ct r2 st2 => whN c F n r2 st2
      | .bk r2 st2 => some (.nx r2 st2)
      | x => some x
    | .ok (.bl false) st1 => some (.nx r st1)
    | .err k a st1 => some (.err k a r st1)
    | _ => some .bad
open Classical in
noncomputable def sWhile (c : Ev) (F : Sv) : Sv := fun r st => if h : ∃ x, ∃ n, whN c F n r st = some x then h.choose else .bad
theorem whN_mono {c : Ev} {F : Sv} : ∀ {n : Nat} {r : Env} {st : Sto} {x : Rt}, whN c F n r st = some x → ∀ m, n ≤ m → whN c F m r st = some x
  | 0, r, st, x, h, _, _ => by cases h
  | n + 1, r, st, x, h, 0, hm => absurd hm (by omega)
  | n + 1, r, st, x, h, m + 1, hm => by
    have ih : ∀ {r : Env} {st : Sto} {x : Rt}, whN c F n r st = some x → whN c F m r st = some x := fun q => whN_mono q m (by omega)
    unfold whN at h ⊢
    split at h
    · split at h
      · exact ih h
      · exact ih h
      · exact h
      · exact h
    · exact h
    · exact h
    · exact h
theorem sWhile_of {c : Ev} {F : Sv} {n : Nat} {r : Env} {st : Sto} {x : Rt} (h : whN c F n r st = some x) : sWhile c F r st = x := by
  unfold sWhile
  have hx : ∃ x, ∃ n, whN c F n r st = some x := ⟨x, n, h⟩
  rw [dif_pos hx]
  obtain ⟨m, e⟩ := hx.choose_spec
  have e1 := whN_mono h (max n m) (Nat.le_max_left _ _)
  have e2 := whN_mono e (max n m) (Nat.le_max_right _ _)
  rw [e1] at e2
  exact (Option.some.inj e2).symm
theorem sWhile_none {c : Ev} {F : Sv} {r : Env} {st : Sto} (h : ∀ n, whN c F n r st = none) : sWhile c F r st = .bad := by
  unfold sWhile
  rw [dif_neg]
  rintro ⟨x, n, e⟩
  rw [h n] at e
  cases e
section
variable {X : Cx} {B : Bs} {k : Kd} {fr : Bool} {Wx : WX} {a b c tg iter e elt : Expr} {es : List Expr} {fs : List Ev} {f g h : Ev} {pos : Pos} {st1 st2 : Stmt} {rest body : List Stmt} {F F' : Sv} {t : Tg} {ts : List Tg} {it : Iv}
theorem js_for {js : List Nat} (hp : PassesOwn (model X.prog X.w) X.A X.env X.xe) (hc : X.calm = true) (hi : JI X B Wx tg iter it) (hg : JG X B js tg t) (hb : JSs X B fr Wx body F) (hs : ∀ x, foldedSetIterable iter X.env x = pure x := by intro _; rfl) :
    JS X B fr Wx (.For tg iter body [] pos) (sFor it t F) := by
  refine ps_imp (ps_for hp hc hi hg hb hs) ?_
  rintro Dn s H ⟨O, r, st, w, rfl, R, q⟩
  refine ⟨O, r, st, w, rfl, R, ?_⟩
  unfold sFor at q
  cases z : it r st with
  | ok ds gs st1 =>
    rw [z] at q
    intro J w1 R1 x1 wk
    have q := postS.weak (x1.wk R.wf) q
    refine ⟨fun i m σ H => m = ds.length - i ∧ i ≤ ds.length ∧ ∃ O r st w2, w2.H = H ∧ Rel (cg X) B O r st σ w2 ∧ Wk w1 w2 ∧ postS (cg X) B fr Wx w1 (forL t F gs (ds.drop i) r st) Dn, ⟨_, rfl, Nat.zero_le _, O, r, st1, w1, rfl, R1, Wk.refl _, q⟩, ?_⟩
    rintro i m σ H ⟨rfl, hi, O2, r2, st2, w2, rfl, R2, k2, q2⟩
    have hG : okG gs st2 := by
      by_cases hG : okG gs st2
      · exact hG
      · exfalso
        cases y : ds.drop i with
        | nil => rw [y] at q2; unfold forL at q2; rw [if_neg hG] at q2; exact q2
        | cons a b => rw [y] at q2; unfold forL at q2; rw [if_neg hG] at q2; exact q2
    have W := wk w2 k2 R2.wf (hG.at R2.sto) i
    by_cases hlt : i < ds.length
    · have ed : ds[i]? = some ds[i] := List.getElem?_eq_getElem hlt
      have edr : ds.drop i = ds[i] :: ds.drop (i + 1) := List.drop_eq_getElem_cons hlt
      obtain ⟨go, yl⟩ := W.1 _ ed
      rw [edr] at q2
      unfold forL at q2
      rw [if_pos hG] at q2
      refine .inr ⟨go, fun σ H => ∃ O r st w2, w2.H = H ∧ Rel (cg X) B O r st σ w2 ∧ Wk w1 w2 ∧ postS (cg X) B fr Wx w1 (forL t F gs (ds.drop (i + 1)) r st) Dn, fun σ' H' n => ⟨_, by omega, rfl, hlt, n⟩, fun x H' y => ?_⟩
      obtain ⟨w3, rfl, x3, f3, u3, a3, rd⟩ := yl x H' y
      have R3 := R2.keep f3 x3 u3 a3
      have k3 := k2.trans (x3.wk R2.wf)
      cases et : t ds[i] r2 with
      | none => rw [et] at q2; exact q2.elim
      | some r3 =>
        rw [et] at q2
        refine ⟨O2, r2, st2, w3, ds[i], r3, rfl, R3, rd, et, fun O4 s4 R4 _ => ⟨O4, r3, st2, w3, rfl, R4, ?_⟩⟩
        cases ef : F r3 st2 with
        | nx r5 st5 => simp only [ef] at q2; exact fun O s w R5 k5 => ⟨O, r5, st5, w, rfl, R5, k3.trans k5, q2⟩
        | ct r5 st5 => simp only [ef] at q2; exact fun O s w R5 k5 => ⟨O, r5, st5, w, rfl, R5, k3.trans k5, q2⟩
        | bk r5 st5 => simp only [ef] at q2; exact fun O s w R5 k5 => q2 O s w R5 (k3.trans k5)
        | rt d st5 => simp only [ef] at q2; exact q2
        | err c a r5 st5 => simp only [ef] at q2; exact fun O s w cls dd R5 k5 rx => q2 O s w cls dd R5 (k3.trans k5) rx
        | bad => simp only [ef] at q2; exact q2.elim
    · have e : i = ds.length := by omega
      subst e
      refine .inl ⟨W.2 (Nat.le_refl _), ?_⟩
      rw [List.drop_length] at q2
      unfold forL at q2
      rw [if_pos hG] at q2
      exact q2 O2 σ w2 R2 k2
  | err c a st1 =>
    rw [z] at q
    exact fun w' cls dd R' x rx => q O s w' cls dd R' (x.wk R.wf) rx
  | bad => rw [z] at q; exact q.elim
theorem js_while (hp : PassesOwn (model X.prog X.w) X.A X.env X.xe) (hc : JT X B Wx c h) (hb : JSs X B fr Wx body F) : JS X B fr Wx (.While c body [] pos) (sWhile h F) := by
  refine ps_imp (ps_while hp hc hb) ?_
  rintro Dn s H ⟨O, r, st, w, rfl, R, q⟩
  by_cases z : ∃ x, ∃ n, whN h F n r st = some x
  · obtain ⟨x, n, ex⟩ := z
    rw [sWhile_of ex] at q
    refine ⟨fun m σ H => ∃ O r st w2 x, w2.H = H ∧ Rel (cg X) B O r st σ w2 ∧ Wk w w2 ∧ whN h F m r st = some x ∧ postS (cg X) B fr Wx w x Dn, ⟨n, O, r, st, w, x, rfl, R, Wk.refl _, ex, q⟩, ?_⟩
    rintro m σ H ⟨O2, r2, st2, w2, x2, rfl, R2, k2, e2, q2⟩
    refine ⟨O2, r2, st2, w2, rfl, R2, ?_⟩
    cases m with
    | zero => cases e2
    | succ m =>
      unfold whN at e2
      cases z : h r2 st2 with
      | ok d st3 =>
        intro w3 v R3 x3 rr
        cases d with
        | bl b =>
          refine ⟨b, rr.shB, ?_⟩
          rw [z] at e2
          have k3 := k2.trans (x3.wk R2.wf)
          cases b with
          | true =>
            rw [if_pos rfl]
            refine ⟨fun σ H => ∃ O r st w2 x, w2.H = H ∧ Rel (cg X) B O r st σ w2 ∧ Wk w w2 ∧ whN h F m r st = some x ∧ postS (cg X) B fr Wx w x Dn, fun σ' H' hn => ⟨m, Nat.lt_succ_self _, hn⟩, O2, r2, st3, w3, rfl, R3, ?_⟩
            simp only at e2
            cases ef : F r2 st3 with
            | nx r5 st5 => simp only [ef] at e2; exact fun O s w' R5 k5 => ⟨O, r5, st5, w', x2, rfl, R5, k3.trans k5, e2, q2⟩
            | ct r5 st5 => simp only [ef] at e2; exact fun O s w' R5 k5 => ⟨O, r5, st5, w', x2, rfl, R5, k3.trans k5, e2, q2⟩
            | bk r5 st5 => simp only [ef] at e2; cases e2; exact fun O s w' R5 k5 => q2 O s w' R5 (k3.trans k5)
            | rt d st5 => simp only [ef] at e2; cases e2; exact q2
            | err c a r5 st5 => simp only [ef] at e2; cases e2; exact fun O s w' cls dd R5 k5 rx => q2 O s w' cls dd R5 (k3.trans k5) rx
            | bad => simp only [ef] at e2; cases e2; exact q2.elim
          | false =>
            rw [if_neg (by simp)]
            simp only at e2
            cases e2
            exact q2 O2 σ w3 R3 k3
        | _ =>
          rw [z] at e2
          simp only at e2
          cases e2
          exact q2.elim
      | err cc a st3 =>
        rw [z] at e2
        simp only at e2
        cases e2
        exact fun w' cls dd R' x rx => q2 O2 σ w' cls dd R' (k2.trans (x.wk R2.wf)) rx
      | bad =>
        rw [z] at e2
        simp only at e2
        cases e2
        exact q2.elim
  · have z' : ∀ n, whN h F n r st = none := fun n => by
      cases q : whN h F n r st with
      | none => rfl
      | some x => exact absurd ⟨x, n, q⟩ z
    rw [sWhile_none z'] at q
    exact q.elim
end
end Sm

namespace Sm
open PySem L2
def Wd.chg (w : Wd) (p : Addr) (o : HO) : Wd := ⟨upd w.H p o, w.M, w.u⟩
theorem Wd.chg_wk {w : Wd} {p : Addr} {o : HO} (m : w.M p) : Wk w (w.chg p o) := ⟨fun a u h => ⟨by
  show upd w.H p o a = some u
  rw [upd_ne (fun e => h.2 (by rw [e]; exact m))]; exact h.1, h.2⟩, [], by simp [Wd.chg]⟩
theorem Wd.chg_wf {w : Wd} {p : Addr} {o : HO} (f : WF w) (m : w.M p) : WF (w.chg p o) := ⟨fun a m => by
  show upd w.H p o a ≠ none
  by_cases e : a = p
  · subst e; rw [upd_same]; simp
  · rw [upd_ne e]; exact f.mh a m, fun a ha => by
    by_cases e : a = p
    · exact .inl (e ▸ m)
    · exact (f.um a ha).imp id fun ⟨ob, u, q⟩ => ⟨ob, u, (upd_ne e).trans q⟩, f.nd⟩
theorem Ext.chg {w0 w : Wd} {p : Addr} {o : HO} (x : Ext w0 w) (n : w0.H p = none) : Ext w0 (w.chg p o) := by
  have ne : ∀ a, w0.H a ≠ none → a ≠ p := fun a h e => h (by rw [e]; exact n)
  exact ⟨fun a h u => (upd_ne (ne a h)).trans (x.hk a h u), x.mt, x.mn, x.mu, fun a h => by
    show upd w.H p o a ≠ none
    rw [upd_ne (ne a h)]; exact x.hh a h⟩
theorem RSt.chg {G : Cfg} {w : Wd} {st : Sto} {p : Addr} {o : HO} (h : RSt G w st) (m : w.M p) (u : p ∉ w.u) : RSt G (w.chg p o) st := h.keep (Wd.chg_wk m) rfl fun a ha => upd_ne (fun e => u (by rw [← e]; exact ha))

theorem wipe_get {s : L2.St} {j : Nat} : ∀ {vs : List Nat}, (wipe s vs)[j]? = if j ∈ vs then (if j < s.length then some none else none) else s[j]?
  | [] => by simp [wipe]
  | v :: vs => by
    unfold wipe
    rw [List.getElem?_set]
    by_cases e : v = j
    · subst e
      simp [wipe_length]
    · rw [if_neg e, wipe_get (vs := vs)]
      have : (j ∈ v :: vs) ↔ j ∈ vs := by simp [Ne.symm e]
      simp only [this]
theorem wipe_but {s s' : L2.St} {js vs : List Nat} (b : But js (wipe s vs) s') (h : ∀ j ∈ js, j ∈ vs) : wipe s' vs = wipe s vs := by
  refine List.ext_getElem? fun j => ?_
  have hl : s'.length = s.length := by rw [b.1, wipe_length]
  rw [wipe_get, wipe_get, hl]
  by_cases e : j ∈ vs
  · rw [if_pos e, if_pos e]
  · rw [if_neg e, if_neg e, b.2 j (fun m => e (h j m)), wipe_get, if_neg e]
def wp (vs : List Nat) (r : Env) : Env := fun j => if j ∈ vs then none else r j
theorem Rel.wipe {G : Cfg} {B : Bs} {O : Nat → Option Addr} {r : Env} {st : Sto} {s : L2.St} {w : Wd} {vs : List Nat} (R : Rel G B O r st s w) : Rel G B (fun j => if j ∈ vs then none else O j) (wp vs r) st (L2.wipe s vs) w := by
  refine ⟨R.wf, R.wb, R.base, by rw [wipe_length]; exact R.ln, R.sto, fun i a e => ?_, fun i j a e1 e2 => ?_, fun i => ?_⟩
  · by_cases z : i ∈ vs
    · simp [z] at e
    · simp [z] at e; exact R.own i a e
  · by_cases z : i ∈ vs
    · simp [z] at e1
    · by_cases z' : j ∈ vs
      · simp [z'] at e2
      · simp [z] at e1; simp [z'] at e2; exact R.inj i j a e1 e2
  · by_cases z : i ∈ vs
    · simp only [wp, if_pos z]
      rfl
    · simp only [wp, if_neg z]
      rw [wipe_get, if_neg z]
      exact R.env i
open Classical in
noncomputable def lcL (t : Tg) (c e : Ev) (gs : Gd) (r : Env) : List D → List D → Sto → Rs
  | [], acc, st => if okG gs st then .ok (.lst acc) st else .bad
  | d :: ds, acc, st => if okG gs st then (match t d r with
    | none => .bad
    | some r1 => match c r1 st with
      | .ok (.bl true) st1 => (match e r1 st1 with
        | .ok x st2 => if acc.length < LIM then lcL t c e gs r ds (acc ++ [x]) st2 else .bad
        | _ => .bad)
      | .ok (.bl false) st1 => lcL t c e gs r ds acc st1
      | _ => .bad) else .bad
noncomputable def bLc (it : Iv) (t : Tg) (c e : Ev) (vs : List Nat) : Ev := fun r st => match it r st with
  | .ok ds gs st1 => lcL t c e gs (wp vs r) ds [] st1
  | .err k a st1 => .err k a st1
  | .bad => .bad
def nvX : WX := fun _ _ _ _ => False
section
variable {X : Cx} {B : Bs} {k : Kd} {fr : Bool} {Wx : WX} {a b c tg iter e elt : Expr} {es ifs : List Expr} {fs : List Ev} {f g h : Ev} {pos : Pos} {st1 st2 : Stmt} {rest body : List Stmt} {F F' : Sv} {t : Tg} {ts : List Tg} {it : Iv}
theorem takes_nv : Takes X nvX := fun u s' ⟨_, _, _, _, _, _, _, _, _, _, _, _, _, _, _, _, w⟩ => w.elim
theorem tE_lc {js vs : List Nat} (hj : ∀ j ∈ js, j ∈ vs) {s : L2.St} {H : Hp} {Q : VK} (q : tE (cg X) B .fr Wx (bLc it t g f vs) s H Q) :
    tLc (tI (cg X) B Wx it) (tG (cg X) B js t) (tTest (tE (cg X) B .sh nvX g)) (tE (cg X) B .sh nvX f) vs s H Q := by
  obtain ⟨O, r, st, w, rfl, R, q⟩ := q
  refine ⟨O, r, st, w, rfl, R, ?_⟩
  unfold bLc at q
  cases z : it r st with
  | ok ds gs st1 =>
    rw [z] at q
    intro J w1 R1 x1 wk Da hD
    have q := post.rebase x1 q
    have lm := LIM_le
    refine ⟨fun i m H => m = ds.length - i ∧ i ≤ ds.length ∧ ∃ st acc accV w2, w2.H = H ∧ RelF (cg X) st w2 ∧ Ext w1 w2 ∧ w2.H Da = some (.lst accV) ∧ RDs (cg X) w2 acc accV ∧ w2.M Da ∧ Da ∉ w2.u ∧
      post (cg X) B .fr Wx O r s w1 (lcL t g f gs (wp vs r) (ds.drop i) acc st) Q, ⟨_, rfl, Nat.zero_le _, st1, [], [], w1.add Da (.lst []) true, rfl, (R1.add hD).toF, Wd.add_ext hD, upd_same, by unfold RDs; rfl, .inr ⟨rfl, rfl⟩, fun m => R1.wf.un m hD, q⟩, ?_⟩
    rintro i m H ⟨rfl, hi, st2, acc, accV, w2, rfl, F2, x2, hDa, ra, mD, uD, q2⟩
    have hG : okG gs st2 := by
      by_cases hG : okG gs st2
      · exact hG
      · exfalso
        cases y : ds.drop i with
        | nil => rw [y] at q2; unfold lcL at q2; rw [if_neg hG] at q2; exact q2
        | cons a b => rw [y] at q2; unfold lcL at q2; rw [if_neg hG] at q2; exact q2
    have W := wk w2 (x2.wk R1.wf) F2.wf (hG.at F2.sto) i
    by_cases hlt : i < ds.length
    · have ed : ds[i]? = some ds[i] := List.getElem?_eq_getElem hlt
      have edr : ds.drop i = ds[i] :: ds.drop (i + 1) := List.drop_eq_getElem_cons hlt
      obtain ⟨go, yl⟩ := W.1 _ ed
      rw [edr] at q2
      unfold lcL at q2
      rw [if_pos hG] at q2
      refine .inr ⟨go, fun H => ∃ st acc accV w2, w2.H = H ∧ RelF (cg X) st w2 ∧ Ext w1 w2 ∧ w2.H Da = some (.lst accV) ∧ RDs (cg X) w2 acc accV ∧ w2.M Da ∧ Da ∉ w2.u ∧
        post (cg X) B .fr Wx O r s w1 (lcL t g f gs (wp vs r) (ds.drop (i + 1)) acc st) Q, fun H' n => ⟨_, by omega, rfl, hlt, n⟩, fun x H' y => ?_⟩
      obtain ⟨w3, rfl, x3, f3, u3, a3, rd⟩ := yl x H' y
      have F3 : RelF (cg X) st2 w3 := ⟨f3, F2.sto.keep (x3.wk F2.wf) u3 a3⟩
      have R3 := (R1.ofF F3 (x2.trans x3)).wipe (vs := vs)
      cases et : t ds[i] (wp vs r) with
      | none => rw [et] at q2; exact q2.elim
      | some r3 =>
        simp only [et] at q2
        refine ⟨_, _, st2, w3, ds[i], r3, rfl, R3, rd, et, fun O4 s4 R4 b4 => ⟨wipe_but b4 hj, O4, r3, st2, w3, rfl, R4, ?_⟩⟩
        -- Da at a later world
        have at_ : ∀ {w' : Wd}, Ext w2 w' → w'.H Da = some (.lst accV) ∧ w'.M Da ∧ Da ∉ w'.u := fun {w'} x' => by
          refine ⟨(x'.hk Da (by rw [hDa]; simp) (.inl uD)).trans hDa, x'.mt Da mD, fun m => ?_⟩
          obtain ⟨rr, e1, fr⟩ := x'.mu
          rw [e1] at m
          rcases List.mem_append.mp m with m | m
          · exact uD m
          · rw [fr Da m] at hDa; cases hDa
        cases ec : g r3 st2 with
        | ok d st4 =>
          simp only [ec] at q2
          intro w4 v R4' x4 rr
          have x24 := x3.trans x4
          cases d with
          | bl b =>
            refine ⟨b, rr.shB, ?_⟩
            cases b with
            | true =>
              rw [if_pos rfl]
              refine ⟨O4, r3, st4, w4, rfl, R4', ?_⟩
              cases ee : f r3 st4 with
              | ok d5 st5 =>
                simp only [ee] at q2
                intro w5 v5 R5 x5 rd5
                have x25 := x24.trans x5
                obtain ⟨hD5, mD5, uD5⟩ := at_ x25
                by_cases hz : acc.length < LIM
                · rw [if_pos hz] at q2
                  have rl := ra.length
                  refine ⟨accV, hD5, by omega, st5, acc ++ [d5], accV ++ [v5], w5.chg Da (.lst (accV ++ [v5])), rfl, ⟨Wd.chg_wf R5.wf mD5, R5.sto.chg mD5 uD5⟩, (x2.trans x25).chg hD, upd_same, ?_, mD5, uD5, q2⟩
                  exact RDs.append (RDs.wk ((x25.wk F2.wf).trans (Wd.chg_wk mD5)) _ _ ra) (RDs.one (RD.wk (Wd.chg_wk mD5) _ _ rd5))
                · rw [if_neg hz] at q2
                  exact q2.elim
              | err _ _ _ => simp only [ee] at q2; exact q2.elim
              | bad => simp only [ee] at q2; exact q2.elim
            | false =>
              rw [if_neg (by simp)]
              obtain ⟨hD4, mD4, uD4⟩ := at_ x24
              exact ⟨st4, acc, accV, w4, rfl, R4'.toF, x2.trans x24, hD4, RDs.wk (x24.wk F2.wf) _ _ ra, mD4, uD4, q2⟩
          | _ => exact (show False from q2).elim
        | err _ _ _ => simp only [ec] at q2; exact q2.elim
        | bad => simp only [ec] at q2; exact q2.elim
    · have e : i = ds.length := by omega
      subst e
      refine .inl ⟨W.2 (Nat.le_refl _), ?_⟩
      rw [List.drop_length] at q2
      unfold lcL at q2
      rw [if_pos hG] at q2
      exact q2 w2 _ (R1.ofF F2 x2) x2 ⟨Da, rfl, hD, mD, uD, accV, hDa, ra⟩
  | err c a st1 => rw [z] at q; exact q
  | bad => rw [z] at q; exact q.elim
def JP (X : Cx) (B : Bs) (ifs : List Expr) (g : Ev) : Prop := PTs X ifs (tTest (tE (cg X) B .sh nvX g))
theorem jp_nil : JP X B [] (bC (.bl true)) := by
  refine ⟨fun pins s σ H Q I h => pts_nil.run pins s σ H Q I ?_⟩
  obtain ⟨O, r, st, w, rfl, R, q⟩ := h
  obtain ⟨z, e, q⟩ := q w (.bl true) R (Ext.refl w) (show RD (cg X) w (.bl true) (.bl true) from rdB)
  cases e
  exact q
theorem jp_one (h : JT X B nvX c g) : JP X B [c] g := pts_one h
theorem je_lc {js : List Nat} {scope : Scope} {own : List (Str × Nat)} (hc : X.calm = true) (hN : X.N.Nodup) (hi : JI X B Wx tg iter it) (ok : BlkOk X.N X.env.scope scope own) (hj : ∀ j ∈ js, j ∈ own.map (·.2))
    (hg : ∀ (s : Shared) (H : Hp) (C : Addr) (cl : List (Str × Addr)) (fp : List Addr), JG (X.blk s H scope (compEnvC scope cl C X.env) fp) B js tg t) (ht : ∀ (s : Shared) (H : Hp) (C : Addr) (cl : List (Str × Addr)) (fp : List Addr), JP (X.blk s H scope (compEnvC scope cl C X.env) fp) B ifs g)
    (he : ∀ (s : Shared) (H : Hp) (C : Addr) (cl : List (Str × Addr)) (fp : List Addr), JE (X.blk s H scope (compEnvC scope cl C X.env) fp) B .sh nvX elt f) (hs : ∀ x, foldedSetIterable iter X.env x = pure x := by intro _; rfl) :
    JE X B .fr Wx (.ListComp elt [⟨tg, iter, ifs, 0⟩] scope pos) (bLc it t g f (own.map (·.2))) :=
  pe_imp (pe_lc (g := tG (cg X) B js t) (tt := tTest (tE (cg X) B .sh nvX g)) (te := tE (cg X) B .sh nvX f) hc hN hi ok hg ht he hs) fun _ _ _ q => tE_lc hj q
theorem asg_set {i : Nat} {D : Ends} {s : L2.St} {H : Hp} (hl : i < B.L) (hf : ∀ r st ks ds st', f r st ≠ .ok (.dct ks ds) st') (q : tS (cg X) B fr Wx (sSet i f) D s H) : tAsg (tE (cg X) B .fr Wx f) (gName i) D s H := by
  have q' : tS (cg X) B fr Wx (fun r st => ofRs (f r st) r fun d st1 => match d with | .dct _ _ => .bad | d => .nx (r.set i (some (false, d))) st1) D s H := by
    obtain ⟨O, r, st, w, e, R, q⟩ := q
    refine ⟨O, r, st, w, e, R, ?_⟩
    unfold sSet at q
    cases z : f r st with
    | ok d st1 =>
      rw [z] at q
      cases d with
      | dct ks ds => exact absurd z (hf r st ks ds st1)
      | _ => simp only [z]; exact q
    | err _ _ _ => rw [z] at q; simp only [z]; exact q
    | bad => rw [z] at q; simp only [z]; exact q
  obtain ⟨O, r, st, w, e, R, q⟩ := tS_of (k := .fr) q'
  refine ⟨O, r, st, w, e, R, q.mono ?_⟩
  rintro v H1 ⟨O1, r1, w0, d, st1, w1, rfl, R1, x1, ⟨_, R0⟩, rr, q1⟩
  obtain ⟨a, rfl, m, u, hb, ho, c⟩ := RR.fresh R0 rr
  cases d with
  | dct ks ds => exact (show False from q1).elim
  | lst ds =>
    have R2 := (R1.fix hb u ho).put hl (c.give fun _ _ z => nomatch z)
    exact q1 _ _ (w1.fix a) R2 ((x1.wk R0.wf).trans (w1.fix_wk a))
  | _ => exact (show False from c).elim
theorem lcL_nd {t : Tg} {c e : Ev} {gs : Gd} {r : Env} {ks vs : List D} {st' : Sto} : ∀ {ds acc : List D} {st : Sto}, lcL t c e gs r ds acc st ≠ .ok (.dct ks vs) st'
  | [], acc, st => by
    unfold lcL
    split
    · intro h; cases h
    · intro h; cases h
  | d :: ds, acc, st => by
    unfold lcL
    split
    · split
      · intro h; cases h
      · split
        · split
          · split
            · exact lcL_nd
            · intro h; cases h
          · intro h; cases h
        · exact lcL_nd
        · intro h; cases h
    · intro h; cases h
theorem bLc_nd {c e : Ev} {vs : List Nat} {r : Env} {st : Sto} {ks ds : List D} {st' : Sto} : bLc it t c e vs r st ≠ .ok (.dct ks ds) st' := by
  unfold bLc
  split
  · exact lcL_nd
  · intro h; cases h
  · intro h; cases h
theorem js_setLc {js : List Nat} {i : Nat} {y : Str} {py spos : Pos} {scope : Scope} {own : List (Str × Nat)} (hc : X.calm = true) (hN : X.N.Nodup) (hy : X.N[i]? = some y) (hyl : X.env.scope.names.lookup y = some .local) (hL : B.L = X.N.length)
    (hsw : swapsWith (.ListComp elt [⟨tg, iter, ifs, 0⟩] scope pos) (some (.Name y py)) spos.line X.env = pure true) (hi : JI X B Wx tg iter it) (ok : BlkOk X.N X.env.scope scope own) (hj : ∀ j ∈ js, j ∈ own.map (·.2))
    (hg : ∀ (s : Shared) (H : Hp) (C : Addr) (cl : List (Str × Addr)) (fp : List Addr), JG (X.blk s H scope (compEnvC scope cl C X.env) fp) B js tg t) (ht : ∀ (s : Shared) (H : Hp) (C : Addr) (cl : List (Str × Addr)) (fp : List Addr), JP (X.blk s H scope (compEnvC scope cl C X.env) fp) B ifs g)
    (he : ∀ (s : Shared) (H : Hp) (C : Addr) (cl : List (Str × Addr)) (fp : List Addr), JE (X.blk s H scope (compEnvC scope cl C X.env) fp) B .sh nvX elt f) (hs : ∀ x, foldedSetIterable iter X.env x = pure x := by intro _; rfl) :
    JS X B fr Wx (.Assign [.Name y py] (.ListComp elt [⟨tg, iter, ifs, 0⟩] scope pos) spos) (sSet i (bLc it t g f (own.map (·.2)))) := by
  refine ps_imp (ps_setLc (g := tG (cg X) B js t) (tt := tTest (tE (cg X) B .sh nvX g)) (te := tE (cg X) B .sh nvX f) hc hN hy hyl hsw hi ok hg ht he hs) ?_
  intro D s H q
  exact tE_lc hj (asg_set (by rw [hL]; exact (List.getElem?_eq_some_iff.mp hy).1) (fun _ _ _ _ _ => bLc_nd) q)
end
end Sm

namespace Sm
open PySem L2
section
variable {G : Cfg} {B : Bs} {O : Nat → Option Addr} {r : Env} {st : Sto} {s : L2.St} {w : Wd}
theorem nodup_at {α : Type} : ∀ {l : List α} {i j : Nat} {a : α}, l.Nodup → l[i]? = some a → l[j]? = some a → i = j
  | x :: l, 0, 0, a, _, _, _ => rfl
  | x :: l, 0, j + 1, a, h, e1, e2 => by
    simp at e1; subst e1
    exact absurd (List.mem_of_getElem? (by simpa using e2)) (List.nodup_cons.mp h).1
  | x :: l, i + 1, 0, a, h, e1, e2 => by
    simp at e2; subst e2
    exact absurd (List.mem_of_getElem? (by simpa using e1)) (List.nodup_cons.mp h).1
  | x :: l, i + 1, j + 1, a, h, e1, e2 => by
    exact congrArg (· + 1) (nodup_at (List.nodup_cons.mp h).2 (by simpa using e1) (by simpa using e2))
theorem Ext.chgU {w0 w : Wd} {p : Addr} {o : HO} (x : Ext w0 w) (n : w0.H p = none ∨ (p ∈ w0.u ∧ w0.M p)) : Ext w0 (w.chg p o) := by
  refine ⟨fun a h u => ?_, x.mt, x.mn, x.mu, fun a h => ?_⟩
  · have ne : a ≠ p := fun e => by
      rcases n with n | n
      · exact h (by rw [e]; exact n)
      · exact u.elim (fun z => z (by rw [e]; exact n.1)) fun z => z (by rw [e]; exact n.2)
    exact (upd_ne ne).trans (x.hk a h u)
  · show upd w.H p o a ≠ none
    by_cases e : a = p
    · subst e; rw [upd_same]; simp
    · rw [upd_ne e]; exact x.hh a h
theorem Rel.chgOwn {i : Nat} {d0 d : D} {a : Addr} {o : HO} (R : Rel G B O r st s w) (e : r i = some (true, d0)) (oi : O i = some a) (c : RC G (w.chg a o) a d) : Rel G B O (r.set i (some (true, d))) st s (w.chg a o) := by
  obtain ⟨m, u, hb⟩ := R.own i a oi
  have k := Wd.chg_wk (o := o) m
  refine ⟨Wd.chg_wf R.wf m, R.wb, R.base.chg hb, R.ln, R.sto.chg m u, R.own, R.inj, fun j => ?_⟩
  have q := R.env j
  by_cases z : j = i
  · subst z
    rw [e] at q
    obtain ⟨a', o1, e1, _⟩ := q
    rw [oi] at o1
    cases o1
    rw [Env.set_same]
    exact ⟨a, oi, e1, c⟩
  · rw [Env.set_ne z]
    exact q.wk k fun b ob => upd_ne fun eb => z (R.inj j i a (by rw [← eb]; exact ob) oi)
theorem Rel.chgSto {n : Nat} {so0 so : SO} {a : Addr} {o : HO} (R : Rel G B O r st s w) (m : w.M a) (e : st[n]? = some so0) (ea : w.u[n]? = some a) (c : RSO G (w.chg a o) a so) : Rel G B O r (st.set n so) s (w.chg a o) := by
  have mu := List.mem_of_getElem? ea
  have k := Wd.chg_wk (o := o) m
  have hb : B.H a = none ∨ (a ∈ B.u ∧ B.M a) := by
    obtain ⟨q, e2, fr⟩ := R.base.mu
    rw [e2] at mu
    rcases List.mem_append.mp mu with z | z
    · exact .inr ⟨z, Classical.byContradiction fun nm => R.base.mn a (R.wb.un z) nm m⟩
    · exact .inl (fr a z)
  refine ⟨Wd.chg_wf R.wf m, R.wb, R.base.chgU hb, R.ln, ⟨by rw [List.length_set]; exact R.sto.len, fun j oj b h1 h2 => ?_⟩, R.own, R.inj, fun j => (R.env j).wk k fun b ob => upd_ne fun eb => (R.own j b ob).2.1 (by rw [eb]; exact mu)⟩
  by_cases z : j = n
  · subst z
    have h2 : w.u[j]? = some b := h2
    rw [ea] at h2; cases h2
    rw [List.getElem?_set_self (List.getElem?_eq_some_iff.mp e).1] at h1
    cases h1
    exact c
  · rw [List.getElem?_set_ne (Ne.symm z)] at h1
    have h2 : w.u[j]? = some b := h2
    refine RSO.wk k (upd_ne fun eb => z ?_) (R.sto.at_ j oj b h1 h2)
    rw [eb] at h2
    exact nodup_at R.wf.nd h2 ea
end

def sApp (i : Nat) (f : Ev) : Sv := fun r st => match r i with
  | some (true, .lst ds) => ofRs (f r st) r fun d st1 => if ds.length < LIM then .nx (r.set i (some (true, .lst (ds ++ [d])))) st1 else .bad
  | _ => .bad
def putL (ds : List D) (j d : D) (k : List D → Rt) : Rt := match j with
  | .int z => (match ixN ds.length z with
    | some n => k (ds.set n d)
    | none => .bad)
  | _ => .bad
def sPut (i : Nat) (g f : Ev) : Sv := fun r st => ofRs (f r st) r fun d st1 => match r i with
  | some (true, .lst ds) => ofRs (g r st1) r fun j st2 => putL ds j d fun es => .nx (r.set i (some (true, .lst es))) st2
  | _ => .bad
def putR (r : Env) (st : Sto) (o j d : D) : Rt := match o with
  | .ref n => (match st[n]? with
    | some (.lst ds) => putL ds j d fun es => .nx r (st.set n (.lst es))
    | _ => .bad)
  | _ => .bad
def sPutR (p g f : Ev) : Sv := fun r st => ofRs (f r st) r fun d st1 => ofRs (p r st1) r fun o st2 => ofRs (g r st2) r fun j st3 => putR r st3 o j d
section
variable {X : Cx} {B : Bs} {k : Kd} {fr : Bool} {Wx : WX} {a b c tg iter e elt : Expr} {es ifs : List Expr} {fs : List Ev} {f g h : Ev} {pos : Pos} {st1 st2 : Stmt} {rest body : List Stmt} {F F' : Sv} {t : Tg} {ts : List Tg} {it : Iv}
theorem js_app {i : Nat} {x : Str} {p apos cpos : Pos} (hN : X.N[i]? = some x) (hv : Vis X.env.scope x) (ha : JA X B .sh Wx [a] [f]) (hd : (x == ("__debug__" : Str)) = false := by decide) (hcd : (x == ("__classdict__" : Str)) = false := by decide)
    (hbase : attributeBase (.Name x p) "append" X.env (eval (.Name x p) X.env) = eval (.Name x p) X.env := by rfl)
    (hfew : ((backTo cpos (starEach [a] X.env)).all (fun x => !x.1) && (backToKw cpos (keywordEach [] X.env)).all (fun x => x.1.isSome) && decide ([a].length + ([] : List Keyword).length + (if ([] : List Keyword).isEmpty then 0 else 1) < 30)) = true := by rfl)
    (hline : (apos.endLine == cpos.line) = true := by rfl) (hst : starEach [a] X.env = (false, eval a X.env) :: starEach [] X.env := by rfl) (hplain : (backTo cpos (starEach [] X.env)).any (·.1) = false := by rfl)
    (hs : swapsWith (.Call (.Attribute (.Name x p) "append" apos) [a] [] cpos) none pos.line X.env = pure false := by rfl) :
    JS X B fr Wx (.Expr (.Call (.Attribute (.Name x p) "append" apos) [a] [] cpos) pos) (sApp i f) := by
  refine ps_imp (ps_expr (pe_bm PySem.F.plainAttrs_list PySem.F.slot_list_append PySem.F.type_list_append mt_append (pe_var (pos := p) hN hv hd hcd) ha hbase hfew hline hst hplain) hs) ?_
  rintro D s H ⟨O, r, st, w, rfl, R, q⟩
  have en := R.env i
  unfold sApp at q
  cases z : r i with
  | none => rw [z] at q; exact q.elim
  | some bd =>
    obtain ⟨bb, d0⟩ := bd
    cases bb with
    | false => rw [z] at q; exact (show False from q).elim
    | true =>
      cases d0 with
      | lst ds =>
        rw [z] at q en
        obtain ⟨al, oi, es, c⟩ := en
        obtain ⟨vs, hl, rs⟩ := c
        have own := R.own i al oi
        refine ⟨.ref al, es, .inl ⟨rfl, vs, .of hl⟩, O, r, st, w, rfl, R, ?_⟩
        simp only [evs]
        cases zf : f r st with
        | ok d st1 =>
          simp only [zf] at q
          intro w1 us R1 x1 rr
          obtain ⟨v, vr, rfl, rv, ev⟩ := rr
          have ev : vr = [] := ev
          subst ev
          have hl1 : w1.H al = some (.lst vs) := (x1.hk al (by rw [hl]; simp) (.inl own.2.1)).trans hl
          have own1 := R1.own i al oi
          by_cases hz : ds.length < LIM
          · have q' : postS (cg X) B fr Wx w (.nx (r.set i (some (true, .lst (ds ++ [d])))) st1) D := by
              have q0 := q
              simp only [ofRs, if_pos hz] at q0
              exact q0
            have lm := LIM_le
            have rl := rs.length
            refine ⟨al, vs, v, rfl, rfl, hl1, by omega, ?_⟩
            have m1 : w1.M al := own1.1
            refine q' O s (w1.chg al (.lst (vs ++ [v]))) (R1.chgOwn z oi ⟨_, upd_same, ?_⟩) ((x1.wk R.wf).trans (Wd.chg_wk m1))
            exact RDs.append (RDs.wk ((x1.wk R.wf).trans (Wd.chg_wk m1)) _ _ rs) (RDs.one (RD.wk (Wd.chg_wk m1) _ _ rv))
          · simp only [ofRs, if_neg hz] at q
            exact q.elim
        | err cc aa st1 => simp only [zf] at q; exact fun w' cls dd R' x' rx => q O s w' cls dd R' (x'.wk R.wf) rx
        | bad => simp only [zf] at q; exact q.elim
      | _ => rw [z] at q; exact (show False from q).elim
theorem js_put {i : Nat} {x : Str} {p tp : Pos} (hN : X.N[i]? = some x) (hv : Vis X.env.scope x) (he : JE X B .sh Wx a f) (hb : JE X B .bo Wx b g) (hd : (x == ("__debug__" : Str)) = false := by decide) (hcd : (x == ("__classdict__" : Str)) = false := by decide)
    (hA : ∀ v, assign (.Subscript (.Name x p) b tp) X.env v = (do
      let ov ← holding [v] (eval (.Name x p) X.env)
      let iv ← holding [v, ov] (eval b X.env)
      standAt tp
      holding [v, ov, iv] (setItem ov iv v)
      release [v, ov, iv] []) := by intro _; rfl)
    (hs : swapsWithSole [.Subscript (.Name x p) b tp] a pos.line X.env = pure false := by rfl) (hw : swappedStores [.Subscript (.Name x p) b tp] a X.env = pure none := by rfl) (h1 : (assignEach [.Subscript (.Name x p) b tp] X.env).map (·.2) = [assign (.Subscript (.Name x p) b tp) X.env] := by rfl) :
    JS X B fr Wx (.Assign [.Subscript (.Name x p) b tp] a pos) (sPut i g f) := by
  refine ps_imp (ps_asg he (pg_sub (pe_var (pos := p) hN hv hd hcd) hb set_list hA) hs hw h1) ?_
  intro D s H q
  obtain ⟨O, r, st, w, e, R, q⟩ := tS_of (k := .sh) q
  refine ⟨O, r, st, w, e, R, q.mono ?_⟩
  rintro v H1 ⟨O1, r1, w0, d, st1, w1, rfl, R1, x1, ⟨_, R0⟩, rr, q1⟩
  have en := R1.env i
  cases z : r1 i with
  | none => rw [z] at q1; exact q1.elim
  | some bd =>
    obtain ⟨bb, d0⟩ := bd
    cases bb with
    | false => rw [z] at q1; exact (show False from q1).elim
    | true =>
      cases d0 with
      | lst ds =>
        rw [z] at q1 en
        obtain ⟨al, oi, es, vs, hl, rs⟩ := en
        have q2 : postS (cg X) B fr Wx w0 (ofRs (g r1 st1) r1 fun j st2 => putL ds j d fun es => .nx (r1.set i (some (true, .lst es))) st2) D := q1
        refine ⟨.ref al, es, O1, r1, st1, w1, rfl, R1, ?_⟩
        cases zg : g r1 st1 with
        | ok j st2 =>
          rw [zg] at q2
          intro w2 u R2 x2 rj
          have own1 := R1.own i al oi
          have own2 := R2.own i al oi
          have hl2 : w2.H al = some (.lst vs) := (x2.hk al (by rw [hl]; simp) (.inl own1.2.1)).trans hl
          cases j with
          | int zz =>
            have q3 : postS (cg X) B fr Wx w0 (putL ds (.int zz) d fun es => .nx (r1.set i (some (true, .lst es))) st2) D := q2
            unfold putL at q3
            cases zn : ixN ds.length zz with
            | none => simp only [zn] at q3; exact q3.elim
            | some n =>
              simp only [zn] at q3
              have rl := rs.length
              refine ⟨al, vs, zz, n, rfl, rj.int, hl2, by rw [← rl]; exact zn, ?_⟩
              have m2 := own2.1
              refine q3 O1 s (w2.chg al (.lst (vs.set n v))) (R2.chgOwn z oi ⟨_, upd_same, ?_⟩) (((x1.wk R0.wf).trans (x2.wk R1.wf)).trans (Wd.chg_wk m2))
              exact RDs.set (RD.wk ((x2.wk R1.wf).trans (Wd.chg_wk m2)) _ _ rr) n (RDs.wk ((x2.wk R1.wf).trans (Wd.chg_wk m2)) _ _ rs)
          | _ => exact (show False from q2).elim
        | err cc aa st2 => rw [zg] at q2; exact fun w' cls dd R' x' rx => q2 O1 s w' cls dd R' ((x1.wk R0.wf).trans (x'.wk R1.wf)) rx
        | bad => rw [zg] at q2; exact q2.elim
      | _ => rw [z] at q1; exact (show False from q1).elim
theorem js_putR {tp : Pos} (he : JE X B .sh Wx a f) (ho : JE X B .sh Wx c h) (hb : JE X B .bo Wx b g)
    (hA : ∀ v, assign (.Subscript c b tp) X.env v = (do
      let ov ← holding [v] (eval c X.env)
      let iv ← holding [v, ov] (eval b X.env)
      standAt tp
      holding [v, ov, iv] (setItem ov iv v)
      release [v, ov, iv] []) := by intro _; rfl)
    (hs : swapsWithSole [.Subscript c b tp] a pos.line X.env = pure false := by rfl) (hw : swappedStores [.Subscript c b tp] a X.env = pure none := by rfl) (h1 : (assignEach [.Subscript c b tp] X.env).map (·.2) = [assign (.Subscript c b tp) X.env] := by rfl) :
    JS X B fr Wx (.Assign [.Subscript c b tp] a pos) (sPutR h g f) := by
  refine ps_imp (ps_asg he (pg_sub ho hb set_list hA) hs hw h1) ?_
  intro D s H q
  obtain ⟨O, r, st, w, e, R, q⟩ := tS_of (k := .sh) q
  refine ⟨O, r, st, w, e, R, q.mono ?_⟩
  rintro v H1 ⟨O1, r1, w0, d, st1, w1, rfl, R1, x1, ⟨_, R0⟩, rr, q1⟩
  refine ⟨O1, r1, st1, w1, rfl, R1, ?_⟩
  cases zo : h r1 st1 with
  | ok o st2 =>
    rw [zo] at q1
    intro w2 vo R2 x2 ro
    refine ⟨O1, r1, st2, w2, rfl, R2, ?_⟩
    have q2 : postS (cg X) B fr Wx w0 (ofRs (g r1 st2) r1 fun j st3 => putR r1 st3 o j d) D := q1
    cases zg : g r1 st2 with
    | ok j st3 =>
      rw [zg] at q2
      intro w3 u R3 x3 rj
      cases o with
      | ref n =>
        have ro3 : RD (cg X) w3 (.ref n) vo := RD.wk (x3.wk R2.wf) _ _ ro
        cases zs : st3[n]? with
        | none => simp only [ofRs, putR, zs] at q2; exact q2.elim
        | some so =>
          cases so with
          | lst ds =>
            obtain ⟨al, rfl, ea, c⟩ := R3.sto.ref ro3 zs
            obtain ⟨vs, hl, rs⟩ := c
            cases j with
            | int zz =>
              have q3 : postS (cg X) B fr Wx w0 (putL ds (.int zz) d fun es => .nx r1 (st3.set n (.lst es))) D := by
                have q0 := q2
                simp only [ofRs, putR, zs] at q0
                exact q0
              unfold putL at q3
              cases zn : ixN ds.length zz with
              | none => simp only [zn] at q3; exact q3.elim
              | some m =>
                simp only [zn] at q3
                have rl := rs.length
                refine ⟨al, vs, zz, m, rfl, rj.int, hl, by rw [← rl]; exact zn, ?_⟩
                have m3 := R3.wf.mm (List.mem_of_getElem? ea) hl fun _ _ z => by cases z
                have x13 := x2.trans x3
                refine q3 O1 s (w3.chg al (.lst (vs.set m v))) (R3.chgSto m3 zs ea ⟨_, upd_same, ?_⟩) (((x1.wk R0.wf).trans (x13.wk R1.wf)).trans (Wd.chg_wk m3))
                exact RDs.set (RD.wk ((x13.wk R1.wf).trans (Wd.chg_wk m3)) _ _ rr) m (RDs.wk (Wd.chg_wk m3) _ _ rs)
            | _ => simp only [ofRs, putR, zs, putL] at q2; exact q2.elim
          | _ => simp only [ofRs, putR, zs] at q2; exact q2.elim
      | _ => exact (show False from q2).elim
    | err cc aa st3 => rw [zg] at q2; exact fun w' cls dd R' x' rx => q2 O1 s w' cls dd R' (((x1.wk R0.wf).trans (x2.wk R1.wf)).trans (x'.wk R2.wf)) rx
    | bad => rw [zg] at q2; exact q2.elim
  | err cc aa st2 => rw [zo] at q1; exact fun w' cls dd R' x' rx => q1 O1 s w' cls dd R' ((x1.wk R0.wf).trans (x'.wk R1.wf)) rx
  | bad => rw [zo] at q1; exact q1.elim
end
end Sm

namespace Sm
open PySem L2
def argEnv (ds : List D) : Env := fun i => match ds[i]? with | some d => some (false, d) | none => none
def mkF (fr : Bool) (F : Sv) : Fn := fun ds st => match F (argEnv ds) st with
  | .nx _ st' => if fr = true then .bad else .ok .non st'
  | .rt d st' => .ok d st'
  | .err c a _ st' => .err c a st'
  | _ => .bad
theorem start_rel {G : Cfg} {w : Wd} {ds : List D} {vs : List V} {N : List Str} {st : Sto} (F : RelF G st w) (r : RDs G w ds vs) (hl : vs.length ≤ N.length) : Rel G ⟨w, N.length⟩ (fun _ => none) (argEnv ds) st (L2.start N vs) w := by
  refine ⟨F.wf, F.wf, Ext.refl w, ?_, F.sto, fun i a e => (by cases e), fun i j a e => (by cases e), fun i => ?_⟩
  · unfold L2.start
    rw [List.length_append, List.length_map, List.length_replicate]
    show vs.length + (N.length - vs.length) = N.length
    omega
  · unfold argEnv
    cases e : ds[i]? with
    | none => exact rfl
    | some d =>
      obtain ⟨v, e1, e2⟩ := r.get e
      refine ⟨rfl, v, ?_, e2⟩
      unfold L2.start
      rw [List.getElem?_append_left (by simpa using (List.getElem?_eq_some_iff.mp e1).1), List.getElem?_map, e1]
      rfl
def sRaise (c : Str) : Sv := fun r st => .err c none r st
section
variable {X : Cx} {B : Bs} {k : Kd} {fr : Bool} {Wx : WX} {a b c tg iter e elt : Expr} {es ifs : List Expr} {fs : List Ev} {f g h : Ev} {pos : Pos} {st1 st2 : Stmt} {rest body : List Stmt} {F F' : Sv} {t : Tg} {ts : List Tg} {it : Iv}
theorem js_raise {x m : Str} {j : Nat} {p p2 p3 : Pos} {C : Addr} {bmB : List Value} {B0 newId initId : String} (hc : X.calm = true) (tk : Takes X Wx) (Fx : ExcBaseFacts B0 newId initId bmB) (q : PySem.W.excIn X.K C bmB newId = true) (gC : X.mg x = some (.ref C)) (kC : PySem.W.keepIn X.K (.ref C) = true)
    (bP : PySem.W.subIn X.K (.ref C) (.type "BaseException") = some true) (tP : PySem.W.typeIn X.K (.ref C) = some (.type "type")) (hg : Gl X x) (hdb : (x == ("__debug__" : Str)) = false := by decide) :
    JS X B fr Wx (.Raise (some (.Call (.Name x p) [.Constant (.str m) j p2] [] p3)) none pos) (sRaise x) := by
  refine ps_imp (ps_raise hc tk (pmk_own Fx q gC kC (raises_own bP tP) hg hdb)) ?_
  rintro D s H ⟨O, r, st, w, rfl, R, q⟩
  exact q O s w (.ref C) none R (Wk.refl w) ⟨C, gC, rfl, rfl⟩

def RQs (G : Cfg) (w : Wd) : List D → List V → Prop
  | [], vs => vs = []
  | d :: ds, vs => ∃ v r, vs = v :: r ∧ RQ G w d v ∧ RQs G w ds r
theorem RRs.q {G : Cfg} {O : Nat → Option Addr} {w : Wd} : ∀ {ds : List D} {vs : List V}, RRs G .bo O w ds vs → RQs G w ds vs
  | [], vs, h => h
  | d :: ds, vs, h => by
    obtain ⟨v, r, e, h1, h2⟩ := h
    exact ⟨v, r, e, h1.q, RRs.q h2⟩
theorem RQs.one {G : Cfg} {w : Wd} {d : D} {vs : List V} (h : RQs G w [d] vs) : ∃ v, vs = [v] ∧ RQ G w d v := by
  obtain ⟨v, r, rfl, h1, h2⟩ := h
  have h2 : r = [] := h2
  subst h2
  exact ⟨v, rfl, h1⟩
theorem RQs.two {G : Cfg} {w : Wd} {d e : D} {vs : List V} (h : RQs G w [d, e] vs) : ∃ v u, vs = [v, u] ∧ RQ G w d v ∧ RQ G w e u := by
  obtain ⟨v, r, rfl, h1, h2⟩ := h
  obtain ⟨u, rfl, h3⟩ := RQs.one h2
  exact ⟨v, u, rfl, h1, h3⟩
def SemC (X : Cx) (B : Bs) (k : Kd) (Wx : WX) (F : List D → Sto → Rs) (r : List V → Hp → VK → Prop) : Prop :=
  ∀ (O : Nat → Option Addr) (e : Env) (s : L2.St) (w0 w : Wd) (ds : List D) (vs : List V) (st : Sto) (Q : VK), Rel (cg X) B O e st s w → Ext w0 w → RQs (cg X) w ds vs →
    post (cg X) B k Wx O e s w0 (F ds st) Q → r vs w.H Q
theorem tE_cb {F : List D → Sto → Rs} {r : List V → Hp → VK → Prop} (sem : SemC X B k Wx F r) {s : L2.St} {H : Hp} {Q : VK} (q : tE (cg X) B k Wx (bCall F fs) s H Q) : tCB r (tA (cg X) B .bo Wx fs) s H Q := by
  obtain ⟨O, e, st, w, rfl, R, q⟩ := q
  refine ⟨O, e, st, w, rfl, R, ?_⟩
  have q' := postL.bind (k1 := .bo) q
  cases z : evs fs e st with
  | ok ds st1 =>
    rw [z] at q'
    intro w1 vs R1 x1 rr1
    obtain ⟨ds', st', w', e1, R', x', rr', e2, q2⟩ := q' w1 vs R1 x1 rr1
    cases e2
    exact sem O e s w w1 ds vs st1 Q R1 x1 rr1.q q2
  | err c a st1 => rw [z] at q'; exact q'
  | bad => rw [z] at q'; exact q'.elim
structure JB (X : Cx) (B : Bs) (k : Kd) (Wx : WX) (v : Value) (F : List D → Sto → Rs) : Prop where
  ex : ∃ r, CallR X v r ∧ SemC X B k Wx F r
theorem je_bt {id : String} {F : List D → Sto → Rs} {x : Str} {p : Pos} (j : JB X B k Wx (.builtin id) F) (hg : Gl X x) (hm : X.mg x = none) (hv : bootBuiltins x = some (.builtin id)) (ha : JA X B .bo Wx (a :: es) fs) (hn : x ≠ "__name__" := by decide) (hdb : (x == ("__debug__" : Str)) = false := by decide)
    (he : starEach (a :: es) X.env = (false, eval a X.env) :: starEach es X.env := by rfl) (hpl : (backTo pos (starEach es X.env)).any (·.1) = false := by rfl) : JE X B k Wx (.Call (.Name x p) (a :: es) [] pos) (bCall F fs) :=
  let ⟨_, h1, h2⟩ := j.ex; pe_imp (pe_callB h1 hg hm hv ha hn hdb he hpl) fun _ _ _ q => tE_cb h2 q
theorem je_ty {T : String} {F : List D → Sto → Rs} {x : Str} {p : Pos} (j : JB X B k Wx (.type T) F) (hg : Gl X x) (hm : X.mg x = none) (hv : bootBuiltins x = some (.type T)) (ha : JA X B .bo Wx (a :: es) fs) (hn : x ≠ "__name__" := by decide) (hdb : (x == ("__debug__" : Str)) = false := by decide)
    (he : starEach (a :: es) X.env = (false, eval a X.env) :: starEach es X.env := by rfl) (hpl : (backTo pos (starEach es X.env)).any (·.1) = false := by rfl) : JE X B k Wx (.Call (.Name x p) (a :: es) [] pos) (bCall F fs) :=
  let ⟨_, h1, h2⟩ := j.ex; pe_imp (pe_callTy h1 hg hm hv ha hn hdb he hpl) fun _ _ _ q => tE_cb h2 q
theorem RRs.one {G : Cfg} {O : Nat → Option Addr} {w : Wd} {k : Kd} {d : D} {vs : List V} (h : RRs G k O w [d] vs) : ∃ v, vs = [v] ∧ RR G k O w w d v := by
  obtain ⟨v, r, rfl, h1, h2⟩ := h
  have h2 : r = [] := h2
  subst h2
  exact ⟨v, rfl, h1⟩
theorem RRs.two {G : Cfg} {O : Nat → Option Addr} {w : Wd} {k : Kd} {d e : D} {vs : List V} (h : RRs G k O w [d, e] vs) : ∃ v u, vs = [v, u] ∧ RR G k O w w d v ∧ RR G k O w w e u := by
  obtain ⟨v, r, rfl, h1, h2⟩ := h
  obtain ⟨u, rfl, h3⟩ := RRs.one h2
  exact ⟨v, u, rfl, h1, h3⟩
def fLen : List D → Sto → Rs
  | [.lst ds], st => .ok (.int (ds.length : Int)) st
  | [.tup ds], st => .ok (.int (ds.length : Int)) st
  | [.str x], st => if x.length ≤ LIM then .ok (.int (x.length : Int)) st else .bad
  | _, _ => .bad
theorem jb_len : JB X B .sh Wx (.builtin "len") fLen := ⟨_, call_len, by
  intro O e s w0 w ds vs st Q R xt rr q
  cases ds with
  | nil => exact (show False from q).elim
  | cons d ds1 =>
   cases ds1 with
   | cons _ _ => first | exact (show False from q).elim | (cases d <;> exact (show False from q).elim)
   | nil =>
    obtain ⟨v, rfl, h⟩ := RQs.one rr
    cases d with
    | lst ds =>
      obtain ⟨a, us, rfl, t, r⟩ := h.lst
      refine ⟨_, us.length, rfl, .inl ⟨us, .of t, rfl⟩, ?_⟩
      rw [← r.length]
      exact post.val R xt q rdI
    | tup ds =>
      obtain ⟨a, us, rfl, t, r⟩ := h.tup
      refine ⟨_, us.length, rfl, .inr ⟨us, t, rfl⟩, ?_⟩
      rw [← r.length]
      exact post.val R xt q rdI
    | str x =>
      by_cases hz : x.length ≤ LIM
      · have lm := LIM_le
        simp only [fLen, if_pos hz] at q
        rw [h.str]
        exact ⟨_, x.length, rfl, ⟨by omega, rfl⟩, post.val R xt q rdI⟩
      · simp only [fLen, if_neg hz] at q
        exact q.elim
    | _ => exact (show False from q).elim⟩
def blsOf : List D → Option (List Bool)
  | [] => some []
  | .bl b :: ds => (blsOf ds).map (b :: ·)
  | _ :: _ => none
def intsOf : List D → Option (List Int)
  | [] => some []
  | .int b :: ds => (intsOf ds).map (b :: ·)
  | _ :: _ => none
theorem bls_rds {G : Cfg} {w : Wd} : ∀ {ds : List D} {bs : List Bool} {vs : List V}, blsOf ds = some bs → RDs G w ds vs → vs = bs.map V.bl
  | [], bs, vs, e, r => by
    cases e; unfold RDs at r; exact r
  | d :: ds, bs, vs, e, r => by
    unfold RDs at r
    obtain ⟨v, vr, rfl, h1, h2⟩ := r
    cases d with
    | bl b =>
      have e : (blsOf ds).map (b :: ·) = some bs := e
      cases z : blsOf ds with
      | none => rw [z] at e; cases e
      | some cs =>
        rw [z] at e
        cases e
        unfold RD at h1
        rw [h1, bls_rds z h2]
        rfl
    | _ => cases e
def fAll : List D → Sto → Rs
  | [.lst ds], st => match blsOf ds with | some bs => .ok (.bl (bs.all id)) st | none => .bad
  | _, _ => .bad
def fAny : List D → Sto → Rs
  | [.lst ds], st => match blsOf ds with | some bs => .ok (.bl (bs.any id)) st | none => .bad
  | _, _ => .bad
theorem jb_all (hc : X.calm = true) : JB X B .sh Wx (.builtin "all") fAll := ⟨_, cr_all hc, by
  intro O e s w0 w ds vs st Q R xt rr q
  cases ds with
  | nil => exact (show False from q).elim
  | cons d ds1 =>
   cases ds1 with
   | cons _ _ => first | exact (show False from q).elim | (cases d <;> exact (show False from q).elim)
   | nil =>
    obtain ⟨v, rfl, h⟩ := RQs.one rr
    cases d with
    | lst ds =>
      obtain ⟨a, us, rfl, t, r⟩ := h.lst
      cases z : blsOf ds with
      | none => simp only [fAll, z] at q; exact q.elim
      | some bs =>
        simp only [fAll, z] at q
        exact ⟨a, bs, rfl, .of (by rw [← bls_rds z r]; exact t), post.val R xt q rdB⟩
    | _ => exact (show False from q).elim⟩
theorem jb_any (hc : X.calm = true) : JB X B .sh Wx (.builtin "any") fAny := ⟨_, cr_any hc, by
  intro O e s w0 w ds vs st Q R xt rr q
  cases ds with
  | nil => exact (show False from q).elim
  | cons d ds1 =>
   cases ds1 with
   | cons _ _ => first | exact (show False from q).elim | (cases d <;> exact (show False from q).elim)
   | nil =>
    obtain ⟨v, rfl, h⟩ := RQs.one rr
    cases d with
    | lst ds =>
      obtain ⟨a, us, rfl, t, r⟩ := h.lst
      cases z : blsOf ds with
      | none => simp only [fAny, z] at q; exact q.elim
      | some bs =>
        simp only [fAny, z] at q
        exact ⟨a, bs, rfl, .of (by rw [← bls_rds z r]; exact t), post.val R xt q rdB⟩
    | _ => exact (show False from q).elim⟩
def fTuple : List D → Sto → Rs
  | [.lst ds], st => .ok (.tup ds) st
  | [.tup ds], st => .ok (.tup ds) st
  | _, _ => .bad
theorem jb_tuple : JB X B .sh Wx (.type "tuple") fTuple := ⟨_, call_tuple_of, by
  intro O e s w0 w ds vs st Q R xt rr q
  cases ds with
  | nil => exact (show False from q).elim
  | cons d ds1 =>
   cases ds1 with
   | cons _ _ => first | exact (show False from q).elim | (cases d <;> exact (show False from q).elim)
   | nil =>
    obtain ⟨v, rfl, h⟩ := RQs.one rr
    cases d with
    | lst ds =>
      obtain ⟨a, us, rfl, t, r⟩ := h.lst
      exact ⟨a, us, rfl, .inl ⟨.of t, fun l hl => post.new R xt q hl fun w' i k => rdT i (RDs.wk k _ _ r)⟩⟩
    | tup ds =>
      have h0 := h
      obtain ⟨a, us, rfl, t, r⟩ := h.tup
      refine ⟨a, us, rfl, .inr ⟨t, post.val R xt q ?_⟩⟩
      rcases h0 with h | ⟨_, _, c⟩
      · exact h
      · exact (show False from c).elim
    | _ => exact (show False from q).elim⟩
def fList : List D → Sto → Rs
  | [.lst ds], st => .ok (.lst ds) st
  | [.tup ds], st => .ok (.lst ds) st
  | [.frg ds], st => .ok (.lst ds) st
  | _, _ => .bad
theorem jb_list : JB X B .fr Wx (.type "list") fList := ⟨_, call_list_of, by
  intro O e s w0 w ds vs st Q R xt rr q
  cases ds with
  | nil => exact (show False from q).elim
  | cons d ds1 =>
   cases ds1 with
   | cons _ _ => first | exact (show False from q).elim | (cases d <;> exact (show False from q).elim)
   | nil =>
    obtain ⟨v, rfl, h⟩ := RQs.one rr
    cases d with
    | lst ds =>
      obtain ⟨a, us, rfl, t, r⟩ := h.lst
      exact ⟨a, us, rfl, .inl (.of t), fun l hl => post.own R xt q hl fun w' i k => ⟨_, i, RDs.wk k _ _ r⟩⟩
    | tup ds =>
      obtain ⟨a, us, rfl, t, r⟩ := h.tup
      exact ⟨a, us, rfl, .inr t, fun l hl => post.own R xt q hl fun w' i k => ⟨_, i, RDs.wk k _ _ r⟩⟩
    | frg ds =>
      obtain ⟨a, us, rfl, t, r⟩ := h.frg
      exact ⟨a, us, rfl, .inl t, fun l hl => post.own R xt q hl fun w' i k => ⟨_, i, RDs.wk k _ _ r⟩⟩
    | _ => exact (show False from q).elim⟩
def fMin2 : List D → Sto → Rs
  | [.int i, .int j], st => .ok (.int (if j < i then j else i)) st
  | _, _ => .bad
def fMax2 : List D → Sto → Rs
  | [.int i, .int j], st => .ok (.int (if j > i then j else i)) st
  | _, _ => .bad
theorem jb_min2 (hc : X.calm = true) : JB X B .sh Wx (.builtin "min") fMin2 := ⟨_, call_min2 hc, by
  intro O e s w0 w ds vs st Q R xt rr q
  cases ds with
  | nil => exact (show False from q).elim
  | cons d1 ds1 =>
   cases ds1 with
   | nil => cases d1 <;> exact (show False from q).elim
   | cons d2 ds2 =>
    cases ds2 with
    | cons _ _ => cases d1 <;> cases d2 <;> exact (show False from q).elim
    | nil =>
    obtain ⟨v, u, rfl, h1, h2⟩ := RQs.two rr
    cases d1 with
    | int i =>
      cases d2 with
      | int j => exact ⟨i, j, by rw [h1.int, h2.int], post.val R xt q rdI⟩
      | _ => exact (show False from q).elim
    | _ => exact (show False from q).elim⟩
theorem jb_max2 (hc : X.calm = true) : JB X B .sh Wx (.builtin "max") fMax2 := ⟨_, call_max2 hc, by
  intro O e s w0 w ds vs st Q R xt rr q
  cases ds with
  | nil => exact (show False from q).elim
  | cons d1 ds1 =>
   cases ds1 with
   | nil => cases d1 <;> exact (show False from q).elim
   | cons d2 ds2 =>
    cases ds2 with
    | cons _ _ => cases d1 <;> cases d2 <;> exact (show False from q).elim
    | nil =>
    obtain ⟨v, u, rfl, h1, h2⟩ := RQs.two rr
    cases d1 with
    | int i =>
      cases d2 with
      | int j => exact ⟨i, j, by rw [h1.int, h2.int], post.val R xt q rdI⟩
      | _ => exact (show False from q).elim
    | _ => exact (show False from q).elim⟩
def numd : Nat → List D → List D
  | _, [] => []
  | n, d :: ds => .tup [.int (n : Int), d] :: numd (n + 1) ds
def zipd : List D → List D → List D
  | a :: as, b :: bs => .tup [a, b] :: zipd as bs
  | _, _ => []
theorem numd_len : ∀ (n : Nat) (ds : List D), (numd n ds).length = ds.length
  | _, [] => rfl
  | n, d :: ds => by simp [numd, numd_len (n + 1) ds]
theorem numd_get : ∀ (n : Nat) (ds : List D) (i : Nat) (x : D), (numd n ds)[i]? = some x → ∃ d, ds[i]? = some d ∧ x = .tup [.int ((n + i : Nat) : Int), d]
  | _, [], i, x, h => by simp [numd] at h
  | n, d :: ds, 0, x, h => by
    simp [numd] at h
    exact ⟨d, rfl, by rw [← h]; simp⟩
  | n, d :: ds, i + 1, x, h => by
    obtain ⟨d', e1, e2⟩ := numd_get (n + 1) ds i x (by simpa [numd] using h)
    exact ⟨d', by simpa using e1, by rw [e2]; congr 3; omega⟩
theorem zipd_len : ∀ (as bs : List D), (zipd as bs).length = min as.length bs.length
  | [], bs => by simp [zipd]
  | a :: as, [] => by simp [zipd]
  | a :: as, b :: bs => by simp [zipd, zipd_len as bs]
theorem zipd_get : ∀ (as bs : List D) (i : Nat) (x : D), (zipd as bs)[i]? = some x → ∃ a b, as[i]? = some a ∧ bs[i]? = some b ∧ x = .tup [a, b]
  | [], bs, i, x, h => by simp [zipd] at h
  | a :: as, [], i, x, h => by simp [zipd] at h
  | a :: as, b :: bs, 0, x, h => by
    simp [zipd] at h
    exact ⟨a, b, rfl, rfl, h.symm⟩
  | a :: as, b :: bs, i + 1, x, h => by
    obtain ⟨a', b', e1, e2, e3⟩ := zipd_get as bs i x (by simpa [zipd] using h)
    exact ⟨a', b', by simpa using e1, by simpa using e2, e3⟩
theorem wks_pair {G : Cfg} {w2 : Wd} {T : Addr} {a b : D} {x y : V} (f2 : WF w2) (hT : w2.H T = none) (ra : RD G w2 a x) (rb : RD G w2 b y) :
    ∃ w3, w3.H = upd w2.H T (.tup [x, y]) ∧ Ext w2 w3 ∧ WF w3 ∧ w3.u = w2.u ∧ (∀ c ∈ w2.u, w3.H c = w2.H c) ∧ RD G w3 (.tup [a, b]) (.ref T) := by
  have k := (Wd.add_ext (o := .tup [x, y]) (b := false) hT).wk f2
  refine ⟨w2.add T (.tup [x, y]) false, rfl, Wd.add_ext hT, Wd.add_wf f2 hT, rfl, fun c hc => upd_ne (fun e => f2.un hc (by rw [e]; exact hT)), rdT (Wd.add_im f2 hT) ?_⟩
  unfold RDs
  exact ⟨x, [y], rfl, RD.wk k _ _ ra, RDs.one (RD.wk k _ _ rb)⟩
theorem wks_zipT {G : Cfg} {w : Wd} {a b : Addr} {ds es : List D} {vs us : List V} (h : TpI G.K w a vs) (r : RDs G w ds vs) (hb : TpI G.K w b us) (rb : RDs G w es us) : Wks G w (RZ.ItzT G.K a b) (zipd ds es) [] := by
  intro w2 k2 f2 _ i
  have h2 := k2.tp h
  have r2 := RDs.wk k2 _ _ r
  have hb2 := k2.tp hb
  have rb2 := RDs.wk k2 _ _ rb
  refine ⟨fun x e => ?_, fun e => ⟨vs, us, h2.sq, hb2.sq, ?_⟩⟩
  · obtain ⟨d, d', e1, e1', rfl⟩ := zipd_get ds es i x e
    obtain ⟨v, e2, rd⟩ := r2.get e1
    obtain ⟨v', e2', rd'⟩ := rb2.get e1'
    refine ⟨⟨vs, us, v, v', h2.sq, hb2.sq, e2, e2'⟩, fun x H' y => ?_⟩
    obtain ⟨T, x, x', rfl, hT, rfl, y, y'⟩ := y
    have z := y vs h2.sq
    have z' := y' us hb2.sq
    rw [e2] at z
    rw [e2'] at z'
    cases z
    cases z'
    exact wks_pair f2 hT rd rd'
  · rw [zipd_len] at e
    rw [← r2.length, ← rb2.length]
    omega
def srcD (st : Sto) : D → Option (List D × Gd)
  | .lst ds => some (ds, [])
  | .ref n => (match st[n]? with | some (.lst ds) => some (ds, [(n, .lst ds)]) | _ => none)
  | _ => none
def Src (G : Cfg) (w : Wd) (a : Addr) (ds : List D) (gs : Gd) : Prop := (∃ vs, SqL G.K w.H a vs) ∧ ∀ w2, Wk w w2 → GdOk G w2 gs → ∃ vs, SqL G.K w2.H a vs ∧ RDs G w2 ds vs
theorem src_of {G : Cfg} {w : Wd} {st : Sto} {d : D} {v : V} {p : List D × Gd} (S : RSt G w st) (h : RD G w d v) (e : srcD st d = some p) : ∃ a, v = .ref a ∧ Src G w a p.1 p.2 := by
  cases d with
  | lst ds =>
    cases e
    unfold RD at h
    obtain ⟨a, vs, rfl, t, rs⟩ := h
    exact ⟨a, rfl, ⟨vs, t.sq⟩, fun w2 k2 _ => ⟨vs, (k2.im _ _ t).sq, RDs.wk k2 _ _ rs⟩⟩
  | ref n =>
    unfold srcD at e
    cases y : st[n]? with
    | none => simp only [y] at e; cases e
    | some so =>
      obtain ⟨al, rfl, eu, o⟩ := S.ref h y
      cases so with
      | lst ds =>
        simp only [y] at e
        cases e
        obtain ⟨vs, hH, rs⟩ := o
        refine ⟨al, rfl, ⟨vs, .of hH⟩, fun w2 k2 g2 => ?_⟩
        obtain ⟨r, e, _⟩ := k2.mu
        have h2 : w2.u[n]? = some al := by rw [e, List.getElem?_append_left (List.getElem?_eq_some_iff.mp eu).1]; exact eu
        obtain ⟨us, hH2, r2⟩ := g2 (n, .lst ds) (List.mem_singleton.mpr rfl) al h2
        exact ⟨us, .of hH2, r2⟩
      | _ => simp only [y] at e; cases e
  | _ => cases e
theorem wks_enumG {G : Cfg} {w : Wd} {a : Addr} {ds : List D} {gs : Gd} (h : Src G w a ds gs) : Wks G w (Ite G.K a) (numd 0 ds) gs := by
  intro w2 k2 f2 g2 i
  obtain ⟨vs, h2, r2⟩ := h.2 w2 k2 g2
  refine ⟨fun x e => ?_, fun e => ⟨vs, h2, r2.none (by rw [numd_len] at e; exact e)⟩⟩
  obtain ⟨d, e1, rfl⟩ := numd_get 0 ds i x e
  obtain ⟨v, e2, rd⟩ := r2.get e1
  refine ⟨⟨vs, v, h2, e2⟩, fun x H' y => ?_⟩
  obtain ⟨T, x, rfl, hT, rfl, y⟩ := y
  have z := y vs h2
  rw [e2] at z
  cases z
  rw [Nat.zero_add]
  exact wks_pair f2 hT rdI rd
theorem wks_zipG {G : Cfg} {w : Wd} {a b : Addr} {ds es : List D} {gs gs' : Gd} (h : Src G w a ds gs) (hb : Src G w b es gs') : Wks G w (Itz G.K a b) (zipd ds es) (gs ++ gs') := by
  intro w2 k2 f2 g2 i
  obtain ⟨vs, h2, r2⟩ := h.2 w2 k2 fun g m => g2 g (List.mem_append_left _ m)
  obtain ⟨us, hb2, rb2⟩ := hb.2 w2 k2 fun g m => g2 g (List.mem_append_right _ m)
  refine ⟨fun x e => ?_, fun e => ⟨vs, us, h2, hb2, ?_⟩⟩
  · obtain ⟨d, d', e1, e1', rfl⟩ := zipd_get ds es i x e
    obtain ⟨v, e2, rd⟩ := r2.get e1
    obtain ⟨v', e2', rd'⟩ := rb2.get e1'
    refine ⟨⟨vs, us, v, v', h2, hb2, e2, e2'⟩, fun x H' y => ?_⟩
    obtain ⟨T, x, x', rfl, hT, rfl, y, y'⟩ := y
    have z := y vs h2
    have z' := y' us hb2
    rw [e2] at z
    rw [e2'] at z'
    cases z
    cases z'
    exact wks_pair f2 hT rd rd'
  · rw [zipd_len] at e
    rw [← r2.length, ← rb2.length]
    omega
def itEnum (f : Ev) : Iv := fun r st => match f r st with
  | .ok d st1 => match srcD st1 d with
    | some p => .ok (numd 0 p.1) p.2 st1
    | none => .bad
  | .err c a st1 => .err c a st1
  | .bad => .bad
def zipS (d d2 : D) (st : Sto) : RsI := match d, d2 with
  | .tup ds, .tup es => .ok (zipd ds es) [] st
  | d, d2 => match srcD st d, srcD st d2 with
    | some p, some q => .ok (zipd p.1 q.1) (p.2 ++ q.2) st
    | _, _ => .bad
def itZip (f g : Ev) : Iv := fun r st => match f r st with
  | .ok d st1 => match g r st1 with
    | .ok d2 st2 => zipS d d2 st2
    | .err c a st1 => .err c a st1
    | .bad => .bad
  | .err c a st1 => .err c a st1
  | .bad => .bad
theorem zipS_of {d d2 : D} {st : Sto} {ds : List D} {gs : Gd} (e : zipS d d2 st = .ok ds gs st) : (∃ xs ys, d = .tup xs ∧ d2 = .tup ys ∧ ds = zipd xs ys ∧ gs = []) ∨ ∃ p q, srcD st d = some p ∧ srcD st d2 = some q ∧ ds = zipd p.1 q.1 ∧ gs = p.2 ++ q.2 := by
  unfold zipS at e
  split at e
  · cases e; exact .inl ⟨_, _, rfl, rfl, rfl, rfl⟩
  · split at e
    · rename_i p q h1 h2
      cases e
      exact .inr ⟨p, q, h1, h2, rfl, rfl⟩
    · cases e
theorem zipS_cases {d d2 : D} {st : Sto} : (∃ ds gs, zipS d d2 st = .ok ds gs st) ∨ zipS d d2 st = .bad := by
  unfold zipS
  split
  · exact .inl ⟨_, _, rfl⟩
  · split
    · exact .inl ⟨_, _, rfl⟩
    · exact .inr rfl
theorem ji_enum {p tpos : Pos} {elts : List Expr} {kk : Nat} (hg : Gl X "enumerate") (hm : X.mg "enumerate" = none) (ha : JA X B .sh Wx [a] [f]) (hs : starEach [a] X.env = [(false, eval a X.env)] := by rfl) : JI X B Wx (.Tuple elts kk tpos) (.Call (.Name "enumerate" p) [a] [] pos) (itEnum f) := by
  refine pi_imp (pi_enum hg hm ha hs) ?_
  rintro s H R' ⟨O, r, st, w, rfl, R, q⟩
  refine ⟨O, r, st, w, rfl, R, ?_⟩
  unfold itEnum at q
  simp only [evs]
  cases z : f r st with
  | ok d st1 =>
    rw [z] at q
    intro w1 vs R1 x1 rr
    obtain ⟨v, rfl, rq⟩ := RRs.one rr
    cases y : srcD st1 d with
    | none => simp only [y] at q
    | some p =>
      simp only [y] at q
      obtain ⟨a, rfl, sr⟩ := src_of R1.sto rq y
      obtain ⟨us, sq⟩ := sr.1
      exact ⟨a, us, rfl, sq, q _ w1 R1 x1 (wks_enumG sr)⟩
  | err c a st1 => rw [z] at q; exact q
  | bad => rw [z] at q; exact q.elim
theorem ji_zip {p tpos : Pos} {elts : List Expr} {kk : Nat} (hg : Gl X "zip") (hm : X.mg "zip" = none) (ha : JA X B .sh Wx [a, b] [f, g]) (he : starEach [a, b] X.env = (false, eval a X.env) :: starEach [b] X.env := by rfl) (hpl : (backTo pos (starEach [b] X.env)).any (·.1) = false := by rfl) :
    JI X B Wx (.Tuple elts kk tpos) (.Call (.Name "zip" p) [a, b] [] pos) (itZip f g) := by
  refine pi_imp (RZ.pi_zipA hg hm ha he hpl) ?_
  rintro s H R' ⟨O, r, st, w, rfl, R, q⟩
  refine ⟨O, r, st, w, rfl, R, ?_⟩
  unfold itZip at q
  simp only [evs]
  cases z : f r st with
  | ok d st1 =>
    rw [z] at q
    simp only [Rs.bindL] at q ⊢
    cases z2 : g r st1 with
    | ok d2 st2 =>
      rw [z2] at q
      intro w1 vs R1 x1 rr
      obtain ⟨v, v2, rfl, rq, rq2⟩ := RRs.two rr
      rcases zipS_cases (d := d) (d2 := d2) (st := st2) with ⟨ds, gs, e⟩ | e
      · simp only [e] at q
        rcases zipS_of e with ⟨xs, ys, rfl, rfl, rfl, rfl⟩ | ⟨p, p', e1, e2, rfl, rfl⟩
        · have rr : RD (cg X) w1 (.tup xs) v := rq
          unfold RD at rr
          obtain ⟨a, vs, rfl, t, rs⟩ := rr
          have rr2 : RD (cg X) w1 (.tup ys) v2 := rq2
          unfold RD at rr2
          obtain ⟨a2, vs2, rfl, t2, rs2⟩ := rr2
          exact ⟨a, a2, vs, vs2, rfl, .inr ⟨t.sq, t2.sq, q _ w1 R1 x1 (wks_zipT t rs t2 rs2)⟩⟩
        · obtain ⟨a, rfl, sr⟩ := src_of R1.sto rq e1
          obtain ⟨a2, rfl, sr2⟩ := src_of R1.sto rq2 e2
          obtain ⟨us, sq⟩ := sr.1
          obtain ⟨us2, sq2⟩ := sr2.1
          exact ⟨a, a2, us, us2, rfl, .inl ⟨sq, sq2, q _ w1 R1 x1 (wks_zipG sr sr2)⟩⟩
      · simp only [e] at q
    | err c a st1 => rw [z2] at q; exact q
    | bad => rw [z2] at q; exact q.elim
  | err c a st1 => rw [z] at q; exact q
  | bad => rw [z] at q; exact q.elim
end
end Sm

namespace Sm
open PySem L2
def bRef (f : Ev) : Ev := fun r st => (f r st).bind fun d st1 => match d with
  | .lst ds => .ok (.ref st1.length) (st1 ++ [.lst ds])
  | .dct ks vs => .ok (.ref st1.length) (st1 ++ [.dct ks vs])
  | _ => .bad
def Wd.lay (w : Wd) (a : Addr) : Wd := ⟨w.H, w.M, w.u ++ [a]⟩
theorem Wd.lay_wk (w : Wd) (a : Addr) (m : w.M a) : Wk w (w.lay a) := ⟨fun _ _ h => h, [a], rfl, fun b hb o i => by rw [List.mem_singleton.mp hb] at i; exact i.2 m⟩
section
variable {X : Cx} {B : Bs} {k : Kd} {fr : Bool} {Wx : WX} {a b c tg iter e elt : Expr} {es ifs : List Expr} {fs : List Ev} {f g h : Ev} {pos : Pos}
theorem Rel.lay {G : Cfg} {O : Nat → Option Addr} {r : Env} {st : Sto} {s : L2.St} {w : Wd} {p : Addr} {so : SO} (R : Rel G B O r st s w) (m : w.M p) (u : p ∉ w.u) (hb : B.H p = none) (ho : ∀ i, O i ≠ some p) (c : RSO G w p so) : Rel G B O r (st ++ [so]) s (w.lay p) := by
  have k := w.lay_wk p m
  refine ⟨⟨R.wf.mh, fun b hb' => ?_, ?_⟩, R.wb, ⟨R.base.hk, R.base.mt, R.base.mn, ?_, R.base.hh⟩, R.ln, ⟨?_, fun n o b h1 h2 => ?_⟩, fun i b e => ⟨(R.own i b e).1, fun z => ?_, (R.own i b e).2.2⟩, R.inj, fun i => (R.env i).wk k fun _ _ => rfl⟩
  · rcases List.mem_append.mp hb' with z | z
    · exact R.wf.um b z
    · rw [List.mem_singleton.mp z]; exact .inl m
  · show (w.u ++ [p]).Nodup
    rw [List.nodup_append]
    refine ⟨R.wf.nd, by simp, fun x hx y hy => ?_⟩
    rw [List.mem_singleton.mp hy]
    intro e
    exact u (by rw [← e]; exact hx)
  · obtain ⟨q, e, fr⟩ := R.base.mu
    refine ⟨q ++ [p], by show w.u ++ [p] = _; rw [e, List.append_assoc], fun b hb' => ?_⟩
    rcases List.mem_append.mp hb' with z | z
    · exact fr b z
    · rw [List.mem_singleton.mp z]; exact hb
  · show (st ++ [so]).length = (w.u ++ [p]).length
    simp [R.sto.len]
  · have h2 : (w.u ++ [p])[n]? = some b := h2
    by_cases z : n < st.length
    · rw [List.getElem?_append_left z] at h1
      rw [List.getElem?_append_left (by rw [← R.sto.len]; exact z)] at h2
      exact RSO.wk k rfl (R.sto.at_ n o b h1 h2)
    · have hn : n = st.length := by
        have := (List.getElem?_eq_some_iff.mp h1).1
        simp at this
        omega
      subst hn
      rw [R.sto.len, List.getElem?_append_right (Nat.le_refl _)] at h2
      rw [List.getElem?_append_right (Nat.le_refl _)] at h1
      simp at h1 h2
      subst h1 h2
      exact RSO.wk k rfl c
  · rcases List.mem_append.mp z with z | z
    · exact (R.own i b e).2.1 z
    · exact ho i (by rw [e, List.mem_singleton.mp z])
theorem je_ref (h : JE X B .fr Wx a f) : JE X B .sh Wx a (bRef f) := by
  refine pe_imp h ?_
  rintro s H Q ⟨O, r, st, w, rfl, R, q⟩
  refine ⟨O, r, st, w, rfl, R, ?_⟩
  have fin : ∀ {d : D} {so : SO} {st1 : Sto}, (∀ w a, RC (cg X) w a d → RSO (cg X) w a so) → post (cg X) B .sh Wx O r s w (.ok (.ref st1.length) (st1 ++ [so])) Q → post (cg X) B .fr Wx O r s w (.ok d st1) Q := by
    intro d so st1 hc q w' v R' x rr
    obtain ⟨al, rfl, n, m, u, c⟩ := rr
    have hb : B.H al = none := by
      cases z : B.H al with
      | none => rfl
      | some o => exact absurd n (R.base.hh al (by rw [z]; simp))
    have ho : ∀ i, O i ≠ some al := fun i z => R.wf.mh al (R.own i al z).1 n
    refine q (w'.lay al) (.ref al) (R'.lay m u hb ho (hc _ _ c)) ⟨x.hk, x.mt, x.mn, ?_, x.hh⟩ ?_
    · obtain ⟨qq, e, fr⟩ := x.mu
      refine ⟨qq ++ [al], by show w'.u ++ [al] = _; rw [e, List.append_assoc], fun b hb' => ?_⟩
      rcases List.mem_append.mp hb' with z | z
      · exact fr b z
      · rw [List.mem_singleton.mp z]; exact n
    · show RD (cg X) (w'.lay al) (.ref st1.length) (.ref al)
      unfold RD
      refine ⟨al, rfl, ?_⟩
      show (w'.u ++ [al])[st1.length]? = some al
      rw [R'.sto.len, List.getElem?_append_right (Nat.le_refl _)]
      simp
  unfold bRef at q
  cases z : f r st with
  | ok d st1 =>
    rw [z] at q
    cases d with
    | lst ds => exact fin (so := .lst ds) (fun _ _ c => c) q
    | dct ks ds => exact fin (so := .dct ks ds) (fun _ _ c => c) q
    | _ => exact (show False from q).elim
  | err cc aa st1 => rw [z] at q; exact q
  | bad => rw [z] at q; exact q.elim
end
end Sm

namespace Sm
open PySem L2
def spL (K : PySem.W.Frag) : Sp := fun vs H Q _ => ∃ (a : Addr) (ns : List Int), vs = [.ref a] ∧ ns.length ≤ 63 ∧ Only H ∧ SqL K H a (ns.map V.int) ∧ ∀ H', Q (.bl true) H'
theorem rds_ints {G : Cfg} {w : Wd} : ∀ ns : List Int, RDs G w (ns.map D.int) (ns.map V.int)
  | [] => by unfold RDs; rfl
  | n :: ns => by
    rw [List.map_cons, List.map_cons]
    unfold RDs
    exact ⟨_, _, rfl, rdI, rds_ints ns⟩
theorem spL_spF {G : Cfg} {g : Fn} (hL : ∀ ns : List Int, ns.length ≤ 63 → ∃ st, g [.frg (ns.map D.int)] [] = .ok (.bl true) st) : ∀ vs H Q E, spL G.K vs H Q E → spF G 1 false g vs H Q E := by
  rintro vs H Q E ⟨a, ns, rfl, hl, only, sq, q⟩
  obtain ⟨st, e⟩ := hL ns hl
  refine ⟨rfl, ⟨H, fun _ => False, []⟩, [.frg (ns.map D.int)], [], rfl, ⟨⟨fun _ z => z.elim, fun _ z => (by cases z), List.nodup_nil⟩, ⟨rfl, fun n o a z => (by simp at z)⟩⟩, ?_, ?_⟩
  · unfold RDs
    refine ⟨_, _, rfl, ?_, by unfold RDs; rfl⟩
    unfold RD
    refine ⟨a, ns.map V.int, rfl, ?_, rds_ints ns⟩
    rcases sq with (h | ⟨o, h⟩) | h
    · rcases only a with z | ⟨o, xs, z⟩
      · rw [z] at h; cases h
      · rw [z] at h; cases h
    · exact .inl ⟨o, h, fun z => z⟩
    · exact .inr h
  · rw [e]
    intro w' v F x h
    rw [if_neg (by simp)] at h
    unfold RD at h
    rw [h]
    exact q _
def sExt (i : Nat) (f : Ev) : Sv := fun r st => match r i with
  | some (true, .lst ds) => ofRs (f r st) r fun d st1 => match d with
    | .lst es => if ds.length + es.length ≤ LIM then .nx (r.set i (some (true, .lst (ds ++ es)))) st1 else .bad
    | _ => .bad
  | _ => .bad
section
variable {X : Cx} {B : Bs} {k : Kd} {fr : Bool} {Wx : WX} {a b c tg iter e elt : Expr} {es ifs : List Expr} {fs : List Ev} {f g h : Ev} {pos : Pos} {st1 st2 : Stmt} {rest body : List Stmt} {F F' : Sv} {t : Tg} {ts : List Tg} {it : Iv}
theorem js_ext {i : Nat} {x : Str} {p apos cpos : Pos} (hN : X.N[i]? = some x) (hv : Vis X.env.scope x) (ha : JA X B .bo Wx [a] [f]) (hd : (x == ("__debug__" : Str)) = false := by decide) (hcd : (x == ("__classdict__" : Str)) = false := by decide)
    (hbase : attributeBase (.Name x p) "extend" X.env (eval (.Name x p) X.env) = eval (.Name x p) X.env := by rfl)
    (hfew : ((backTo cpos (starEach [a] X.env)).all (fun x => !x.1) && (backToKw cpos (keywordEach [] X.env)).all (fun x => x.1.isSome) && decide ([a].length + ([] : List Keyword).length + (if ([] : List Keyword).isEmpty then 0 else 1) < 30)) = true := by rfl)
    (hline : (apos.endLine == cpos.line) = true := by rfl) (hst : starEach [a] X.env = (false, eval a X.env) :: starEach [] X.env := by rfl) (hplain : (backTo cpos (starEach [] X.env)).any (·.1) = false := by rfl)
    (hs : swapsWith (.Call (.Attribute (.Name x p) "extend" apos) [a] [] cpos) none pos.line X.env = pure false := by rfl) :
    JS X B fr Wx (.Expr (.Call (.Attribute (.Name x p) "extend" apos) [a] [] cpos) pos) (sExt i f) := by
  refine ps_imp (ps_expr (pe_bm PySem.F.plainAttrs_list PySem.F.slot_list_extend PySem.F.type_list_extend mt_extend (pe_var (pos := p) hN hv hd hcd) ha hbase hfew hline hst hplain) hs) ?_
  rintro D s H ⟨O, r, st, w, rfl, R, q⟩
  have en := R.env i
  unfold sExt at q
  cases z : r i with
  | none => rw [z] at q; exact q.elim
  | some bd =>
    obtain ⟨bb, d0⟩ := bd
    cases bb with
    | false => rw [z] at q; exact (show False from q).elim
    | true =>
      cases d0 with
      | lst ds =>
        rw [z] at q en
        obtain ⟨al, oi, es, c⟩ := en
        obtain ⟨vs, hl, rs⟩ := c
        have own := R.own i al oi
        refine ⟨.ref al, es, .inl ⟨rfl, vs, .of hl⟩, O, r, st, w, rfl, R, ?_⟩
        simp only [evs]
        cases zf : f r st with
        | ok d st1 =>
          simp only [zf] at q
          intro w1 us R1 x1 rr
          obtain ⟨v, rfl, rv⟩ := RRs.one rr
          have hl1 : w1.H al = some (.lst vs) := (x1.hk al (by rw [hl]; simp) (.inl own.2.1)).trans hl
          have own1 := R1.own i al oi
          cases d with
          | lst es =>
            by_cases hz : ds.length + es.length ≤ LIM
            · have q' : postS (cg X) B fr Wx w (.nx (r.set i (some (true, .lst (ds ++ es)))) st1) D := by
                have q0 := q
                simp only [ofRs, if_pos hz] at q0
                exact q0
              have lm := LIM_le
              have rl := rs.length
              obtain ⟨bl, us, rfl, hb, rb⟩ := rv.lst
              have rl2 := rb.length
              refine ⟨al, bl, vs, us, rfl, rfl, hl1, hb, by omega, ?_⟩
              have m1 : w1.M al := own1.1
              refine q' O s (w1.chg al (.lst (vs ++ us))) (R1.chgOwn z oi ⟨_, upd_same, ?_⟩) ((x1.wk R.wf).trans (Wd.chg_wk m1))
              exact RDs.append (RDs.wk ((x1.wk R.wf).trans (Wd.chg_wk m1)) _ _ rs) (RDs.wk (Wd.chg_wk m1) _ _ rb)
            · simp only [ofRs, if_neg hz] at q
              exact q.elim
          | _ => exact (show False from q).elim
        | err cc aa st1 => simp only [zf] at q; exact fun w' cls dd R' x' rx => q O s w' cls dd R' (x'.wk R.wf) rx
        | bad => simp only [zf] at q; exact q.elim
      | _ => rw [z] at q; exact (show False from q).elim
def I400 : Int := 10000000000000000000000000000000000000000000000000000000000000000000000000000000
def fRepr : List D → Sto → Rs
  | [.non], st => .ok (.str "None") st
  | [.bl b], st => .ok (.str (if b then "True" else "False")) st
  | [.int i], st => if -I400 < i ∧ i < I400 then .ok (.str (toString i)) st else .bad
  | _, _ => .bad
theorem small_log {i : Int} (h : -I400 < i ∧ i < I400) : i.natAbs.log2 < 1920 := by
  have e : I400 < 2 ^ 300 := by unfold I400; omega
  have h1 : i.natAbs < 2 ^ 300 := by omega
  have := PySem.Flt.log2_lt_of (by decide : 0 < 300) h1
  omega
end
end Sm

namespace Sm
open PySem L2

def RsP (x : Rs) (Q : D → Sto → Prop) (E : Str → Option (Str × D) → Sto → Prop) : Prop := match x with
  | .ok d st => Q d st
  | .err c a st => E c a st
  | .bad => False
def RsLP (x : RsL) (Q : List D → Sto → Prop) (E : Str → Option (Str × D) → Sto → Prop) : Prop := match x with
  | .ok d st => Q d st
  | .err c a st => E c a st
  | .bad => False
def RtP (x : Rt) (N : Env → Sto → Prop) (R : D → Sto → Prop) (L : Bool → Env → Sto → Prop) (E : Str → Option (Str × D) → Env → Sto → Prop) : Prop := match x with
  | .nx r st => N r st
  | .rt d st => R d st
  | .bk r st => L true r st
  | .ct r st => L false r st
  | .err c a r st => E c a r st
  | .bad => False
def bX (d : D) (p q : Prop) : Prop := match d with
  | .bl b => (b = true → p) ∧ (b = false → q)
  | _ => False
section
variable {x : Rs} {Q : D → Sto → Prop} {E : Str → Option (Str × D) → Sto → Prop} {QL : List D → Sto → Prop}
theorem w_ok {d : D} {st : Sto} : RsP (.ok d st) Q E = Q d st := rfl
theorem w_err {c : Str} {a : Option (Str × D)} {st : Sto} : RsP (.err c a st) Q E = E c a st := rfl
theorem w_bad : RsP .bad Q E = False := rfl
theorem wl_ok {d : List D} {st : Sto} : RsLP (.ok d st) QL E = QL d st := rfl
theorem w_bind {k : D → Sto → Rs} : RsP (x.bind k) Q E = RsP x (fun d st => RsP (k d st) Q E) E := by cases x <;> rfl
theorem w_bindL {x : RsL} {k : List D → Sto → Rs} : RsP (x.bind k) Q E = RsLP x (fun d st => RsP (k d st) Q E) E := by cases x <;> rfl
theorem wl_bind {k : D → Sto → RsL} : RsLP (x.bindL k) QL E = RsP x (fun d st => RsLP (k d st) QL E) E := by cases x <;> rfl
theorem wl_bindL {x : RsL} {k : List D → Sto → RsL} : RsLP (x.bindL k) QL E = RsLP x (fun d st => RsLP (k d st) QL E) E := by cases x <;> rfl
theorem w_mono {Q' : D → Sto → Prop} {E' : Str → Option (Str × D) → Sto → Prop} (h : RsP x Q' E') (q : ∀ d st, Q' d st → Q d st) (e : ∀ c a st, E' c a st → E c a st) : RsP x Q E := by
  cases x with
  | ok d st => exact q _ _ h
  | err c a st => exact e _ _ _ h
  | bad => exact h
end
section
variable {x : Rt} {N : Env → Sto → Prop} {R : D → Sto → Prop} {L : Bool → Env → Sto → Prop} {E : Str → Option (Str × D) → Env → Sto → Prop} {r : Env} {st : Sto} {f g : Sv} {c e : Ev} {Q : D → Sto → Prop} {E' : Str → Option (Str × D) → Sto → Prop}
theorem w_nx : RtP (.nx r st) N R L E = N r st := rfl
theorem w_rt {d : D} : RtP (.rt d st) N R L E = R d st := rfl
theorem w_bk : RtP (.bk r st) N R L E = L true r st := rfl
theorem w_ct : RtP (.ct r st) N R L E = L false r st := rfl
theorem w_er {c : Str} {a : Option (Str × D)} : RtP (.err c a r st) N R L E = E c a r st := rfl
theorem w_bd : RtP .bad N R L E = False := rfl
theorem w_sq : RtP (sSq f g r st) N R L E = RtP (f r st) (fun r1 st1 => RtP (g r1 st1) N R L E) R L E := by
  unfold sSq; cases f r st <;> rfl
theorem w_of {x : Rs} {k : D → Sto → Rt} : RtP (ofRs x r k) N R L E = RsP x (fun d st => RtP (k d st) N R L E) (fun c a st => E c a r st) := by cases x <;> rfl
theorem w_sIf : RtP (sIf c f g r st) N R L E = RsP (c r st) (fun d st1 => bX d (RtP (f r st1) N R L E) (RtP (g r st1) N R L E)) (fun c a st => E c a r st) := by
  unfold sIf
  rw [w_of]
  congr 1
  funext d st1
  cases d <;> try rfl
  rename_i b
  cases b <;> simp [bX]
theorem w_and {f g : Ev} : RsP (bAnd f g r st) Q E' = RsP (f r st) (fun d st1 => bX d (RsP (g r st1) Q E') (Q (.bl false) st1)) E' := by
  unfold bAnd
  rw [w_bind]
  congr 1
  funext d st1
  cases d <;> try rfl
  rename_i b
  cases b <;> simp [bX, RsP]
theorem w_or {f g : Ev} : RsP (bOr f g r st) Q E' = RsP (f r st) (fun d st1 => bX d (Q (.bl true) st1) (RsP (g r st1) Q E')) E' := by
  unfold bOr
  rw [w_bind]
  congr 1
  funext d st1
  cases d <;> try rfl
  rename_i b
  cases b <;> simp [bX, RsP]
theorem w_bIf {f g : Ev} : RsP (bIf c f g r st) Q E' = RsP (c r st) (fun d st1 => bX d (RsP (f r st1) Q E') (RsP (g r st1) Q E')) E' := by
  unfold bIf
  rw [w_bind]
  congr 1
  funext d st1
  cases d <;> try rfl
  rename_i b
  cases b <;> simp [bX]
theorem w_mk {fr : Bool} {F : Sv} {ds : List D} : RsP (mkF fr F ds st) Q E' = RtP (F (argEnv ds) st) (fun _ st' => fr = false ∧ Q .non st') Q (fun _ _ _ => False) (fun c a _ st' => E' c a st') := by
  unfold mkF
  cases F (argEnv ds) st <;> try rfl
  cases fr <;> simp [RsP, RtP]
theorem w_call {g : Fn} {fs : List Ev} : RsP (bCall g fs r st) Q E' = RsLP (evs fs r st) (fun ds st => RsP (g ds st) Q E') E' := w_bindL
theorem w_tup {fs : List Ev} : RsP (bTup fs r st) Q E' = RsLP (evs fs r st) (fun ds st => Q (.tup ds) st) E' := w_bindL
theorem w_lst {fs : List Ev} : RsP (bLst fs r st) Q E' = RsLP (evs fs r st) (fun ds st => Q (.lst ds) st) E' := w_bindL
theorem wl_cons {f : Ev} {fs : List Ev} {QL : List D → Sto → Prop} : RsLP (evs (f :: fs) r st) QL E' = RsP (f r st) (fun d st1 => RsLP (evs fs r st1) (fun ds st2 => QL (d :: ds) st2) E') E' := by
  show RsLP ((f r st).bindL fun d st1 => (evs fs r st1).bindL fun ds st2 => .ok (d :: ds) st2) QL E' = _
  rw [wl_bind]
  congr 1
  funext d st1
  rw [wl_bindL]
  rfl
theorem wl_nil {QL : List D → Sto → Prop} : RsLP (evs [] r st) QL E' = QL [] st := rfl
theorem w_bin {F : D → D → Sto → Rs} {f g : Ev} : RsP (bBin F f g r st) Q E' = RsP (f r st) (fun a st1 => RsP (g r st1) (fun b st2 => RsP (F a b st2) Q E') E') E' := by
  unfold bBin
  rw [w_bind]
  congr 1
  funext d st1
  rw [w_bind]
theorem w_not {f : Ev} : RsP (bNot f r st) Q E' = RsP (f r st) (fun d st1 => match d with | .bl b => Q (.bl (!b)) st1 | _ => False) E' := by
  unfold bNot
  rw [w_bind]
  congr 1
  funext d st1
  cases d <;> rfl
theorem w_neg {f : Ev} : RsP (bNeg f r st) Q E' = RsP (f r st) (fun d st1 => match d with | .int b => Q (.int (-b)) st1 | _ => False) E' := by
  unfold bNeg
  rw [w_bind]
  congr 1
  funext d st1
  cases d <;> rfl
theorem w_chain {F F' : D → D → Sto → Rs} {f g h : Ev} : RsP (bChain F F' f g h r st) Q E' = RsP (f r st) (fun a st1 => RsP (g r st1) (fun b st2 => RsP (F a b st2) (fun z st3 => bX z (RsP (h r st3) (fun c st4 => RsP (F' b c st4) Q E') E') (Q (.bl false) st3)) E') E') E' := by
  unfold bChain
  rw [w_bind]
  congr 1; funext d st1
  rw [w_bind]
  congr 1; funext d2 st2
  rw [w_bind]
  congr 1; funext d3 st3
  cases d3 <;> try rfl
  rename_i b
  cases b with
  | true => simp only [bX, w_bind]; simp
  | false => simp [bX, RsP]
theorem w_c {d : D} : RsP (bC d r st) Q E' = Q d st := rfl
theorem w_set {i : Nat} {f : Ev} : RtP (sSet i f r st) N R L E = RsP (f r st) (fun d st1 => N (r.set i (some (false, d))) st1) (fun c a st => E c a r st) := w_of
theorem w_own {i : Nat} {f : Ev} : RtP (sOwn i f r st) N R L E = RsP (f r st) (fun d st1 => N (r.set i (some (true, d))) st1) (fun c a st => E c a r st) := w_of
theorem w_ex {f : Ev} : RtP (sEx f r st) N R L E = RsP (f r st) (fun _ st1 => N r st1) (fun c a st => E c a r st) := w_of
theorem w_ret {f : Ev} : RtP (sRet f r st) N R L E = RsP (f r st) (fun d st1 => R d st1) (fun c a st => E c a r st) := w_of
theorem w_retN : RtP (sRetN r st) N R L E = R .non st := rfl
theorem w_skip : RtP (sSkip r st) N R L E = N r st := rfl
theorem w_raise {c : Str} : RtP (sRaise c r st) N R L E = E c none r st := rfl
theorem w_app {i : Nat} {f : Ev} {ds : List D} (h : r i = some (true, .lst ds)) : RtP (sApp i f r st) N R L E = RsP (f r st) (fun d st1 => ds.length < LIM ∧ N (r.set i (some (true, .lst (ds ++ [d])))) st1) (fun c a st => E c a r st) := by
  unfold sApp
  rw [h, w_of]
  congr 1
  funext d st1
  by_cases z : ds.length < LIM <;> simp [z, RtP]
theorem w_ext {i : Nat} {f : Ev} {ds : List D} (h : r i = some (true, .lst ds)) : RtP (sExt i f r st) N R L E = RsP (f r st) (fun d st1 => match d with | .lst es => ds.length + es.length ≤ LIM ∧ N (r.set i (some (true, .lst (ds ++ es)))) st1 | _ => False) (fun c a st => E c a r st) := by
  unfold sExt
  rw [h, w_of]
  congr 1
  funext d st1
  cases d <;> try rfl
  rename_i es
  by_cases z : ds.length + es.length ≤ LIM <;> simp [z, RtP]
theorem w_putR {p g f : Ev} : RtP (sPutR p g f r st) N R L E = RsP (f r st) (fun d st1 => RsP (p r st1) (fun o st2 => RsP (g r st2) (fun j st3 => RtP (putR r st3 o j d) N R L E) (fun c a st => E c a r st)) (fun c a st => E c a r st)) (fun c a st => E c a r st) := by
  unfold sPutR
  rw [w_of]
  congr 1; funext d st1
  rw [w_of]
  congr 1; funext d st1
  rw [w_of]
theorem w_to {t : Tg} {f : Ev} : RtP (sTo t f r st) N R L E = RsP (f r st) (fun d st1 => ∃ r', t d r = some r' ∧ N r' st1) (fun c a st => E c a r st) := by
  unfold sTo
  rw [w_of]
  congr 1; funext d st1
  cases t d r <;> simp [RtP]
theorem w_ref {f : Ev} : RsP (bRef f r st) Q E' = RsP (f r st) (fun d st1 => match d with | .lst ds => Q (.ref st1.length) (st1 ++ [.lst ds]) | .dct ks vs => Q (.ref st1.length) (st1 ++ [.dct ks vs]) | _ => False) E' := by
  unfold bRef
  rw [w_bind]
  congr 1; funext d st1
  cases d <;> rfl

def RsIP (x : RsI) (Q : List D → Gd → Sto → Prop) (E : Str → Option (Str × D) → Sto → Prop) : Prop := match x with
  | .ok ds gs st => Q ds gs st
  | .err c a st => E c a st
  | .bad => False
theorem wi_ok {ds : List D} {gs : Gd} {QI : List D → Gd → Sto → Prop} : RsIP (.ok ds gs st) QI E' = QI ds gs st := rfl
theorem w_for {it : Iv} {t : Tg} {F : Sv} : RtP (sFor it t F r st) N R L E = RsIP (it r st) (fun ds gs st1 => RtP (forL t F gs ds r st1) N R L E) (fun c a st => E c a r st) := by
  unfold sFor
  cases it r st <;> rfl
theorem w_lc {it : Iv} {t : Tg} {vs : List Nat} : RsP (bLc it t c e vs r st) Q E' = RsIP (it r st) (fun ds gs st1 => RsP (lcL t c e gs (wp vs r) ds [] st1) Q E') E' := by
  unfold bLc
  cases it r st <;> rfl
theorem wi_seq {f : Ev} {QL : List D → Gd → Sto → Prop} : RsIP (itSeq f r st) QL E' = RsP (f r st) (fun d st1 => match d with | .lst ds => QL ds [] st1 | .tup ds => QL ds [] st1 | .ref n => (match st1[n]? with | some (.lst ds) => QL ds [(n, .lst ds)] st1 | _ => False) | _ => False) E' := by
  unfold itSeq
  cases f r st <;> try rfl
  rename_i d st1
  cases d <;> try rfl
  rename_i n
  simp only [RsP]
  cases st1[n]? with
  | none => rfl
  | some so => cases so <;> rfl
theorem wi_r1 {f : Ev} {QL : List D → Gd → Sto → Prop} : RsIP (itR1 f r st) QL E' = RsP (f r st) (fun d st1 => match d with | .int j => (-B62 ≤ j ∧ j < B62) ∧ QL (rangeD 0 j.toNat) [] st1 | _ => False) E' := by
  unfold itR1
  cases f r st <;> try rfl
  rename_i d st1
  cases d <;> try rfl
  rename_i j
  by_cases z : -B62 ≤ j ∧ j < B62 <;> simp [z, RsIP, RsP]
theorem wi_r2 {f g : Ev} {QL : List D → Gd → Sto → Prop} : RsIP (itR2 f g r st) QL E' = RsP (f r st) (fun d st1 => RsP (g r st1) (fun d2 st2 => match d, d2 with | .int i, .int j => ((-B62 ≤ i ∧ i < B62) ∧ (-B62 ≤ j ∧ j < B62)) ∧ QL (rangeD i (j - i).toNat) [] st2 | _, _ => False) E') E' := by
  unfold itR2
  cases f r st <;> try rfl
  rename_i d st1
  simp only [RsP]
  cases g r st1 <;> try rfl
  rename_i d2 st2
  cases d <;> try rfl
  rename_i i
  cases d2 <;> try rfl
  rename_i j
  by_cases z : (-B62 ≤ i ∧ i < B62) ∧ (-B62 ≤ j ∧ j < B62)
  · simp [z, RsIP]
  · simp only [z, RsIP, false_and, if_false]
def srcP (st : Sto) (d : D) (Q : List D → Gd → Prop) : Prop := match d with
  | .lst ds => Q ds []
  | .ref n => (match st[n]? with | some (.lst ds) => Q ds [(n, .lst ds)] | _ => False)
  | _ => False
theorem src_lst {ds : List D} {Q : List D → Gd → Prop} : srcP st (.lst ds) Q = Q ds [] := rfl
theorem src_ref {n : Nat} {Q : List D → Gd → Prop} : srcP st (.ref n) Q = match st[n]? with | some (.lst ds) => Q ds [(n, .lst ds)] | _ => False := rfl
theorem src_eq {d : D} {Q : List D → Gd → Prop} : srcP st d Q = match srcD st d with | some p => Q p.1 p.2 | none => False := by
  cases d <;> try rfl
  rename_i n
  unfold srcP srcD
  simp only
  cases st[n]? with
  | none => rfl
  | some so => cases so <;> rfl
theorem wi_enum {f : Ev} {QL : List D → Gd → Sto → Prop} : RsIP (itEnum f r st) QL E' = RsP (f r st) (fun d st1 => srcP st1 d fun ds gs => QL (numd 0 ds) gs st1) E' := by
  unfold itEnum
  cases f r st <;> try rfl
  rename_i d st1
  simp only [RsP, src_eq]
  cases srcD st1 d <;> rfl
def zipP (st : Sto) (d d2 : D) (Q : List D → Gd → Prop) : Prop := RsIP (zipS d d2 st) (fun ds gs _ => Q ds gs) (fun _ _ _ => False)
theorem zip_tt {xs ys : List D} {Q : List D → Gd → Prop} : zipP st (.tup xs) (.tup ys) Q = Q (zipd xs ys) [] := rfl
theorem zip_ll {xs ys : List D} {Q : List D → Gd → Prop} : zipP st (.lst xs) (.lst ys) Q = Q (zipd xs ys) [] := rfl
theorem zip_rl {n : Nat} {ys : List D} {Q : List D → Gd → Prop} : zipP st (.ref n) (.lst ys) Q = match st[n]? with | some (.lst xs) => Q (zipd xs ys) [(n, .lst xs)] | _ => False := by
  unfold zipP zipS srcD
  simp only
  cases st[n]? with
  | none => rfl
  | some so => cases so <;> rfl
theorem zip_lr {n : Nat} {xs : List D} {Q : List D → Gd → Prop} : zipP st (.lst xs) (.ref n) Q = match st[n]? with | some (.lst ys) => Q (zipd xs ys) [(n, .lst ys)] | _ => False := by
  unfold zipP zipS srcD
  simp only
  cases st[n]? with
  | none => rfl
  | some so => cases so <;> rfl
theorem wi_zip {f g : Ev} {QL : List D → Gd → Sto → Prop} : RsIP (itZip f g r st) QL E' = RsP (f r st) (fun d st1 => RsP (g r st1) (fun d2 st2 => zipP st2 d d2 fun ds gs => QL ds gs st2) E') E' := by
  unfold itZip
  cases f r st <;> try rfl
  rename_i d st1
  simp only [RsP]
  cases g r st1 <;> try rfl
  rename_i d2 st2
  simp only
  unfold zipP
  rcases zipS_cases (d := d) (d2 := d2) (st := st2) with ⟨ds, gs, e⟩ | e
  · rw [e]; rfl
  · rw [e]; rfl
theorem for_rule {t : Tg} {F : Sv} {gs : Gd} {α : Type} {enc : α → D} (I : List α → List α → Env → Sto → Prop) {xs : List α} (h0 : I [] xs r st)
    (hs : ∀ done a rest r st, xs = done ++ a :: rest → I done (a :: rest) r st → ∃ r1, t (enc a) r = some r1 ∧ RtP (F r1 st) (fun r2 st2 => I (done ++ [a]) rest r2 st2) R (fun b r2 st2 => if b = true then N r2 st2 else I (done ++ [a]) rest r2 st2) E)
    (hn : ∀ r st, I xs [] r st → N r st) (hg : ∀ done rest r st, I done rest r st → okG gs st := by exact fun _ _ _ _ _ => okG_nil.mpr trivial) : RtP (forL t F gs (xs.map enc) r st) N R L E := by
  have key : ∀ (rest done : List α) r st, xs = done ++ rest → I done rest r st → RtP (forL t F gs (rest.map enc) r st) N R L E := by
    intro rest
    induction rest with
    | nil =>
      intro done r st e h
      rw [List.append_nil] at e
      subst e
      rw [List.map_nil]
      unfold forL
      rw [if_pos (hg _ _ _ _ h)]
      exact hn r st h
    | cons a rest ih =>
      intro done r st e h
      obtain ⟨r1, e1, h1⟩ := hs done a rest r st e h
      rw [List.map_cons]
      unfold forL
      rw [if_pos (hg _ _ _ _ h), e1]
      simp only
      cases z : F r1 st with
      | nx r2 st2 =>
        rw [z] at h1
        exact ih (done ++ [a]) r2 st2 (by rw [e]; simp) h1
      | ct r2 st2 =>
        rw [z] at h1
        exact ih (done ++ [a]) r2 st2 (by rw [e]; simp) (by simpa [RtP] using h1)
      | bk r2 st2 =>
        rw [z] at h1
        simpa [RtP] using h1
      | rt d st2 => rw [z] at h1; exact h1
      | err c a r2 st2 => rw [z] at h1; exact h1
      | bad => rw [z] at h1; exact h1.elim
  exact key xs [] r st rfl h0
theorem lc_rule {t : Tg} {c e : Ev} {gs : Gd} {α : Type} {enc : α → D} (I : List α → List α → List D → Sto → Prop) {xs : List α} (h0 : I [] xs [] st)
    (hs : ∀ done a rest acc st, xs = done ++ a :: rest → I done (a :: rest) acc st → ∃ r1, t (enc a) r = some r1 ∧ RsP (c r1 st) (fun d st1 => bX d (RsP (e r1 st1) (fun x st2 => I (done ++ [a]) rest (acc ++ [x]) st2) (fun _ _ _ => False)) (I (done ++ [a]) rest acc st1)) (fun _ _ _ => False))
    (hl : xs.length ≤ LIM) (hn : ∀ acc st, I xs [] acc st → Q (.lst acc) st) (hg : ∀ done rest acc st, I done rest acc st → okG gs st := by exact fun _ _ _ _ _ => okG_nil.mpr trivial) : RsP (lcL t c e gs r (xs.map enc) [] st) Q E' := by
  have key : ∀ (rest done : List α) acc st, xs = done ++ rest → acc.length ≤ done.length → I done rest acc st → RsP (lcL t c e gs r (rest.map enc) acc st) Q E' := by
    intro rest
    induction rest with
    | nil =>
      intro done acc st e _ h
      rw [List.append_nil] at e
      subst e
      rw [List.map_nil]
      unfold lcL
      rw [if_pos (hg _ _ _ _ h)]
      exact hn acc st h
    | cons a rest ih =>
      intro done acc st e' hc h
      obtain ⟨r1, e1, h1⟩ := hs done a rest acc st e' h
      have hz : acc.length < LIM := by
        have : xs.length = done.length + (rest.length + 1) := by rw [e']; simp
        omega
      rw [List.map_cons]
      unfold lcL
      rw [if_pos (hg _ _ _ _ h), e1]
      simp only
      cases z : c r1 st with
      | ok d st1 =>
        rw [z] at h1
        cases d with
        | bl b =>
          cases b with
          | true =>
            have h2 : RsP (e r1 st1) (fun x st2 => I (done ++ [a]) rest (acc ++ [x]) st2) (fun _ _ _ => False) := by simpa [RsP, bX] using h1
            simp only
            cases z2 : e r1 st1 with
            | ok x st2 =>
              rw [z2] at h2
              simp only [hz, if_true]
              exact ih (done ++ [a]) _ st2 (by rw [e']; simp) (by simp; omega) h2
            | err _ _ _ => rw [z2] at h2; exact h2.elim
            | bad => rw [z2] at h2; exact h2.elim
          | false =>
            have h2 : I (done ++ [a]) rest acc st1 := by simpa [RsP, bX] using h1
            simp only
            exact ih (done ++ [a]) _ st1 (by rw [e']; simp) (by simp; omega) h2
        | _ => exact (show False from h1).elim
      | err _ _ _ => rw [z] at h1; exact h1.elim
      | bad => rw [z] at h1; exact h1.elim
  exact key xs [] [] st rfl (by simp) h0
end
theorem lc_pure {t : Tg} {c e : Ev} {gs : Gd} {r : Env} {st : Sto} {Q : D → Sto → Prop} {E' : Str → Option (Str × D) → Sto → Prop} {α : Type} {enc : α → D} (p : α → Bool) (g : α → D) {xs : List α}
    (hs : ∀ a ∈ xs, ∃ r1, t (enc a) r = some r1 ∧ RsP (c r1 st) (fun d st1 => d = .bl (p a) ∧ st1 = st) (fun _ _ _ => False) ∧ (p a = true → RsP (e r1 st) (fun d st1 => d = g a ∧ st1 = st) (fun _ _ _ => False)))
    (hl : xs.length ≤ LIM) (hn : Q (.lst ((xs.filter p).map g)) st) (hg : okG gs st := by exact okG_nil.mpr trivial) : RsP (lcL t c e gs r (xs.map enc) [] st) Q E' := by
  refine lc_rule (fun done rest acc s => s = st ∧ acc = (done.filter p).map g) ⟨rfl, rfl⟩ ?_ hl (fun acc s h => by rw [h.1, h.2]; exact hn) (fun _ _ _ s h => by rw [h.1]; exact hg)
  rintro done a rest acc s e ⟨rfl, rfl⟩
  obtain ⟨r1, e1, h1, h2⟩ := hs a (by rw [e]; simp)
  refine ⟨r1, e1, w_mono h1 ?_ (fun _ _ _ h => h)⟩
  rintro d s1 ⟨rfl, rfl⟩
  refine ⟨fun hp => w_mono (h2 hp) ?_ (fun _ _ _ h => h), fun hp => ?_⟩
  · rintro d s2 ⟨rfl, rfl⟩
    simp [List.filter_append, hp]
  · simp [List.filter_append, hp]
theorem rangeD_map {lo : Int} {n : Nat} : rangeD lo n = ((List.range n).map fun (i : Nat) => lo + (i : Int)).map D.int := by simp [rangeD]
theorem bX_bl {b : Bool} {p q : Prop} : bX (.bl b) p q = ((b = true → p) ∧ (b = false → q)) := rfl
section
variable {x : Rt} {N : Env → Sto → Prop} {R : D → Sto → Prop} {L : Bool → Env → Sto → Prop} {E : Str → Option (Str × D) → Env → Sto → Prop} {r : Env} {st : Sto} {f g : Sv} {c e : Ev} {Q : D → Sto → Prop} {E' : Str → Option (Str × D) → Sto → Prop}
theorem m_var {i : Nat} : RsP (bVar i r st) Q E' = match r i with | some (false, d) => Q d st | _ => False := by
  unfold bVar
  cases z : r i with
  | none => rfl
  | some p => obtain ⟨b, d⟩ := p; cases b <;> rfl
theorem m_peek {i : Nat} : RsP (bPeek i r st) Q E' = match r i with | some (_, d) => Q d st | _ => False := by
  unfold bPeek
  cases z : r i with
  | none => rfl
  | some p => rfl
theorem m_retOwn {i : Nat} : RtP (sRetOwn i r st) N R L E = match r i with | some (true, d) => R d st | _ => False := by
  unfold sRetOwn
  cases z : r i with
  | none => rfl
  | some p => obtain ⟨b, d⟩ := p; cases b <;> rfl
theorem m_fix {i : Nat} {f : Sv} : RtP (sFix i f r st) N R L E = match r i with | some (true, d) => RtP (f (r.set i (some (false, d))) st) N R L E | some (false, _) => RtP (f r st) N R L E | none => False := by
  unfold sFix
  cases z : r i with
  | none => rfl
  | some p => obtain ⟨b, d⟩ := p; cases b <;> rfl
theorem m_app {i : Nat} {f : Ev} : RtP (sApp i f r st) N R L E = match r i with | some (true, .lst ds) => RsP (f r st) (fun d st1 => ds.length < LIM ∧ N (r.set i (some (true, .lst (ds ++ [d])))) st1) (fun c a st => E c a r st) | _ => False := by
  cases z : r i with
  | none => unfold sApp; rw [z]; rfl
  | some p =>
    obtain ⟨b, d⟩ := p
    cases b with
    | false => unfold sApp; rw [z]; rfl
    | true =>
      cases d with
      | lst ds => exact w_app z
      | _ => unfold sApp; rw [z]; rfl
theorem m_ext {i : Nat} {f : Ev} : RtP (sExt i f r st) N R L E = match r i with | some (true, .lst ds) => RsP (f r st) (fun d st1 => match d with | .lst es => ds.length + es.length ≤ LIM ∧ N (r.set i (some (true, .lst (ds ++ es)))) st1 | _ => False) (fun c a st => E c a r st) | _ => False := by
  cases z : r i with
  | none => unfold sExt; rw [z]; rfl
  | some p =>
    obtain ⟨b, d⟩ := p
    cases b with
    | false => unfold sExt; rw [z]; rfl
    | true =>
      cases d with
      | lst ds => exact w_ext z
      | _ => unfold sExt; rw [z]; rfl
theorem m_putL {ds : List D} {z : Int} {d : D} {k : List D → Rt} : RtP (putL ds (.int z) d k) N R L E = ∃ n, ixN ds.length z = some n ∧ RtP (k (ds.set n d)) N R L E := by
  unfold putL
  simp only
  cases ixN ds.length z <;> simp [RtP]
theorem m_put {i : Nat} {g f : Ev} : RtP (sPut i g f r st) N R L E = RsP (f r st) (fun d st1 => match r i with | some (true, .lst ds) => RsP (g r st1) (fun j st2 => RtP (putL ds j d fun es => .nx (r.set i (some (true, .lst es))) st2) N R L E) (fun c a st => E c a r st) | _ => False) (fun c a st => E c a r st) := by
  unfold sPut
  rw [w_of]
  congr 1
  funext d st1
  cases z : r i with
  | none => rfl
  | some p =>
    obtain ⟨b, d⟩ := p
    cases b with
    | false => rfl
    | true =>
      cases d with
      | lst ds => exact w_of
      | _ => rfl
theorem m_putR {n : Nat} {j d : D} : RtP (putR r st (.ref n) j d) N R L E = match st[n]? with | some (.lst ds) => RtP (putL ds j d fun es => .nx r (st.set n (.lst es))) N R L E | _ => False := by
  unfold putR
  simp only
  cases z : st[n]? with
  | none => rfl
  | some p => cases p <;> rfl
theorem env_set {i j : Nat} {x : Option (Bool × D)} : Env.set r i x j = if j = i then x else r j := rfl
theorem env_0 {d : D} {ds : List D} : argEnv (d :: ds) 0 = some (false, d) := rfl
theorem env_s {d : D} {ds : List D} {n : Nat} : argEnv (d :: ds) (n + 1) = argEnv ds n := rfl
theorem env_n {n : Nat} : argEnv [] n = none := rfl
theorem env_wp {vs : List Nat} {j : Nat} : wp vs r j = if j ∈ vs then none else r j := rfl
theorem t_n {i : Nat} {d : D} : tgN i d r = some (r.set i (some (false, d))) := rfl
theorem t_u {ts : List Tg} {ds : List D} : tgU ts (.tup ds) r = tgs ts ds r := rfl
theorem t_0 : tgs [] [] r = some r := rfl
theorem t_s {t : Tg} {ts : List Tg} {d : D} {ds : List D} : tgs (t :: ts) (d :: ds) r = (t d r).bind (tgs ts ds) := rfl
end
end Sm

namespace Sm
open PySem L2
section
variable {Q : D → Sto → Prop} {E : Str → Option (Str × D) → Sto → Prop} {st : Sto} {i j : Int} {xs ys : List D}
theorem o_add : RsP (opAdd (.int i) (.int j) st) Q E = Q (.int (i + j)) st := rfl
theorem o_addT : RsP (opAdd (.tup xs) (.tup ys) st) Q E = (xs.length + ys.length ≤ LIM ∧ Q (.tup (xs ++ ys)) st) := by
  by_cases h : xs.length + ys.length ≤ LIM <;> simp [opAdd, h, RsP]
theorem o_addL : RsP (opAdd (.lst xs) (.lst ys) st) Q E = (xs.length + ys.length ≤ LIM ∧ Q (.lst (xs ++ ys)) st) := by
  by_cases h : xs.length + ys.length ≤ LIM <;> simp [opAdd, h, RsP]
theorem o_addS {x y : Str} : RsP (opAdd (.str x) (.str y) st) Q E = (x.length + y.length ≤ LIM ∧ Q (.str (x ++ y)) st) := by
  by_cases h : x.length + y.length ≤ LIM <;> simp [opAdd, h, RsP]
theorem o_cat : RsP (opCat (.lst xs) (.lst ys) st) Q E = (xs.length + ys.length ≤ LIM ∧ Q (.lst (xs ++ ys)) st) := by
  by_cases h : xs.length + ys.length ≤ LIM <;> simp [opCat, h, RsP]
theorem o_sub : RsP (opSub (.int i) (.int j) st) Q E = Q (.int (i - j)) st := rfl
theorem o_mul : RsP (opMul (.int i) (.int j) st) Q E = (((-M64 < i ∧ i < M64) ∨ (-M64 < j ∧ j < M64)) ∧ Q (.int (i * j)) st) := by
  by_cases h : (-M64 < i ∧ i < M64) ∨ (-M64 < j ∧ j < M64)
  · simp only [opMul, RsP, h, true_and, if_true]
  · simp only [opMul, RsP, h, false_and, if_false]
theorem o_mod : RsP (opMod (.int i) (.int j) st) Q E = (0 < j ∧ Q (.int (i % j)) st) := by
  by_cases h : 0 < j <;> simp [opMod, h, RsP]
theorem o_fdiv : RsP (opFdiv (.int i) (.int j) st) Q E = ((0 < j ∧ j < D40) ∧ Q (.int (i / j)) st) := by
  by_cases h : 0 < j ∧ j < D40
  · simp only [opFdiv, RsP, h, true_and, if_true]
  · simp only [opFdiv, RsP, h, false_and, if_false]
theorem o_pow : RsP (opPow (.int i) (.int j) st) Q E = (((0 ≤ j ∧ j ≤ 1000) ∧ (0 ≤ i ∧ i < M64)) ∧ Q (.int (i ^ j.toNat)) st) := by
  by_cases h : (0 ≤ j ∧ j ≤ 1000) ∧ (0 ≤ i ∧ i < M64)
  · simp only [opPow, RsP, h, true_and, if_true]
  · simp only [opPow, RsP, h, false_and, if_false]
theorem o_eq {a b : D} : RsP (opEq a b st) Q E = (shp 60 a = true ∧ shp 60 b = true ∧ Q (.bl (eqv a b)) st) := by
  unfold opEq
  cases shp 60 a <;> cases shp 60 b <;> simp [RsP]
theorem o_ne {a b : D} : RsP (opNe a b st) Q E = (shp 60 a = true ∧ shp 60 b = true ∧ Q (.bl (!eqv a b)) st) := by
  unfold opNe
  cases shp 60 a <;> cases shp 60 b <;> simp [RsP]
theorem o_ic {h : Int → Int → Bool} : RsP (intCmp h (.int i) (.int j) st) Q E = Q (.bl (h i j)) st := rfl
theorem o_isN {neg : Bool} {d : D} : RsP (opIs neg d .non st) Q E = Q (.bl (neg ^^ isN d)) st := by
  cases d <;> rfl
theorem o_ixL : RsP (opIx (.lst xs) (.int i) st) Q E = ∃ d, atI xs i = some d ∧ Q d st := by
  simp only [opIx]; cases atI xs i <;> simp [RsP]
theorem o_ixT : RsP (opIx (.tup xs) (.int i) st) Q E = ∃ d, atI xs i = some d ∧ Q d st := by
  simp only [opIx]; cases atI xs i <;> simp [RsP]
theorem m_ixR {n : Nat} : RsP (opIx (.ref n) (.int i) st) Q E = match st[n]? with | some (.lst xs) => ∃ d, atI xs i = some d ∧ Q d st | _ => False := by
  simp only [opIx]
  cases z : st[n]? with
  | none => rfl
  | some p =>
    cases p with
    | lst xs => simp only; cases atI xs i <;> simp [RsP]
    | _ => rfl
theorem f_lenL : RsP (fLen [.lst xs] st) Q E = Q (.int (xs.length : Int)) st := rfl
theorem f_lenT : RsP (fLen [.tup xs] st) Q E = Q (.int (xs.length : Int)) st := rfl
theorem f_tupL : RsP (fTuple [.lst xs] st) Q E = Q (.tup xs) st := rfl
theorem f_tupT : RsP (fTuple [.tup xs] st) Q E = Q (.tup xs) st := rfl
theorem f_listL : RsP (fList [.lst xs] st) Q E = Q (.lst xs) st := rfl
theorem f_listT : RsP (fList [.tup xs] st) Q E = Q (.lst xs) st := rfl
theorem f_min2 : RsP (fMin2 [.int i, .int j] st) Q E = Q (.int (min i j)) st := by
  have : (if j < i then j else i) = min i j := by omega
  simp only [fMin2, RsP, this]
theorem f_max2 : RsP (fMax2 [.int i, .int j] st) Q E = Q (.int (max i j)) st := by
  have : (if j > i then j else i) = max i j := by omega
  simp only [fMax2, RsP, this]
theorem bls_map {α : Type} {g : α → Bool} {xs : List α} : blsOf (xs.map fun x => .bl (g x)) = some (xs.map g) := by
  induction xs with
  | nil => rfl
  | cons a xs ih => simp [blsOf, ih]
theorem ints_map {α : Type} {g : α → Int} {xs : List α} : intsOf (xs.map fun x => .int (g x)) = some (xs.map g) := by
  induction xs with
  | nil => rfl
  | cons a xs ih => simp [intsOf, ih]
theorem f_all {α : Type} {g : α → Bool} {xs : List α} : RsP (fAll [.lst (xs.map fun x => .bl (g x))] st) Q E = Q (.bl (xs.all g)) st := by
  have : (xs.map g).all id = xs.all g := by simp [List.all_map]
  simp only [fAll, bls_map, RsP, this]
theorem f_any {α : Type} {g : α → Bool} {xs : List α} : RsP (fAny [.lst (xs.map fun x => .bl (g x))] st) Q E = Q (.bl (xs.any g)) st := by
  have : (xs.map g).any id = xs.any g := by simp [List.any_map]
  simp only [fAny, bls_map, RsP, this]
theorem f_reprB {b : Bool} : RsP (fRepr [.bl b] st) Q E = Q (.str (if b then "True" else "False")) st := rfl
theorem w_sl {F : D → Option Int → Option Int → Sto → Rs} {f : Ev} {r : Env} : RsP (bSl F f none none r st) Q E = RsP (f r st) (fun a st1 => RsP (F a none none st1) Q E) E := by
  unfold bSl; rw [w_bind]; rfl
theorem w_slA {F : D → Option Int → Option Int → Sto → Rs} {f lo : Ev} {r : Env} : RsP (bSl F f (some lo) none r st) Q E = RsP (f r st) (fun a st1 => RsP (lo r st1) (fun d st2 => match d with | .int i => RsP (F a (some i) none st2) Q E | _ => False) E) E := by
  unfold bSl; rw [w_bind]; congr 1; funext a st1
  show RsP ((lo r st1).bind _) Q E = _
  rw [w_bind]; congr 1; funext d st2
  cases d <;> rfl
theorem w_slB {F : D → Option Int → Option Int → Sto → Rs} {f hi : Ev} {r : Env} : RsP (bSl F f none (some hi) r st) Q E = RsP (f r st) (fun a st1 => RsP (hi r st1) (fun d st2 => match d with | .int i => RsP (F a none (some i) st2) Q E | _ => False) E) E := by
  unfold bSl; rw [w_bind]; congr 1; funext a st1
  show RsP ((hi r st1).bind _) Q E = _
  rw [w_bind]; congr 1; funext d st2
  cases d <;> rfl
theorem w_slC {F : D → Option Int → Option Int → Sto → Rs} {f lo hi : Ev} {r : Env} : RsP (bSl F f (some lo) (some hi) r st) Q E = RsP (f r st) (fun a st1 => RsP (lo r st1) (fun d st2 => match d with | .int i => RsP (hi r st2) (fun d st3 => match d with | .int j => RsP (F a (some i) (some j) st3) Q E | _ => False) E | _ => False) E) E := by
  unfold bSl; rw [w_bind]; congr 1; funext a st1
  show RsP ((lo r st1).bind _) Q E = _
  rw [w_bind]; congr 1; funext d st2
  cases d <;> try rfl
  show RsP ((hi r st2).bind _) Q E = _
  rw [w_bind]; congr 1; funext d st3
  cases d <;> rfl
variable {lo hi : Option Int}
theorem o_slL : RsP (opSl (.lst xs) lo hi st) Q E = Q (.lst (cut xs lo hi)) st := rfl
theorem o_slT : RsP (opSl (.tup xs) lo hi st) Q E = Q (.tup (cut xs lo hi)) st := rfl
theorem o_slF : RsP (opSl (.frg xs) lo hi st) Q E = Q (.lst (cut xs lo hi)) st := rfl
theorem o_slLL : RsP (opSlL (.lst xs) lo hi st) Q E = Q (.lst (cut xs lo hi)) st := rfl
theorem o_slLF : RsP (opSlL (.frg xs) lo hi st) Q E = Q (.lst (cut xs lo hi)) st := rfl
end

theorem ixN_in {n : Nat} {i : Int} (h0 : 0 ≤ i) (h1 : i < n) : ixN n i = some i.toNat := by simp [ixN, h0, h1]
theorem atI_map {α : Type} {f : α → D} {xs : List α} {i : Int} : atI (xs.map f) i = (atI xs i).map f := by
  unfold atI
  rw [List.length_map]
  cases ixN xs.length i <;> simp
theorem atI_in {α : Type} {xs : List α} {i : Int} (h0 : 0 ≤ i) (h1 : i < xs.length) : ∃ a, atI xs i = some a ∧ a ∈ xs := by
  unfold atI
  rw [ixN_in h0 h1]
  have h : i.toNat < xs.length := by omega
  exact ⟨xs[i.toNat], by simp [h], List.getElem_mem h⟩
theorem atI_0 {α : Type} {a : α} {xs : List α} : atI (a :: xs) 0 = some a := by
  unfold atI
  rw [ixN_in (by omega) (by simp only [List.length_cons]; omega)]
  rfl
theorem atI_s {α : Type} {a : α} {xs : List α} {i : Int} (h : 0 < i) : atI (a :: xs) i = atI xs (i - 1) := by
  unfold atI
  by_cases z : i < (xs.length : Int) + 1
  · rw [ixN_in (by omega) (by simp only [List.length_cons]; omega), ixN_in (by omega) (by omega)]
    have e : i.toNat = (i - 1).toNat + 1 := by omega
    show (a :: xs)[i.toNat]? = xs[(i - 1).toNat]?
    rw [e, List.getElem?_cons_succ]
  · have e1 : ixN (a :: xs).length i = none := by unfold ixN; rw [if_pos (by omega), if_neg (by simp only [List.length_cons]; omega)]
    have e2 : ixN xs.length (i - 1) = none := by unfold ixN; rw [if_pos (by omega), if_neg (by omega)]
    rw [e1, e2]; rfl
theorem cut_map {α : Type} {f : α → D} {xs : List α} {lo hi : Option Int} : cut (xs.map f) lo hi = (cut xs lo hi).map f := by
  unfold cut
  rw [List.length_map, List.map_take, List.map_drop]
theorem cut_mem {α : Type} {xs : List α} {lo hi : Option Int} {a : α} (h : a ∈ cut xs lo hi) : a ∈ xs := List.mem_of_mem_drop (List.mem_of_mem_take h)
theorem cut_len {α : Type} {xs : List α} {lo hi : Option Int} : (cut xs lo hi).length ≤ xs.length := by
  unfold cut
  rw [List.length_take, List.length_drop]
  omega
theorem sIx_eq {n d : Nat} {i : Int} (h : 0 ≤ i) (h1 : i ≤ n) : HT.sIx n d (some i) = i.toNat := by
  unfold HT.sIx
  simp only
  split <;> omega
theorem cut_to {α : Type} {xs : List α} {i : Int} (h : 0 ≤ i) (h1 : i ≤ xs.length) : cut xs none (some i) = xs.take i.toNat := by
  unfold cut
  rw [sIx_eq h h1]
  simp [HT.sIx]
theorem cut_from {α : Type} {xs : List α} {i : Int} (h : 0 ≤ i) (h1 : i ≤ xs.length) : cut xs (some i) none = xs.drop i.toNat := by
  unfold cut
  rw [sIx_eq h h1]
  simp only [HT.sIx]
  rw [List.take_of_length_le]
  simp

def nbs : List D → Bool
  | [] => true
  | d :: ds => (match d with | .int _ => true | .str _ => true | .non => true | .tup xs => nbs xs | .lst xs => nbs xs | _ => false) && nbs ds
def nb (d : D) : Bool := nbs [d]
theorem nbs_cons {d : D} {ds : List D} : nbs (d :: ds) = (nb d && nbs ds) := by
  unfold nb
  cases d <;> simp [nbs]
theorem nbs_all : ∀ xs : List D, nbs xs = xs.all nb := by
  intro xs
  induction xs with
  | nil => simp [nbs]
  | cons d ds ih => rw [List.all_cons, ← ih, nbs_cons]
theorem nb_int {i : Int} : nb (.int i) = true := by simp [nb, nbs]
theorem nb_tup {xs : List D} : nb (.tup xs) = xs.all nb := by
  rw [← nbs_all]; simp [nb, nbs]
theorem nb_lst {xs : List D} : nb (.lst xs) = xs.all nb := by
  rw [← nb_tup]; simp [nb, nbs]
mutual
theorem py_inj : ∀ (a b : D), nb a = true → nb b = true → PyData.eqv a.py b.py = true → a = b
  | .non, b, _, hb, h => by cases b <;> simp_all [D.py, PyData.eqv, nb, nbs]
  | .int i, b, _, hb, h => by cases b <;> simp_all [D.py, PyData.eqv, nb, nbs]
  | .str i, b, _, hb, h => by cases b <;> simp_all [D.py, PyData.eqv, nb, nbs]
  | .tup xs, b, ha, hb, h => by
    cases b with
    | tup ys =>
      simp only [D.py, PyData.eqv] at h
      rw [pys_inj xs ys (by simpa [nb, nbs] using ha) (by simpa [nb, nbs] using hb) h]
    | _ => simp_all [D.py, PyData.eqv, nb, nbs]
  | .lst xs, b, ha, hb, h => by
    cases b with
    | lst ys =>
      simp only [D.py, PyData.eqv] at h
      rw [pys_inj xs ys (by simpa [nb, nbs] using ha) (by simpa [nb, nbs] using hb) h]
    | _ => simp_all [D.py, PyData.eqv, nb, nbs]
  | .bl _, _, ha, _, _ => by simp [nb, nbs] at ha
  | .dct _ _, _, ha, _, _ => by simp [nb, nbs] at ha
  | .ref _, _, ha, _, _ => by simp [nb, nbs] at ha
  | .exc _ _, _, ha, _, _ => by simp [nb, nbs] at ha
  | .frg _, _, ha, _, _ => by simp [nb, nbs] at ha
theorem pys_inj : ∀ (a b : List D), nbs a = true → nbs b = true → PyData.eqvAll (pys a) (pys b) = true → a = b
  | [], [], _, _, _ => rfl
  | [], y :: ys, _, _, h => by simp [pys, PyData.eqvAll] at h
  | x :: xs, [], _, _, h => by simp [pys, PyData.eqvAll] at h
  | x :: xs, y :: ys, ha, hb, h => by
    simp only [pys, PyData.eqvAll, Bool.and_eq_true] at h
    have a1 : nb x = true ∧ nbs xs = true := by simpa [nbs_cons] using ha
    have b1 : nb y = true ∧ nbs ys = true := by simpa [nbs_cons] using hb
    rw [py_inj x y a1.1 b1.1 h.1, pys_inj xs ys a1.2 b1.2 h.2]
end
mutual
theorem py_refl : ∀ (a : D), nb a = true → PyData.eqv a.py a.py = true
  | .non, _ => by simp [D.py, PyData.eqv]
  | .int i, _ => by simp [D.py, PyData.eqv]
  | .str i, _ => by simp [D.py, PyData.eqv]
  | .tup xs, ha => by simp only [D.py, PyData.eqv]; exact pys_refl xs (by simpa [nb, nbs] using ha)
  | .lst xs, ha => by simp only [D.py, PyData.eqv]; exact pys_refl xs (by simpa [nb, nbs] using ha)
  | .bl _, ha => by simp [nb, nbs] at ha
  | .dct _ _, ha => by simp [nb, nbs] at ha
  | .ref _, ha => by simp [nb, nbs] at ha
  | .exc _ _, ha => by simp [nb, nbs] at ha
  | .frg _, ha => by simp [nb, nbs] at ha
theorem pys_refl : ∀ (a : List D), nbs a = true → PyData.eqvAll (pys a) (pys a) = true
  | [], _ => by simp [pys, PyData.eqvAll]
  | x :: xs, ha => by
    have a1 : nb x = true ∧ nbs xs = true := by simpa [nbs_cons] using ha
    simp only [pys, PyData.eqvAll, py_refl x a1.1, pys_refl xs a1.2, Bool.and_self]
end
theorem eqv_nb {a b : D} (ha : nb a = true) (hb : nb b = true) : eqv a b = true ↔ a = b :=
  ⟨py_inj a b ha hb, fun h => by subst h; exact py_refl a ha⟩
theorem eqv_dec {a b : D} {p : Prop} [Decidable p] (ha : nb a = true) (hb : nb b = true) (h : a = b ↔ p) : eqv a b = decide p := by
  have := eqv_nb ha hb
  rw [h] at this
  cases z : eqv a b with
  | true => rw [z] at this; simp [this.mp rfl]
  | false => rw [z] at this; simp at this; simp [this]
theorem eqv_int {i j : Int} : eqv (.int i) (.int j) = decide (i = j) := by rw [Bool.eq_iff_iff]; simp [eqv, D.py, PyData.eqv]
theorem eqv_str {i j : Str} : eqv (.str i) (.str j) = (i == j) := by simp [eqv, D.py, PyData.eqv]
theorem eqv_nil {xs : List D} : eqv (.lst xs) (.lst []) = xs.isEmpty := by
  cases xs <;> simp [eqv, D.py, pys, PyData.eqv, PyData.eqvAll]
theorem shp_int {n : Nat} {b : Int} : shp n (.int b) = true := by cases n <;> simp [shp]
theorem shp_str {n : Nat} {x : Str} : shp n (.str x) = PyData.strOk x := by cases n <;> simp [shp]
theorem shp_tup {n : Nat} {xs : List D} : shp (n + 1) (.tup xs) = xs.all (shp n) := by simp [shp, shps_all]
theorem shp_lst {n : Nat} {xs : List D} : shp (n + 1) (.lst xs) = xs.all (shp n) := by simp [shp, shps_all]
def dP (p : Int × Int) : D := .tup [.int p.1, .int p.2]
def dT (l : List Int) : D := .tup (l.map D.int)
def dW (w : List (Int × Int)) : D := .tup (w.map dP)
def dWs (w : List (List (Int × Int))) : D := .lst (w.map dW)
theorem map_inj' {α : Type} {f : α → D} (hf : ∀ a b, f a = f b → a = b) : ∀ (xs ys : List α), xs.map f = ys.map f → xs = ys
  | [], [], _ => rfl
  | [], y :: ys, h => by cases h
  | x :: xs, [], h => by cases h
  | x :: xs, y :: ys, h => by
    simp only [List.map_cons, List.cons.injEq] at h
    rw [hf _ _ h.1, map_inj' hf xs ys h.2]
theorem dP_inj : ∀ a b, dP a = dP b → a = b := by
  rintro ⟨a, b⟩ ⟨c, d⟩ h
  simp only [dP, D.tup.injEq, List.cons.injEq, D.int.injEq, and_true] at h
  rw [h.1, h.2]
theorem dW_inj : ∀ a b, dW a = dW b → a = b := fun a b h => map_inj' dP_inj a b (by simpa [dW] using h)
theorem dT_inj : ∀ a b, dT a = dT b → a = b := fun a b h => map_inj' (f := D.int) (fun _ _ h => D.int.inj h) a b (by simpa [dT] using h)
theorem nb_dP {p} : nb (dP p) = true := by simp [dP, nb_tup, nb_int]
theorem nb_dT {p} : nb (dT p) = true := by simp [dT, nb_tup, nb_int]
theorem nb_dW {p} : nb (dW p) = true := by simp [dW, nb_tup, nb_dP]
theorem nb_dWs {p} : nb (dWs p) = true := by simp [dWs, nb_lst, nb_dW]
theorem shp_dP {n : Nat} {p} : shp (n + 1) (dP p) = true := by simp [dP, shp_tup, shp_int]
theorem shp_dT {n : Nat} {p} : shp (n + 1) (dT p) = true := by simp [dT, shp_tup, shp_int]
theorem shp_dW {n : Nat} {p} : shp (n + 2) (dW p) = true := by simp [dW, shp_tup, shp_dP]
theorem shp_dWs {n : Nat} {p} : shp (n + 3) (dWs p) = true := by simp [dWs, shp_lst, shp_dW]
theorem eqv_dW {a b} : eqv (dW a) (dW b) = decide (a = b) := eqv_dec nb_dW nb_dW ⟨dW_inj a b, fun h => by rw [h]⟩
end Sm

namespace Sm
open PySem L2
def tyN : D → Option String
  | .non => some "NoneType"
  | .bl _ => some "bool"
  | .int _ => some "int"
  | .str _ => some "str"
  | .tup _ => some "tuple"
  | .lst _ => some "list"
  | .frg _ => some "list"
  | _ => none
def isTN (t T : String) : Bool := t == T || (t == "bool" && T == "int")
def TNs : List String := ["int", "bool", "str", "tuple", "list", "dict"]
theorem kit_tab : (TNs.all fun T => ["NoneType", "bool", "int", "str", "tuple", "list"].all fun t => kitB t T == some (isTN t T)) = true := by decide +kernel
theorem kit_at {K : PySem.W.Frag} {t T : String} {d : D} (h : tyN d = some t) (hT : T ∈ TNs) : PySem.W.kitOne K (.type t) (.type T) = some (isTN t T) := by
  have h1 := List.all_eq_true.mp kit_tab T hT
  have h2 : t ∈ ["NoneType", "bool", "int", "str", "tuple", "list"] := by
    cases d <;> simp [tyN] at h <;> subst h <;> simp
  have h3 := List.all_eq_true.mp h1 t h2
  exact kit_ty (by simpa using h3)
theorem RQ.ty {G : Cfg} {w : Wd} {d : D} {v : V} {t : String} (h : RQ G w d v) (e : tyN d = some t) : TyX G.K w.H v (.type t) := by
  rcases h with h | ⟨a, rfl, c⟩
  · cases d with
    | non => cases e; unfold RD at h; subst h; exact .base .non
    | bl b => cases e; unfold RD at h; subst h; exact .base (.bl b)
    | int b => cases e; unfold RD at h; subst h; exact .base (.int b)
    | str b => cases e; unfold RD at h; subst h; exact .base (.str b)
    | tup ds =>
      cases e
      unfold RD at h
      obtain ⟨a, vs, rfl, t, _⟩ := h
      rcases t with t | ⟨o, t⟩ | ⟨o, its, n, t1, t2, _⟩
      · exact .base (.tup t.1)
      · exact .fTuple t.1
      · exact .kTuple t1 t2
    | lst ds =>
      cases e
      unfold RD at h
      obtain ⟨a, vs, rfl, t, _⟩ := h
      exact .base (.lst t.1)
    | frg ds =>
      cases e
      unfold RD at h
      obtain ⟨a, vs, rfl, t, _⟩ := h
      rcases t with ⟨o, t⟩ | ⟨o, its, n, t1, t2, _⟩
      · exact .base (.frz t.1)
      · exact .kList t1 t2
    | _ => cases e
  · cases d with
    | lst ds =>
      cases e
      obtain ⟨vs, q, _⟩ := c
      exact .base (.lst q)
    | dct ks ds => cases e
    | _ => exact (show False from c).elim
theorem RR.ty {G : Cfg} {O : Nat → Option Addr} {w0 w : Wd} {d : D} {v : V} {t : String} (h : RR G .bo O w0 w d v) (e : tyN d = some t) : TyX G.K w.H v (.type t) := RQ.ty  h.q e
def bIsi (T : String) (f : Ev) : Ev := fun r st => (f r st).bind fun d st1 => match tyN d with
  | some t => .ok (.bl (isTN t T)) st1
  | none => .bad
section
variable {X : Cx} {B : Bs} {Wx : WX} {a e : Expr} {f : Ev} {pos : Pos}
theorem w_isi {r : Env} {st : Sto} {T : String} {Q : D → Sto → Prop} {E : Str → Option (Str × D) → Sto → Prop} : RsP (bIsi T f r st) Q E = RsP (f r st) (fun d st1 => match tyN d with | some t => Q (.bl (isTN t T)) st1 | none => False) E := by
  unfold bIsi
  rw [w_bind]
  congr 1; funext d st1
  cases tyN d <;> rfl
end
end Sm

namespace Sm
open PySem L2
def rInE (K : PySem.W.Frag) (neg : Bool) : R2 := fun x y H Q => ∃ d ds, Dp K H x d ∧ (Dp K H y (.list ds) ∨ Dp K H y (.tuple ds)) ∧ (d.canLay0 = true ∧ d.depth ≤ 60) ∧ PyData.canLayAll0 ds = true ∧ Q (.bl (neg ^^ ds.any fun z => PyData.eqv z d)) H
section
variable {X : Cx} {B : Bs} {Wx : WX} {a e : Expr} {f : Ev} {pos : Pos}
theorem op_notInE (hu : X.A.units + 64 < cLine) : OpR X (compareOp .NotIn) (rInE X.K true) := by
  intro pins s σ H x y v u Q I rx ry h
  obtain ⟨d, ds, hd, he, sd, se, q⟩ := h
  obtain ⟨as, r1⟩ := Dp.reads I d x v hd rx
  have room : X.A.units + 1 + min (PyData.depthAll ds) d.depth < cLine := by
    have h2 : min (PyData.depthAll ds) d.depth ≤ d.depth := Nat.min_le_right _ _
    have := sd.2
    omega
  rw [Bool.true_xor] at q
  rcases he with he | he
  · obtain ⟨bs, r2⟩ := Dp.reads I (.list ds) y u he ry
    exact SeqAt.notIn_list_reads r2 r1 se sd.1 room ⟨.bl _, H, I, rfl, q⟩
  · obtain ⟨bs, r2⟩ := Dp.reads I (.tuple ds) y u he ry
    exact SeqAt.notIn_tuple_reads r2 r1 se sd.1 room ⟨.bl _, H, I, rfl, q⟩
def opIn (neg : Bool) (a : D) : D → Sto → Rs
  | .lst ds, st => if shp 60 a && shp 60 (.lst ds) then .ok (.bl (neg ^^ ds.any fun z => eqv z a)) st else .bad
  | .tup ds, st => if shp 60 a && shp 60 (.tup ds) then .ok (.bl (neg ^^ ds.any fun z => eqv z a)) st else .bad
  | _, _ => .bad
theorem any_pys (ds : List D) (a : D) : ((pys ds).any fun z => PyData.eqv z a.py) = ds.any fun z => eqv z a := by
  rw [pys_map, List.any_map]
  rfl
theorem sem_in {neg : Bool} : SemOp X B .sh Wx (opIn neg) (rInE X.K neg) := by
  intro O e s w0 w a b x y st Q R xt ra rb q
  cases b with
  | lst ds =>
    cases z : shp 60 a && shp 60 (.lst ds) with
    | false => simp [opIn, z, post] at q
    | true =>
      rw [opIn, if_pos z] at q
      rw [Bool.and_eq_true] at z
      have l2 := shp_lay 60 _ z.2
      simp only [D.py, PyData.canLay0] at l2
      exact ⟨a.py, pys ds, RQ.dp z.1 ra, .inl (by have := RQ.dp z.2 rb; simpa only [D.py] using this), shp_lay 60 _ z.1, l2.1, by rw [any_pys]; exact post.val R xt q rdB⟩
  | tup ds =>
    cases z : shp 60 a && shp 60 (.tup ds) with
    | false => simp [opIn, z, post] at q
    | true =>
      rw [opIn, if_pos z] at q
      rw [Bool.and_eq_true] at z
      have l2 := shp_lay 60 _ z.2
      simp only [D.py, PyData.canLay0] at l2
      exact ⟨a.py, pys ds, RQ.dp z.1 ra, .inr (by have := RQ.dp z.2 rb; simpa only [D.py] using this), shp_lay 60 _ z.1, l2.1, by rw [any_pys]; exact post.val R xt q rdB⟩
  | _ => cases a <;> exact (show False from q).elim
theorem jc_notin (hu : X.A.units + 64 < cLine) : JC X B Wx .NotIn (opIn true) := ⟨_, op_notInE hu, sem_in⟩
theorem o_inL {neg : Bool} {ds : List D} {d : D} {st : Sto} {Q : D → Sto → Prop} {E : Str → Option (Str × D) → Sto → Prop} : RsP (opIn neg d (.lst ds) st) Q E = (shp 60 d = true ∧ shp 60 (.lst ds) = true ∧ Q (.bl (neg ^^ ds.any fun z => eqv z d)) st) := by
  simp only [opIn]
  cases shp 60 d <;> cases shp 60 (.lst ds) <;> simp [RsP]
theorem o_inT {neg : Bool} {ds : List D} {d : D} {st : Sto} {Q : D → Sto → Prop} {E : Str → Option (Str × D) → Sto → Prop} : RsP (opIn neg d (.tup ds) st) Q E = (shp 60 d = true ∧ shp 60 (.tup ds) = true ∧ Q (.bl (neg ^^ ds.any fun z => eqv z d)) st) := by
  simp only [opIn]
  cases shp 60 d <;> cases shp 60 (.tup ds) <;> simp [RsP]
end
end Sm

namespace Sm
open PySem L2
theorem filt_t {α : Type} (xs : List α) : xs.filter (fun _ => true) = xs := List.filter_eq_self.mpr fun _ _ => rfl
theorem zipd_map {α β : Type} {f : α → D} {g : β → D} : ∀ (xs : List α) (ys : List β), zipd (xs.map f) (ys.map g) = (xs.zip ys).map fun q => .tup [f q.1, g q.2]
  | [], _ => by simp [zipd]
  | x :: xs, [] => by simp [zipd]
  | x :: xs, y :: ys => by simp [zipd, zipd_map xs ys]
end Sm

namespace Sm
open PySem L2
def WOk (f : Nat) (w : List (Int × Int)) : Prop := w.length = f ∧ ∀ p ∈ w, 0 ≤ p.1 ∧ p.1 ≤ p.2 ∧ p.2 ≤ 9
theorem WOk.at {f : Nat} {w : List (Int × Int)} {i : Int} (hw : WOk f w) (h0 : 0 ≤ i) (h1 : i < f) : ∃ p, atI w i = some p ∧ 0 ≤ p.1 ∧ p.1 ≤ p.2 ∧ p.2 ≤ 9 := by
  obtain ⟨p, e, m⟩ := atI_in (xs := w) h0 (by rw [hw.1]; exact h1)
  exact ⟨p, e, hw.2 p m⟩
def hasL (w : List (Int × Int)) (l : List Int) : Bool := (l.zip w).all fun q => decide (q.2.1 ≤ q.1) && decide (q.1 ≤ q.2.2)
def covL (a b : List (Int × Int)) : Bool := (a.zip b).all fun q => decide (q.1.1 ≤ q.2.1) && decide (q.2.2 ≤ q.1.2)
def rng (p : Int × Int) : List Int := (List.range (p.2 + 1 - p.1).toNat).map fun (i : Nat) => p.1 + (i : Int)
theorem rng_len {p : Int × Int} (h0 : 0 ≤ p.1) (h1 : p.2 ≤ 9) : (rng p).length ≤ 10 := by
  unfold rng; simp; omega
theorem rng_length {p : Int × Int} : (rng p).length = (p.2 + 1 - p.1).toNat := by unfold rng; simp
theorem mem_rng {p : Int × Int} {n : Int} : n ∈ rng p ↔ p.1 ≤ n ∧ n ≤ p.2 := by
  unfold rng
  simp only [List.mem_map, List.mem_range]
  constructor
  · rintro ⟨i, hi, rfl⟩; omega
  · rintro ⟨h1, h2⟩; exact ⟨(n - p.1).toNat, by omega, by omega⟩
def stepL (found : List (List Int)) (p : Int × Int) : List (List Int) := found.flatMap fun l => (rng p).map fun n => l ++ [n]
theorem stepL_len {f : List (List Int)} {p : Int × Int} : (stepL f p).length = f.length * (rng p).length := by
  unfold stepL
  induction f with
  | nil => simp
  | cons a f ih => rw [List.flatMap_cons, List.length_append, ih, List.length_map, List.length_cons, Nat.succ_mul, Nat.add_comm]
def lets : List (Int × Int) → List (List Int)
  | [] => [[]]
  | p :: w => (rng p).flatMap fun n => (lets w).map fun l => n :: l
theorem lets_cons {p : Int × Int} {w : List (Int × Int)} : lets (p :: w) = (rng p).flatMap fun n => (lets w).map fun l => n :: l := rfl
theorem fold_lets : ∀ (w : List (Int × Int)) (fs : List (List Int)), w.foldl stepL fs = fs.flatMap fun l => (lets w).map fun m => l ++ m
  | [], fs => by simp [lets]
  | p :: w, fs => by
    rw [List.foldl_cons, fold_lets w (stepL fs p)]
    unfold stepL
    rw [lets_cons, List.flatMap_assoc]
    congr 1
    funext l
    rw [List.flatMap_map, List.map_flatMap]
    congr 1
    funext n
    rw [List.map_map]
    congr 1
    funext m
    simp
theorem letters_eq (w : List (Int × Int)) : w.foldl stepL [[]] = lets w := by
  rw [fold_lets]; simp
theorem mem_lets_len : ∀ {w : List (Int × Int)} {l : List Int}, l ∈ lets w → l.length = w.length
  | [], l, h => by simp [lets] at h; simp [h]
  | p :: w, l, h => by
    simp only [lets, List.mem_flatMap, List.mem_map] at h
    obtain ⟨n, _, m, hm, rfl⟩ := h
    simp [mem_lets_len hm]
theorem mem_lets : ∀ {w : List (Int × Int)} {l : List Int}, l ∈ lets w ↔ l.length = w.length ∧ hasL w l = true
  | [], l => by
    cases l <;> simp [lets, hasL]
  | p :: w, [] => by simp [lets]
  | p :: w, n :: l => by
    have ih := mem_lets (w := w) (l := l)
    simp only [lets, List.mem_flatMap, List.mem_map, List.length_cons, hasL, List.zip_cons_cons, List.all_cons, Bool.and_eq_true, decide_eq_true_eq, Nat.add_right_cancel_iff]
    unfold hasL at ih
    constructor
    · rintro ⟨k, hk, m, hm, e⟩
      cases e
      have := ih.mp hm
      exact ⟨this.1, mem_rng.mp hk, this.2⟩
    · rintro ⟨h1, h2, h3⟩
      exact ⟨n, mem_rng.mpr h2, l, ih.mpr ⟨h1, h3⟩, rfl⟩
def dTs (l : List (List Int)) : D := .lst (l.map dT)
end Sm

namespace Sm
open PySem L2
def der (st : Sto) : D → D
  | .ref n => match st[n]? with
    | some (.lst ds) => .lst ds
    | some (.dct ks vs) => .dct ks vs
    | some (.lk ks vs) => .dct ks vs
    | _ => .ref n
  | d => d
theorem RQ.der {G : Cfg} {w : Wd} {st : Sto} {d : D} {v : V} (S : RSt G w st) (h : RQ G w d v) : RQ G w (der st d) v := by
  cases d with
  | ref n =>
    have h' := h.refd
    show RQ G w (match st[n]? with | some (.lst ds) => .lst ds | some (.dct ks vs) => .dct ks vs | some (.lk ks vs) => .dct ks vs | _ => .ref n) v
    cases e : st[n]? with
    | none => exact h
    | some so =>
      obtain ⟨al, rfl, _, o⟩ := S.ref h' e
      cases so with
      | lst ds => exact .inr ⟨al, rfl, o⟩
      | dct ks vs => exact .inr ⟨al, rfl, RC.cq (d := .dct ks vs) o⟩
      | lk ks vs =>
        obtain ⟨us, ⟨o, ob, i, q⟩, rs⟩ := o
        exact .inr ⟨al, rfl, o, us, .inr ⟨ob, i.1⟩, q, rs⟩
      | _ => exact h
  | _ => exact h
def drOp (F : D → D → Sto → Rs) (a b : D) (st : Sto) : Rs := F (der st a) (der st b) st
def drB (F : List D → Sto → Rs) (ds : List D) (st : Sto) : Rs := F (ds.map (der st)) st
def drSl (F : D → Option Int → Option Int → Sto → Rs) (a : D) (lo hi : Option Int) (st : Sto) : Rs := F (der st a) lo hi st
section
variable {X : Cx} {B : Bs} {k : Kd} {Wx : WX} {a b e : Expr} {f g : Ev} {pos : Pos}
theorem SemOp.der {F : D → D → Sto → Rs} {r : R2} (h : SemOp X B k Wx F r) : SemOp X B k Wx (drOp F) r :=
  fun O e s w0 w a b x y st Q R xt ra rb q => h O e s w0 w _ _ x y st Q R xt (ra.der R.sto) (rb.der R.sto) q
theorem JC.der {op : CmpOp} {F : D → D → Sto → Rs} (j : JC X B Wx op F) : JC X B Wx op (drOp F) := let ⟨r, h1, h2⟩ := j.ex; ⟨r, h1, h2.der⟩
theorem RQs.der {G : Cfg} {w : Wd} {st : Sto} (S : RSt G w st) : ∀ {ds : List D} {vs : List V}, RQs G w ds vs → RQs G w (ds.map (der st)) vs
  | [], vs, h => h
  | d :: ds, vs, h => by
    obtain ⟨v, r, e, h1, h2⟩ := h
    exact ⟨v, r, e, h1.der S, RQs.der S h2⟩
theorem SemC.der {F : List D → Sto → Rs} {r : List V → Hp → VK → Prop} (h : SemC X B k Wx F r) : SemC X B k Wx (drB F) r :=
  fun O e s w0 w ds vs st Q R xt rr q => h O e s w0 w _ vs st Q R xt (rr.der R.sto) q
theorem JB.der {v : Value} {F : List D → Sto → Rs} (j : JB X B k Wx v F) : JB X B k Wx v (drB F) := let ⟨r, h1, h2⟩ := j.ex; ⟨r, h1, h2.der⟩
theorem SemSl.der {F : D → Option Int → Option Int → Sto → Rs} {r : V → Option Int → Option Int → Hp → VK → Prop} (h : SemSl X B k Wx F r) : SemSl X B k Wx (drSl F) r :=
  fun O e s w0 w a x lo hi st Q R xt ra q => h O e s w0 w _ x lo hi st Q R xt (ra.der R.sto) q
end
section
variable {X : Cx} {B : Bs} {k : Kd} {Wx : WX} {a b e : Expr} {f g : Ev} {pos : Pos} {r : Env} {st : Sto} {Q : D → Sto → Prop} {E : Str → Option (Str × D) → Sto → Prop}
def bIsiD (T : String) (f : Ev) : Ev := fun r st => (f r st).bind fun d st1 => match tyN (der st1 d) with
  | some t => .ok (.bl (isTN t T)) st1
  | none => .bad
theorem je_isiD {T : String} {x : Str} {p p2 : Pos} (hg : Gl X "isinstance") (hm : X.mg "isinstance" = none) (hg2 : Gl X x) (hm2 : X.mg x = none) (hv : bootBuiltins x = some (.type T)) (hT : T ∈ TNs) (ha : JE X B .bo Wx a f) (hn : x ≠ "__name__" := by decide) (hdb : (x == ("__debug__" : Str)) = false := by decide)
    (h1 : starEach [a, .Name x p2] X.env = (false, eval a X.env) :: starEach [.Name x p2] X.env := by rfl) (h2 : starEach [.Name x p2] X.env = (false, eval (.Name x p2) X.env) :: starEach [] X.env := by rfl)
    (hpl : (backTo pos (starEach [.Name x p2] X.env)).any (·.1) = false := by rfl) : JE X B .sh Wx (.Call (.Name "isinstance" p) [a, .Name x p2] [] pos) (bIsiD T f) := by
  refine pe_imp (pe_callB call_isi hg hm PyProof.Rows.boot_isinstance (pa_cons ha (pa_cons (pe_bltn (v := .ty T) hg2 hm2 hv rfl hn hdb) pa_nil h2) h1) (by decide) (by decide) h1 hpl) ?_
  rintro s H Q ⟨O, r, st, w, rfl, R, q⟩
  refine ⟨O, r, st, w, rfl, R, (post.bind q).mono ?_⟩
  rintro v H1 ⟨d1, st1, w1, rfl, R1, x1, rr1, q1⟩
  cases z : tyN (der st1 d1) with
  | none => simp only [z] at q1; exact q1.elim
  | some t =>
    simp only [z] at q1
    exact ⟨v, .ty T, .type t, .type T, isTN t T, rfl, .ty T, (rr1.q.der R1.sto).ty z, kit_at z hT, post.val R1 x1 q1 rdB⟩
theorem je_addD (ha : JE X B .bo Wx a f) (hb : JE X B .bo Wx b g) : JE X B .sh Wx (.BinOp a .Add b pos) (bBin (drOp opAdd) f g) := je_bin op_addA sem_add.der ha hb
theorem je_catD (ha : JE X B .bo Wx a f) (hb : JE X B .bo Wx b g) : JE X B .fr Wx (.BinOp a .Add b pos) (bBin (drOp opCat) f g) := je_bin op_cat sem_cat.der ha hb
theorem je_slAD {lo hi : Option Expr} {fl fh : Option Ev} {p2 : Pos} (he : JE X B .bo Wx a f) (hl : JO X B Wx lo fl) (hu : JO X B Wx hi fh) : JE X B .sh Wx (.Subscript a (.Slice lo hi none p2) pos) (bSl (drSl opSl) f fl fh) := je_sl (sl_list.or sl_tupA) sem_sl.der he hl hu
theorem der_ref {n : Nat} : der st (.ref n) = match st[n]? with | some (.lst ds) => .lst ds | some (.dct ks vs) => .dct ks vs | some (.lk ks vs) => .dct ks vs | _ => .ref n := rfl
theorem der_lst {xs : List D} : der st (.lst xs) = .lst xs := rfl
theorem der_tup {xs : List D} : der st (.tup xs) = .tup xs := rfl
theorem der_frg {xs : List D} : der st (.frg xs) = .frg xs := rfl
theorem der_int {i : Int} : der st (.int i) = .int i := rfl
theorem der_bl {i : Bool} : der st (.bl i) = .bl i := rfl
theorem der_str {i : Str} : der st (.str i) = .str i := rfl
theorem der_non : der st .non = .non := rfl
theorem dr_eq {a b : D} : RsP (drOp opEq a b st) Q E = (shp 60 (der st a) = true ∧ shp 60 (der st b) = true ∧ Q (.bl (eqv (der st a) (der st b))) st) := o_eq
theorem dr_ne {a b : D} : RsP (drOp opNe a b st) Q E = (shp 60 (der st a) = true ∧ shp 60 (der st b) = true ∧ Q (.bl (!eqv (der st a) (der st b))) st) := o_ne
def derP (st : Sto) (d : D) (P : D → Prop) : Prop := P (der st d)
theorem dp_ref {n : Nat} {P : D → Prop} : derP st (.ref n) P = match st[n]? with | some (.lst ds) => P (.lst ds) | some (.dct ks vs) => P (.dct ks vs) | some (.lk ks vs) => P (.dct ks vs) | _ => P (.ref n) := by
  unfold derP der
  simp only
  cases st[n]? with
  | none => rfl
  | some so => cases so <;> rfl
theorem dp_lst {xs : List D} {P : D → Prop} : derP st (.lst xs) P = P (.lst xs) := rfl
theorem dp_tup {xs : List D} {P : D → Prop} : derP st (.tup xs) P = P (.tup xs) := rfl
theorem dp_frg {xs : List D} {P : D → Prop} : derP st (.frg xs) P = P (.frg xs) := rfl
theorem dp_int {i : Int} {P : D → Prop} : derP st (.int i) P = P (.int i) := rfl
theorem dp_bl {i : Bool} {P : D → Prop} : derP st (.bl i) P = P (.bl i) := rfl
theorem dp_str {i : Str} {P : D → Prop} : derP st (.str i) P = P (.str i) := rfl
theorem dp_non {P : D → Prop} : derP st .non P = P .non := rfl
theorem dr_in {neg : Bool} {a b : D} : RsP (drOp (opIn neg) a b st) Q E = derP st b fun b' => RsP (opIn neg (der st a) b' st) Q E := rfl
theorem dr_add {a b : D} : RsP (drOp opAdd a b st) Q E = derP st a fun a' => derP st b fun b' => RsP (opAdd a' b' st) Q E := rfl
theorem dr_cat {a b : D} : RsP (drOp opCat a b st) Q E = derP st a fun a' => derP st b fun b' => RsP (opCat a' b' st) Q E := rfl
theorem dr_b1 {F : List D → Sto → Rs} {d : D} : RsP (drB F [d] st) Q E = derP st d fun d' => RsP (F [d'] st) Q E := rfl
theorem dr_sl {F : D → Option Int → Option Int → Sto → Rs} {d : D} {lo hi : Option Int} : RsP (drSl F d lo hi st) Q E = derP st d fun d' => RsP (F d' lo hi st) Q E := rfl
theorem w_isiD {T : String} : RsP (bIsiD T f r st) Q E = RsP (f r st) (fun d st1 => derP st1 d fun d' => match tyN d' with | some t => Q (.bl (isTN t T)) st1 | none => False) E := by
  unfold bIsiD derP
  rw [w_bind]
  congr 1; funext d st1
  show _ = (match tyN (der st1 d) with | some t => Q (.bl (isTN t T)) st1 | none => False)
  cases tyN (der st1 d) <;> rfl
end
end Sm

namespace Sm
open PySem L2
def appK (f : Ev) (r : Env) (o : D) (st1 : Sto) : Rt := match o with
  | .ref n => match st1[n]? with
    | some (.lst _) => ofRs (f r st1) r fun d st2 => match st2[n]? with
      | some (.lst ds) => if ds.length < LIM then .nx r (st2.set n (.lst (ds ++ [d]))) else .bad
      | _ => .bad
    | _ => .bad
  | _ => .bad
def sAppR (h f : Ev) : Sv := fun r st => ofRs (h r st) r (appK f r)
section
variable {X : Cx} {B : Bs} {k : Kd} {fr : Bool} {Wx : WX} {a b c : Expr} {f g h : Ev} {pos : Pos}
theorem js_appR {apos cpos : Pos} (hc : JE X B .sh Wx c h) (ha : JA X B .sh Wx [a] [f])
    (hbase : attributeBase c "append" X.env (eval c X.env) = eval c X.env := by rfl)
    (hfew : ((backTo cpos (starEach [a] X.env)).all (fun x => !x.1) && (backToKw cpos (keywordEach [] X.env)).all (fun x => x.1.isSome) && decide ([a].length + ([] : List Keyword).length + (if ([] : List Keyword).isEmpty then 0 else 1) < 30)) = true := by rfl)
    (hline : (apos.endLine == cpos.line) = true := by rfl) (hst : starEach [a] X.env = (false, eval a X.env) :: starEach [] X.env := by rfl) (hplain : (backTo cpos (starEach [] X.env)).any (·.1) = false := by rfl)
    (hs : swapsWith (.Call (.Attribute c "append" apos) [a] [] cpos) none pos.line X.env = pure false := by rfl) :
    JS X B fr Wx (.Expr (.Call (.Attribute c "append" apos) [a] [] cpos) pos) (sAppR h f) := by
  refine ps_imp (ps_expr (pe_bm PySem.F.plainAttrs_list PySem.F.slot_list_append PySem.F.type_list_append mt_append hc ha hbase hfew hline hst hplain) hs) ?_
  intro D s H q
  obtain ⟨O, r, st, w, e, R, q⟩ := tS_of (k := .sh) (K := appK f) q
  refine ⟨O, r, st, w, e, R, q.mono ?_⟩
  rintro v H1 ⟨O1, r1, w0, d, st1, w1, rfl, R1, x1, ⟨_, R0⟩, rr, q1⟩
  cases d with
  | ref n =>
    have rr : RD (cg X) w1 (.ref n) v := rr
    unfold appK at q1
    cases y : st1[n]? with
    | none => simp only [y] at q1; exact q1.elim
    | some so =>
      obtain ⟨al, rfl, eu, o⟩ := R1.sto.ref rr y
      cases so with
      | lst ds0 =>
        obtain ⟨vs0, hl0, rs0⟩ := o
        simp only [y] at q1
        refine ⟨.inl ⟨rfl, vs0, .of hl0⟩, O1, r1, st1, w1, rfl, R1, ?_⟩
        simp only [evs]
        cases zf : f r1 st1 with
        | ok d st2 =>
          simp only [zf, ofRs] at q1
          intro w2 us R2 x2 rr2
          obtain ⟨v, vr, rfl, rv, ev⟩ := rr2
          have ev : vr = [] := ev
          subst ev
          cases y2 : st2[n]? with
          | none => simp only [y2] at q1; exact q1.elim
          | some so2 =>
            cases so2 with
            | lst ds =>
              simp only [y2] at q1
              have rr3 : RD (cg X) w2 (.ref n) (.ref al) := RD.wk (x2.wk R1.wf) _ _ rr
              obtain ⟨al2, e2, eu2, o2⟩ := R2.sto.ref rr3 y2
              cases e2
              obtain ⟨vs, hl, rs⟩ := o2
              by_cases hz : ds.length < LIM
              · simp only [if_pos hz] at q1
                have lm := LIM_le
                have rl := rs.length
                have m2 := R2.wf.mm (List.mem_of_getElem? eu2) hl fun _ _ z => by cases z
                refine ⟨al, vs, v, rfl, rfl, hl, by omega, ?_⟩
                refine q1 O1 s (w2.chg al (.lst (vs ++ [v]))) (R2.chgSto m2 y2 eu2 ⟨_, upd_same, ?_⟩) (((x1.wk R0.wf).trans (x2.wk R1.wf)).trans (Wd.chg_wk m2))
                exact RDs.append (RDs.wk (Wd.chg_wk m2) _ _ rs) (RDs.one (RD.wk (Wd.chg_wk m2) _ _ rv))
              · simp only [if_neg hz] at q1
                exact q1.elim
            | _ => simp only [y2] at q1; exact q1.elim
        | err cc aa st2 => simp only [zf, ofRs] at q1; exact fun w' cls dd R' x' rx => q1 O1 s w' cls dd R' ((x1.wk R0.wf).trans (x'.wk R1.wf)) rx
        | bad => simp only [zf, ofRs] at q1; exact q1.elim
      | _ => simp only [y] at q1; exact q1.elim
  | _ => exact (show False from q1).elim
end
end Sm

namespace Sm
open PySem L2
def rSortX (K : PySem.W.Frag) : List V → Hp → VK → Prop := fun vs H Q => ∃ (a : Addr) (xs : List V) (ds : List PyData), vs = [.ref a] ∧ SqL K H a xs ∧ DpAll K H xs ds ∧ PySem.W.AllAlike ds ∧ PySem.W.Sortable ds ∧ (∀ d ∈ ds, d.depth ≤ 60) ∧ xs.length ≤ sizeLine ∧
  ∀ p, H p = none → Q (.ref p) (upd H p (.lst (((xs.zip ds).mergeSort (PySem.W.dataLe false (·.2))).map (·.1))))
theorem dpall_len {K : PySem.W.Frag} {H : Hp} : ∀ {xs : List V} {ds : List PyData}, DpAll K H xs ds → xs.length = ds.length
  | [], [], _ => rfl
  | _ :: _, _ :: _, .cons _ t => by simp [dpall_len t]
theorem each_zip {H : Hp} {X : Cx} {pins : List (Addr × Obj)} {σ : L2.St} {s : Shared} (I : Inv X pins σ H s) : ∀ {xs : List V} {ds : List PyData} {us : List Value}, DpAll X.K H xs ds → Vals xs us →
    PySem.W.EachIs (fun u b => RelV b.1 u) us (xs.zip ds) ∧ PySem.W.EachIs (fun u b => ∃ as, Reads s.heap u (Prod.snd b) as) us (xs.zip ds)
  | [], [], _, _, .nil => ⟨.nil, .nil⟩
  | x :: xs, d :: ds, _, .cons h t, .cons r rs => by
    obtain ⟨h1, h2⟩ := each_zip I t rs
    exact ⟨.cons r h1, .cons (Dp.reads I d x _ h r) h2⟩
theorem vals_each : ∀ {us : List Value} {bs : List (V × PyData)}, PySem.W.EachIs (fun u b => RelV b.1 u) us bs → Vals (bs.map (·.1)) us
  | _, _, .nil => .nil
  | _, _, .cons h t => .cons h (vals_each t)
theorem cr_sortX {X : Cx} (hu : X.A.units + 64 < cLine) : CallR X (.builtin "sorted") (rSortX X.K) := by
  intro pins s σ H vs us Q I r h
  obtain ⟨a, xs, ds, rfl, hs, hd, ha, hk, hdp, hz, q⟩ := h
  obtain ⟨its, rv, hl, _⟩ := I.list hs
  rw [Vals.ref1 r]
  obtain ⟨e1, e2⟩ := each_zip I hd rv
  have hm : (xs.zip ds).map Prod.snd = ds := by
    rw [List.map_snd_zip]
    rw [dpall_len hd]
    exact Nat.le_refl _
  have hlz : (xs.zip ds).length = xs.length := by rw [List.length_zip, dpall_len hd]; simp
  refine PySem.W.sorted_data (enc := Prod.snd) (bs := xs.zip ds) hl.isList e1 e2 (by rw [hm]; exact ha) (by rw [hm]; exact hk) (by rw [hlz]; exact hz) (fun b hb => ?_) fun out ho eo => ?_
  · have := hdp b.2 (by rw [← hm]; exact List.mem_map.mpr ⟨b, hb, rfl⟩)
    omega
  · obtain ⟨ep, he'⟩ := PyProof.Rows.sortedAll_at s.heap its out.toArray
    have hlen : (((xs.zip ds).mergeSort (PySem.W.dataLe false (·.2))).map (·.1)).length ≤ sizeLine := by rw [List.length_map, List.length_mergeSort, hlz]; exact hz
    exact ⟨.ref _, upd H (s.heap.objs.size + 1) (.lst (((xs.zip ds).mergeSort (PySem.W.dataLe false (·.2))).map (·.1))), I.laid (t' := s.toks) (fun _ _ => PyProof.Rows.sortedAll_old) (Nat.le_succ _) ⟨hlen, out, ep, vals_each eo, he'⟩, rfl, q _ (I.hok.fresh (Nat.le_succ _))⟩
noncomputable def sortD (ds : List D) : List D := ds.mergeSort (PySem.W.dataLe false D.py)
open Classical in
noncomputable def fSort : List D → Sto → Rs
  | [.lst ds], st => if (ds.all (shp 60) = true ∧ ds.length ≤ LIM) ∧ PySem.W.AllAlike (pys ds) ∧ PySem.W.Sortable (pys ds) then .ok (.lst (sortD ds)) st else .bad
  | _, _ => .bad
theorem rds_map {G : Cfg} {w : Wd} : ∀ {L : List (D × V)}, (∀ p ∈ L, RD G w p.1 p.2) → RDs G w (L.map (·.1)) (L.map (·.2))
  | [], _ => by unfold RDs; rfl
  | p :: L, h => by
    rw [List.map_cons, List.map_cons]
    unfold RDs
    exact ⟨_, _, rfl, h p List.mem_cons_self, rds_map fun q hq => h q (List.mem_cons_of_mem _ hq)⟩
theorem rds_zip {G : Cfg} {w : Wd} : ∀ {ds : List D} {vs : List V}, RDs G w ds vs → ∀ p ∈ ds.zip vs, RD G w p.1 p.2
  | [], _, _, p, hp => by simp at hp
  | d :: ds, vs, h, p, hp => by
    unfold RDs at h
    obtain ⟨v, r, rfl, h1, h2⟩ := h
    rw [List.zip_cons_cons] at hp
    rcases List.mem_cons.mp hp with rfl | hp
    · exact h1
    · exact rds_zip h2 p hp
theorem sort_rds {G : Cfg} {w : Wd} {ds : List D} {vs : List V} (h : RDs G w ds vs) : RDs G w (sortD ds) (((vs.zip (pys ds)).mergeSort (PySem.W.dataLe false (·.2))).map (·.1)) := by
  have hl := h.length
  have e1 : ds = (ds.zip vs).map (·.1) := by rw [List.map_fst_zip]; omega
  have e2 : vs.zip (pys ds) = (ds.zip vs).map fun p => (p.2, p.1.py) := by
    rw [pys_map]
    clear h e1
    induction ds generalizing vs with
    | nil => simp
    | cons d ds ih =>
      cases vs with
      | nil => simp
      | cons v vs => simp [ih (vs := vs) (by simpa using hl)]
  have s1 : sortD ds = ((ds.zip vs).mergeSort (PySem.W.dataLe false fun p => p.1.py)).map (·.1) := by
    unfold sortD
    have m := List.map_mergeSort (l := ds.zip vs) (f := fun p : D × V => p.1) (r := PySem.W.dataLe false fun p : D × V => p.1.py) (s := PySem.W.dataLe false D.py) (fun a _ b _ => rfl)
    rw [m, ← e1]
  have s2 : ((vs.zip (pys ds)).mergeSort (PySem.W.dataLe false (·.2))).map (·.1) = ((ds.zip vs).mergeSort (PySem.W.dataLe false fun p => p.1.py)).map (·.2) := by
    have m := List.map_mergeSort (l := ds.zip vs) (f := fun p : D × V => (p.2, p.1.py)) (r := PySem.W.dataLe false fun p : D × V => p.1.py) (s := PySem.W.dataLe false fun p : V × PyData => p.2) (fun a _ b _ => rfl)
    rw [e2, ← m, List.map_map]
    rfl
  rw [s1, s2]
  exact rds_map fun p hp => rds_zip h p (List.mem_mergeSort.mp hp)
theorem dpall_of {G : Cfg} {w : Wd} {ds : List D} {vs : List V} (h : RDs G w ds vs) (hs : ds.all (shp 60) = true) : DpAll G.K w.H vs (pys ds) := RDs.dp 60 ds vs (by rw [shps_all]; exact hs) h
theorem jb_sort {X : Cx} {B : Bs} {Wx : WX} (hu : X.A.units + 64 < cLine) : JB X B .fr Wx (.builtin "sorted") fSort := ⟨_, cr_sortX hu, by
  intro O e s w0 w ds vs st Q R xt rr q
  cases ds with
  | nil => exact (show False from q).elim
  | cons d ds1 =>
   cases ds1 with
   | cons _ _ => cases d <;> exact (show False from q).elim
   | nil =>
    obtain ⟨v, rfl, h⟩ := RQs.one rr
    cases d with
    | lst ds =>
      by_cases hz : (ds.all (shp 60) = true ∧ ds.length ≤ LIM) ∧ PySem.W.AllAlike (pys ds) ∧ PySem.W.Sortable (pys ds)
      · simp only [fSort, if_pos hz] at q
        obtain ⟨a, us, rfl, t, r⟩ := h.lst
        have lm := LIM_le
        refine ⟨a, us, pys ds, rfl, .of t, dpall_of r hz.1.1, hz.2.1, hz.2.2, fun d hd => ?_, by rw [← r.length]; omega, fun p hp => post.own R xt q hp fun w' i k => ⟨_, i, RDs.wk k _ _ (sort_rds r)⟩⟩
        rw [pys_map] at hd
        obtain ⟨x, hx, rfl⟩ := List.mem_map.mp hd
        exact (shp_lay 60 x (List.all_eq_true.mp hz.1.1 x hx)).2
      · simp only [fSort, if_neg hz] at q
        exact q.elim
    | _ => exact (show False from q).elim⟩
theorem f_sort {ds : List D} {st : Sto} {Q : D → Sto → Prop} {E : Str → Option (Str × D) → Sto → Prop} : RsP (fSort [.lst ds] st) Q E = (((ds.all (shp 60) = true ∧ ds.length ≤ LIM) ∧ PySem.W.AllAlike (pys ds) ∧ PySem.W.Sortable (pys ds)) ∧ Q (.lst (sortD ds)) st) := by
  by_cases hz : (ds.all (shp 60) = true ∧ ds.length ≤ LIM) ∧ PySem.W.AllAlike (pys ds) ∧ PySem.W.Sortable (pys ds)
  · rw [fSort, if_pos hz]; simp only [RsP, hz, and_self, true_and]
  · rw [fSort, if_neg hz]; simp only [RsP, hz, false_and]
end Sm

namespace Sm
open PySem L2
def bRev (f : Ev) : Ev := fun r st => (f r st).bind fun d st1 => match der st1 d with
  | .lst ds => .ok (.lst ds.reverse) st1
  | _ => .bad
section
variable {X : Cx} {B : Bs} {Wx : WX} {a : Expr} {f : Ev} {pos : Pos}
theorem w_rev {r : Env} {st : Sto} {Q : D → Sto → Prop} {E : Str → Option (Str × D) → Sto → Prop} : RsP (bRev f r st) Q E = RsP (f r st) (fun d st1 => derP st1 d fun d' => match d' with | .lst ds => Q (.lst ds.reverse) st1 | _ => False) E := by
  unfold bRev
  rw [w_bind]
  congr 1; funext d st1
  show _ = (match der st1 d with | .lst ds => Q (.lst ds.reverse) st1 | _ => False)
  cases der st1 d <;> rfl
theorem w_appR {h : Ev} {r : Env} {st : Sto} {N : Env → Sto → Prop} {R : D → Sto → Prop} {L : Bool → Env → Sto → Prop} {E : Str → Option (Str × D) → Env → Sto → Prop} : RtP (sAppR h f r st) N R L E = RsP (h r st) (fun o st1 => match o with
    | .ref n => (match st1[n]? with
      | some (.lst _) => RsP (f r st1) (fun d st2 => match st2[n]? with | some (.lst ds) => ds.length < LIM ∧ N r (st2.set n (.lst (ds ++ [d]))) | _ => False) (fun c a st => E c a r st)
      | _ => False)
    | _ => False) (fun c a st => E c a r st) := by
  unfold sAppR
  rw [w_of]
  congr 1; funext o st1
  cases o <;> try rfl
  rename_i n
  show RtP (match st1[n]? with
    | some (.lst _) => ofRs (f r st1) r fun d st2 => match st2[n]? with
      | some (.lst ds) => if ds.length < LIM then .nx r (st2.set n (.lst (ds ++ [d]))) else .bad
      | _ => .bad
    | _ => .bad) N R L E = (match st1[n]? with
      | some (.lst _) => RsP (f r st1) (fun d st2 => match st2[n]? with | some (.lst ds) => ds.length < LIM ∧ N r (st2.set n (.lst (ds ++ [d]))) | _ => False) (fun c a st => E c a r st)
      | _ => False)
  cases st1[n]? with
  | none => rfl
  | some so =>
    cases so <;> try rfl
    simp only
    rw [w_of]
    congr 1; funext d st2
    cases st2[n]? with
    | none => rfl
    | some so =>
      cases so <;> try rfl
      rename_i ds
      simp only
      by_cases z : ds.length < LIM <;> simp [z, RtP]
end
end Sm

namespace Sm
open PySem
structure OKey {α : Type} (k : α → PyData) : Prop where
  al : ∀ a b, PySem.W.alike (k a) (k b) = true
  inj : ∀ a b, PyData.eqv (k a) (k b) = true → a = b
section
variable {α : Type} {k : α → PyData}
def leE (k : α → PyData) : α → α → Bool := PySem.W.dataLe false k
theorem leE_tot (k : α → PyData) : PySem.W.TotalLe (leE k) := PySem.W.sortLe_total (PyProof.Rows.listOrd PyProof.Rows.itemOrd) false (fun b => PySem.W.keyToks (k b))
theorem leE_anti (h : OKey k) {a b : α} (h1 : leE k a b = true) (h2 : leE k b a = true) : a = b := by
  apply h.inj
  have e : PySem.W.keyToks (k a) = PySem.W.keyToks (k b) := by
    have h1' : (!(PyProof.Rows.listOrd PyProof.Rows.itemOrd).blt (PySem.W.keyToks (k b)) (PySem.W.keyToks (k a))) = true := h1
    have h2' : (!(PyProof.Rows.listOrd PyProof.Rows.itemOrd).blt (PySem.W.keyToks (k a)) (PySem.W.keyToks (k b))) = true := h2
    rw [Bool.not_eq_true'] at h1' h2'
    exact (PyProof.Rows.listOrd PyProof.Rows.itemOrd).total _ _ h2' h1'
  cases z : PyData.eqv (k a) (k b) with
  | true => rfl
  | false =>
    have q := (PySem.W.toks_eqv (k a) (k b) (h.al a b)).2 z
    rw [e] at q
    have q1 := q [] [Sum.inl 0]
    have q2 := q [Sum.inl 0] []
    rw [PySem.W.lex_pre] at q1 q2
    rw [← q2] at q1
    have c1 : PyProof.Rows.lexLt PyProof.Rows.itemOrd ([] : List (Int ⊕ List Nat)) [Sum.inl 0] = true := rfl
    have c2 : PyProof.Rows.lexLt PyProof.Rows.itemOrd [Sum.inl 0] ([] : List (Int ⊕ List Nat)) = false := rfl
    rw [c1, c2] at q1
    cases q1
def srt (k : α → PyData) (xs : List α) : List α := xs.mergeSort (leE k)
theorem srt_perm (xs : List α) : (srt k xs).Perm xs := List.mergeSort_perm _ _
theorem mem_srt {xs : List α} {a : α} : a ∈ srt k xs ↔ a ∈ xs := (srt_perm xs).mem_iff
theorem srt_pw (xs : List α) : (srt k xs).Pairwise (fun a b => leE k a b = true) := PySem.W.sort_pairwise (leE_tot k) xs
theorem srt_len (xs : List α) : (srt k xs).length = xs.length := (srt_perm xs).length_eq
def ltE (k : α → PyData) (a b : α) : Prop := leE k a b = true ∧ a ≠ b
theorem rise_uniq (h : OKey k) {xs ys : List α} (p : xs.Pairwise (ltE k)) (q : ys.Pairwise (ltE k)) (e : ∀ a, a ∈ xs ↔ a ∈ ys) : xs = ys := by
  have nx : xs.Nodup := p.imp fun z => z.2
  have ny : ys.Nodup := q.imp fun z => z.2
  have pp : xs.Perm ys := (List.perm_ext_iff_of_nodup nx ny).mpr e
  exact List.Perm.eq_of_pairwise (le := fun a b => leE k a b = true) (fun a b _ _ h1 h2 => leE_anti h h1 h2) (p.imp fun z => z.1) (q.imp fun z => z.1) pp
end
end Sm
namespace Sm
open PySem
section
variable {α : Type} [DecidableEq α] {k : α → PyData}
def dd : List α → List α
  | [] => []
  | a :: l => a :: (dd l).filter fun b => decide (b ≠ a)
theorem mem_dd {a : α} : ∀ {l : List α}, a ∈ dd l ↔ a ∈ l
  | [] => Iff.rfl
  | b :: l => by
    have ih := mem_dd (a := a) (l := l)
    simp only [dd, List.mem_cons, List.mem_filter, decide_eq_true_eq, ih]
    by_cases e : a = b
    · simp [e]
    · simp [e]
theorem dd_pw : ∀ {l : List α}, l.Pairwise (fun a b => leE k a b = true) → (dd l).Pairwise (ltE k)
  | [], _ => .nil
  | a :: l, h => by
    have h' := List.pairwise_cons.mp h
    refine List.pairwise_cons.mpr ⟨fun b hb => ?_, (dd_pw h'.2).filter _⟩
    have hb' := List.mem_filter.mp hb
    exact ⟨h'.1 b (mem_dd.mp hb'.1), fun e => (by simpa using hb'.2 : b ≠ a) e.symm⟩
theorem dd_len : ∀ {l : List α}, (dd l).length ≤ l.length
  | [] => Nat.le_refl _
  | a :: l => Nat.succ_le_succ (Nat.le_trans (List.length_filter_le ..) dd_len)
def once (k : α → PyData) (xs : List α) : List α := dd (srt k xs)
theorem mem_once {xs : List α} {a : α} : a ∈ once k xs ↔ a ∈ xs := mem_dd.trans mem_srt
theorem once_pw {xs : List α} : (once k xs).Pairwise (ltE k) := dd_pw (srt_pw xs)
theorem once_len {xs : List α} : (once k xs).length ≤ (srt k xs).length := dd_len
theorem once_eq (h : OKey k) {xs ys : List α} (p : ys.Pairwise (ltE k)) (e : ∀ a, a ∈ ys ↔ a ∈ xs) : ys = once k xs :=
  rise_uniq h p once_pw fun a => (e a).trans mem_once.symm
def roofE (k : α → PyData) (cov : α → α → Bool) (xs : List α) : List α := (once k xs).filter fun w => !(once k xs).any fun o => decide (o ≠ w) && cov o w
variable {cov : α → α → Bool}
theorem mem_roofE {xs : List α} {w : α} : w ∈ roofE k cov xs ↔ w ∈ xs ∧ ∀ o ∈ xs, o ≠ w → cov o w = false := by
  unfold roofE
  rw [List.mem_filter, mem_once]
  simp only [Bool.not_eq_true', List.any_eq_false, mem_once, Bool.and_eq_true, decide_eq_true_eq, not_and, Bool.not_eq_true]
theorem roofE_pw {xs : List α} : (roofE k cov xs).Pairwise (ltE k) := once_pw.filter _
theorem roofE_eq (h : OKey k) {xs ys : List α} (p : ys.Pairwise (ltE k)) (e : ∀ w, w ∈ ys ↔ w ∈ xs ∧ ∀ o ∈ xs, o ≠ w → cov o w = false) : ys = roofE k cov xs :=
  rise_uniq h p roofE_pw fun a => (e a).trans mem_roofE.symm
end
abbrev Wi := List (Int × Int)
theorem covL_corner : ∀ {a b : Wi}, (∀ p ∈ b, p.1 ≤ p.2) → covL a b = (hasL a (b.map (·.1)) && hasL a (b.map (·.2)))
  | a, [], _ => by simp [covL, hasL]
  | [], q :: b, _ => by simp [covL, hasL]
  | p :: a, q :: b, h => by
    have ih := covL_corner (a := a) (b := b) fun p hp => h p (List.mem_cons_of_mem _ hp)
    have hq := h q (List.mem_cons_self ..)
    simp only [covL, hasL, List.zip_cons_cons, List.map_cons, List.all_cons] at *
    rw [ih, Bool.eq_iff_iff]
    simp only [Bool.and_eq_true, decide_eq_true_eq]
    constructor
    · rintro ⟨⟨h1, h2⟩, h3, h4⟩; exact ⟨⟨⟨h1, by omega⟩, h3⟩, ⟨by omega, h2⟩, h4⟩
    · rintro ⟨⟨⟨h1, _⟩, h3⟩, ⟨_, h2⟩, h4⟩; exact ⟨⟨h1, h2⟩, h3, h4⟩
theorem hasL_fst : ∀ {b : Wi}, (∀ p ∈ b, p.1 ≤ p.2) → hasL b (b.map (·.1)) = true
  | [], _ => by simp [hasL]
  | q :: b, h => by
    have ih := hasL_fst (b := b) fun p hp => h p (List.mem_cons_of_mem _ hp)
    have hq := h q (List.mem_cons_self ..)
    simp only [hasL, List.map_cons, List.zip_cons_cons, List.all_cons] at *
    simp [ih, hq]
theorem hasL_snd : ∀ {b : Wi}, (∀ p ∈ b, p.1 ≤ p.2) → hasL b (b.map (·.2)) = true
  | [], _ => by simp [hasL]
  | q :: b, h => by
    have ih := hasL_snd (b := b) fun p hp => h p (List.mem_cons_of_mem _ hp)
    have hq := h q (List.mem_cons_self ..)
    simp only [hasL, List.map_cons, List.zip_cons_cons, List.all_cons] at *
    simp [ih, hq]
theorem covL_has : ∀ {a b : Wi} {l : List Int}, a.length = b.length → l.length = b.length → covL a b = true → hasL b l = true → hasL a l = true
  | [], b, l, h, h', _, _ => by simp [hasL]
  | p :: a, [], l, h, _, _, _ => by simp at h
  | p :: a, q :: b, [], h, _, _, _ => by simp [hasL]
  | p :: a, q :: b, n :: l, h, h', c, s => by
    have ih := covL_has (a := a) (b := b) (l := l) (by simpa using h) (by simpa using h')
    simp only [covL, hasL, List.zip_cons_cons, List.all_cons, Bool.and_eq_true, decide_eq_true_eq] at *
    exact ⟨⟨by omega, by omega⟩, ih c.2 s.2⟩
theorem covL_iff {f : Nat} {a b : Wi} (ha : a.length = f) (hb : WOk f b) : covL a b = true ↔ ∀ l, l.length = f → hasL b l = true → hasL a l = true := by
  have hv : ∀ p ∈ b, p.1 ≤ p.2 := fun p hp => (hb.2 p hp).2.1
  constructor
  · intro c l hl s
    exact covL_has (by rw [ha, hb.1]) (by rw [hl, hb.1]) c s
  · intro h
    rw [covL_corner hv, h _ (by rw [List.length_map, hb.1]) (hasL_fst hv), h _ (by rw [List.length_map, hb.1]) (hasL_snd hv)]
    rfl
theorem covL_refl : ∀ (a : Wi), covL a a = true
  | [] => rfl
  | p :: a => by
    have := covL_refl a
    simp only [covL, List.zip_cons_cons, List.all_cons] at *
    simp [this]
theorem covL_trans : ∀ {a b c : Wi}, a.length = b.length → b.length = c.length → covL a b = true → covL b c = true → covL a c = true
  | [], _, c, _, _, _, _ => by simp [covL]
  | p :: a, [], c, h, _, _, _ => by simp at h
  | p :: a, q :: b, [], _, h, _, _ => by simp at h
  | p :: a, q :: b, s :: c, h, h', x, y => by
    have ih := covL_trans (a := a) (b := b) (c := c) (by simpa using h) (by simpa using h')
    simp only [covL, List.zip_cons_cons, List.all_cons, Bool.and_eq_true, decide_eq_true_eq] at *
    exact ⟨⟨by omega, by omega⟩, ih x.2 y.2⟩
def wid (w : Wi) : Nat := (w.map fun p => (p.2 - p.1).toNat).sum
theorem wid_le : ∀ {a b : Wi}, a.length = b.length → (∀ p ∈ b, p.1 ≤ p.2) → covL a b = true → wid b ≤ wid a ∧ (wid a = wid b → a = b)
  | [], [], _, _, _ => ⟨Nat.le_refl _, fun _ => rfl⟩
  | p :: a, [], h, _, _ => by simp at h
  | [], q :: b, h, _, _ => by simp at h
  | p :: a, q :: b, h, v, x => by
    have hq := v q (List.mem_cons_self ..)
    have x' : (p.1 ≤ q.1 ∧ q.2 ≤ p.2) ∧ covL a b = true := by
      simp only [covL, List.zip_cons_cons, List.all_cons, Bool.and_eq_true, decide_eq_true_eq] at x ⊢
      exact x
    have ih := wid_le (a := a) (b := b) (by simpa using h) (fun p hp => v p (List.mem_cons_of_mem _ hp)) x'.2
    have e1 : wid (p :: a) = (p.2 - p.1).toNat + wid a := by simp [wid]
    have e2 : wid (q :: b) = (q.2 - q.1).toNat + wid b := by simp [wid]
    rw [e1, e2]
    refine ⟨by omega, fun e => ?_⟩
    have hw : wid a = wid b := by omega
    rw [ih.2 hw]
    have : p = q := Prod.ext (by omega) (by omega)
    rw [this]
theorem wid_bd : ∀ {f : Nat} {w : Wi}, WOk f w → wid w ≤ 9 * f
  | f, [], h => by simp [wid]
  | 0, p :: w, h => by have := h.1; simp at this
  | f + 1, p :: w, h => by
    have ih := wid_bd (f := f) (w := w) ⟨by have := h.1; simpa using this, fun q hq => h.2 q (List.mem_cons_of_mem _ hq)⟩
    have hp := h.2 p (List.mem_cons_self ..)
    have e1 : wid (p :: w) = (p.2 - p.1).toNat + wid w := by simp [wid]
    rw [e1]
    omega
section
variable {k : Wi → PyData} {f : Nat}
def roofW (k : Wi → PyData) (ws : List Wi) : List Wi := roofE k covL ws
theorem roof_max {ws : List Wi} (h : ∀ w ∈ ws, WOk f w) {w : Wi} (hw : w ∈ ws) : ∃ m ∈ roofW k ws, covL m w = true := by
  have key : ∀ (n : Nat) (w : Wi), w ∈ ws → 9 * f - wid w ≤ n → ∃ m ∈ roofW k ws, covL m w = true := by
    intro n
    induction n with
    | zero =>
      intro w hw hn
      refine ⟨w, mem_roofE.mpr ⟨hw, fun o ho ne => ?_⟩, covL_refl w⟩
      cases z : covL o w with
      | false => rfl
      | true =>
        have q := wid_le (by rw [(h o ho).1, (h w hw).1]) (fun p hp => ((h w hw).2 p hp).2.1) z
        have b := wid_bd (h o ho)
        exact absurd (q.2 (by omega)) ne
    | succ n ih =>
      intro w hw hn
      by_cases z : ∃ o ∈ ws, o ≠ w ∧ covL o w = true
      · obtain ⟨o, ho, ne, c⟩ := z
        have q := wid_le (by rw [(h o ho).1, (h w hw).1]) (fun p hp => ((h w hw).2 p hp).2.1) c
        have : wid o ≠ wid w := fun e => ne (q.2 e)
        have b := wid_bd (h o ho)
        obtain ⟨m, hm, cm⟩ := ih o ho (by omega)
        have hm' := (mem_roofE.mp hm).1
        exact ⟨m, hm, covL_trans (by rw [(h m hm').1, (h o ho).1]) (by rw [(h o ho).1, (h w hw).1]) cm c⟩
      · refine ⟨w, mem_roofE.mpr ⟨hw, fun o ho ne => ?_⟩, covL_refl w⟩
        cases c : covL o w with
        | false => rfl
        | true => exact absurd ⟨o, ho, ne, c⟩ z
  exact key _ w hw (Nat.le_refl _)
def hadL (ws : List Wi) (l : List Int) : Bool := ws.any fun o => hasL o l
def allHad (ws : List Wi) (w : Wi) : Bool := (lets w).all (hadL ws)
theorem allHad_iff {f : Nat} {ws : List Wi} {w : Wi} (hw : w.length = f) : allHad ws w = true ↔ ∀ l, l.length = f → hasL w l = true → hadL ws l = true := by
  unfold allHad
  rw [List.all_eq_true]
  subst hw
  exact ⟨fun h l h1 h2 => h l (mem_lets.mpr ⟨h1, h2⟩), fun h l hl => h l (mem_lets.mp hl).1 (mem_lets.mp hl).2⟩
theorem hadL_iff {ws : List Wi} {l : List Int} : hadL ws l = true ↔ ∃ o ∈ ws, hasL o l = true := by unfold hadL; rw [List.any_eq_true]
theorem hadL_roof {ws : List Wi} (h : ∀ w ∈ ws, WOk f w) {l : List Int} (hl : l.length = f) : hadL (roofW k ws) l = hadL ws l := by
  rw [Bool.eq_iff_iff, hadL_iff, hadL_iff]
  constructor
  · rintro ⟨o, ho, c⟩; exact ⟨o, (mem_roofE.mp ho).1, c⟩
  · rintro ⟨o, ho, c⟩
    obtain ⟨m, hm, cm⟩ := roof_max (k := k) h ho
    exact ⟨m, hm, (covL_iff (h m (mem_roofE.mp hm).1).1 (h o ho)).mp cm l hl c⟩
def leftL (ws : List Wi) (w : Wi) : Option (List Int) := (lets w).find? fun l => !hadL ws l
theorem leftL_none {ws : List Wi} {w : Wi} : leftL ws w = none ↔ allHad ws w = true := by
  unfold leftL allHad
  rw [List.find?_eq_none, List.all_eq_true]
  exact forall_congr' fun l => forall_congr' fun _ => by simp
end
end Sm
namespace Sm
open PySem
end Sm
namespace Sm
open PySem
section
variable {α : Type} [DecidableEq α] {k : α → PyData}
structure Onc (k : α → PyData) (acc done : List α) : Prop where
  pw : acc.Pairwise (ltE k)
  mem : ∀ x, x ∈ acc ↔ x ∈ done
  last : acc.getLast? = done.getLast?
theorem Onc.nil : Onc k ([] : List α) [] := ⟨.nil, fun _ => Iff.rfl, rfl⟩
theorem Onc.skip {acc done : List α} {a : α} (h : Onc k acc done) (e : acc.getLast? = some a) : Onc k acc (done ++ [a]) :=
  ⟨h.pw, fun x => by
    have : a ∈ acc := List.mem_of_getLast? e
    rw [List.mem_append, List.mem_singleton, h.mem]
    exact ⟨.inl, fun z => z.elim id fun z => by rw [z]; exact (h.mem a).mp this⟩, by rw [e]; simp⟩
theorem rise_add {acc : List α} {a : α} (h : acc.Pairwise (ltE k)) (s : ∀ x ∈ acc, leE k x a = true) (n : a ∉ acc) : (acc ++ [a]).Pairwise (ltE k) :=
  List.pairwise_append.mpr ⟨h, List.pairwise_singleton .., fun x hx y hy => by
    rw [List.mem_singleton.mp hy]
    exact ⟨s x hx, fun e => n (e ▸ hx)⟩⟩
theorem Onc.add (hk : OKey k) {acc done : List α} {a : α} (h : Onc k acc done) (s : (done ++ [a]).Pairwise (fun a b => leE k a b = true)) (e : acc.getLast? ≠ some a) : Onc k (acc ++ [a]) (done ++ [a]) := by
  have hs := List.pairwise_append.mp s
  refine ⟨rise_add h.pw (fun x hx => hs.2.2 x ((h.mem x).mp hx) a (by simp)) ?_, fun x => by rw [List.mem_append, List.mem_append, h.mem], by simp⟩
  intro ha
  have hd := (h.mem a).mp ha
  have hne : done ≠ [] := fun z => by rw [z] at hd; cases hd
  obtain ⟨init, y, rfl⟩ : ∃ init y, done = init ++ [y] := ⟨done.dropLast, done.getLast hne, (List.dropLast_concat_getLast hne).symm⟩
  rw [h.last] at e
  simp only [List.getLast?_concat, ne_eq, Option.some.injEq] at e
  have h1 : leE k y a = true := hs.2.2 y (by simp) a (by simp)
  rcases List.mem_append.mp hd with z | z
  · have h2 : leE k a y = true := (List.pairwise_append.mp hs.1).2.2 a z y (by simp)
    exact e (leE_anti hk h1 h2)
  · exact e (List.mem_singleton.mp z).symm
theorem Onc.fin (hk : OKey k) {acc xs : List α} (h : Onc k acc (srt k xs)) : acc = once k xs := once_eq hk h.pw fun a => (h.mem a).trans mem_srt
theorem srt_split {xs done rest : List α} {a : α} (e : srt k xs = done ++ a :: rest) : (done ++ [a]).Pairwise (fun a b => leE k a b = true) ∧ (∀ x ∈ done, leE k x a = true) := by
  have h := srt_pw (k := k) xs
  rw [e] at h
  have h' := List.pairwise_append.mp h
  refine ⟨List.pairwise_append.mpr ⟨h'.1, List.pairwise_singleton .., fun x hx y hy => ?_⟩, fun x hx => h'.2.2 x hx a (by simp)⟩
  rw [List.mem_singleton.mp hy]
  exact h'.2.2 x hx a (by simp)
end
end Sm

namespace Sm
open PySem L2
theorem sortD_enc {α : Type} {enc : α → D} {xs : List α} : sortD (xs.map enc) = (srt (fun a => (enc a).py) xs).map enc :=
  (List.map_mergeSort (f := enc) (r := leE fun a => (enc a).py) (s := PySem.W.dataLe false D.py) (l := xs) fun _ _ _ _ => rfl).symm
theorem sort_okE {α : Type} {enc : α → D} {xs : List α} (hs : ∀ a ∈ xs, shp 60 (enc a) = true) (hl : xs.length ≤ LIM) (ha : ∀ a b, PySem.W.alike (enc a).py (enc b).py = true)
    (ht : (∀ a ∈ xs, ∃ x r, (enc a).py = .tuple (x :: r)) ∨ (∀ a ∈ xs, (enc a).py ≠ .none ∧ ∀ ys, (enc a).py ≠ .tuple ys)) :
    ((xs.map enc).length ≤ LIM ∧ PySem.W.AllAlike (pys (xs.map enc)) ∧ PySem.W.Sortable (pys (xs.map enc))) := by
  rw [pys_map, List.map_map]
  refine ⟨by rw [List.length_map]; exact hl, ?_, ?_⟩
  · intro x hx y hy
    obtain ⟨a, _, rfl⟩ := List.mem_map.mp hx
    obtain ⟨b, _, rfl⟩ := List.mem_map.mp hy
    exact ha a b
  · rcases ht with h | h
    · refine .inl fun x hx => ?_
      obtain ⟨a, h', rfl⟩ := List.mem_map.mp hx
      exact h a h'
    · refine .inr fun x hx => ?_
      obtain ⟨a, h', rfl⟩ := List.mem_map.mp hx
      exact h a h'
theorem al_all : ∀ (xs ys : List D), (∀ x ∈ xs, ∀ y ∈ ys, PySem.W.alike x.py y.py = true) → PySem.W.alikeAll (pys xs) (pys ys) = true
  | [], ys, _ => by cases ys <;> simp [pys, PySem.W.alikeAll]
  | x :: xs, [], _ => by simp [pys, PySem.W.alikeAll]
  | x :: xs, y :: ys, h => by
    simp only [pys, PySem.W.alikeAll]
    rw [h x (by simp) y (by simp), al_all xs ys fun a ha b hb => h a (by simp [ha]) b (by simp [hb])]
    rfl
theorem al_int {i j : Int} : PySem.W.alike (D.int i).py (D.int j).py = true := by simp [D.py, PySem.W.alike]
theorem al_tup {xs ys : List D} (h : ∀ x ∈ xs, ∀ y ∈ ys, PySem.W.alike x.py y.py = true) : PySem.W.alike (D.tup xs).py (D.tup ys).py = true := by
  simp only [D.py, PySem.W.alike]
  exact al_all xs ys h
theorem al_dT (a b : List Int) : PySem.W.alike (dT a).py (dT b).py = true := al_tup fun x hx y hy => by
  obtain ⟨i, _, rfl⟩ := List.mem_map.mp hx
  obtain ⟨j, _, rfl⟩ := List.mem_map.mp hy
  exact al_int
theorem al_dP (a b : Int × Int) : PySem.W.alike (dP a).py (dP b).py = true := al_dT [a.1, a.2] [b.1, b.2]
theorem al_dW (a b : List (Int × Int)) : PySem.W.alike (dW a).py (dW b).py = true := al_tup fun x hx y hy => by
  obtain ⟨i, _, rfl⟩ := List.mem_map.mp hx
  obtain ⟨j, _, rfl⟩ := List.mem_map.mp hy
  exact al_dP _ _
theorem okey_of {α : Type} {enc : α → D} (ha : ∀ a b, PySem.W.alike (enc a).py (enc b).py = true) (hn : ∀ a, nb (enc a) = true) (hi : ∀ a b, enc a = enc b → a = b) : OKey fun a => (enc a).py :=
  ⟨ha, fun a b h => hi a b ((eqv_nb (hn a) (hn b)).mp h)⟩
def kW (w : Wi) : PyData := (dW w).py
def kT (l : List Int) : PyData := (dT l).py
def kP (l : Int × Int) : PyData := (dP l).py
def kI (l : Int) : PyData := (D.int l).py
theorem okW : OKey kW := okey_of al_dW (fun _ => nb_dW) dW_inj
theorem sortW {ws : List Wi} : sortD (ws.map dW) = (srt kW ws).map dW := sortD_enc
theorem sortW_ok {ws : List Wi} (hw : ∀ w ∈ ws, w ≠ []) (hl : ws.length ≤ LIM) : ((ws.map dW).length ≤ LIM ∧ PySem.W.AllAlike (pys (ws.map dW)) ∧ PySem.W.Sortable (pys (ws.map dW))) :=
  sort_okE (fun _ _ => shp_dW) hl al_dW (.inl fun a h => by
    cases a with
    | nil => exact absurd rfl (hw _ h)
    | cons p w => exact ⟨(dP p).py, pys (w.map dP), by simp [dW, D.py, pys]⟩)
theorem sortT_ok {ws : List (List Int)} (hw : ∀ w ∈ ws, w ≠ []) (hl : ws.length ≤ LIM) : ((ws.map dT).length ≤ LIM ∧ PySem.W.AllAlike (pys (ws.map dT)) ∧ PySem.W.Sortable (pys (ws.map dT))) :=
  sort_okE (fun _ _ => shp_dT) hl al_dT (.inl fun a h => by
    cases a with
    | nil => exact absurd rfl (hw _ h)
    | cons p w => exact ⟨(D.int p).py, pys (w.map D.int), by simp [dT, D.py, pys]⟩)
theorem leI {a b : Int} : leE kI a b = decide (a ≤ b) := by
  have := congrFun (congrFun (PySem.W.dataLe_int (fun b : Int => b)) a) b
  exact this
theorem leT {a b : List Int} : leE kT a b = decide (a ≤ b) := by
  have h := congrFun (congrFun (PySem.W.dataLe_rows (fun b : List Int => b)) a) b
  have e : ∀ c : List Int, PySem.W.keyToks (kT c) = PySem.W.keyToks (.list (c.map .int)) := fun c => by
    have : pys (c.map D.int) = c.map .int := by rw [pys_map, List.map_map]; rfl
    simp only [kT, dT, D.py, PySem.W.keyToks, this]
  have e2 : leE kT a b = PySem.W.dataLe false (fun b : List Int => .list (b.map .int)) a b := by
    show (!_) = (!_)
    simp only [e]
  rw [e2, h]
theorem atI_getLast {α : Type} {xs : List α} : atI xs (-1) = xs.getLast? := by
  unfold atI ixN
  rw [if_neg (by decide)]
  cases xs with
  | nil => rfl
  | cons x xs =>
    rw [if_pos (by simp only [List.length_cons]; omega), List.getLast?_eq_getElem?]
    show (x :: xs)[(-1 + ((x :: xs).length : Int)).toNat]? = _
    congr 1
    simp only [List.length_cons]
    omega
end Sm

namespace Sm
open PySem L2
def relK (o sc : Scope) : Scope := { sc with names := sc.names.map fun (n, k) => if (k == .free && o.kind == .function && o.names.lookup n == some .cell) then (n, .cell) else (n, k) }
theorem relabel_eq (sc : Scope) (env : PySem.Env) : PySem.relabel sc env = relK env.scope sc := rfl
theorem any_enc {α : Type} {enc : α → D} (he : ∀ a b, eqv (enc a) (enc b) = true ↔ a = b) {acc : List α} {a : α} [Decidable (a ∈ acc)] : ((acc.map enc).any fun z => eqv z (enc a)) = decide (a ∈ acc) := by
  rw [List.any_map, Bool.eq_iff_iff, List.any_eq_true, decide_eq_true_eq]
  constructor
  · rintro ⟨b, hb, e⟩
    have : b = a := by simpa [he] using e
    exact this ▸ hb
  · intro h
    exact ⟨a, h, by simp [he]⟩
theorem any_dW {acc : List Wi} {a : Wi} : ((acc.map dW).any fun z => eqv z (dW a)) = decide (a ∈ acc) := any_enc fun _ _ => by simp [eqv_dW]
theorem all_shW {n : Nat} {acc : List Wi} : (acc.map dW).all (shp (n + 2)) = true := by simp [shp_dW]
theorem all_shT {n : Nat} {acc : List (List Int)} : (acc.map dT).all (shp (n + 1)) = true := by simp [shp_dT]
theorem all_shP {n : Nat} {acc : List (Int × Int)} : (acc.map dP).all (shp (n + 1)) = true := by simp [shp_dP]
theorem all_shI {n : Nat} {acc : List Int} : (acc.map D.int).all (shp n) = true := by simp [shp_int]
section
variable {st : Sto} {P : D → Prop}
theorem der_dW {w} : der st (dW w) = dW w := rfl
theorem der_dP {w} : der st (dP w) = dP w := rfl
theorem der_dT {w} : der st (dT w) = dT w := rfl
theorem der_dWs {w} : der st (dWs w) = dWs w := rfl
theorem der_dTs {w} : der st (dTs w) = dTs w := rfl
theorem dp_dW {w} : derP st (dW w) P = P (dW w) := rfl
theorem dp_dP {w} : derP st (dP w) P = P (dP w) := rfl
theorem dp_dT {w} : derP st (dT w) P = P (dT w) := rfl
theorem dp_dWs {w} : derP st (dWs w) P = P (dWs w) := rfl
theorem dp_dTs {w} : derP st (dTs w) P = P (dTs w) := rfl
end
theorem map_snoc {α β : Type} {f : α → β} {xs : List α} {a : α} : xs.map f ++ [f a] = (xs ++ [a]).map f := by simp
theorem roofW_len {ws : List Wi} : (roofW kW ws).length ≤ ws.length := by
  have h1 : (roofW kW ws).length ≤ (once kW ws).length := List.length_filter_le ..
  have h2 : (once kW ws).length ≤ (srt kW ws).length := once_len
  rw [srt_len] at h2
  omega
end Sm

namespace Sm
open PySem L2
section
variable {c : Ev} {F : Sv} {r : Env} {st : Sto} {N : Env → Sto → Prop} {R : D → Sto → Prop} {L : Bool → Env → Sto → Prop} {E : Str → Option (Str × D) → Env → Sto → Prop}
theorem while_rule (I : Nat → Env → Sto → Prop) (m : Nat) (h0 : I m r st)
    (hs : ∀ m r st, I m r st → RsP (c r st) (fun d st1 => bX d (RtP (F r st1) (fun r2 st2 => ∃ k, k < m ∧ I k r2 st2) R (fun b r2 st2 => if b = true then N r2 st2 else ∃ k, k < m ∧ I k r2 st2) E) (N r st1)) (fun c a st => E c a r st)) : RtP (sWhile c F r st) N R L E := by
  have key : ∀ (m : Nat) r st, I m r st → ∃ n x, whN c F n r st = some x ∧ RtP x N R L E := by
    intro m
    induction m using Nat.strongRecOn with
    | ind m ih =>
      intro r st h
      have q := hs m r st h
      cases z : c r st with
      | ok d st1 =>
        rw [z] at q
        cases d with
        | bl b =>
          cases b with
          | true =>
            have q := q.1 rfl
            cases ef : F r st1 with
            | nx r5 st5 =>
              rw [ef] at q
              obtain ⟨k, hk, hI⟩ := q
              obtain ⟨n, x, e, g⟩ := ih k hk r5 st5 hI
              exact ⟨n + 1, x, by unfold whN; rw [z]; simp only [ef]; exact e, g⟩
            | ct r5 st5 =>
              rw [ef] at q
              obtain ⟨k, hk, hI⟩ := (by simpa [RtP] using q : ∃ k, k < m ∧ I k r5 st5)
              obtain ⟨n, x, e, g⟩ := ih k hk r5 st5 hI
              exact ⟨n + 1, x, by unfold whN; rw [z]; simp only [ef]; exact e, g⟩
            | bk r5 st5 =>
              rw [ef] at q
              exact ⟨1, .nx r5 st5, by unfold whN; rw [z]; simp only [ef], by simpa [RtP] using q⟩
            | rt d st5 =>
              rw [ef] at q
              exact ⟨1, .rt d st5, by unfold whN; rw [z]; simp only [ef], q⟩
            | err cc a r5 st5 =>
              rw [ef] at q
              exact ⟨1, .err cc a r5 st5, by unfold whN; rw [z]; simp only [ef], q⟩
            | bad => rw [ef] at q; exact q.elim
          | false =>
            exact ⟨1, .nx r st1, by unfold whN; rw [z], q.2 rfl⟩
        | _ => exact (show False from q).elim
      | err cc a st1 =>
        rw [z] at q
        exact ⟨1, .err cc a r st1, by unfold whN; rw [z], q⟩
      | bad => rw [z] at q; exact q.elim
  obtain ⟨n, x, e, g⟩ := key m r st h0
  rw [sWhile_of e]
  exact g
end
end Sm
namespace Sm
open PySem L2
def leftF (ws : List Wi) (w : Wi) (i : Nat) : Option (List Int) := (lets (w.drop i)).find? fun l => !ws.any fun o => hasL (o.drop i) l
def dO : Option (List Int) → D
  | none => .non
  | some l => dT l
theorem leftF_0 {ws : List Wi} {w : Wi} : leftF ws w 0 = leftL ws w := by
  unfold leftF leftL hadL
  rfl
def inAt (i : Nat) (n : Int) (o : Wi) : Bool := match o[i]? with | some p => decide (p.1 ≤ n) && decide (n ≤ p.2) | none => false
theorem leftF_end {ws : List Wi} {w : Wi} {i : Nat} (h : w.length ≤ i) : leftF ws w i = if ws.isEmpty then some [] else none := by
  unfold leftF
  rw [List.drop_eq_nil_of_le h]
  cases ws with
  | nil => simp [lets]
  | cons o ws => simp [lets, hasL]
theorem leftF_step {ws : List Wi} {w : Wi} {i : Nat} {p : Int × Int} (hp : w[i]? = some p) (hl : ∀ o ∈ ws, i < o.length) :
    leftF ws w i = (rng p).findSome? fun n => (leftF (ws.filter (inAt i n)) w (i + 1)).map fun l => n :: l := by
  have hi : i < w.length := (List.getElem?_eq_some_iff.mp hp).1
  have e : w.drop i = p :: w.drop (i + 1) := by rw [List.drop_eq_getElem_cons hi, (List.getElem?_eq_some_iff.mp hp).2]
  unfold leftF
  rw [e, lets_cons, List.find?_flatMap]
  congr 1
  funext n
  rw [List.find?_map]
  congr 1
  congr 1
  funext l
  simp only [Function.comp]
  congr 1
  rw [List.any_filter, Bool.eq_iff_iff, List.any_eq_true, List.any_eq_true]
  refine exists_congr fun o => and_congr_right fun ho => ?_
  have ho' := hl o ho
  have eo : o.drop i = o[i] :: o.drop (i + 1) := List.drop_eq_getElem_cons ho'
  have eg : o[i]? = some o[i] := List.getElem?_eq_getElem ho'
  have e3 : hasL (o[i] :: o.drop (i + 1)) (n :: l) = ((decide (o[i].1 ≤ n) && decide (n ≤ o[i].2)) && hasL (o.drop (i + 1)) l) := by simp only [hasL, List.zip_cons_cons, List.all_cons]
  rw [eo, e3]
  unfold inAt
  rw [eg]
def LA (st : Sto) (d : D) (ds : List D) : Prop := d = .lst ds ∨ ∃ n, d = .ref n ∧ st[n]? = some (.lst ds)
theorem atI_nat' {α : Type} {xs : List α} {i : Nat} {a : α} (h : xs[i]? = some a) : atI xs (i : Int) = some a := by
  unfold atI
  rw [ixN_in (by omega) (by have := (List.getElem?_eq_some_iff.mp h).1; omega)]
  simpa using h
theorem rng_range {a b : Int} : ((List.range (b + 1 - a).toNat).map fun (i : Nat) => a + (i : Int)) = rng (a, b) := rfl
end Sm
namespace Sm
open PySem L2
def Pre (st st' : Sto) : Prop := ∃ l, st' = st ++ l
theorem Pre.refl (st : Sto) : Pre st st := ⟨[], by simp⟩
theorem Pre.trans {a b c : Sto} (x : Pre a b) (y : Pre b c) : Pre a c := by
  obtain ⟨l, rfl⟩ := x
  obtain ⟨m, rfl⟩ := y
  exact ⟨l ++ m, by simp⟩
theorem Pre.push {a b : Sto} {o : List SO} (x : Pre a b) : Pre a (b ++ o) := x.trans ⟨o, rfl⟩
theorem Pre.get {a b : Sto} (x : Pre a b) {n : Nat} {o : SO} (h : a[n]? = some o) : b[n]? = some o := by
  obtain ⟨l, rfl⟩ := x
  rw [List.getElem?_append_left (List.getElem?_eq_some_iff.mp h).1]
  exact h
theorem Pre.len {a b : Sto} (x : Pre a b) : a.length ≤ b.length := by
  obtain ⟨l, rfl⟩ := x
  simp
theorem dO_none {x : Option (List Int)} : isN (dO x) = x.isNone := by cases x <;> simp [dO, isN, dT]
end Sm
namespace Sm
open PySem L2
end Sm

namespace Sm
open PySem L2
section
variable {X : Cx} {B : Bs} {k : Kd} {fr : Bool} {Wx : WX} {F : Sv} {st1 : Stmt}
def sRefA (i : Nat) (F : Sv) : Sv := fun r st => match F r st with
  | .nx r1 st1 => (match r1 i with
    | some (true, .lst ds) => .nx (r1.set i (some (false, .ref st1.length))) (st1 ++ [.lst ds])
    | some (true, .dct ks vs) => .nx (r1.set i (some (false, .ref st1.length))) (st1 ++ [.dct ks vs])
    | _ => .bad)
  | x => x
variable {r : Env} {st : Sto} {N : Env → Sto → Prop} {R : D → Sto → Prop} {L : Bool → Env → Sto → Prop} {E : Str → Option (Str × D) → Env → Sto → Prop}
theorem w_refA {i : Nat} : RtP (sRefA i F r st) N R L E = RtP (F r st) (fun r1 st1 => match r1 i with
    | some (true, .lst ds) => N (r1.set i (some (false, .ref st1.length))) (st1 ++ [.lst ds])
    | some (true, .dct ks vs) => N (r1.set i (some (false, .ref st1.length))) (st1 ++ [.dct ks vs])
    | _ => False) R L E := by
  unfold sRefA
  cases F r st with
  | nx r1 st1 =>
    simp only [RtP]
    rcases r1 i with _ | ⟨_ | _, d⟩
    · rfl
    · rfl
    · cases d <;> rfl
  | _ => rfl
end
end Sm
namespace Sm
open PySem L2
end Sm
namespace Sm
open PySem L2
end Sm

namespace Sm
open PySem L2
section
variable {X : Cx} {B : Bs} {Wx : WX} {pos : Pos}
end
end Sm

namespace Sm
open PySem L2
def rBest (K : PySem.W.Frag) (F : PyData → List PyData → PyData) : List V → Hp → VK → Prop := fun vs H Q => ∃ (a : Addr) (xs : List V) (d : PyData) (ds : List PyData), vs = [.ref a] ∧ (SqL K H a xs ∨ SqT K H a xs) ∧ DpAll K H xs (d :: ds) ∧ PySem.W.AlikeAll (d :: ds) ∧ (∀ z ∈ d :: ds, z.depth ≤ 60) ∧
  ∀ (i : Nat) x z, xs[i]? = some x → (d :: ds)[i]? = some z → z = F d ds → Q x H
theorem depthAll_le : ∀ {ds : List PyData}, (∀ z ∈ ds, z.depth ≤ 60) → PyData.depthAll ds ≤ 60
  | [], _ => by simp [PyData.depthAll]
  | d :: ds, h => by
    have h1 := h d (by simp)
    have h2 := depthAll_le (ds := ds) fun z hz => h z (by simp [hz])
    simp only [PyData.depthAll]
    omega
theorem minD_mem : ∀ (xs : List PyData) (x : PyData), PySem.W.minD x xs ∈ x :: xs
  | [], x => by simp [PySem.W.minD]
  | y :: xs, x => by
    have e : PySem.W.minD x (y :: xs) = PySem.W.minD (if PySem.W.dataLt y x then y else x) xs := rfl
    rw [e]
    have := minD_mem xs (if PySem.W.dataLt y x then y else x)
    rcases List.mem_cons.mp this with z | z
    · rw [z]; split <;> simp
    · simp [z]
theorem each_dp {H : Hp} {X : Cx} {pins : List (Addr × Obj)} {σ : L2.St} {s : Shared} (I : Inv X pins σ H s) : ∀ {xs : List V} {ds : List PyData} {us : List Value}, DpAll X.K H xs ds → Vals xs us → ∃ as, ReadsAll s.heap us ds as
  | [], [], _, _, .nil => ⟨_, .nil⟩
  | x :: xs, d :: ds, _, .cons h t, .cons r rs => by
    obtain ⟨as, h1⟩ := Dp.reads I d x _ h r
    obtain ⟨bs, h2⟩ := each_dp I t rs
    exact ⟨_, .cons h1 h2⟩
theorem vals_at : ∀ {xs : List V} {us : List Value} {i : Nat} {u : Value}, Vals xs us → us[i]? = some u → ∃ x, xs[i]? = some x ∧ RelV x u
  | _, _, i, u, .nil, h => by simp at h
  | _, _, 0, u, .cons r _, h => by simp at h; subst h; exact ⟨_, rfl, r⟩
  | _, _, i + 1, u, .cons _ rs, h => by
    obtain ⟨x, e, r⟩ := vals_at (i := i) rs (by simpa using h)
    exact ⟨x, by simpa using e, r⟩
end Sm
namespace Sm
open PySem L2
section
variable {X : Cx} {B : Bs} {Wx : WX}
theorem best_end {pins : List (Addr × Obj)} {σ : L2.St} {H : Hp} {s : Shared} {xs : List V} {d : PyData} {ds : List PyData} {its : List Value} {F : PyData → List PyData → PyData} {Q : VK} (I : Inv X pins σ H s) (rv : Vals xs its) (hd : DpAll X.K H xs (d :: ds)) (ha : PySem.W.AlikeAll (d :: ds)) (hF : F d ds ∈ d :: ds)
    (q : ∀ (i : Nat) x z, xs[i]? = some x → (d :: ds)[i]? = some z → z = F d ds → Q x H) {i : Nat} {v : Value} {h' : Heap} {tk : Nat} {bs : List Addr} (hv : its.toArray[i]? = some v) (hr : Reads h' v (F d ds) bs) (hk : ∀ b o, s.heap.get? b = some o → h'.get? b = some o) :
    ∃ x H', Inv X pins σ H' { s with heap := h', toks := tk } ∧ RelV x v ∧ Q x H' := by
  obtain ⟨as, ra⟩ := each_dp I hd rv
  have hv' : its[i]? = some v := by simpa using hv
  obtain ⟨x, hx, rx⟩ := vals_at rv hv'
  obtain ⟨cs, r1, hlt, hm, _⟩ := PySem.W.readsAll_at ra i v hv'
  have e : (d :: ds).getD i .none = F d ds := PySem.W.alike_unique _ _ v _ _ (ha.1 _ hm _ hF) (PySem.W.reads_keeps hk r1) hr
  refine ⟨x, H, I.kept hk, rx, q i x _ hx ?_ e⟩
  rw [List.getD_eq_getElem?_getD, List.getElem?_eq_getElem hlt]
  simp
theorem cr_best_min (hc : X.calm = true) (hu : X.A.units + 64 < cLine) : CallR X (.builtin "min") (rBest X.K PySem.W.minD) := by
  intro pins s σ H vs us Q I r h
  obtain ⟨a, xs, d, ds, rfl, hs, hd, ha, hdp, q⟩ := h
  rw [Vals.ref1 r]
  have hD := depthAll_le hdp
  rcases hs with hs | hs
  · obtain ⟨its, rv, hl, _⟩ := I.list hs
    obtain ⟨as, ra⟩ := each_dp I hd rv
    refine PySem.W.min_list_data (I.ok.hd hc) hl.isList (by simpa using ra) ha (by omega) fun i v h' tk bs hv hr hk => ?_
    obtain ⟨x, H', I', rx, q'⟩ := best_end (tk := tk) I rv hd ha (minD_mem _ _) q hv hr hk
    exact ⟨x, H', I', rx, q'⟩
  · obtain ⟨its, rv, hl, _⟩ := I.tuple hs
    obtain ⟨as, ra⟩ := each_dp I hd rv
    refine PySem.W.min_tuple_data (I.ok.hd hc) (let ⟨o, e, c, n, d⟩ := hl; ⟨o, e, c, n, d⟩) (by simpa using ra) ha (by omega) fun i v h' tk bs hv hr hk => ?_
    obtain ⟨x, H', I', rx, q'⟩ := best_end (tk := tk) I rv hd ha (minD_mem _ _) q hv hr hk
    exact ⟨x, H', I', rx, q'⟩
end
end Sm
namespace Sm
open PySem L2
def bestD (mx : Bool) (d : D) (ds : List D) : D := ds.foldl (fun a y => if (if mx = true then PySem.W.dataLt a.py y.py else PySem.W.dataLt y.py a.py) = true then y else a) d
def bestP (mx : Bool) : PyData → List PyData → PyData := fun x xs => if mx = true then PySem.W.maxD x xs else PySem.W.minD x xs
theorem bestD_py (mx : Bool) : ∀ (ds : List D) (d : D), (bestD mx d ds).py = bestP mx d.py (pys ds)
  | [], d => by cases mx <;> simp [bestD, bestP, pys, PySem.W.maxD, PySem.W.minD]
  | y :: ds, d => by
    have e : bestD mx d (y :: ds) = bestD mx (if (if mx = true then PySem.W.dataLt d.py y.py else PySem.W.dataLt y.py d.py) = true then y else d) ds := rfl
    rw [e, bestD_py mx ds]
    cases mx
    · simp only [bestP, pys, Bool.false_eq_true, if_false]
      show PySem.W.minD _ _ = PySem.W.minD (if PySem.W.dataLt y.py d.py = true then y.py else d.py) (pys ds)
      split <;> rfl
    · simp only [bestP, pys, if_true]
      show PySem.W.maxD _ _ = PySem.W.maxD (if PySem.W.dataLt d.py y.py = true then y.py else d.py) (pys ds)
      split <;> rfl
theorem bestD_mem (mx : Bool) : ∀ (ds : List D) (d : D), bestD mx d ds ∈ d :: ds
  | [], d => by simp [bestD]
  | y :: ds, d => by
    have e : bestD mx d (y :: ds) = bestD mx (if (if mx = true then PySem.W.dataLt d.py y.py else PySem.W.dataLt y.py d.py) = true then y else d) ds := rfl
    rw [e]
    have := bestD_mem mx ds (if (if mx = true then PySem.W.dataLt d.py y.py else PySem.W.dataLt y.py d.py) = true then y else d)
    rcases List.mem_cons.mp this with z | z
    · rw [z]; cases (if mx = true then PySem.W.dataLt d.py y.py else PySem.W.dataLt y.py d.py) <;> simp
    · exact List.mem_cons_of_mem _ (List.mem_cons_of_mem _ z)
open Classical in
noncomputable def fBest (mx : Bool) : List D → Sto → Rs
  | [.lst (d :: ds)], st => if ((d :: ds).all (shp 60) = true ∧ (d :: ds).all nb = true) ∧ PySem.W.AlikeAll (pys (d :: ds)) then .ok (bestD mx d ds) st else .bad
  | [.tup (d :: ds)], st => if ((d :: ds).all (shp 60) = true ∧ (d :: ds).all nb = true) ∧ PySem.W.AlikeAll (pys (d :: ds)) then .ok (bestD mx d ds) st else .bad
  | _, _ => .bad
section
variable {X : Cx} {B : Bs} {Wx : WX}
theorem best_core {G : Cfg} {mx : Bool} {w : Wd} {d : D} {ds : List D} {vs : List V} (h : RDs G w (d :: ds) vs) (hn : (d :: ds).all nb = true) (i : Nat) (x : V) (z : PyData) (hx : vs[i]? = some x) (hz : (pys (d :: ds))[i]? = some z) (e : z = bestP mx d.py (pys ds)) : RD G w (bestD mx d ds) x := by
  rw [pys_map, List.getElem?_map] at hz
  cases y : (d :: ds)[i]? with
  | none => rw [y] at hz; cases hz
  | some dd =>
    rw [y] at hz
    have ez : dd.py = z := by simpa using hz
    obtain ⟨v, e1, r⟩ := h.get y
    rw [hx] at e1
    cases e1
    have hb := bestD_mem mx ds d
    have hm : dd ∈ d :: ds := List.mem_of_getElem? y
    have n1 := List.all_eq_true.mp hn _ hm
    have n2 := List.all_eq_true.mp hn _ hb
    have ep : dd.py = (bestD mx d ds).py := by rw [ez, e, bestD_py]
    have : dd = bestD mx d ds := py_inj _ _ n1 n2 (by rw [ep]; exact py_refl _ n2)
    rw [← this]
    exact r
theorem sem_best (mx : Bool) : SemC X B .sh Wx (fBest mx) (rBest X.K (bestP mx)) := by
  intro O e s w0 w ds vs st Q R xt rr q
  cases ds with
  | nil => exact (show False from q).elim
  | cons d1 ds1 =>
    cases ds1 with
    | cons d2 ds2 =>
      have : fBest mx (d1 :: d2 :: ds2) st = .bad := by
        unfold fBest
        split <;> first | rfl | (rename_i h; cases h)
      rw [this] at q
      exact (show False from q).elim
    | nil =>
      obtain ⟨v, rfl, h⟩ := RQs.one rr
      cases d1 with
      | lst l =>
        cases l with
        | nil => exact (show False from q).elim
        | cons d ds =>
          by_cases hz : ((d :: ds).all (shp 60) = true ∧ (d :: ds).all nb = true) ∧ PySem.W.AlikeAll (pys (d :: ds))
          · simp only [fBest, if_pos hz] at q
            obtain ⟨a, us, rfl, t, r⟩ := h.lst
            refine ⟨a, us, d.py, pys ds, rfl, .inl (.of t), dpall_of r hz.1.1, hz.2, fun z hz' => ?_, fun i x z hx hz' ez => post.val R xt q (best_core r hz.1.2 i x z hx hz' ez)⟩
            have hm : z ∈ pys (d :: ds) := hz'
            rw [pys_map] at hm
            obtain ⟨dd, hdd, rfl⟩ := List.mem_map.mp hm
            exact (shp_lay 60 dd (List.all_eq_true.mp hz.1.1 dd hdd)).2
          · simp only [fBest, if_neg hz] at q
            exact q.elim
      | tup l =>
        cases l with
        | nil => exact (show False from q).elim
        | cons d ds =>
          by_cases hz : ((d :: ds).all (shp 60) = true ∧ (d :: ds).all nb = true) ∧ PySem.W.AlikeAll (pys (d :: ds))
          · simp only [fBest, if_pos hz] at q
            obtain ⟨a, us, rfl, t, r⟩ := h.tup
            refine ⟨a, us, d.py, pys ds, rfl, .inr t, dpall_of r hz.1.1, hz.2, fun z hz' => ?_, fun i x z hx hz' ez => post.val R xt q (best_core r hz.1.2 i x z hx hz' ez)⟩
            have hm : z ∈ pys (d :: ds) := hz'
            rw [pys_map] at hm
            obtain ⟨dd, hdd, rfl⟩ := List.mem_map.mp hm
            exact (shp_lay 60 dd (List.all_eq_true.mp hz.1.1 dd hdd)).2
          · simp only [fBest, if_neg hz] at q
            exact q.elim
      | _ => exact (show False from q).elim
theorem jb_best_min (hc : X.calm = true) (hu : X.A.units + 64 < cLine) : JB X B .sh Wx (.builtin "min") (fBest false) := ⟨_, cr_best_min hc hu, sem_best false⟩
end
end Sm
namespace Sm
open PySem L2
section
variable {α : Type} {enc : α → D}
def bestE (mx : Bool) (enc : α → D) (a : α) (xs : List α) : α := xs.foldl (fun a y => if (if mx = true then PySem.W.dataLt (enc a).py (enc y).py else PySem.W.dataLt (enc y).py (enc a).py) = true then y else a) a
theorem bestD_enc (mx : Bool) : ∀ (xs : List α) (a : α), bestD mx (enc a) (xs.map enc) = enc (bestE mx enc a xs)
  | [], a => rfl
  | y :: xs, a => by
    have e1 : bestD mx (enc a) ((y :: xs).map enc) = bestD mx (if (if mx = true then PySem.W.dataLt (enc a).py (enc y).py else PySem.W.dataLt (enc y).py (enc a).py) = true then enc y else enc a) (xs.map enc) := rfl
    have e2 : bestE mx enc a (y :: xs) = bestE mx enc (if (if mx = true then PySem.W.dataLt (enc a).py (enc y).py else PySem.W.dataLt (enc y).py (enc a).py) = true then y else a) xs := rfl
    rw [e1, e2, ← bestD_enc mx xs]
    congr 1
    cases (if mx = true then PySem.W.dataLt (enc a).py (enc y).py else PySem.W.dataLt (enc y).py (enc a).py) <;> rfl
theorem bestE_mem (mx : Bool) : ∀ (xs : List α) (a : α), bestE mx enc a xs ∈ a :: xs
  | [], a => by simp [bestE]
  | y :: xs, a => by
    have e2 : bestE mx enc a (y :: xs) = bestE mx enc (if (if mx = true then PySem.W.dataLt (enc a).py (enc y).py else PySem.W.dataLt (enc y).py (enc a).py) = true then y else a) xs := rfl
    rw [e2]
    rcases List.mem_cons.mp (bestE_mem mx xs (if (if mx = true then PySem.W.dataLt (enc a).py (enc y).py else PySem.W.dataLt (enc y).py (enc a).py) = true then y else a)) with z | z
    · rw [z]; cases (if mx = true then PySem.W.dataLt (enc a).py (enc y).py else PySem.W.dataLt (enc y).py (enc a).py) <;> simp
    · exact List.mem_cons_of_mem _ (List.mem_cons_of_mem _ z)
abbrev kE (enc : α → D) : α → PyData := fun a => (enc a).py
theorem leE_def {a b : α} : leE (kE enc) a b = !PySem.W.dataLt (enc b).py (enc a).py := rfl
theorem bestE_min : ∀ (xs : List α) (a : α), leE (kE enc) (bestE false enc a xs) a = true ∧ ∀ y ∈ xs, leE (kE enc) (bestE false enc a xs) y = true
  | [], a => ⟨(leE_tot _).refl a, by simp⟩
  | y :: xs, a => by
    have e2 : bestE false enc a (y :: xs) = bestE false enc (if PySem.W.dataLt (enc y).py (enc a).py = true then y else a) xs := rfl
    rw [e2]
    have ih := bestE_min xs (if PySem.W.dataLt (enc y).py (enc a).py = true then y else a)
    have key : leE (kE enc) (if PySem.W.dataLt (enc y).py (enc a).py = true then y else a) a = true ∧ leE (kE enc) (if PySem.W.dataLt (enc y).py (enc a).py = true then y else a) y = true := by
      cases z : PySem.W.dataLt (enc y).py (enc a).py with
      | false => exact ⟨(leE_tot _).refl a, by simp only [Bool.false_eq_true, if_false, leE_def, z, Bool.not_false]⟩
      | true =>
        refine ⟨?_, (leE_tot _).refl y⟩
        rcases (leE_tot (kE enc)).total y a with q | q
        · simpa using q
        · rw [leE_def, z] at q; cases q
    refine ⟨(leE_tot _).trans _ _ _ ih.1 key.1, fun x hx => ?_⟩
    rcases List.mem_cons.mp hx with rfl | hx
    · exact (leE_tot _).trans _ _ _ ih.1 key.2
    · exact ih.2 x hx
theorem best_ok {xs : List α} {a : α} (hs : ∀ b ∈ a :: xs, shp 60 (enc b) = true) (hn : ∀ b, nb (enc b) = true) (ha : ∀ b c, PySem.W.alike (enc b).py (enc c).py = true) (h0 : ∀ b, (enc b).py ≠ .none) :
    ((enc a :: xs.map enc).all (shp 60) = true ∧ (enc a :: xs.map enc).all nb = true) ∧ PySem.W.AlikeAll (pys (enc a :: xs.map enc)) := by
  have e : enc a :: xs.map enc = (a :: xs).map enc := rfl
  rw [e, pys_map, List.map_map]
  refine ⟨⟨?_, ?_⟩, ?_, ?_⟩
  · rw [List.all_eq_true]; intro x hx; obtain ⟨b, hb, rfl⟩ := List.mem_map.mp hx; exact hs b hb
  · rw [List.all_eq_true]; intro x hx; obtain ⟨b, hb, rfl⟩ := List.mem_map.mp hx; exact hn b
  · intro x hx y hy; obtain ⟨b, _, rfl⟩ := List.mem_map.mp hx; obtain ⟨c, _, rfl⟩ := List.mem_map.mp hy; exact ha b c
  · intro x hx; obtain ⟨b, _, rfl⟩ := List.mem_map.mp hx; exact h0 b
theorem min_spec {xs : List α} {st : Sto} {Q : D → Sto → Prop} {E} (hne : xs ≠ []) (hs : ∀ b ∈ xs, shp 60 (enc b) = true) (hn : ∀ b, nb (enc b) = true) (ha : ∀ b c, PySem.W.alike (enc b).py (enc c).py = true) (h0 : ∀ b, (enc b).py ≠ .none)
    (h : ∀ m ∈ xs, (∀ y ∈ xs, leE (kE enc) m y = true) → Q (enc m) st) : RsP (fBest false [.lst (xs.map enc)] st) Q E ∧ RsP (fBest false [.tup (xs.map enc)] st) Q E := by
  cases xs with
  | nil => exact absurd rfl hne
  | cons a xs =>
    have k := best_ok (enc := enc) hs hn ha h0
    have m := bestE_min (enc := enc) xs a
    have q := h _ (bestE_mem false xs a) fun y hy => by
      rcases List.mem_cons.mp hy with rfl | hy
      · exact m.1
      · exact m.2 y hy
    rw [← bestD_enc (enc := enc) false xs a] at q
    constructor <;> (rw [List.map_cons]; unfold fBest; simp only; rw [if_pos k]; exact q)
end
theorem minI_spec {xs : List Int} {st : Sto} {Q : D → Sto → Prop} {E} (hne : xs ≠ []) (h : ∀ m ∈ xs, (∀ y ∈ xs, m ≤ y) → Q (.int m) st) : RsP (fBest false [.lst (xs.map D.int)] st) Q E :=
  (min_spec hne (fun _ _ => shp_int) (fun _ => nb_int) (fun _ _ => al_int) (fun _ => by simp [D.py]) fun m hm hy => h m hm fun y h' => by have := hy y h'; rw [show kE D.int = kI from rfl, leI] at this; simpa using this).1
theorem minT_spec {xs : List (List Int)} {st : Sto} {Q : D → Sto → Prop} {E} (hne : xs ≠ []) (h : ∀ m ∈ xs, (∀ y ∈ xs, m ≤ y) → Q (dT m) st) : RsP (fBest false [.lst (xs.map dT)] st) Q E :=
  (min_spec hne (fun _ _ => shp_dT) (fun _ => nb_dT) al_dT (fun _ => by simp [dT, D.py]) fun m hm hy => h m hm fun y h' => by have := hy y h'; rw [show kE dT = kT from rfl, leT] at this; simpa using this).1
end Sm

namespace Sm
open PySem L2
section
variable {X : Cx} {B : Bs} {Wx : WX} {a b : Expr} {f g : Ev} {pos : Pos}
def bLstR1 (f : Ev) : Ev := fun r st => (f r st).bind fun d st1 => match d with
  | .int j => if -1000000 ≤ j ∧ j ≤ 1000000 then .ok (.lst (rangeD 0 j.toNat)) st1 else .bad
  | _ => .bad
variable {r : Env} {st : Sto} {Q : D → Sto → Prop} {E : Str → Option (Str × D) → Sto → Prop}
theorem w_listR1 : RsP (bLstR1 f r st) Q E = RsP (f r st) (fun d st1 => match d with | .int j => (-1000000 ≤ j ∧ j ≤ 1000000) ∧ Q (.lst (rangeD 0 j.toNat)) st1 | _ => False) E := by
  unfold bLstR1
  rw [w_bind]
  congr 1
  funext d st1
  cases d with
  | int j =>
    simp only
    by_cases h : -1000000 ≤ j ∧ j ≤ 1000000
    · rw [if_pos h]; simp only [RsP, h, and_self, true_and]
    · rw [if_neg h]; simp only [RsP, h, false_and]
  | _ => rfl
end
end Sm
namespace Sm
open PySem L2
open Classical in
noncomputable def opCmp (F : PyData → PyData → Bool) (a b : D) (st : Sto) : Rs := if (shp 60 a = true ∧ shp 60 b = true) ∧ PySem.W.alike a.py b.py = true ∧ a.py ≠ .none then .ok (.bl (F a.py b.py)) st else .bad
section
variable {X : Cx} {B : Bs} {Wx : WX}
end
theorem o_cmpD {F : PyData → PyData → Bool} {a b : D} {st : Sto} {Q : D → Sto → Prop} {E : Str → Option (Str × D) → Sto → Prop} : RsP (opCmp F a b st) Q E = (((shp 60 a = true ∧ shp 60 b = true) ∧ PySem.W.alike a.py b.py = true ∧ a.py ≠ .none) ∧ Q (.bl (F a.py b.py)) st) := by
  by_cases z : (shp 60 a = true ∧ shp 60 b = true) ∧ PySem.W.alike a.py b.py = true ∧ a.py ≠ .none
  · rw [opCmp, if_pos z]; simp only [RsP, z, and_self, true_and, ne_eq, not_false_eq_true]
  · rw [opCmp, if_neg z]; simp only [RsP, z, false_and]
theorem dr_cmpD {F : PyData → PyData → Bool} {a b : D} {st : Sto} {Q : D → Sto → Prop} {E : Str → Option (Str × D) → Sto → Prop} : RsP (drOp (opCmp F) a b st) Q E = derP st a fun a' => derP st b fun b' => RsP (opCmp F a' b' st) Q E := rfl
end Sm

namespace Sm
open PySem L2
inductive Ft where
  | left (l : List Int) | meet (l : List Int) (ts : List Ft)
def lackL (ws ch : List Wi) (l : List Int) : Bool := hadL ws l && !hadL ch l
def isS (ws : List Wi) : Nat → List Wi → Ft → Bool
  | 0, ch, .left l => lackL ws ch l
  | 0, _, .meet _ _ => false
  | _ + 1, _, .left _ => false
  | n + 1, ch, .meet l ts => lackL ws ch l && (decide (ts.length = (ws.filter fun o => hasL o l).length) && ((ws.filter fun o => hasL o l).zip ts).all fun q => isS ws n (ch ++ [q.1]) q.2)
def covAll (ws ks : List Wi) : Prop := ∀ w ∈ ws, allHad ks w = true
theorem hadL_mono {xs ys : List Wi} (h : ∀ o ∈ xs, o ∈ ys) {l : List Int} (q : hadL xs l = true) : hadL ys l = true := by
  obtain ⟨o, ho, c⟩ := hadL_iff.mp q
  exact hadL_iff.mpr ⟨o, h o ho, c⟩
theorem allHad_mono {xs ys : List Wi} (h : ∀ o ∈ xs, o ∈ ys) {w : Wi} (q : allHad xs w = true) : allHad ys w = true :=
  List.all_eq_true.mpr fun l hl => hadL_mono h (List.all_eq_true.mp q l hl)
theorem covAll_mono {ws xs ys : List Wi} (h : ∀ o ∈ xs, o ∈ ys) (q : covAll ws xs) : covAll ws ys := fun w hw => allHad_mono h (q w hw)
def ltr (f : Nat) : Nat → Ft → Prop
  | _, .left l => l.length = f
  | 0, .meet l _ => l.length = f
  | n + 1, .meet l ts => l.length = f ∧ ∀ t ∈ ts, ltr f n t
theorem shown_sound {f : Nat} {ws : List Wi} (hs : ∀ w ∈ ws, w.length = f) : ∀ (n : Nat) (ch : List Wi) (t : Ft), isS ws n ch t = true → ltr f n t → ∀ ks : List Wi, (∀ k ∈ ks, k ∈ ws) → ks.length ≤ n → ¬ covAll ws (ch ++ ks) := by
  have meet : ∀ (ch ks : List Wi) (l : List Int), l.length = f → lackL ws ch l = true → covAll ws (ch ++ ks) → ∃ k ∈ ks, hasL k l = true := by
    intro ch ks l hl hk hc
    unfold lackL at hk
    rw [Bool.and_eq_true, Bool.not_eq_true'] at hk
    obtain ⟨w, hw, c⟩ := hadL_iff.mp hk.1
    have := (allHad_iff (hs w hw)).mp (hc w hw) l hl c
    obtain ⟨k, hkm, ck⟩ := hadL_iff.mp this
    rcases List.mem_append.mp hkm with z | z
    · rw [hadL_iff.mpr ⟨k, z, ck⟩] at hk
      cases hk.2
    · exact ⟨k, z, ck⟩
  intro n
  induction n with
  | zero =>
    intro ch t h hl ks hk hn hc
    have e : ks = [] := List.length_eq_zero_iff.mp (by omega)
    subst e
    cases t with
    | left l =>
      obtain ⟨k, hk, _⟩ := meet ch [] l hl h hc
      cases hk
    | meet l ts => cases h
  | succ n ih =>
    intro ch t h hl ks hk hn hc
    cases t with
    | left l => cases h
    | meet l ts =>
      unfold isS at h
      simp only [Bool.and_eq_true, decide_eq_true_eq] at h
      obtain ⟨k, hkm, ck⟩ := meet ch ks l hl.1 h.1 hc
      have hkw : k ∈ ws.filter fun o => hasL o l := List.mem_filter.mpr ⟨hk k hkm, ck⟩
      obtain ⟨i, hi, ei⟩ := List.getElem_of_mem hkw
      have hz : (k, ts[i]'(by rw [h.2.1]; exact hi)) ∈ (ws.filter fun o => hasL o l).zip ts := by
        rw [List.mem_iff_getElem]
        exact ⟨i, by rw [List.length_zip]; omega, by rw [List.getElem_zip, ei]⟩
      have h2 := List.all_eq_true.mp h.2.2 _ hz
      refine ih (ch ++ [k]) _ h2 (hl.2 _ (List.getElem_mem _)) (ks.erase k) (fun x hx => hk x (List.mem_of_mem_erase hx)) (by rw [List.length_erase_of_mem hkm]; omega) (covAll_mono (fun o ho => ?_) hc)
      rcases List.mem_append.mp ho with z | z
      · exact List.mem_append.mpr (.inl (List.mem_append.mpr (.inl z)))
      · by_cases e : o = k
        · subst e
          exact List.mem_append.mpr (.inl (by simp))
        · exact List.mem_append.mpr (.inr ((List.mem_erase_of_ne e).mpr z))
structure Found (ws : List Wi) (n : Nat) (ch ks : List Wi) : Prop where
  ext : ∃ ex, ks = ch ++ ex ∧ ex.length ≤ n ∧ ∀ k ∈ ex, k ∈ ws
  nd : ks.Nodup
  cov : covAll ws ks
structure Few (f : Nat) (ws : List Wi) (k : Nat) (ks : List Wi) (t : Option Ft) : Prop where
  len : ks.length = k
  sub : ∀ o ∈ ks, o ∈ ws
  nd : ks.Nodup
  cov : covAll ws ks
  tr : match t with | none => k = 0 | some t => 1 ≤ k ∧ isS ws (k - 1) [] t = true ∧ ltr f (k - 1) t
theorem Few.least {f : Nat} {ws : List Wi} {k : Nat} {ks : List Wi} {t : Option Ft} (hs : ∀ w ∈ ws, w.length = f) (h : Few f ws k ks t) {ls : List Wi} (hl : ∀ o ∈ ls, o ∈ ws) (hc : covAll ws ls) : k ≤ ls.length := by
  cases t with
  | none => have := h.tr; simp only at this; omega
  | some t =>
    have := h.tr
    simp only at this
    refine Classical.byContradiction fun n => ?_
    exact shown_sound hs (k - 1) [] t this.2.1 this.2.2 ls hl (by omega) (by simpa using hc)
end Sm

namespace Sm
open PySem L2
end Sm

namespace Sm
open PySem L2 PyProof.Rows
structure FnG (Pr : Program) (W : World) (Kf : PySem.W.Frag) (mm : Str → Option Value) (bs : Heap) (k : Nat) (fA : Addr) (fd : FuncData) (ps : List Str) (spec : Sp) : Prop where
  len : ∀ us Hp0 Qv Ex, spec us Hp0 Qv Ex → us.length = ps.length
  go : ∀ (Ar : Around), Room k Ar → Ar.guards = some [] → ∀ (out : List PySem.Env) (sh : Shared) (Ha : Hp) (ar : Args) (xs : List Value) (us : List V) (Qv : VK) (Ex : XK), Env0 Pr W Kf mm bs Ar out sh Ha → BindsTo sh fd ar (ps.zip xs) → Vals us xs → spec us Ha Qv Ex →
    codeAny (model Pr W) Ar (.call (.ref fA) ar) (CR (L2.CX Pr W) out Pr W Ha sh Qv Ex) sh
theorem FnG.imp {Pr : Program} {W : World} {Kf : PySem.W.Frag} {mm : Str → Option Value} {bs : Heap} {k : Nat} {fA : Addr} {fd : FuncData} {ps : List Str} {spec sp2 : Sp} (F : FnG Pr W Kf mm bs k fA fd ps spec) (h : ∀ us Ha Qv Ex, sp2 us Ha Qv Ex → spec us Ha Qv Ex) :
    FnG Pr W Kf mm bs k fA fd ps sp2 :=
  ⟨fun us Ha Qv Ex q => F.len us Ha Qv Ex (h _ _ _ _ q), fun Ar r g out sh Ha ar xs us Qv Ex e b v q => F.go Ar r g out sh Ha ar xs us Qv Ex e b v (h _ _ _ _ q)⟩
theorem fnG_of {Pr : Program} {W : World} {Kf : PySem.W.Frag} {mm : Str → Option Value} {bs : Heap} {nm qual : Str} {sc : Stmt} {k : Nat} {fA : Addr} {fd : FuncData} {N ps : List Str} {spec : Sp} (U : Fun Kf nm qual sc fA fd) (S : FnScope N ps (defScope sc))
    (hlen : ∀ us Ha Qv Ex, spec us Ha Qv Ex → us.length = ps.length)
    (hb : ∀ (cdv : Value) (Ar : Around) (out : List PySem.Env) (sh : Shared) (Ha : Hp) (us : List V) (Qv : VK) (Ex : XK), Room k (Ar.deeper (envOfC qual (defScope sc) sh.heap.objs.size fA cdv)) → Ar.guards = some [] → spec us Ha Qv Ex →
      ∃ t, PSs (cxOf (L2.CX Pr W) Pr W Kf mm bs N qual (defScope sc) fA cdv Ar out sh Ha Ex) (defBody sc) t ∧ t { nx := fun _ H' => Qv .non H', rt := Qv } (start N us) Ha) :
    FnG Pr W Kf mm bs (k + 1) fA fd ps spec := by
  obtain ⟨oc, od, kV, doc, pm, an, cdv, ct, osl, rfl, lk, hcd⟩ := U.ex
  refine ⟨hlen, fun Ar hr hg out sh Ha ar xs us Qv Ex e0 bd rv hq0 => ?_⟩
  have inK : Kf.In sh.heap := e0.mod.kin.keeps (fun b o e => (e0.bs b o e).1)
  have nol : sh.heap.NoLimit := e0.mod.nolimit.keeps (fun b o e => (e0.bs b o e).1)
  refine codeAny_call_function hr.depth (inK _ _ lk) rfl S.co S.gen rfl (PySem.W.codeRec_of inK hcd) (bd _ _ _ _ ?_)
  refine wpAny_newFunctionEnv_cells S.kind (fun z hz => ?_) (fun en he s1 x => ?_)
  · rcases S.par z.1 (List.of_mem_zip (a := z.1) (b := z.2) hz).1 with q | q
    · exact .inl q
    · exact .inr ⟨q, PySem.W.cellsFrom_some _ _ _ (.inl q)⟩
  · subst he
    obtain ⟨t, ht, hq⟩ := hb cdv Ar out sh Ha us Qv Ex (hr.deeper _) hg hq0
    refine ⟨nol.keeps x.toInCall.keep, codeAny_func (wpAny_mono (ht.run [] s1 _ Ha _ (inv_start S hr.hd e0 (hlen _ _ _ _ hq0) rv x) hq) (fun fl s' hs => ?_) (fun _ _ z => z))⟩
    cases fl with
    | ret u =>
      obtain ⟨v, σ', H', J, r2, q⟩ := hs
      exact ⟨v, H', J.os, J.bare, J.base, J.hok, r2, q⟩
    | next =>
      obtain ⟨σ', H', J, q⟩ := hs
      exact ⟨V.non, H', J.os, J.bare, J.base, J.hok, rfl, q⟩
    | brk => exact (hs.choose_spec.choose_spec.2 : False).elim
    | cont => exact (hs.choose_spec.choose_spec.2 : False).elim
section
variable {X : Cx} {B : Bs} {Wx : WX} {pos p : Pos} {a : Expr} {es : List Expr} {f : Ev} {fs : List Ev} {k n : Nat} {fr : Bool} {gF : Fn} {fA : Addr} {fd : FuncData} {ps : List Str} {nm : Str}
theorem run_fnG {spec : Sp} {Ex : L2.St → XK} {pins : List (Addr × Obj)} {σ : L2.St} {Ha : Hp} {sh : Shared} {Qv : VK} {xs : List Value} {us : List V} (F : FnG X.prog X.w X.K X.mg X.base k fA fd ps spec) (hr : Room k X.A) (hgd : X.A.guards = some []) (hb : Binds X.K fd ps []) (hx : PassesAt (L2.CX X.prog X.w) X σ (Ex σ))
    (I : Inv X pins σ Ha sh) (r : Vals us xs) (h : spec us Ha Qv (Ex σ)) : wpAny (model X.prog X.w) X.A (call (.ref fA) xs) (EP X pins σ Qv) X.xe sh := by
  have hl : (xs ++ []).length = ps.length := by rw [List.append_nil, ← r.length]; exact F.len _ _ _ _ h
  have bd := hb sh xs I.kIn hl
  rw [List.append_nil] at bd
  refine wpAny_call (codeAny_mono (F.go X.A hr hgd X.stack sh Ha ⟨xs, []⟩ xs us Qv (Ex σ) I.env0 bd r h) ?_)
  rintro (e | fl) s' hq
  · exact hx pins Ha sh e s' I hq
  · cases fl with
    | ret u => exact I.after hq
    | _ => exact (show False from hq).elim
theorem je_callG (tk : Takes X Wx) (F : FnG X.prog X.w X.K X.mg X.base k fA fd ps (spF (cg X) n fr gF)) (hr : Room k X.A) (hgd : X.A.guards = some []) (hg : Gl X nm) (hm : X.mg nm = some (.ref fA)) (hk : PySem.W.keepIn X.K (.ref fA) = true)
    (hb : Binds X.K fd ps []) (ha : JA X B .sh Wx (a :: es) (f :: fs)) (hn : (f :: fs).length = n := by rfl) (hdb : (nm == ("__debug__" : Str)) = false := by decide) (he : starEach (a :: es) X.env = (false, eval a X.env) :: starEach es X.env := by rfl) (hpl : (backTo pos (starEach es X.env)).any (·.1) = false := by rfl) :
    JE X B (kdF fr) Wx (.Call (.Name nm p) (a :: es) [] pos) (bCall gF (f :: fs)) := by
  refine pe_imp (t := tCallS (spF (cg X) n fr gF) (WE Wx) (tA (cg X) B .sh Wx (f :: fs))) ⟨fun pins s σ H Q I h => ?_⟩ fun _ _ _ q => tE_call hn q
  refine wpAny_Call_Name_kw (ld_glob I hg hm (PySem.W.callWith_K (h₀ := X.base) I.ok.mod.kin hk (thn (ha.run pos pins s σ H _ I h) ?_) he hpl) hdb)
  rintro us s1 ⟨vs, H1, I1, r, q⟩
  exact ⟨I1.kIn, run_fnG F hr hgd hb (passAt tk σ) I1 r q⟩
end
theorem fjG_of {P : Program} {w : World} {K : PySem.W.Frag} {mg : Str → Option Value} {base : Heap} {x qual : Str} {st : Stmt} {fA : Addr} {fd : FuncData} {N ps : List Str} {j n : Nat} {fr : Bool} {F : Sv} (U : Fun K x qual st fA fd) (S : FnScope N ps (defScope st)) (hn : ps.length = n)
    (hb : ∀ (cdv : Value) (A : Around) (outer : List PySem.Env) (s : Shared) (H : Hp) (E : XK) (B : Bs), Room j (A.deeper (PyProof.Rows.envOfC qual (defScope st) s.heap.objs.size fA cdv)) → A.guards = some [] → B.L = N.length →
      Takes (cxOf (L2.CX P w) P w K mg base N qual (defScope st) fA cdv A outer s H E) (fun cls dd _ H => E cls dd H) →
      JSs (cxOf (L2.CX P w) P w K mg base N qual (defScope st) fA cdv A outer s H E) B fr (fun cls dd _ H => E cls dd H) (defBody st) F) :
    FnG P w K mg base (j + 1) fA fd ps (spF ⟨K, mg, P, w⟩ n fr (mkF fr F)) := by
  subst hn
  refine fnG_of U S (fun vs H Q E h => h.1) fun cdv A outer s H vs Q E hr hg h => ?_
  obtain ⟨hl, wd, ds, sto, rfl, RF, rds, q⟩ := h
  have hpl : ps.length ≤ N.length := by have := congrArg List.length S.pre; rw [List.length_take] at this; omega
  refine ⟨_, hb cdv A outer s wd.H E ⟨wd, N.length⟩ hr hg rfl (takes_of rfl rfl rfl rfl), ?_⟩
  refine ⟨fun _ => none, argEnv ds, sto, wd, rfl, start_rel RF rds (by omega), ?_⟩
  unfold mkF at q
  cases z : F (argEnv ds) sto with
  | nx r st' =>
    rw [z] at q
    cases fr with
    | true => exact (show False from q).elim
    | false => exact fun O s w' R k => q w' .non R.toF R.base (by rw [if_neg (by simp)]; exact rdN)
  | rt d st' =>
    rw [z] at q
    exact fun w' v F' x rr => q w' v F' x rr
  | err c a r st' =>
    rw [z] at q
    exact fun O s w' cls dd R _ rx => q w' cls dd R.toF R.base rx
  | bk r st' => rw [z] at q; exact q.elim
  | ct r st' => rw [z] at q; exact q.elim
  | bad => rw [z] at q; exact q.elim
theorem fjG_bad {P : Program} {w : World} {K : PySem.W.Frag} {mg : Str → Option Value} {base : Heap} {j : Nat} {fA : Addr} {fd : FuncData} {ps : List Str} {n : Nat} {fr : Bool} {G : Cfg} (hn : ps.length = n := by rfl) : FnG P w K mg base j fA fd ps (spF G n fr (fun _ _ => .bad)) :=
  ⟨fun vs H Q E h => by rw [hn]; exact h.1, fun A hr hg outer s H args us vs Q E e0 hb r h => by
    obtain ⟨_, _, _, _, _, _, _, q⟩ := h
    exact q.elim⟩
end Sm

namespace Sm
open PySem L2 PyProof.Rows
def stS (x : Str) : Bool := PyData.strOk (reprText x)
mutual
def wt : D → Nat
  | .non => 4
  | .bl _ => 5
  | .int i => if -I400 < i ∧ i < I400 then 90 else 16777216
  | .str x => if stS x = true then (reprText x).length else 16777216
  | .tup xs => wts xs + 4
  | .lst xs => wts xs + 4
  | _ => 16777216
def wts : List D → Nat
  | [] => 0
  | d :: ds => wt d + 2 + wts ds
end
theorem so_app {a b : Str} : PyData.strOk (a ++ b) = (PyData.strOk a && PyData.strOk b) := by
  unfold PyData.strOk
  show (a.cps ++ b.cps).all _ = _
  rw [Array.all_append]
theorem so_of (s : String) : PyData.strOk (Str.ofString s) = true := by
  rw [Str.ofString_eq_toList]
  unfold PyData.strOk
  simp only [List.all_toArray, List.all_eq_true, List.mem_map, decide_eq_true_eq]
  rintro n ⟨c, _, rfl⟩
  have h := c.valid
  unfold UInt32.isValidChar Nat.isValidChar at h
  show c.val.toNat < _
  omega
theorem so_join : ∀ {ts : List Str}, (∀ t ∈ ts, PyData.strOk t = true) → PyData.strOk (Str.join ", " ts) = true
  | [], _ => so_of ""
  | [x], h => h x List.mem_cons_self
  | x :: y :: r, h => by
    show PyData.strOk (x ++ ", " ++ Str.join ", " (y :: r)) = true
    rw [so_app, so_app, h x List.mem_cons_self, so_of, so_join fun t ht => h t (List.mem_cons_of_mem _ ht)]
    rfl
theorem ln_int {i : Int} (h : -I400 < i ∧ i < I400) : (Str.ofString (toString i)).length ≤ 90 := by
  have h1 : i.natAbs < 10 ^ 80 := by
    obtain ⟨N, hN⟩ : ∃ N : Nat, N = 10 ^ 80 := ⟨_, rfl⟩
    rw [← hN]
    have e : I400 < (N : Int) := by rw [hN]; decide +kernel
    omega
  have := int_text_length_le10 (by decide : 0 < 80) h1
  have e : (Str.ofString (toString i)).length = (toString i).length := by
    rw [Str.ofString_eq_toList]
    show (List.toArray _).size = _
    rw [List.size_toArray, List.length_map]
    rfl
  omega
mutual
theorem wt_py : ∀ d : D, wt d < 16777216 → PyData.showable d.py = true ∧ (PyData.shown d.py).length ≤ wt d ∧ PyData.strOk (PyData.shown d.py) = true ∧ PyData.hasDict d.py = false
  | .non, _ => by
    simp only [D.py, PyData.showable, PyData.shown_none, PyData.hasDict, wt]
    exact ⟨trivial, by decide +kernel, so_of _, trivial⟩
  | .bl b, _ => by
    simp only [D.py, PyData.showable, PyData.shown_bool, PyData.hasDict, wt]
    cases b
    · exact ⟨trivial, by decide +kernel, so_of _, trivial⟩
    · exact ⟨trivial, by decide +kernel, so_of _, trivial⟩
  | .int i, h => by
    simp only [wt] at h
    by_cases z : -I400 < i ∧ i < I400
    · simp only [D.py, PyData.showable, PyData.shown_int, PyData.hasDict, wt, if_pos z, decide_eq_true_eq]
      exact ⟨small_log z, ln_int z, so_of _, trivial⟩
    · rw [if_neg z] at h; omega
  | .str x, h => by
    simp only [wt] at h
    by_cases z : stS x = true
    · simp only [D.py, PyData.showable, PyData.shown_str, PyData.hasDict, wt, if_pos z]
      exact ⟨trivial, Nat.le_refl _, z, trivial⟩
    · rw [if_neg z] at h; omega
  | .tup xs, h => by
    simp only [wt] at h
    obtain ⟨h1, h2, h3, h4⟩ := wts_py xs (by omega)
    simp only [D.py, PyData.showable, PyData.hasDict, wt]
    rw [PyData.shown_tuple]
    have l : (Str.join ", " (PyData.shownAll (pys xs))).length ≤ wts xs := by
      cases e : PyData.shownAll (pys xs) with
      | nil => exact Nat.zero_le _
      | cons t ts =>
        have := join_length_add (t :: ts) (by simp)
        rw [e] at h2
        omega
    refine ⟨h1, ?_, ?_, h4⟩
    · rw [strLen_append, strLen_append]
      have e1 : (("(" : String) : Str).length = 1 := by decide +kernel
      have e2 : ∀ c : Bool, ((if c = true then ",)" else ")" : String) : Str).length ≤ 2 := by intro c; cases c <;> decide +kernel
      have := e2 ((pys xs).length == 1)
      rw [e1]
      omega
    · rw [so_app, so_app, so_of, so_join h3, so_of]
      rfl
  | .lst xs, h => by
    simp only [wt] at h
    obtain ⟨h1, h2, h3, h4⟩ := wts_py xs (by omega)
    simp only [D.py, PyData.showable, PyData.hasDict, wt]
    rw [PyData.shown_list]
    have l : (Str.join ", " (PyData.shownAll (pys xs))).length ≤ wts xs := by
      cases e : PyData.shownAll (pys xs) with
      | nil => exact Nat.zero_le _
      | cons t ts =>
        have := join_length_add (t :: ts) (by simp)
        rw [e] at h2
        omega
    refine ⟨h1, ?_, ?_, h4⟩
    · rw [strLen_append, strLen_append]
      have e1 : (("[" : String) : Str).length = 1 := by decide +kernel
      have e2 : (("]" : String) : Str).length = 1 := by decide +kernel
      rw [e1, e2]
      omega
    · rw [so_app, so_app, so_of, so_join h3, so_of]
      rfl
  | .dct _ _, h => by simp [wt] at h
  | .ref _, h => by simp [wt] at h
  | .exc _ _, h => by simp [wt] at h
  | .frg _, h => by simp [wt] at h
theorem wts_py : ∀ ds : List D, wts ds < 16777216 → PyData.showableAll (pys ds) = true ∧ piled (PyData.shownAll (pys ds)) ≤ wts ds ∧ (∀ t ∈ PyData.shownAll (pys ds), PyData.strOk t = true) ∧ PyData.hasDictAll (pys ds) = false
  | [], _ => by
    simp only [pys, PyData.showableAll, PyData.shownAll, PyData.hasDictAll, wts]
    exact ⟨trivial, Nat.le_refl _, by simp, trivial⟩
  | d :: ds, h => by
    simp only [wts] at h
    obtain ⟨a1, a2, a3, a4⟩ := wt_py d (by omega)
    obtain ⟨b1, b2, b3, b4⟩ := wts_py ds (by omega)
    simp only [pys, PyData.showableAll, PyData.shownAll, PyData.hasDictAll, wts, a1, b1, a4, b4, piled_cons]
    refine ⟨by rfl, by omega, ?_, by rfl⟩
    intro t ht
    rcases List.mem_cons.mp ht with rfl | ht
    · exact a3
    · exact b3 t ht
end
noncomputable def shw (d : D) : Str := PyData.shown d.py
theorem shw_ok {d : D} (h : wt d < 16777216) : PyData.strOk (shw d) = true := (wt_py d h).2.2.1
noncomputable def fReprD : List D → Sto → Rs
  | [d], st => if shp 40 d = true ∧ wt d < 16777216 then .ok (.str (shw d)) st else .bad
  | _, _ => .bad
def rRepr (K : PySem.W.Frag) : List V → Hp → VK → Prop := fun xs H Q => ∃ v d, xs = [v] ∧ Dp K H v d ∧ d.showable = true ∧ d.hasDict = false ∧ d.depth ≤ 60 ∧ d.shown.length ≤ sizeLine ∧ Q (.str d.shown) H
section
variable {X : Cx} {B : Bs} {k : Kd} {Wx : WX} {Q : D → Sto → Prop} {E : Str → Option (Str × D) → Sto → Prop} {st : Sto}
theorem cr_repr (hu : X.A.units + 64 < cLine) (hg : X.A.guards = some []) : CallR X (.builtin "repr") (rRepr X.K) := by
  intro pins s σ H xs us Qv I r h
  obtain ⟨v, d, rfl, dp, s1, s2, s3, s4, q⟩ := h
  cases r with
  | cons rv rn =>
    cases rn
    rename_i u
    obtain ⟨as, rd⟩ := Dp.reads I d v u dp rv
    cases d with
    | none => cases rd; rw [PyData.shown_none] at q; exact PySem.P.repr_of_none ⟨.str _, H, I.tok _, ⟨_, rfl⟩, q⟩
    | bool b => cases rd; rw [PyData.shown_bool] at q; exact PySem.P.repr_of_bool ⟨.str _, H, I.tok _, ⟨_, rfl⟩, q⟩
    | int i => cases rd; rw [PyData.shown_int] at q; exact PySem.P.repr_of_int (by simpa [PyData.showable] using s1) ⟨.str _, H, I.tok _, ⟨_, rfl⟩, q⟩
    | str x => cases rd; rw [PyData.shown_str] at q; exact PySem.P.repr_of_str ⟨.str _, H, I.tok _, ⟨_, rfl⟩, q⟩ (by simpa [PyData.shown] using s4)
    | list ds =>
      cases rd with
      | list e1 e2 e3 e4 => exact repr_of_reads' (.list e1 e2 e3 e4) s1 (PyData.noDict_hsm s2) hg (by omega) (fun _ _ e => e) (fun h' u tk hk => ⟨.str _, H, I.kept hk, ⟨_, rfl⟩, q⟩) s4
    | tuple ds =>
      cases rd with
      | tuple e1 e2 e3 e4 => exact repr_of_reads' (.tuple e1 e2 e3 e4) s1 (PyData.noDict_hsm s2) hg (by omega) (fun _ _ e => e) (fun h' u tk hk => ⟨.str _, H, I.kept hk, ⟨_, rfl⟩, q⟩) s4
    | dict ds => simp [PyData.hasDict] at s2
theorem jb_reprD (hu : X.A.units + 64 < cLine) (hg : X.A.guards = some []) : JB X B .sh Wx (.builtin "repr") fReprD := ⟨_, cr_repr hu hg, by
  intro O e s w0 w ds vs st Q R xt rr q
  cases ds with
  | nil => exact (show False from q).elim
  | cons d ds1 =>
   cases ds1 with
   | cons _ _ => exact (show False from q).elim
   | nil =>
    obtain ⟨v, rfl, h⟩ := RQs.one rr
    by_cases z : shp 40 d = true ∧ wt d < 16777216
    · simp only [fReprD, if_pos z] at q
      obtain ⟨a1, a2, a3, a4⟩ := wt_py d z.2
      have b := shp_lay 40 d z.1
      exact ⟨v, d.py, rfl, h.dp z.1, a1, a4, by omega, by rw [PySem.sizeLine_eq]; omega, post.val R xt q rdS⟩
    · simp only [fReprD, if_neg z] at q
      exact q.elim⟩
theorem f_reprD {d : D} : RsP (fReprD [d] st) Q E = (shp 40 d = true ∧ wt d < 16777216 ∧ Q (.str (shw d)) st) := by
  show RsP (if shp 40 d = true ∧ wt d < 16777216 then .ok (.str (shw d)) st else .bad) Q E = _
  by_cases z : shp 40 d = true ∧ wt d < 16777216
  · rw [if_pos z]
    show Q _ _ = _
    simp only [z, true_and]
  · rw [if_neg z]
    show False = _
    refine propext ⟨False.elim, fun h => z ⟨h.1, h.2.1⟩⟩
end
end Sm

namespace Sm
open PySem L2 PyProof.Rows
theorem entry_env {P : Program} {w : World} {K : PySem.W.Frag} {mg mb : Str → Option Value} {s : Shared} {H : Hp} {a : Addr} {oa : Obj} (inK : K.In s.heap) (gl : s.heap.Ns mainGlobals mg) (bt : s.heap.Ns builtinsNs mb) (bb : ∀ x : Str, x ≠ "__name__" → mb x = bootBuiltins x)
    (nol : s.heap.NoLimit) (ng : s.gens = #[]) (hobj : s.heap.get? a = some oa) (nd : ∀ es ep, oa.data ≠ .dict es ep) (hok : HOk P w H s.heap) (one : ∀ b, H b ≠ none → b = a) (out : H a ≠ none → K.lookup a = none) :
    K.In (hidT s.heap H) ∧ (hidT s.heap H).Ns mainGlobals mg ∧ Env0 P w K mg (hidT s.heap H) callerA [] s H := by
  have free : ∀ (b : Addr), b ≠ a → H b = none := fun b n => by
    cases z : H b with
    | none => rfl
    | some u => exact absurd (one b (by rw [z]; simp)) n
  have k1 : K.In (hidT s.heap H) := fun b o e => hidT_get (inK b o e) (by
    by_cases q : b = a
    · cases z : H b with
      | none => rfl
      | some u =>
        rw [q] at z e
        rw [out (by rw [z]; simp)] at e
        cases e
    · exact free b q)
  have ns : ∀ {c : Addr} {m : Str → Option Value}, s.heap.Ns c m → (hidT s.heap H).Ns c m := by
    rintro c m ⟨o, es, ep, e, d, r⟩
    have q : c ≠ a := by
      rintro rfl
      rw [hobj] at e
      cases e
      exact nd _ _ d
    exact ⟨o, es, ep, hidT_get e (free c q), d, r⟩
  obtain ⟨mc, n1, n2⟩ := nol
  exact ⟨k1, ns gl, rfl, ⟨k1, ns gl, ⟨mb, ns bt, bb⟩, mc, ns n1, n2⟩, fun b o e => of_hidT e, by rw [hidT_size]; exact Nat.le_refl _, trivial, fun b hb => (nomatch hb), hok, .of_eq ng⟩
theorem walk_lawG {l : PySem.W.OpenLaw} {q : Program} {loose : List Str} {XP : (Str → Option Value) → Heap → Prop} {YP : World → Heap → Prop} {d : DefRec} {K : Params → PySem.W.Frag} {L : Nat} {g : Fn} (hn : l.most = some 63) (hdf : d.params.defaults = []) (hr : Room L callerA)
    (hY : ∀ (w : World) (h : Heap), YP w h → (K w.params).In h)
    (F : ∀ (w : World) (mg : Str → Option Value) (fa : Addr) (h : Heap), (K w.params).In h → h.Ns mainGlobals mg → mg d.name = some (.ref fa) →
      ∃ fd : FuncData, (∀ (s : Shared) (u : Value), BindsTo s fd ⟨[u], []⟩ [("script", u)]) ∧ ∀ base : Heap, (K w.params).In base → base.Ns mainGlobals mg → FnG l.prog w (K w.params) mg base L fa fd ["script"] (spF ⟨K w.params, mg, l.prog, w⟩ 1 false g))
    (hL : ∀ ns : List Int, ns.length ≤ 63 → ∃ st, g [.frg (ns.map D.int)] [] = .ok (.bl true) st) :
    PySem.W.WalkO q loose XP YP l.row.toRowW d [] (fun f vs => PySem.call f vs) := by
  refine Att.attach_call hn hdf ?_
  intro w s₀ s mg mb fa o pm cd doc a vs ns G Y ho hd hcd hmg hobj hints hlen hgen
  have inK := hY w _ Y
  obtain ⟨fd, bind, FF⟩ := F w mg fa _ inK G.T.g hmg
  have rvs := vals_ints hints
  have lv := hints.length
  have big : ns.length ≤ sizeLine := Nat.le_trans hlen (by decide)
  have main : ∀ H : Hp, Only H → SqL (K w.params) H a (ns.map V.int) → HOk l.prog w H s.heap → (∀ b, H b ≠ none → b = a) → (H a ≠ none → (K w.params).lookup a = none) →
      codeAny (model l.prog w) callerA (.call (.ref fa) ⟨[.ref a], []⟩) (fun r s' => r = .ok (.ret (.bool true)) ∧ OldK s.heap s'.heap ∧ s'.os = s.os ∧ AllBare s'.gens) s := by
    intro H only sq hok one out
    obtain ⟨b1, b2, e0⟩ := entry_env (w := w) inK G.T.g G.T.b G.T.builtins G.T.nolimit hgen hobj (fun _ _ z => by cases z) hok one out
    have spec := spL_spF (G := ⟨K w.params, mg, l.prog, w⟩) hL [.ref a] H (fun v _ => v = .bl true) (fun _ _ _ => False) ⟨a, ns, rfl, hlen, only, sq, fun _ => rfl⟩
    refine codeAny_mono ((FF _ b1 b2).go callerA hr rfl [] s H ⟨[.ref a], []⟩ [.ref a] [.ref a] _ _ e0 (bind s (.ref a)) (.cons rfl .nil) spec) ?_
    rintro (e | fl) s' z
    · obtain ⟨_, _, _, _, _, _, _, _, _, _, _, _, f⟩ := z
      exact f.elim
    · cases fl with
      | ret u =>
        obtain ⟨v, H', os, bare, un, hok', rv, qv⟩ := z
        obtain rfl : v = .bl true := qv
        obtain rfl : u = Value.bool true := rv
        refine ⟨rfl, .of_keep ?_, os, bare⟩
        intro b ob eb
        rcases only b with z | ⟨of, xs, z⟩
        · exact un.keep b ob eb z (fun m => (nomatch m)) (by simp)
        · have e1 := (hok b _ z).1
          rw [eb] at e1
          cases e1
          exact (hok' b _ (un.frzs b ob _ z)).1
      | _ => exact (show False from z).elim
  cases hk : (K w.params).lookup a with
  | none =>
    refine main (fun b => if b = a then some (.frz { cls := .type "list", data := .seq vs.toArray } (.lst (ns.map V.int))) else none) ?_ (.inl (.inr ⟨_, if_pos rfl⟩)) ?_ ?_ (fun _ => hk)
    · intro b
      by_cases z : b = a
      · exact .inr ⟨_, _, if_pos z⟩
      · exact .inl (if_neg z)
    · intro b u z
      by_cases e : b = a
      · cases (if_pos e).symm.trans z
        rw [e]
        exact ⟨hobj, by rw [List.length_map]; exact big, vs, _, rvs, hobj⟩
      · cases (if_neg e).symm.trans z
    · intro b z
      by_cases e : b = a
      · exact e
      · exact absurd (if_neg e) z
  | some ob =>
    have e := inK a ob hk
    rw [hobj] at e
    cases e
    exact main (fun _ => none) (fun _ => .inl rfl) (.inr ⟨_, vs.toArray, _, hk, rfl, rfl, rfl, by rw [List.size_toArray, lv]; exact big, by simpa using rvs⟩) (fun b u z => nomatch z) (fun b z => absurd rfl z) fun z => absurd rfl z
end Sm

namespace Sm
open PySem L2 PySem.Spec PyProof.Rows HT
section
variable {prog : Program} {w : World} {A : Around} {E : Value → Shared → Prop} {s : Shared}
end
section
variable {X : Cx} {B : Bs} {Wx : WX} {a b : Expr} {f g : Ev} {pos : Pos}
def bRevA (f : Ev) : Ev := fun r st => (f r st).bind fun d st1 => match der st1 d with
  | .lst ds => .ok (.lst ds.reverse) st1
  | .tup ds => .ok (.tup ds.reverse) st1
  | _ => .bad
def opRepT : D → D → Sto → Rs
  | .tup ds, .int k, st => if ds ≠ [] ∧ (2 ≤ k ∧ k ≤ 1000) ∧ ds.length ≤ 1000 then .ok (.tup (List.replicate k.toNat ds).flatten) st else .bad
  | _, _, _ => .bad
variable {r : Env} {st : Sto} {Q : D → Sto → Prop} {E : Str → Option (Str × D) → Sto → Prop}
theorem w_revA : RsP (bRevA f r st) Q E = RsP (f r st) (fun d st1 => derP st1 d fun d' => match d' with | .lst ds => Q (.lst ds.reverse) st1 | .tup ds => Q (.tup ds.reverse) st1 | _ => False) E := by
  unfold bRevA
  rw [w_bind]
  congr 1; funext d st1
  show _ = (match der st1 d with | .lst ds => Q (.lst ds.reverse) st1 | .tup ds => Q (.tup ds.reverse) st1 | _ => False)
  cases der st1 d <;> rfl
theorem o_repT {xs : List D} {k : Int} : RsP (opRepT (.tup xs) (.int k) st) Q E = ((xs ≠ [] ∧ (2 ≤ k ∧ k ≤ 1000) ∧ xs.length ≤ 1000) ∧ Q (.tup (List.replicate k.toNat xs).flatten) st) := by
  show RsP (if xs ≠ [] ∧ (2 ≤ k ∧ k ≤ 1000) ∧ xs.length ≤ 1000 then .ok _ st else .bad) Q E = _
  by_cases z : xs ≠ [] ∧ (2 ≤ k ∧ k ≤ 1000) ∧ xs.length ≤ 1000
  · rw [if_pos z]
    show Q _ _ = _
    simp only [z, true_and, ne_eq, not_false_iff, and_true]
  · rw [if_neg z]
    show False = _
    refine propext ⟨False.elim, fun h => z h.1⟩
end
end Sm

namespace Sm
open PySem L2 PyProof.Rows
def kOf : D → Option Key
  | .int i => some (.inl i)
  | .str x => some (.inr x)
  | _ => none
def DKs (ks : List D) : Bool := ks.all fun d => (kOf d).isSome
theorem DcO.k {G : Cfg} {w : Wd} {a : Addr} {ks : List D} {vs : List V} {o : HO} (h : DcO G w a ks vs o) (hk : DKs ks = true) : ∃ kvs : List (Key × V), o = .dK kvs ∧ ks = kvs.map (fun p => kD p.1) ∧ vs = kvs.map (·.2) := by
  rcases h with h | ⟨kvs, rfl, rfl, _⟩
  · exact h
  · simp [DKs, kOf] at hk
theorem RQ.dct {G : Cfg} {w : Wd} {ks ds : List D} {v : V} (h : RQ G w (.dct ks ds) v) : ∃ a vs o, v = .ref a ∧ Rd w.H a o ∧ DcO G w a ks vs o ∧ RDs G w ds vs := by
  rcases h with h | ⟨a, rfl, c⟩
  · unfold RD at h
    obtain ⟨a, vs, rfl, ⟨⟨o, ob, i, q⟩, _⟩, r⟩ := h
    exact ⟨a, vs, o, rfl, .inr ⟨ob, i.1⟩, q, r⟩
  · obtain ⟨o, vs, e, q, r⟩ := c
    exact ⟨a, vs, o, rfl, e, q, r⟩
def dgetL (ks ds : List D) (k : Key) : Option D := ((ks.zip ds).find? fun p => decide (kOf p.1 = some k)).map (·.2)
def dputK (ks : List D) (k : Key) : List D := if (ks.any fun a => decide (kOf a = some k)) = true then ks else ks ++ [kD k]
def dputV (ks ds : List D) (k : Key) (d : D) : List D := if (ks.any fun a => decide (kOf a = some k)) = true then (ks.zip ds).map (fun p => if kOf p.1 = some k then d else p.2) else ds ++ [d]
def opDget : D → D → Sto → Rs
  | .dct ks ds, j, st => match kOf j with
    | some k => if DKs ks = true then (match dgetL ks ds k with | some d => .ok d st | none => .bad) else .bad
    | none => .bad
  | _, _, _ => .bad
def opInK (neg : Bool) (a b : D) (st : Sto) : Rs := match b with
  | .dct ks ds => (match kOf a with
    | some k => if DKs ks = true then .ok (.bl (neg ^^ (dgetL ks ds k).isSome)) st else .bad
    | none => .bad)
  | _ => .bad
section
variable {X : Cx} {B : Bs} {Wx : WX} {a b c : Expr} {f g h : Ev} {pos : Pos}
def isDK (st : Sto) (a : D) : Bool := match der st a with | .dct ks _ => DKs ks | _ => false
def getD (a j z : D) (st : Sto) : Rs := match der st a with
  | .dct ks ds => (match kOf j with
    | some k => if DKs ks = true then .ok ((dgetL ks ds k).getD z) st else .bad
    | none => .bad)
  | _ => .bad
def bDget2 (f g h : Ev) : Ev := fun r st => (f r st).bind fun a st1 => if isDK st1 a = true then (g r st1).bind fun j st2 => (h r st2).bind fun z st3 => getD a j z st3 else .bad
end
end Sm

namespace Sm
open PySem L2 PyProof.Rows
section
variable {X : Cx} {B : Bs} {k : Kd} {fr : Bool} {Wx : WX} {a b c tg iter : Expr} {f g h : Ev} {pos : Pos}
def bDct0 : Ev := fun _ st => .ok (.dct [] []) st
def bDct1 (f g : Ev) : Ev := fun r st => (f r st).bind fun j st1 => (g r st1).bind fun d st2 => match kOf j with
  | some k => .ok (.dct [kD k] [d]) st2
  | none => .bad
def sPutD (i : Nat) (g f : Ev) : Sv := fun r st => ofRs (f r st) r fun d st1 => match r i with
  | some (true, .dct ks ds) => ofRs (g r st1) r fun j st2 => (match kOf j with
    | some k => if DKs ks = true ∧ ks.length < LIM then .nx (r.set i (some (true, .dct (dputK ks k) (dputV ks ds k d)))) st2 else .bad
    | none => .bad)
  | _ => .bad
def itKeys (f : Ev) : Iv := fun r st => match f r st with
  | .ok d st1 => match d with
    | .dct ks _ => if DKs ks = true then .ok ks [] st1 else .bad
    | _ => .bad
  | .err c a st1 => .err c a st1
  | .bad => .bad
def fListK : List D → Sto → Rs
  | [.dct ks _], st => if DKs ks = true then .ok (.lst ks) st else .bad
  | _, _ => .bad
end
end Sm

namespace Sm
open PySem L2 PyProof.Rows
section
variable {X : Cx} {B : Bs} {Wx : WX}
def fSortK : List D → Sto → Rs
  | [.dct ks _], st => match intsOf ks with
    | some ns => .ok (.lst ((srt kI ns).map D.int)) st
    | none => .bad
  | _, _ => .bad
end
end Sm

namespace Sm
open PySem L2 PyProof.Rows PySem.W
section
variable {prog : Program} {w : World} {A : Around} {E : Value → Shared → Prop} {s : Shared}
end
section
variable {X : Cx} {B : Bs} {Wx : WX}
end
end Sm

namespace Sm
open PySem L2 PyProof.Rows
def sPop (i j : Nat) : Sv := fun r st => match r j with
  | some (true, .lst ds) => (match ds.getLast? with
    | some d => .nx ((r.set j (some (true, .lst ds.dropLast))).set i (some (false, d))) st
    | none => .bad)
  | _ => .bad
def sPop0 (i j : Nat) : Sv := fun r st => match r j with
  | some (true, .lst (d :: ds)) => .nx ((r.set j (some (true, .lst ds))).set i (some (false, d))) st
  | _ => .bad
def insL (ds : List D) (p d : D) (k : List D → Rt) : Rt := match p with
  | .int z => if (0 ≤ z ∧ z < B62) ∧ ds.length < LIM then k (ds.take z.toNat ++ [d] ++ ds.drop z.toNat) else .bad
  | _ => .bad
def sIns (i : Nat) (g f : Ev) : Sv := fun r st => match r i with
  | some (true, .lst ds) => ofRs (g r st) r fun p st1 => ofRs (f r st1) r fun d st2 => insL ds p d fun es => .nx (r.set i (some (true, .lst es))) st2
  | _ => .bad
def sRefP (i : Nat) (F : Sv) : Sv := fun r st => match r i with
  | some (true, .lst ds) => F (r.set i (some (false, .ref st.length))) (st ++ [.lst ds])
  | some (true, .dct ks vs) => F (r.set i (some (false, .ref st.length))) (st ++ [.dct ks vs])
  | some (false, _) => F r st
  | _ => .bad
def sClrR (p : Ev) : Sv := fun r st => ofRs (p r st) r fun o st1 => match o with
  | .ref n => (match st1[n]? with
    | some (.lst _) => .nx r (st1.set n (.lst []))
    | _ => .bad)
  | _ => .bad
theorem RDs.dropLast {G : Cfg} {w : Wd} {ds : List D} {vs : List V} (h : RDs G w ds vs) : RDs G w ds.dropLast vs.dropLast := by
  rw [List.dropLast_eq_take, List.dropLast_eq_take, h.length]
  exact RDs.take _ h
section
variable {X : Cx} {B : Bs} {k : Kd} {fr : Bool} {Wx : WX} {a b c tg iter : Expr} {f g h : Ev} {pos : Pos} {st1 : Stmt} {F : Sv}
theorem js_clrR {apos cpos : Pos} (ho : JE X B .sh Wx a f) (hbase : attributeBase a "clear" X.env (eval a X.env) = eval a X.env := by rfl) (hline : (apos.endLine == cpos.line) = true := by rfl)
    (hs : swapsWith (.Call (.Attribute a "clear" apos) [] [] cpos) none pos.line X.env = pure false := by rfl) :
    JS X B fr Wx (.Expr (.Call (.Attribute a "clear" apos) [] [] cpos) pos) (sClrR f) := by
  refine ps_imp (ps_expr (pe_bm0 PySem.F.plainAttrs_list PySem.F.slot_list_clear PySem.F.type_list_clear mt_clear ho hbase hline) hs) ?_
  intro D s H q
  obtain ⟨O, r, st, w, e, R, q⟩ := tS_of (k := .sh) q
  refine ⟨O, r, st, w, e, R, q.mono ?_⟩
  rintro v H1 ⟨O1, r1, w0, d, st1, w1, rfl, R1, x1, ⟨_, R0⟩, rr, q1⟩
  cases d with
  | ref n =>
    have rr : RD (cg X) w1 (.ref n) v := rr
    have q2 : postS (cg X) B fr Wx w0 (match st1[n]? with | some (.lst _) => .nx r1 (st1.set n (.lst [])) | _ => .bad) D := q1
    cases zs : st1[n]? with
    | none => rw [zs] at q2; exact q2.elim
    | some so =>
      cases so with
      | lst ds =>
        rw [zs] at q2
        obtain ⟨al, rfl, ea, c⟩ := R1.sto.ref rr zs
        obtain ⟨vs, hl, rs⟩ := c
        have m1 := R1.wf.mm (List.mem_of_getElem? ea) hl fun _ _ z => by cases z
        refine ⟨.inl ⟨rfl, vs, .of hl⟩, al, vs, rfl, rfl, hl, ?_⟩
        exact q2 O1 s (w1.chg al (.lst [])) (R1.chgSto m1 zs ea ⟨[], upd_same, by unfold RDs; rfl⟩) ((x1.wk R0.wf).trans (Wd.chg_wk m1))
      | _ => rw [zs] at q2; exact q2.elim
  | _ => exact (show False from q1).elim
end
end Sm

namespace Sm
open PySem L2
section
variable {x : Rt} {N : Env → Sto → Prop} {R : D → Sto → Prop} {L : Bool → Env → Sto → Prop} {E : Str → Option (Str × D) → Env → Sto → Prop} {r : Env} {st : Sto} {f g h : Ev} {Q : D → Sto → Prop} {E' : Str → Option (Str × D) → Sto → Prop}
theorem w_dct0 : RsP (bDct0 r st) Q E' = Q (.dct [] []) st := rfl
theorem w_dct1 : RsP (bDct1 f g r st) Q E' = RsP (f r st) (fun j st1 => RsP (g r st1) (fun d st2 => ∃ k, kOf j = some k ∧ Q (.dct [kD k] [d]) st2) E') E' := by
  unfold bDct1
  rw [w_bind]
  congr 1; funext j st1
  rw [w_bind]
  congr 1; funext d st2
  cases kOf j with
  | none => simp [RsP]
  | some k => simp [RsP]
theorem o_dget {ks ds : List D} {j : D} : RsP (opDget (.dct ks ds) j st) Q E' = ∃ k, kOf j = some k ∧ DKs ks = true ∧ ∃ d, dgetL ks ds k = some d ∧ Q d st := by
  show RsP (match kOf j with | some k => if DKs ks = true then (match dgetL ks ds k with | some d => .ok d st | none => .bad) else .bad | none => .bad) Q E' = _
  cases kOf j with
  | none => simp [RsP]
  | some k =>
    by_cases hk : DKs ks = true
    · simp only [hk, if_true]
      cases z : dgetL ks ds k <;> simp [RsP, z]
    · simp [hk, RsP]
theorem dr_dget {a b : D} : RsP (drOp opDget a b st) Q E' = derP st a fun a' => RsP (opDget a' (der st b) st) Q E' := rfl
theorem o_inK {neg : Bool} {ks ds : List D} {j : D} : RsP (opInK neg j (.dct ks ds) st) Q E' = ∃ k, kOf j = some k ∧ DKs ks = true ∧ Q (.bl (neg ^^ (dgetL ks ds k).isSome)) st := by
  unfold opInK
  cases kOf j with
  | none => simp [RsP]
  | some k =>
    by_cases hk : DKs ks = true
    · simp [hk, RsP]
    · simp [hk, RsP]
theorem dr_inK {neg : Bool} {a b : D} : RsP (drOp (opInK neg) a b st) Q E' = derP st b fun b' => RsP (opInK neg (der st a) b' st) Q E' := rfl
theorem o_getD {ks ds : List D} {j z : D} : RsP (getD (.dct ks ds) j z st) Q E' = ∃ k, kOf j = some k ∧ DKs ks = true ∧ Q ((dgetL ks ds k).getD z) st := by
  unfold getD
  show RsP (match kOf j with | some k => if DKs ks = true then .ok ((dgetL ks ds k).getD z) st else .bad | none => .bad) Q E' = _
  cases kOf j with
  | none => simp [RsP]
  | some k =>
    by_cases hk : DKs ks = true
    · simp [hk, RsP]
    · simp [hk, RsP]
theorem w_dget2 : RsP (bDget2 f g h r st) Q E' = RsP (f r st) (fun a st1 => isDK st1 a = true ∧ RsP (g r st1) (fun j st2 => RsP (h r st2) (fun z st3 => RsP (getD a j z st3) Q E') E') E') E' := by
  unfold bDget2
  rw [w_bind]
  congr 1; funext a st1
  by_cases z : isDK st1 a = true
  · rw [if_pos z, w_bind]
    simp only [z, true_and]
    congr 1; funext j st2
    rw [w_bind]
  · rw [if_neg z]
    simp [z, RsP]
theorem isDK_d {ks ds : List D} : isDK st (.dct ks ds) = DKs ks := rfl
theorem m_putD {i : Nat} : RtP (sPutD i g f r st) N R L E = RsP (f r st) (fun d st1 => match r i with
    | some (true, .dct ks ds) => RsP (g r st1) (fun j st2 => ∃ k, kOf j = some k ∧ (DKs ks = true ∧ ks.length < LIM) ∧ N (r.set i (some (true, .dct (dputK ks k) (dputV ks ds k d)))) st2) (fun c a st => E c a r st)
    | _ => False) (fun c a st => E c a r st) := by
  unfold sPutD
  rw [w_of]
  congr 1; funext d st1
  cases r i with
  | none => rfl
  | some bd =>
    obtain ⟨b, d0⟩ := bd
    cases b with
    | false => rfl
    | true =>
      cases d0 <;> try rfl
      rename_i ks ds
      simp only
      rw [w_of]
      congr 1; funext j st2
      cases kOf j with
      | none => simp [RtP]
      | some k =>
        by_cases hk : DKs ks = true ∧ ks.length < LIM
        · simp [hk, RtP]
        · simp only [if_neg hk, Option.some.injEq, exists_eq_left', hk, false_and]
          rfl
theorem wi_keys {QL : List D → Gd → Sto → Prop} : RsIP (itKeys f r st) QL E' = RsP (f r st) (fun d st1 => match d with | .dct ks _ => DKs ks = true ∧ QL ks [] st1 | _ => False) E' := by
  unfold itKeys
  cases f r st with
  | bad => rfl
  | err c a st1 => rfl
  | ok d st1 =>
    cases d <;> try rfl
    rename_i ks ds
    simp only [RsP]
    by_cases hk : DKs ks = true
    · simp [hk, RsIP]
    · simp [hk, RsIP]
theorem f_listK {ks ds : List D} : RsP (fListK [.dct ks ds] st) Q E' = (DKs ks = true ∧ Q (.lst ks) st) := by
  unfold fListK
  by_cases hk : DKs ks = true
  · simp [hk, RsP]
  · simp [hk, RsP]
theorem f_sortK {ks ds : List D} : RsP (fSortK [.dct ks ds] st) Q E' = ∃ ns, intsOf ks = some ns ∧ Q (.lst ((srt kI ns).map D.int)) st := by
  show RsP (match intsOf ks with | some ns => .ok (.lst ((srt kI ns).map D.int)) st | none => .bad) Q E' = _
  cases intsOf ks <;> simp [RsP]
theorem m_pop {i j : Nat} : RtP (sPop i j r st) N R L E = match r j with
    | some (true, .lst ds) => ∃ d, ds.getLast? = some d ∧ N ((r.set j (some (true, .lst ds.dropLast))).set i (some (false, d))) st
    | _ => False := by
  unfold sPop
  cases r j with
  | none => rfl
  | some bd =>
    obtain ⟨b, d0⟩ := bd
    cases b with
    | false => rfl
    | true =>
      cases d0 <;> try rfl
      rename_i ds
      simp only
      cases ds.getLast? <;> simp [RtP]
theorem m_pop0 {i j : Nat} : RtP (sPop0 i j r st) N R L E = match r j with
    | some (true, .lst (d :: ds)) => N ((r.set j (some (true, .lst ds))).set i (some (false, d))) st
    | _ => False := by
  unfold sPop0
  cases r j with
  | none => rfl
  | some bd =>
    obtain ⟨b, d0⟩ := bd
    cases b with
    | false => rfl
    | true =>
      cases d0 <;> try rfl
      rename_i ds
      cases ds <;> rfl
theorem m_insL {ds : List D} {z : Int} {d : D} {k : List D → Rt} : RtP (insL ds (.int z) d k) N R L E = (((0 ≤ z ∧ z < B62) ∧ ds.length < LIM) ∧ RtP (k (ds.take z.toNat ++ [d] ++ ds.drop z.toNat)) N R L E) := by
  unfold insL
  by_cases h : (0 ≤ z ∧ z < B62) ∧ ds.length < LIM
  · simp only [h, if_true, and_self, true_and]
  · simp only [h, if_false, false_and]; rfl
theorem m_ins {i : Nat} : RtP (sIns i g f r st) N R L E = match r i with
    | some (true, .lst ds) => RsP (g r st) (fun p st1 => RsP (f r st1) (fun d st2 => RtP (insL ds p d fun es => .nx (r.set i (some (true, .lst es))) st2) N R L E) (fun c a st => E c a r st)) (fun c a st => E c a r st)
    | _ => False := by
  unfold sIns
  cases r i with
  | none => rfl
  | some bd =>
    obtain ⟨b, d0⟩ := bd
    cases b with
    | false => rfl
    | true =>
      cases d0 <;> try rfl
      simp only
      rw [w_of]
      congr 1; funext p st1
      rw [w_of]
theorem m_refP {i : Nat} {F : Sv} : RtP (sRefP i F r st) N R L E = match r i with
    | some (true, .lst ds) => RtP (F (r.set i (some (false, .ref st.length))) (st ++ [.lst ds])) N R L E
    | some (true, .dct ks vs) => RtP (F (r.set i (some (false, .ref st.length))) (st ++ [.dct ks vs])) N R L E
    | some (false, _) => RtP (F r st) N R L E
    | _ => False := by
  unfold sRefP
  cases r i with
  | none => rfl
  | some bd =>
    obtain ⟨b, d0⟩ := bd
    cases b with
    | false => rfl
    | true => cases d0 <;> rfl
theorem w_clrR {p : Ev} : RtP (sClrR p r st) N R L E = RsP (p r st) (fun o st1 => match o with
    | .ref n => (match st1[n]? with | some (.lst _) => N r (st1.set n (.lst [])) | _ => False)
    | _ => False) (fun c a st => E c a r st) := by
  unfold sClrR
  rw [w_of]
  congr 1; funext o st1
  cases o <;> try rfl
  rename_i n
  simp only
  cases st1[n]? with
  | none => rfl
  | some so => cases so <;> rfl
theorem dp_dct {ks ds : List D} {P : D → Prop} : derP st (.dct ks ds) P = P (.dct ks ds) := rfl
theorem der_dct {ks ds : List D} : der st (.dct ks ds) = .dct ks ds := rfl
theorem kOf_int {i : Int} : kOf (.int i) = some (.inl i) := rfl
theorem kOf_str {i : Str} : kOf (.str i) = some (.inr i) := rfl
theorem kD_int {i : Int} : kD (.inl i) = .int i := rfl
end
section
variable {α : Type} {l : List (Int × α)} {enc : α → D} {i : Int}
theorem zip_map' {β γ : Type} {f : α → β} {g : α → γ} : ∀ l : List α, (l.map f).zip (l.map g) = l.map fun p => (f p, g p)
  | [] => rfl
  | a :: l => by simp [zip_map' l]
theorem intsOf_int : ∀ {l : List Int}, intsOf (l.map D.int) = some l
  | [] => rfl
  | p :: l => by simp [intsOf, intsOf_int (l := l)]
end
end Sm

namespace Sm
open PySem L2 PyProof.Rows PySem.Spec PySem.W
section
variable {X : Cx} {B : Bs} {Wx : WX} {a b c d : Expr} {f g h i : Ev} {pos : Pos} {ta tb tc td : TE}
def bChain3 (F F' F'' : D → D → Sto → Rs) (f g h i : Ev) : Ev := fun r st => (f r st).bind fun a st1 => (g r st1).bind fun b st2 => (F a b st2).bind fun z st3 => match z with
  | .bl true => (h r st3).bind fun c st4 => (F' b c st4).bind fun z2 st5 => (match z2 with
    | .bl true => (i r st5).bind fun d st6 => F'' c d st6
    | .bl false => .ok (.bl false) st5
    | _ => .bad)
  | .bl false => .ok (.bl false) st3
  | _ => .bad
theorem w_chain3 {F F' F'' : D → D → Sto → Rs} {r : Env} {st : Sto} {Q : D → Sto → Prop} {E' : Str → Option (Str × D) → Sto → Prop} : RsP (bChain3 F F' F'' f g h i r st) Q E' = RsP (f r st) (fun a st1 => RsP (g r st1) (fun b st2 => RsP (F a b st2) (fun z st3 => bX z (RsP (h r st3) (fun c st4 => RsP (F' b c st4) (fun z2 st5 => bX z2 (RsP (i r st5) (fun d st6 => RsP (F'' c d st6) Q E') E') (Q (.bl false) st5)) E') E') (Q (.bl false) st3)) E') E') E' := by
  unfold bChain3
  rw [w_bind]; congr 1; funext a st1
  rw [w_bind]; congr 1; funext b st2
  rw [w_bind]; congr 1; funext z st3
  cases z <;> try rfl
  rename_i z
  cases z
  · simp [bX, RsP]
  · simp only [bX, true_implies, reduceCtorEq, false_implies, and_true]
    rw [w_bind]; congr 1; funext c st4
    rw [w_bind]; congr 1; funext z st5
    cases z <;> try rfl
    rename_i z
    cases z
    · simp [bX, RsP]
    · simp only [bX, true_implies, reduceCtorEq, false_implies, and_true]
      rw [w_bind]
end
end Sm

namespace Sm
open PySem L2
structure Prt (P : List (Int × Int)) (S : List Int) : Prop where
  ok : ∀ p ∈ P, p.1 ≤ p.2
  ap : P.Pairwise (fun p q => p.2 + 1 < q.1)
  nm : P.flatMap rng = S
theorem Prt.nil : Prt [] [] := ⟨by simp, .nil, rfl⟩
theorem Prt.ne {P : List (Int × Int)} {S : List Int} (h : Prt P S) (hs : S ≠ []) : P ≠ [] := fun e => hs (by rw [← h.nm, e]; rfl)
section
variable {had : Int → Bool} {cs : List Int}
end
def mg : Int × Int → List (Bool × (Int × Int)) → List (Int × Int)
  | cur, [] => [cur]
  | cur, (true, p) :: r => cur :: mg p r
  | cur, (false, p) :: r => mg (cur.1, p.2) r
end Sm

namespace Sm
open PySem L2
end Sm

namespace Sm
open PySem L2
section
variable {X : Cx} {B : Bs} {k : Kd} {Wx : WX} {a b c e iter tg : Expr} {es : List Expr} {fs : List Ev} {f g h : Ev} {pos : Pos} {Q : D → Sto → Prop} {E' : Str → Option (Str × D) → Sto → Prop} {st : Sto} {r : Env}
def fStrI : List D → Sto → Rs
  | [.int i], st => if -I400 < i ∧ i < I400 then .ok (.str (toString i)) st else .bad
  | _, _ => .bad
theorem f_strI {i : Int} : RsP (fStrI [.int i] st) Q E' = ((-I400 < i ∧ i < I400) ∧ Q (.str (toString i)) st) := by
  by_cases hz : -I400 < i ∧ i < I400 <;> simp [fStrI, hz, RsP]
def fIntA : List D → Sto → Rs
  | [.int i], st => .ok (.int i) st
  | [.bl b], st => .ok (.int (if b then 1 else 0)) st
  | [.str x], st => if x.length ≤ 640 then (match PySem.intText? x with | some n => .ok (.int n) st | none => .bad) else .bad
  | _, _ => .bad
def rIntA : List V → Hp → VK → Prop := fun xs H Q => ((∃ i, xs = [.int i] ∧ Q (.int i) H) ∨ ∃ k, xs = [.bl k] ∧ Q (.int (if k then 1 else 0)) H) ∨ ∃ a n, xs = [.str a] ∧ PySem.intText? a = some n ∧ a.length ≤ 640 ∧ Q (.int n) H
theorem cr_intA : CallR X (.type "int") rIntA := by
  intro pins s σ H xs us Q I r h
  rcases h with h | h
  · exact call_int1 pins s σ H xs us Q I r h
  · exact call_int_str pins s σ H xs us Q I r h
theorem jb_int : JB X B .sh Wx (.type "int") fIntA := ⟨_, cr_intA, by
  intro O e s w0 w ds vs st Q R xt rr q
  cases ds with
  | nil => exact (show False from q).elim
  | cons d ds1 =>
   cases ds1 with
   | cons _ _ => cases d <;> exact (show False from q).elim
   | nil =>
    obtain ⟨v, rfl, h⟩ := RQs.one rr
    cases d with
    | int i => exact .inl (.inl ⟨i, by rw [h.int], post.val R xt q rdI⟩)
    | bl b => exact .inl (.inr ⟨b, by rw [h.bl], post.val R xt q rdI⟩)
    | str x =>
      by_cases hz : x.length ≤ 640
      · simp only [fIntA, if_pos hz] at q
        cases zn : PySem.intText? x with
        | none => rw [zn] at q; exact q.elim
        | some n =>
          rw [zn] at q
          exact .inr ⟨x, n, by rw [h.str], zn, hz, post.val R xt q rdI⟩
      · simp only [fIntA, if_neg hz] at q
        exact q.elim
    | _ => exact (show False from q).elim⟩
theorem f_intI {i : Int} : RsP (fIntA [.int i] st) Q E' = Q (.int i) st := rfl
theorem f_intB {b : Bool} : RsP (fIntA [.bl b] st) Q E' = Q (.int (if b then 1 else 0)) st := rfl
theorem f_intS {x : Str} : RsP (fIntA [.str x] st) Q E' = (x.length ≤ 640 ∧ ∃ n, PySem.intText? x = some n ∧ Q (.int n) st) := by
  by_cases hz : x.length ≤ 640
  · simp only [fIntA, if_pos hz]
    cases PySem.intText? x <;> simp [RsP, hz]
  · simp [fIntA, if_neg hz, RsP, hz]
def strsOf : List D → Option (List Str)
  | [] => some []
  | .str x :: ds => (strsOf ds).map (x :: ·)
  | _ :: _ => none
theorem strsOf_map : ∀ {ys : List Str}, strsOf (ys.map D.str) = some ys
  | [] => rfl
  | y :: ys => by simp [strsOf, strsOf_map (ys := ys)]
end
end Sm

namespace Sm
open PySem L2
section
variable {X : Cx} {B : Bs} {k : Kd} {Wx : WX} {a b c e iter tg o : Expr} {es : List Expr} {fs : List Ev} {f g h : Ev} {pos apos : Pos} {Q : D → Sto → Prop} {E' : Str → Option (Str × D) → Sto → Prop} {st : Sto} {r : Env}
def fJoin (x : Str) (d : D) (st : Sto) : Rs := match d with
  | .lst ds => (match strsOf ds with | some ys => if (ys.map (·.length)).sum + ys.length * x.length ≤ 16777216 then .ok (.str (Txt.join x ys)) st else .bad | none => .bad)
  | .tup ds => (match strsOf ds with | some ys => if (ys.map (·.length)).sum + ys.length * x.length ≤ 16777216 then .ok (.str (Txt.join x ys)) st else .bad | none => .bad)
  | _ => .bad
def bJoin (f g : Ev) : Ev := fun r st => (f r st).bind fun a st1 => match a with
  | .str x => (g r st1).bind fun b st2 => fJoin x (der st2 b) st2
  | _ => .bad
def fSplit (x : Str) (d : D) (st : Sto) : Rs := match d with
  | .str y => if (y.length == 0) = false ∧ x.length ≤ LIM then .ok (.lst ((Txt.split x y).map D.str)) st else .bad
  | _ => .bad
def bSplit (f g : Ev) : Ev := fun r st => (f r st).bind fun a st1 => match a with
  | .str x => (g r st1).bind fun b st2 => fSplit x b st2
  | _ => .bad
def opInS (neg : Bool) : D → D → Sto → Rs
  | .str x, .str z, st => (match x.cps.toList with | [c] => .ok (.bl (neg ^^ decide (c ∈ z.cps.toList))) st | _ => .bad)
  | _, _, _ => .bad
theorem w_join : RsP (bJoin f g r st) Q E' = RsP (f r st) (fun d st1 => match d with | .str x => RsP (g r st1) (fun d2 st2 => derP st2 d2 fun d' => RsP (fJoin x d' st2) Q E') E' | _ => False) E' := by
  unfold bJoin
  rw [w_bind]
  congr 1; funext d st1
  cases d <;> try rfl
  rw [w_bind]; rfl
theorem w_fJoin {x : Str} {ys : List Str} : RsP (fJoin x (.lst (ys.map D.str)) st) Q E' = ((ys.map (·.length)).sum + ys.length * x.length ≤ 16777216 ∧ Q (.str (Txt.join x ys)) st) := by
  simp only [fJoin, strsOf_map]
  by_cases hz : (ys.map (·.length)).sum + ys.length * x.length ≤ 16777216
  · rw [if_pos hz]; simp only [RsP, hz, true_and]
  · rw [if_neg hz]; simp only [RsP, hz, false_and]
theorem w_split : RsP (bSplit f g r st) Q E' = RsP (f r st) (fun d st1 => match d with | .str x => RsP (g r st1) (fun d2 st2 => match d2 with | .str y => ((y.length == 0) = false ∧ x.length ≤ LIM) ∧ Q (.lst ((Txt.split x y).map D.str)) st2 | _ => False) E' | _ => False) E' := by
  unfold bSplit
  rw [w_bind]
  congr 1; funext d st1
  cases d <;> try rfl
  rename_i x
  rw [w_bind]
  congr 1; funext d2 st2
  cases d2 <;> try rfl
  rename_i y
  simp only [fSplit]
  by_cases hz : (y.length == 0) = false ∧ x.length ≤ LIM
  · rw [if_pos hz]; simp only [RsP, hz, and_self, true_and]
  · rw [if_neg hz]; simp only [RsP, hz, false_and]
theorem o_inS {neg : Bool} {x z : Str} : RsP (opInS neg (.str x) (.str z) st) Q E' = ∃ c, x.cps.toList = [c] ∧ Q (.bl (neg ^^ decide (c ∈ z.cps.toList))) st := by
  simp only [opInS]
  cases e1 : x.cps.toList with
  | nil => simp [RsP]
  | cons c l => cases l <;> simp [RsP]
theorem dr_inS {neg : Bool} {a b : D} : RsP (drOp (opInS neg) a b st) Q E' = RsP (opInS neg (der st a) (der st b) st) Q E' := rfl
end
end Sm

namespace Sm
open PySem L2
section
variable {X : Cx} {B : Bs} {k : Kd} {Wx : WX} {a b c e iter tg o : Expr} {es : List Expr} {fs : List Ev} {f g h : Ev} {pos apos : Pos} {E' : Str → Option (Str × D) → Sto → Prop} {st : Sto} {r : Env}
def signsD (x : Str) : List D := x.cps.toList.map fun c => .str ⟨#[c]⟩
def itStr (f : Ev) : Iv := fun r st => match f r st with
  | .ok d st1 => match d with
    | .str x => .ok (signsD x) [] st1
    | _ => .bad
  | .err c a st1 => .err c a st1
  | .bad => .bad
def bFmt (f : Ev) : Ev := fun r st => (f r st).bind fun d st1 => match d with
  | .str y => if y.length ≤ LIM then .ok (.str y) st1 else .bad
  | .int i => if -I400 < i ∧ i < I400 then .ok (.str (toString i)) st1 else .bad
  | _ => .bad
def bJs : List Ev → Str → Ev
  | [], acc => fun _ st => .ok (.str acc) st
  | f :: fs, acc => fun r st => (f r st).bind fun d st1 => match d with
    | .str y => if (acc ++ y).length ≤ LIM then bJs fs (acc ++ y) r st1 else .bad
    | _ => .bad
variable {Q : D → Sto → Prop}
theorem wi_str {QL : List D → Gd → Sto → Prop} : RsIP (itStr f r st) QL E' = RsP (f r st) (fun d st1 => match d with | .str x => QL (signsD x) [] st1 | _ => False) E' := by
  unfold itStr
  cases f r st <;> try rfl
  rename_i d st1
  cases d <;> rfl
theorem f_lenS {x : Str} : RsP (fLen [.str x] st) Q E' = (x.length ≤ LIM ∧ Q (.int (x.length : Int)) st) := by
  show RsP (if x.length ≤ LIM then _ else _) Q E' = _
  by_cases hz : x.length ≤ LIM
  · rw [if_pos hz]; simp only [RsP, hz, true_and]
  · rw [if_neg hz]; simp only [RsP, hz, false_and]
theorem o_ixS {x : Str} {i : Int} : RsP (opIx (.str x) (.int i) st) Q E' = (x.length ≤ LIM ∧ ∃ c, atI x.cps.toList i = some c ∧ Q (.str ⟨#[c]⟩) st) := by
  simp only [opIx]
  by_cases hz : x.length ≤ LIM
  · rw [if_pos hz]
    cases atI x.cps.toList i <;> simp [RsP, hz]
  · rw [if_neg hz]; simp only [RsP, hz, false_and]
theorem w_fmt : RsP (bFmt f r st) Q E' = RsP (f r st) (fun d st1 => match d with | .str y => y.length ≤ LIM ∧ Q (.str y) st1 | .int i => (-I400 < i ∧ i < I400) ∧ Q (.str (toString i)) st1 | _ => False) E' := by
  unfold bFmt
  rw [w_bind]
  congr 1; funext d st1
  cases d <;> try rfl
  · rename_i i
    by_cases hz : -I400 < i ∧ i < I400
    · simp only [RsP, hz, and_self, true_and, if_true]
    · simp only [RsP, hz, false_and, if_false]
  · rename_i y
    by_cases hz : y.length ≤ LIM
    · simp only [RsP, hz, true_and, if_true]
    · simp only [RsP, hz, false_and, if_false]
theorem w_jsN {acc : Str} : RsP (bJs [] acc r st) Q E' = Q (.str acc) st := rfl
theorem w_jsC {acc : Str} : RsP (bJs (f :: fs) acc r st) Q E' = RsP (f r st) (fun d st1 => match d with | .str y => (acc ++ y).length ≤ LIM ∧ RsP (bJs fs (acc ++ y) r st1) Q E' | _ => False) E' := by
  show RsP ((f r st).bind _) Q E' = _
  rw [w_bind]
  congr 1; funext d st1
  cases d <;> try rfl
  rename_i y
  simp only
  by_cases hz : (acc ++ y).length ≤ LIM
  · rw [if_pos hz]; simp only [hz, true_and]
  · rw [if_neg hz]; simp only [RsP, hz, false_and]
end
end Sm

namespace Sm
open PySem PySem.Spec PyProof.Rows L2
def sTry (kd : Str → Option Bool) (f g : Sv) : Sv := fun r st => match f r st with
  | .err c a r1 st1 => (match kd c with
    | some true => g r1 st1
    | some false => .err c a r1 st1
    | none => .bad)
  | x => x
section
variable {X : Cx} {B : Bs} {fr : Bool} {Wx : WX} {body suite : List Stmt} {b₀ : Stmt} {np pos pos' : Pos} {x : Str} {cX : Value} {f g : Sv} {kd : Str → Option Bool}
theorem m_try {N : Env → Sto → Prop} {R : D → Sto → Prop} {L : Bool → Env → Sto → Prop} {E : Str → Option (Str × D) → Env → Sto → Prop} {r : Env} {st : Sto} :
    RtP (sTry kd f g r st) N R L E = RtP (f r st) N R L (fun c a r1 st1 => match kd c with | some true => RtP (g r1 st1) N R L E | some false => E c a r1 st1 | none => False) := by
  unfold sTry
  cases f r st <;> try rfl
  rename_i c a r1 st1
  simp only [RtP]
  cases kd c with
  | none => rfl
  | some b => cases b <;> rfl
end
end Sm

namespace Sm
open PySem PySem.Spec PyProof.Rows L2
section
variable {X : Cx} {pins : List (Addr × Obj)} {sl : L2.St} {K : Hp} {t : Shared} {a : Addr} {o : HO}
end
section
variable {X : Cx} {x n : Str} {c : Value} {i : Nat} {body rest : List Stmt} {s1 : Stmt} {p1 p2 p3 : Pos} {tb : WX → TS} {u : TS} {Wo : WX} {pins : List (Addr × Obj)} {t : Shared} {a : Addr}
end
end Sm

namespace Sm
open PySem PySem.Spec PyProof.Rows L2
def offS (i : Nat) : Rt → Rt
  | .nx r st => .nx (r.set i none) st
  | .bk r st => .bk (r.set i none) st
  | .ct r st => .ct (r.set i none) st
  | .rt d st => .rt d st
  | .err _ _ _ _ => .bad
  | .bad => .bad
def excD (c : Str) : Option (Str × D) → Option D
  | none => some (.exc c none)
  | some (f, .int n) => if f = "number" then some (.exc c (some n)) else none
  | _ => none
def sTryAs (kd : Str → Option Bool) (i : Nat) (f g : Sv) : Sv := fun r st => match f r st with
  | .err c a r1 st1 => (match kd c with
    | some true => (match excD c a with | some d => offS i (g (r1.set i (some (false, d))) st1) | none => .bad)
    | some false => .err c a r1 st1
    | none => .bad)
  | x => x
section
variable {X : Cx} {B : Bs} {fr : Bool} {Wx : WX} {body suite : List Stmt} {b₀ : Stmt} {np pos pos' : Pos} {x n : Str} {cX : Value} {f g : Sv} {kd : Str → Option Bool} {i : Nat}
theorem w_off {N : Env → Sto → Prop} {R : D → Sto → Prop} {L : Bool → Env → Sto → Prop} {E : Str → Option (Str × D) → Env → Sto → Prop} {x : Rt} :
    RtP (offS i x) N R L E = RtP x (fun r st => N (r.set i none) st) R (fun b r st => L b (r.set i none) st) (fun _ _ _ _ => False) := by
  cases x <;> rfl
theorem m_tryAs {N : Env → Sto → Prop} {R : D → Sto → Prop} {L : Bool → Env → Sto → Prop} {E : Str → Option (Str × D) → Env → Sto → Prop} {r : Env} {st : Sto} :
    RtP (sTryAs kd i f g r st) N R L E = RtP (f r st) N R L (fun c a r1 st1 => match kd c with
      | some true => ∃ d, excD c a = some d ∧ RtP (g (r1.set i (some (false, d))) st1) (fun r st => N (r.set i none) st) R (fun b r st => L b (r.set i none) st) (fun _ _ _ _ => False)
      | some false => E c a r1 st1
      | none => False) := by
  unfold sTryAs
  cases f r st <;> try rfl
  rename_i c a r1 st1
  simp only [RtP]
  cases kd c with
  | none => rfl
  | some b =>
    cases b with
    | false => rfl
    | true =>
      simp only
      cases excD c a with
      | none => simp
      | some d =>
        simp only [Option.some.injEq, exists_eq_left']
        exact w_off
end
def bIsX (kt : Str → Option Bool) (f : Ev) : Ev := fun r st => (f r st).bind fun d st1 => match d with
  | .exc c _ => (match kt c with | some b => .ok (.bl b) st1 | none => .bad)
  | _ => .bad
section
variable {X : Cx} {B : Bs} {Wx : WX} {a e : Expr} {f : Ev} {pos : Pos} {kt : Str → Option Bool}
theorem w_isX {r : Env} {st : Sto} {Q : D → Sto → Prop} {E : Str → Option (Str × D) → Sto → Prop} : RsP (bIsX kt f r st) Q E = RsP (f r st) (fun d st1 => match d with | .exc c _ => (match kt c with | some b => Q (.bl b) st1 | none => False) | _ => False) E := by
  unfold bIsX
  rw [w_bind]
  congr 1; funext d st1
  cases d <;> try rfl
  rename_i c n
  simp only
  cases kt c <;> rfl
def bXnum (kt : Str → Option Bool) (f : Ev) : Ev := fun r st => (f r st).bind fun d st1 => match d with
  | .exc c (some n) => if (kt c).isSome = true then .ok (.int n) st1 else .bad
  | _ => .bad
theorem w_xnum {r : Env} {st : Sto} {Q : D → Sto → Prop} {E : Str → Option (Str × D) → Sto → Prop} : RsP (bXnum kt f r st) Q E = RsP (f r st) (fun d st1 => match d with | .exc c (some n) => (kt c).isSome = true ∧ Q (.int n) st1 | _ => False) E := by
  unfold bXnum
  rw [w_bind]
  congr 1; funext d st1
  cases d <;> try rfl
  rename_i c n
  cases n with
  | none => rfl
  | some n =>
    simp only
    cases kt c <;> simp [RsP]
def bExc (c : Str) (f : Ev) : Ev := fun r st => (f r st).bind fun _ st1 => .ok (.exc c none) st1
theorem w_exc {c : Str} {r : Env} {st : Sto} {Q : D → Sto → Prop} {E : Str → Option (Str × D) → Sto → Prop} : RsP (bExc c f r st) Q E = RsP (f r st) (fun _ st1 => Q (.exc c none) st1) E := by
  unfold bExc
  rw [w_bind]
  rfl
end
end Sm

namespace Sm
open PySem PySem.Spec PyProof.Rows L2
section
variable {X : Cx} {B : Bs} {Wx : WX} {a b e : Expr} {f g : Ev} {pos : Pos} {r : Env} {st : Sto} {Q : D → Sto → Prop} {E' : Str → Option (Str × D) → Sto → Prop}
def setLenD : D → Sto → Rs
  | .lst ds, st => match intsOf ds with
    | some ns => if ns.length ≤ 4000 then .ok (.int ((dd ns).length : Nat)) st else .bad
    | none => .bad
  | _, _ => .bad
def bSetLen (f : Ev) : Ev := fun r st => (f r st).bind fun d st1 => setLenD (der st1 d) st1
theorem w_setLen : RsP (bSetLen f r st) Q E' = RsP (f r st) (fun d st1 => derP st1 d fun d' => RsP (setLenD d' st1) Q E') E' := by
  unfold bSetLen
  rw [w_bind]; rfl
theorem f_setLen {ns : List Int} : RsP (setLenD (.lst (ns.map D.int)) st) Q E' = (ns.length ≤ 4000 ∧ Q (.int ((dd ns).length : Nat)) st) := by
  have e := ints_map (g := fun i : Int => i) (xs := ns)
  rw [List.map_id'] at e
  simp only [setLenD, e]
  by_cases hz : ns.length ≤ 4000
  · rw [if_pos hz]; simp only [RsP, hz, true_and]
  · rw [if_neg hz]; simp only [RsP, hz, false_and]
def bPopR (f : Ev) : Ev := fun r st => (f r st).bind fun d st1 => match d with
  | .ref n => (match st1[n]? with
    | some (.lst ds) => (match ds.getLast? with | some y => .ok y (st1.set n (.lst ds.dropLast)) | none => .bad)
    | _ => .bad)
  | _ => .bad
def bPopR1 (f g : Ev) : Ev := fun r st => (f r st).bind fun d st1 => match d with
  | .ref n => (match st1[n]? with
    | some (.lst _) => (g r st1).bind fun j st2 => (match j, st2[n]? with
      | .int i, some (.lst ds) => if (0 ≤ i ∧ i < ds.length) ∧ i < B62 then (match ds[i.toNat]? with | some y => .ok y (st2.set n (.lst (ds.eraseIdx i.toNat))) | none => .bad) else .bad
      | _, _ => .bad)
    | _ => .bad)
  | _ => .bad
theorem RDs.erase {G : Cfg} {w : Wd} : ∀ {ds : List D} {vs : List V} (i : Nat), RDs G w ds vs → RDs G w (ds.eraseIdx i) (vs.eraseIdx i)
  | [], vs, i, h => by unfold RDs at h; subst h; simp only [List.eraseIdx_nil]; unfold RDs; rfl
  | d :: ds, vs, i, h => by
    unfold RDs at h
    obtain ⟨v, q, rfl, h1, h2⟩ := h
    cases i with
    | zero => exact h2
    | succ i =>
      simp only [List.eraseIdx_cons_succ]
      unfold RDs
      exact ⟨v, _, rfl, h1, RDs.erase i h2⟩
theorem w_popR : RsP (bPopR f r st) Q E' = RsP (f r st) (fun d st1 => match d with | .ref n => (match st1[n]? with | some (.lst ds) => ∃ y, ds.getLast? = some y ∧ Q y (st1.set n (.lst ds.dropLast)) | _ => False) | _ => False) E' := by
  unfold bPopR
  rw [w_bind]
  congr 1; funext d st1
  cases d <;> try rfl
  rename_i n
  simp only
  cases st1[n]? with
  | none => rfl
  | some so =>
    cases so <;> try rfl
    rename_i ds
    simp only
    cases ds.getLast? <;> simp [RsP]
theorem w_popR1 : RsP (bPopR1 f g r st) Q E' = RsP (f r st) (fun d st1 => match d with | .ref n => (match st1[n]? with | some (.lst _) => RsP (g r st1) (fun j st2 => match j with | .int i => (match st2[n]? with | some (.lst ds) => ((0 ≤ i ∧ i < ds.length) ∧ i < B62) ∧ ∃ y, ds[i.toNat]? = some y ∧ Q y (st2.set n (.lst (ds.eraseIdx i.toNat))) | _ => False) | _ => False) E' | _ => False) | _ => False) E' := by
  unfold bPopR1
  rw [w_bind]
  congr 1; funext d st1
  cases d <;> try rfl
  rename_i n
  simp only
  cases st1[n]? with
  | none => rfl
  | some so =>
    cases so <;> try rfl
    simp only
    rw [w_bind]
    congr 1; funext j st2
    cases j <;> try rfl
    rename_i i
    simp only
    cases st2[n]? with
    | none => rfl
    | some so =>
      cases so <;> try rfl
      rename_i ds2
      simp only
      by_cases hz : (0 ≤ i ∧ i < (ds2.length : Int)) ∧ i < B62
      · rw [if_pos hz]
        cases ds2[i.toNat]? <;> simp [RsP, hz]
      · rw [if_neg hz]; simp only [RsP, hz, false_and]
end
end Sm

namespace Sm
open PySem PySem.Spec PyProof.Rows L2
section
variable {P : Program} {W : World} {A : Around} {E : Value → Shared → Prop} {s : Shared}
end
section
variable {X : Cx} {B : Bs} {Wx : WX} {a : Expr} {f : Ev} {pos : Pos} {r : Env} {st : Sto} {E' : Str → Option (Str × D) → Sto → Prop}
def itEnumT (f : Ev) : Iv := fun r st => match f r st with
  | .ok d st1 => (match d with | .tup ds => .ok (numd 0 ds) [] st1 | _ => .bad)
  | .err c a st1 => .err c a st1
  | .bad => .bad
theorem wi_enumT {QL : List D → Gd → Sto → Prop} : RsIP (itEnumT f r st) QL E' = RsP (f r st) (fun d st1 => match d with | .tup ds => QL (numd 0 ds) [] st1 | _ => False) E' := by
  unfold itEnumT
  cases f r st <;> try rfl
  rename_i d st1
  cases d <;> rfl
end
end Sm

namespace Sm
open PySem PySem.W PySem.Calls PySem.Spec PyProof.Rows L2
section
variable {P : Program} {W : World} {A : Around} {E : Value → Shared → Prop} {s : Shared} {t : Addr} {vs : List Value}
end
open Classical in
noncomputable def fSortT : List D → Sto → Rs
  | [.tup ds], st => if (ds.all (shp 60) = true ∧ ds.length ≤ LIM) ∧ PySem.W.AllAlike (pys ds) ∧ PySem.W.Sortable (pys ds) then .ok (.lst (sortD ds)) st else .bad
  | _, _ => .bad
theorem f_sortT {ds : List D} {st : Sto} {Q : D → Sto → Prop} {E : Str → Option (Str × D) → Sto → Prop} : RsP (fSortT [.tup ds] st) Q E = (((ds.all (shp 60) = true ∧ ds.length ≤ LIM) ∧ PySem.W.AllAlike (pys ds) ∧ PySem.W.Sortable (pys ds)) ∧ Q (.lst (sortD ds)) st) := by
  by_cases hz : (ds.all (shp 60) = true ∧ ds.length ≤ LIM) ∧ PySem.W.AllAlike (pys ds) ∧ PySem.W.Sortable (pys ds)
  · rw [fSortT, if_pos hz]; simp only [RsP, hz, and_self, true_and]
  · rw [fSortT, if_neg hz]; simp only [RsP, hz, false_and]
end Sm

namespace Sm
open PySem PySem.Spec PyProof.Rows L2
section
variable {X : Cx} {fst : Expr} {more : List Expr} {ta : TA} {x : Str} {R : Addr} {pN pA pC : Pos}
end
def bExcN (c : Str) (f : Ev) : Ev := fun r st => (f r st).bind fun d st1 => match d with
  | .int n => .ok (.exc c (some n)) st1
  | _ => .bad
section
variable {X : Cx} {B : Bs} {Wx : WX} {e : Expr} {f : Ev} {x : Str} {p pos : Pos}
theorem w_excN {c : Str} {r : Env} {st : Sto} {Q : D → Sto → Prop} {E : Str → Option (Str × D) → Sto → Prop} : RsP (bExcN c f r st) Q E = RsP (f r st) (fun d st1 => match d with | .int n => Q (.exc c (some n)) st1 | _ => False) E := by
  unfold bExcN
  rw [w_bind]
  congr 1; funext d st1
  cases d <;> rfl
end
end Sm

namespace Sm
open PySem PySem.Spec PyProof.Rows L2
def seekD (idx : Bool) (ds : List D) (y : D) (st : Sto) : Rs :=
  if shp 60 y && shp 60 (.lst ds) then (if idx then (match ds.findIdx? fun z => eqv z y with | some j => .ok (.int (j : Nat)) st | none => .bad) else .ok (.int (ds.countP fun z => eqv z y : Nat)) st) else .bad
def bSeek (idx : Bool) (f g : Ev) : Ev := fun r st => (f r st).bind fun d st1 => match der st1 d with
  | .lst _ => (g r st1).bind fun y st2 => (match der st2 d with | .lst ds => seekD idx ds y st2 | _ => .bad)
  | _ => .bad
section
variable {X : Cx} {B : Bs} {Wx : WX} {a b : Expr} {f g : Ev} {r : Env} {st : Sto} {Q : D → Sto → Prop} {E' : Str → Option (Str × D) → Sto → Prop} {ma mp : Pos}
theorem w_seek {idx : Bool} : RsP (bSeek idx f g r st) Q E' = RsP (f r st) (fun d st1 => match der st1 d with | .lst _ => RsP (g r st1) (fun y st2 => match der st2 d with | .lst ds => RsP (seekD idx ds y st2) Q E' | _ => False) E' | _ => False) E' := by
  unfold bSeek
  rw [w_bind]
  congr 1; funext d st1
  cases der st1 d <;> try rfl
  simp only
  rw [w_bind]
  congr 1; funext y st2
  cases der st2 d <;> rfl
theorem f_count {ds : List D} {y : D} : RsP (seekD false ds y st) Q E' = (shp 60 y = true ∧ shp 60 (.lst ds) = true ∧ Q (.int (ds.countP fun z => eqv z y : Nat)) st) := by
  unfold seekD
  cases shp 60 y <;> cases shp 60 (.lst ds) <;> simp [RsP]
theorem f_index {ds : List D} {y : D} : RsP (seekD true ds y st) Q E' = (shp 60 y = true ∧ shp 60 (.lst ds) = true ∧ ∃ j, ds.findIdx? (fun z => eqv z y) = some j ∧ Q (.int (j : Nat)) st) := by
  unfold seekD
  cases shp 60 y <;> cases shp 60 (.lst ds) <;> cases ds.findIdx? (fun z => eqv z y) <;> simp [RsP]
end
end Sm

namespace Sm
open PySem PySem.Spec PyProof.Rows L2
def opTimes : D → D → Sto → Rs
  | .str a, .int k, st => if (0 ≤ k ∧ k ≤ 10000) ∧ a.length ≤ 1000 then .ok (.str (Txt.mul a k)) st else .bad
  | _, _, _ => .bad
section
variable {X : Cx} {B : Bs} {Wx : WX} {a b : Expr} {f g : Ev} {pos : Pos} {st : Sto} {Q : D → Sto → Prop} {E : Str → Option (Str × D) → Sto → Prop}
theorem o_times {x : Str} {k : Int} : RsP (opTimes (.str x) (.int k) st) Q E = (((0 ≤ k ∧ k ≤ 10000) ∧ x.length ≤ 1000) ∧ Q (.str (Txt.mul x k)) st) := by
  show RsP (if _ then _ else _) Q E = _
  by_cases c : (0 ≤ k ∧ k ≤ 10000) ∧ x.length ≤ 1000
  · rw [if_pos c]; simp only [c, true_and, RsP, and_self]
  · rw [if_neg c]; simp only [c, false_and]; rfl
end
end Sm

namespace Sm
open PySem PySem.Spec PyProof.Rows L2
section
variable {P : Program} {w : World} {A : Around} {E : Value → Shared → Prop} {s : Shared}
def bare (w : World) : Obj := { cls := .type "set", dict := none, data := .set #[] 0 (.fresh 0 0 (!w.params.followText "set-order")) }
theorem set_call {x : Value} {Q : Value → Shared → Prop}
    (init : codeAny (model P w) A.in1 (.call (.builtin "set.__init__") ⟨[.ref s.heap.objs.size, x], []⟩) (wants (fun r s2 => r = .none ∧ Q (.ref s.heap.objs.size) s2) E) { s with heap := s.heap.push (bare w) }) :
    wpAny (model P w) A (call (.type "set") [x]) Q E s := by
  obtain ⟨mc, mt, mro⟩ := F.called_set.mro
  have f1 := F.called_set.made
  have f2 := F.called_set.sub
  have f3 := F.called_set.notType
  have f4 := F.called_set.canCreate
  have f5 := F.typeCall_set_1 x
  refine wpAny_call ?_
  refine codeAny_of_tree ?_
  show wpAny (model P w) _ (callAny (.type "set") _) _ _ s
  have quiet := Code.quiet_builtin (id := "type.__call__") ⟨[.type "set", x], []⟩ (by decide +kernel)
  refine wpAny_pure ⟨quiet, codeAny_builtin F.entry_type_call ?_⟩
  rw [Around.under_plain (weight_type_call_type "set" [x] []) rfl]
  repeat (any_goals (first | wp_step | assumption))
  have fresh := code_set_led1 (A := A.in1) (E := E) (P := P) (w := w) (s := s) x (Q₁ := fun v s1 => v = .ref s.heap.objs.size ∧ s1 = { s with heap := s.heap.push (bare w) }) ⟨rfl, rfl⟩
  refine codeAny_mono fresh fun out s1 got => ?_
  match out, got with
  | .error e, got => exact got
  | .ok .next, got => exact got.elim
  | .ok .brk, got => exact got.elim
  | .ok .cont, got => exact got.elim
  | .ok (.ret v), got =>
    obtain ⟨rfl, rfl⟩ := got
    have at_ : (s.heap.push (bare w)).get? s.heap.objs.size = some (bare w) := Heap.get?_push_size _ rfl
    have ty : Shared.TypeIs { s with heap := s.heap.push (bare w) } (.ref s.heap.objs.size) "set" := ⟨_, at_, rfl⟩
    have i1 := F.called_set.init.lookup
    have i2 := F.called_set.init.bind (.ref s.heap.objs.size)
    repeat (any_goals (first | wp_step | assumption))
    refine codeAny_mono init fun out2 s2 got2 => ?_
    match out2, got2 with
    | .error e, got2 => exact got2
    | .ok .next, got2 => exact got2.elim
    | .ok .brk, got2 => exact got2.elim
    | .ok .cont, got2 => exact got2.elim
    | .ok (.ret v), got2 =>
      obtain ⟨rfl, q⟩ := got2
      repeat (any_goals (first | wp_step | assumption))
theorem init_tup {l n : Addr} {its : Array Value} {Q : Shared → Prop} (calm : A.handled = none) (bareN : s.heap.get? n = some (bare w)) (ht : s.heap.IsTuple l its)
    (loop : ∀ B : Around, B.handled = none → B.units ≤ A.units + 2 → codeAny (model P w) B (.builtin "set.update.loop" ⟨[.ref n, .ref s.heap.objs.size], []⟩) (wants (fun r s2 => Q s2) E) { s with heap := s.heap.push { cls := .type "tuple_iterator", data := .fields #[.ref l, .int 0 0] } }) :
    codeAny (model P w) A (.call (.builtin "set.__init__") ⟨[.ref n, .ref l], []⟩) (wants (fun r s2 => r = .none ∧ Q s2) E) s := by
  have ty : Shared.TypeIs s (.ref n) "set" := ⟨_, bareN, rfl⟩
  refine codeAny_call_builtin F.called_set.init.plain F.entry_set_init (check_set_init_1 ty ?_)
  have k1 := F.sub_tuple_set
  have k2 := F.sub_tuple_frozenset
  have k3 : (Value.type "tuple" == .type "dict") = false := by decide
  obtain ⟨o, ho, oc, k, od⟩ := _root_.id ht
  obtain ⟨c1, d1, e1, g1⟩ := o
  simp only at oc od
  subst oc od
  unfold Builtin.«set.__init__» Builtin.Frozenset.updateFrom noKeywords
  generalize hPI : pyIter = PI
  wp_walk
  subst hPI
  refine wpAny_pyIter_tuple ht ?_
  refine wpAny_bind ?_
  refine wpAny_runValue ?_
  have quiet3 : A.in1.in1.in1.handled = none := by simp [calm]
  refine codeAny_mono (loop _ quiet3 (by simp [Around.in1, Around.units])) fun out s1 got => ?_
  match out, got with
  | .error e, got => exact got
  | .ok .next, got => exact got.elim
  | .ok .brk, got => exact got.elim
  | .ok .cont, got => exact got.elim
  | .ok (.ret v), got => exact wpAny_pure (wpAny_pure ⟨rfl, got⟩)
theorem past {h : Heap} {b : Addr} (hb : h.objs.size ≤ b) : h.get? b = none := by
  cases q : h.get? b with
  | none => rfl
  | some o => exact absurd (Heap.lt_size q) (Nat.not_lt.mpr hb)
end
def prsOf : List D → Option (List (Int × Int))
  | [] => some []
  | .tup [.int a, .int b] :: ds => (prsOf ds).map ((a, b) :: ·)
  | _ :: _ => none
theorem prsOf_map : ∀ {rs : List (Int × Int)}, prsOf (rs.map dP) = some rs
  | [] => rfl
  | p :: rs => by
    show (prsOf (rs.map dP)).map _ = _
    rw [prsOf_map]; rfl
noncomputable def sortSetD : D → Sto → Rs
  | .tup ds, st => (match prsOf ds with
    | some rs => if rs.length < 64 ∧ ∀ p ∈ rs, (0 ≤ p.1 ∧ p.1 < 64) ∧ (0 ≤ p.2 ∧ p.2 < 64) then .ok (.lst ((once kP rs).map dP)) st else .bad
    | none => .bad)
  | _, _ => .bad
noncomputable def bSortSet (f : Ev) : Ev := fun r st => (f r st).bind fun d st1 => sortSetD (der st1 d) st1
section
variable {X : Cx} {B : Bs} {Wx : WX} {a : Expr} {f : Ev} {r : Env} {st : Sto} {Q : D → Sto → Prop} {E' : Str → Option (Str × D) → Sto → Prop}
theorem w_sortSet : RsP (bSortSet f r st) Q E' = RsP (f r st) (fun d st1 => derP st1 d fun d' => RsP (sortSetD d' st1) Q E') E' := by
  unfold bSortSet
  rw [w_bind]; rfl
theorem f_sortSet {rs : List (Int × Int)} : RsP (sortSetD (.tup (rs.map dP)) st) Q E' = ((rs.length < 64 ∧ ∀ p ∈ rs, (0 ≤ p.1 ∧ p.1 < 64) ∧ (0 ≤ p.2 ∧ p.2 < 64)) ∧ Q (.lst ((once kP rs).map dP)) st) := by
  simp only [sortSetD, prsOf_map]
  by_cases hz : rs.length < 64 ∧ ∀ p ∈ rs, (0 ≤ p.1 ∧ p.1 < 64) ∧ (0 ≤ p.2 ∧ p.2 < 64)
  · rw [if_pos hz]
    exact propext ⟨fun h => ⟨hz, h⟩, fun h => h.2⟩
  · rw [if_neg hz]
    exact propext ⟨fun h => h.elim, fun h => hz h.1⟩
end
end Sm

namespace Sm
open PySem PySem.Spec PyProof.Rows L2
def opSlS : D → Option Int → Option Int → Sto → Rs
  | .str z, lo, hi, st => if z.length ≤ LIM then .ok (.str (cutS z lo hi)) st else .bad
  | _, _, _, _ => .bad
section
variable {X : Cx} {B : Bs} {Wx : WX} {a b : Expr} {f g : Ev} {pos : Pos} {st : Sto} {Q : D → Sto → Prop} {E : Str → Option (Str × D) → Sto → Prop}
variable {lo hi : Option Int}
theorem o_slS {x : Str} : RsP (opSlS (.str x) lo hi st) Q E = (x.length ≤ LIM ∧ Q (.str (cutS x lo hi)) st) := by
  show RsP (if _ then _ else _) Q E = _
  by_cases c : x.length ≤ LIM
  · rw [if_pos c]; simp only [c, true_and, RsP]
  · rw [if_neg c]; simp only [c, false_and]; rfl
end
end Sm

namespace Sm
open PySem PySem.Spec PyProof.Rows L2
def sExtD (i : Nat) (f : Ev) : Sv := fun r st => match r i with
  | some (true, .lst ds) => ofRs (f r st) r fun d st1 => match der st1 d with
    | .lst es => if ds.length + es.length ≤ LIM then .nx (r.set i (some (true, .lst (ds ++ es)))) st1 else .bad
    | _ => .bad
  | _ => .bad
section
variable {X : Cx} {B : Bs} {k : Kd} {fr : Bool} {Wx : WX} {a b c tg iter e elt : Expr} {es ifs : List Expr} {fs : List Ev} {f g h : Ev} {pos : Pos} {st1 st2 : Stmt} {rest body : List Stmt} {F F' : Sv} {t : Tg} {ts : List Tg} {it : Iv}
end
section
variable {N : Env → Sto → Prop} {R : D → Sto → Prop} {L : Bool → Env → Sto → Prop} {E : Str → Option (Str × D) → Env → Sto → Prop} {r : Env} {st : Sto} {f : Ev} {i : Nat}
theorem m_extD : RtP (sExtD i f r st) N R L E = match r i with
    | some (true, .lst ds) => RsP (f r st) (fun d st1 => derP st1 d fun d' => match d' with | .lst es => ds.length + es.length ≤ LIM ∧ N (r.set i (some (true, .lst (ds ++ es)))) st1 | _ => False) (fun c a st => E c a r st)
    | _ => False := by
  unfold sExtD
  split
  · rename_i ds _
    rw [w_of]
    congr 1; funext d st1
    unfold derP
    cases der st1 d <;> try rfl
    rename_i es
    by_cases z : ds.length + es.length ≤ LIM <;> simp [z, RtP]
  · rfl
end
end Sm

namespace Sm
open PySem PySem.Spec PyProof.Rows L2
mutual
def NKH (F : PySem.W.Frag) (H : Hp) : NestedKey → V → Prop
  | .none, v => v = .non
  | .num i, v => v = .int i
  | .text x, v => v = .str x
  | .tup ks, v => ∃ a vs, v = .ref a ∧ SqT F H a vs ∧ NKHs F H ks vs
def NKHs (F : PySem.W.Frag) (H : Hp) : List NestedKey → List V → Prop
  | [], vs => vs = []
  | k :: ks, vs => ∃ v r, vs = v :: r ∧ NKH F H k v ∧ NKHs F H ks r
end
mutual
theorem NK.h {F : PySem.W.Frag} {w : Wd} : ∀ (k : NestedKey) (v : V), NK F w k v → NKH F w.H k v
  | .none, v, h => by unfold NK at h; unfold NKH; exact h
  | .num i, v, h => by unfold NK at h; unfold NKH; exact h
  | .text y, v, h => by unfold NK at h; unfold NKH; exact h
  | .tup ks, v, h => by
    unfold NK at h
    unfold NKH
    obtain ⟨a, vs, e, t, r⟩ := h
    exact ⟨a, vs, e, t.sq, NKs.h ks vs r⟩
theorem NKs.h {F : PySem.W.Frag} {w : Wd} : ∀ (ks : List NestedKey) (vs : List V), NKs F w ks vs → NKHs F w.H ks vs
  | [], vs, h => by unfold NKs at h; unfold NKHs; exact h
  | k :: ks, vs, h => by
    unfold NKs at h
    unfold NKHs
    obtain ⟨v, r, e, h1, h2⟩ := h
    exact ⟨v, r, e, NK.h k v h1, NKs.h ks r h2⟩
end
section
variable {X : Cx} {pins : List (Addr × Obj)} {σ : L2.St} {H : Hp} {s : Shared}
mutual
theorem NKH.is (I : Inv X pins σ H s) : ∀ (k : NestedKey) (v : V) (u : Value), NKH X.K H k v → RelV v u → NestedIs s.heap k u
  | .none, v, u, h, r => by unfold NKH at h; subst h; obtain rfl : u = Value.none := r; exact .none
  | .num i, v, u, h, r => by unfold NKH at h; subst h; obtain ⟨t, rfl⟩ := r; exact .int i t
  | .text y, v, u, h, r => by unfold NKH at h; subst h; obtain ⟨t, rfl⟩ := r; exact .text y t
  | .tup ks, v, u, h, r => by
    unfold NKH at h
    obtain ⟨a, vs, rfl, t, hk⟩ := h
    obtain rfl : u = Value.ref a := r
    obtain ⟨its, rv, ⟨o, ho, hc, n, hd⟩, _⟩ := I.tuple t
    exact .tup ho hc hd (by simpa using NKHs.is I ks vs its hk rv)
theorem NKHs.is (I : Inv X pins σ H s) : ∀ (ks : List NestedKey) (vs : List V) (us : List Value), NKHs X.K H ks vs → Vals vs us → NestedAll s.heap ks us
  | [], vs, us, h, r => by unfold NKHs at h; subst h; cases r; exact .nil
  | k :: ks, vs, us, h, r => by
    unfold NKHs at h
    obtain ⟨v, vr, rfl, h1, h2⟩ := h
    cases r with
    | cons r1 r2 => exact .cons (NKH.is I k v _ h1 r1) (NKHs.is I ks vr _ h2 r2)
end
end
abbrev NX := List (NestedKey × Addr × Value)
structure NDat (X : Cx) (H : Hp) (a : Addr) (xs : NX) : Prop where
  rd : Rd H a (NDO X.prog X.w a xs)
  ks : ∀ x ∈ xs, NKH X.K H x.1 (.ref x.2.1) ∧ x.1.depth ≤ 8
section
variable {X : Cx} {pins : List (Addr × Obj)} {σ : L2.St} {H : Hp} {s : Shared} {a b : Addr} {xs : NX} {k : NestedKey} {A : Around} {E : Value → Shared → Prop}
theorem NDat.at_ (d : NDat X H a xs) (I : Inv X pins σ H s) : xs.length ≤ sizeLine ∧ (a == sysModules) = false ∧ s.heap.DictOfH (nestedKind X.prog X.w) a xs := by
  obtain ⟨⟨hl, hs, o, es, ep, ho, hx, hd, he, hn⟩, _⟩ := d.rd.ok I.hok
  refine ⟨hl, hs, o, es, ep, ho, hx, hd, he, fun x hx => ?_, hn⟩
  exact ⟨NKH.is I _ _ _ (d.ks x hx).1 rfl, (d.ks x hx).2⟩
theorem ndo_ok {P : Program} {W : World} {h : Heap} (z : ND0 P W a xs h) : ObjOk P W H h a (NDO P W a xs) := by
  refine ⟨z, ?_, fun h1 h2 p q => ?_⟩
  · obtain ⟨_, _, o, _, _, ho, _⟩ := z
    exact ⟨o, ho⟩
  · obtain ⟨hl, hs, o, es, ep, ho, r⟩ := p
    exact ⟨hl, hs, o, es, ep, q o ho, r⟩
theorem nd0_of {P : Program} {W : World} {h : Heap} (hl : xs.length ≤ sizeLine) (hs : (a == sysModules) = false) (d : h.DictOfH (nestedKind P W) a xs) : ND0 P W a xs h := by
  obtain ⟨o, es, ep, ho, hx, hd, he, _, hn⟩ := d
  exact ⟨hl, hs, o, es, ep, ho, hx, hd, he, hn⟩
theorem room_nk (hu : X.A.units + 64 < cLine) : (nestedKind X.prog X.w).room X.A.in1 := by
  show X.A.in1.units + 8 < cLine
  have : X.A.in1.units ≤ X.A.units + 1 := by simp [Around.in1, Around.units]
  omega
theorem nk_is (I : Inv X pins σ H s) (hk : NKH X.K H k (.ref b)) (hd : k.depth ≤ 8) : (nestedKind X.prog X.w).is s.heap k b := ⟨NKH.is I _ _ _ hk rfl, hd⟩
theorem storedH_len {v : Value} : (storedH xs k b v).length ≤ xs.length + 1 := by
  unfold storedH
  split
  · rw [List.length_map]; omega
  · simp
theorem n_setItem {v : V} {r : Value} {Q : Unit → Shared → Prop} (hu : X.A.units + 64 < cLine) (I : Inv X pins σ H s) (d : NDat X H a xs) (hm : H a = some (NDO X.prog X.w a xs)) (hk : NKH X.K H k (.ref b)) (hd : k.depth ≤ 8) (hz : xs.length < sizeLine)
    (h : ∀ s', Inv X pins σ (upd H a (NDO X.prog X.w a (storedH xs k b r))) s' → Q () s') : wpAny (model X.prog X.w) X.A (setItem (.ref a) (.ref b) r) Q E s := by
  obtain ⟨hl, hs, dd⟩ := d.at_ I
  refine wpAny_setItem_heap (hsz := hl) (room_nk hu) (nk_is I hk hd) dd fun h' dd' hs' => h _ ?_
  have ln := storedH_len (xs := xs) (k := k) (b := b) (v := r)
  have he : ∃ q, h'.get? a = some q := let ⟨q, _, _, hq, _⟩ := dd'; ⟨q, hq⟩
  exact d_write I (by rw [hm]; exact True.intro) hs' he (ndo_ok (nd0_of (by omega) hs dd'))
end
section
variable {X : Cx} {o i e value : Expr} {pos pos' tpos : Pos} {td ty tv : TE}
def sNPut (X : Cx) (td ty tv : TE) : TS := fun D σ H => tv σ H fun v H1 => td σ H1 fun x H2 => ty σ H2 fun y H3 => ∃ a b xs k, x = .ref a ∧ y = .ref b ∧ NDat X H3 a xs ∧ H3 a = some (NDO X.prog X.w a xs) ∧ NKH X.K H3 k (.ref b) ∧ k.depth ≤ 8 ∧ xs.length < sizeLine ∧
  ∀ r, RelV v r → D.nx σ (upd H3 a (NDO X.prog X.w a (storedH xs k b r)))
theorem ps_nput (hu : X.A.units + 64 < cLine) (ho : PE X o td) (hi : PE X i ty) (hv : PE X value tv) (hs : swapsWith value (some (.Subscript o i pos')) pos.line X.env = pure false) :
    PS X (.Assign [.Subscript o i pos'] value pos) (sNPut X td ty tv) := by
  refine ⟨fun pins s σ H D I h => ?_⟩
  refine wpAny_Assign_Subscript (thn (hv.run pins s σ H _ I h) fun r s1 ⟨v, H1, I1, rv, q1⟩ => thn (ho.run pins s1 σ H1 _ I1 q1) fun u s2 ⟨x, H2, I2, rx, q2⟩ => thn (hi.run pins s2 σ H2 _ I2 q2) fun iv s3 ⟨y, H3, I3, ry, a, b, xs, k, ex, ey, d, hm, hk, hd, hz, q3⟩ => ?_) hs
  subst ex ey
  obtain rfl : u = Value.ref a := rx
  obtain rfl : iv = Value.ref b := ry
  exact n_setItem (v := v) hu I3 d hm hk hd hz fun s4 I4 => ⟨σ, _, I4, q3 r rv⟩
def tNNew (X : Cx) : TE := fun _ H Q => ∀ p, H p = none → Q (.ref p) (upd H p (NDO X.prog X.w p []))
theorem pe_nnew : PE X (.Dict [] [] pos) (tNNew X) := ⟨fun pins s σ H Q I h =>
  wpAny_Dict_empty ⟨.ref s.heap.objs.size, _, I.laid (a := s.heap.objs.size) (o := NDO X.prog X.w s.heap.objs.size []) (t' := s.toks) (fun _ _ q => Heap.get?_push_of_some _ q) (Nat.le_refl _)
    (ndo_ok ⟨Nat.zero_le _, beq_eq_false_iff_ne.mpr (Ne.symm (Nat.ne_of_lt I.big)), _, #[], 0, Heap.get?_push_size _ rfl, ⟨rfl, rfl, rfl⟩, rfl, rfl, List.nodup_nil⟩), rfl, h _ (I.hok.fresh (Nat.le_refl _))⟩⟩
end
end Sm

namespace Sm
open PySem L2 PyProof.Rows
mutual
def nkOf : D → Option NestedKey
  | .non => some .none
  | .int i => some (.num i)
  | .str x => some (.text x)
  | .tup ds => (nksOf ds).map .tup
  | _ => none
def nksOf : List D → Option (List NestedKey)
  | [] => some []
  | d :: ds => match nkOf d, nksOf ds with
    | some k, some ks => some (k :: ks)
    | _, _ => none
end
mutual
theorem nkOf_eq : ∀ {d : D} {k : NestedKey}, nkOf d = some k → d = nkD k
  | .non, k, h => by simp only [nkOf, Option.some.injEq] at h; subst h; rfl
  | .int i, k, h => by simp only [nkOf, Option.some.injEq] at h; subst h; rfl
  | .str x, k, h => by simp only [nkOf, Option.some.injEq] at h; subst h; rfl
  | .tup ds, k, h => by
    simp only [nkOf, Option.map_eq_some_iff] at h
    obtain ⟨ks, h1, rfl⟩ := h
    rw [nksOf_eq h1]; rfl
  | .bl _, k, h => by simp [nkOf] at h
  | .lst _, k, h => by simp [nkOf] at h
  | .dct _ _, k, h => by simp [nkOf] at h
  | .ref _, k, h => by simp [nkOf] at h
  | .exc _ _, k, h => by simp [nkOf] at h
  | .frg _, k, h => by simp [nkOf] at h
theorem nksOf_eq : ∀ {ds : List D} {ks : List NestedKey}, nksOf ds = some ks → ds = nkDs ks
  | [], ks, h => by simp only [nksOf, Option.some.injEq] at h; subst h; rfl
  | d :: ds, ks, h => by
    unfold nksOf at h
    cases e1 : nkOf d with
    | none => rw [e1] at h; simp at h
    | some k =>
      cases e2 : nksOf ds with
      | none => rw [e1, e2] at h; simp at h
      | some ks' =>
        rw [e1, e2] at h
        simp only [Option.some.injEq] at h
        subst h
        show d :: ds = nkD k :: nkDs ks'
        rw [← nkOf_eq e1, ← nksOf_eq e2]
end
mutual
theorem nkOf_D : ∀ (k : NestedKey), nkOf (nkD k) = some k
  | .none => rfl
  | .num i => rfl
  | .text x => rfl
  | .tup ks => by
    show (nksOf (nkDs ks)).map NestedKey.tup = _
    rw [nksOf_D ks]; rfl
theorem nksOf_D : ∀ (ks : List NestedKey), nksOf (nkDs ks) = some ks
  | [] => rfl
  | k :: ks => by
    show nksOf (nkD k :: nkDs ks) = _
    unfold nksOf
    rw [nkOf_D k, nksOf_D ks]
end
mutual
theorem nk_rd {G : Cfg} {w : Wd} : ∀ (k : NestedKey) (v : V), RD G w (nkD k) v → NK G.K w k v
  | .none, v, h => by unfold nkD RD at h; unfold NK; exact h
  | .num i, v, h => by unfold nkD RD at h; unfold NK; exact h
  | .text x, v, h => by unfold nkD RD at h; unfold NK; exact h
  | .tup ks, v, h => by
    unfold nkD RD at h
    unfold NK
    obtain ⟨a, vs, e, t, r⟩ := h
    exact ⟨a, vs, e, t, nks_rd ks vs r⟩
theorem nks_rd {G : Cfg} {w : Wd} : ∀ (ks : List NestedKey) (vs : List V), RDs G w (nkDs ks) vs → NKs G.K w ks vs
  | [], vs, h => by unfold nkDs RDs at h; unfold NKs; exact h
  | k :: ks, vs, h => by
    unfold nkDs RDs at h
    unfold NKs
    obtain ⟨v, r, e, h1, h2⟩ := h
    exact ⟨v, r, e, nk_rd k v h1, nks_rd ks r h2⟩
end
mutual
theorem nk_dr {G : Cfg} {w : Wd} : ∀ (k : NestedKey) (v : V), NK G.K w k v → RD G w (nkD k) v
  | .none, v, h => by unfold NK at h; unfold nkD RD; exact h
  | .num i, v, h => by unfold NK at h; unfold nkD RD; exact h
  | .text x, v, h => by unfold NK at h; unfold nkD RD; exact h
  | .tup ks, v, h => by
    unfold NK at h
    unfold nkD RD
    obtain ⟨a, vs, e, t, r⟩ := h
    exact ⟨a, vs, e, t, nks_dr ks vs r⟩
theorem nks_dr {G : Cfg} {w : Wd} : ∀ (ks : List NestedKey) (vs : List V), NKs G.K w ks vs → RDs G w (nkDs ks) vs
  | [], vs, h => by unfold NKs at h; unfold nkDs RDs; exact h
  | k :: ks, vs, h => by
    unfold NKs at h
    unfold nkDs RDs
    obtain ⟨v, r, e, h1, h2⟩ := h
    exact ⟨v, r, e, nk_dr k v h1, nks_dr ks r h2⟩
end
def tkOf (d : D) : Option NestedKey := match d with
  | .tup ds => (nkOf (.tup ds)).bind fun k => if k.depth ≤ 8 then some k else none
  | _ => none
theorem tkOf_eq {d : D} {k : NestedKey} (h : tkOf d = some k) : d = nkD k ∧ k.depth ≤ 8 ∧ ∃ ds, d = .tup ds := by
  cases d with
  | tup ds =>
    unfold tkOf at h
    obtain ⟨k', h1, h2⟩ := Option.bind_eq_some_iff.mp h
    by_cases z : k'.depth ≤ 8
    · rw [if_pos z] at h2
      cases h2
      exact ⟨nkOf_eq h1, z, ds, rfl⟩
    · rw [if_neg z] at h2; cases h2
  | _ => simp [tkOf] at h
theorem tk_rq {G : Cfg} {w : Wd} {d : D} {k : NestedKey} {v : V} (h : tkOf d = some k) (r : RQ G w d v) : ∃ b, v = .ref b ∧ NK G.K w k (.ref b) ∧ k.depth ≤ 8 := by
  obtain ⟨e, hd, ds, e2⟩ := tkOf_eq h
  have rd : RD G w d v := by
    rcases r with r | ⟨_, _, c⟩
    · exact r
    · rw [e2] at c; exact (show False from c).elim
  have rv := rd
  rw [e2] at rv
  unfold RD at rv
  obtain ⟨a, vs, rfl, _⟩ := rv
  rw [e] at rd
  exact ⟨a, rfl, nk_rd k _ rd, hd⟩
def ngetL (ks ds : List D) (k : NestedKey) : Option D := ((ks.zip ds).find? fun p => decide (nkOf p.1 = some k)).map (·.2)
def nhas (ks : List D) (k : NestedKey) : Bool := ks.any fun a => decide (nkOf a = some k)
def nputK (ks : List D) (k : NestedKey) : List D := if nhas ks k = true then ks else ks ++ [nkD k]
def nputV (ks ds : List D) (k : NestedKey) (d : D) : List D := if nhas ks k = true then (ks.zip ds).map (fun p => if nkOf p.1 = some k then d else p.2) else ds ++ [d]
def ndropK (ks : List D) (k : NestedKey) : List D := ks.filter fun a => decide (nkOf a ≠ some k)
def ndropV (ks ds : List D) (k : NestedKey) : List D := ((ks.zip ds).filter fun p => decide (nkOf p.1 ≠ some k)).map (·.2)
theorem nhas_at {k : NestedKey} : ∀ {xs : NX}, nhas (xs.map fun x => nkD x.1) k = (atKey xs k).isSome
  | [] => rfl
  | x :: xs => by
    have ih := nhas_at (k := k) (xs := xs)
    unfold nhas at ih ⊢
    by_cases z : x.1 = k
    · simp [atKey, List.find?_cons, z, nkOf_D]
    · have e2 : atKey (x :: xs) k = atKey xs k := by simp [atKey, List.find?_cons, z]
      rw [e2, ← ih]
      simp [nkOf_D, z]
theorem nput_rd {G : Cfg} {w : Wd} {k : NestedKey} {b : Addr} {d : D} {v : V} {r : Value} {xs : NX} {ds : List D} {vs : List V} (hv : Vals vs (xs.map (·.2.2))) (rs : RDs G w ds vs) (rd : RD G w d v) (rv : RelV v r) :
    ∃ vs', Vals vs' ((storedH xs k b r).map (·.2.2)) ∧ RDs G w (nputV (xs.map fun x => nkD x.1) ds k d) vs' ∧ nputK (xs.map fun x => nkD x.1) k = (storedH xs k b r).map fun x => nkD x.1 := by
  unfold nputV nputK storedH
  rw [nhas_at]
  by_cases z : (atKey xs k).isSome = true
  · rw [if_pos z, if_pos z, if_pos z]
    refine ⟨(xs.zip vs).map fun p => if p.1.1 = k then v else p.2, ?_, ?_, ?_⟩
    · clear z rs
      induction xs generalizing vs with
      | nil => simp; exact .nil
      | cons x xs ih =>
        cases vs with
        | nil => cases hv
        | cons v0 vs =>
          cases hv with
          | cons r1 r2 =>
            simp only [List.zip_cons_cons, List.map_cons]
            refine .cons ?_ (ih r2)
            unfold putAt
            by_cases y : x.1 = k
            · simp only [y, if_true]; exact rv
            · simp only [y, if_false]; exact r1
    · clear z
      induction xs generalizing vs ds with
      | nil => simp; unfold RDs; rfl
      | cons x xs ih =>
        cases vs with
        | nil => cases hv
        | cons v0 vs =>
          cases ds with
          | nil => unfold RDs at rs; cases rs
          | cons d0 ds =>
            unfold RDs at rs
            obtain ⟨v', r', e, h1, h2⟩ := rs
            simp only [List.cons.injEq] at e
            obtain ⟨rfl, rfl⟩ := e
            cases hv with
            | cons r1 r2 =>
              simp only [List.zip_cons_cons, List.map_cons, nkOf_D, Option.some.injEq]
              unfold RDs
              refine ⟨_, _, rfl, ?_, ih r2 h2⟩
              by_cases y : x.1 = k
              · simp only [y, if_true]; exact rd
              · simp only [y, if_false]; exact h1
    · rw [List.map_map]
      refine List.map_congr_left fun x _ => ?_
      simp only [Function.comp, putAt]
      split <;> rfl
  · rw [if_neg z, if_neg z, if_neg z]
    refine ⟨vs ++ [v], ?_, RDs.append rs (RDs.one rd), by simp⟩
    rw [List.map_append]
    exact Vals.append hv (.cons rv .nil)
end Sm

namespace Sm
open PySem L2 PyProof.Rows
theorem DcO.nd {G : Cfg} {w : Wd} {a : Addr} {ks : List D} {vs : List V} {o : HO} (h : DcO G w a (.non :: ks) vs o) : ∃ xs : NX, o = NDO G.P G.w a xs ∧ ks = xs.map (fun x => nkD x.1) ∧ Vals vs (xs.map (·.2.2)) ∧ ∀ x ∈ xs, NK G.K w x.1 (.ref x.2.1) ∧ x.1.depth ≤ 8 := by
  rcases h with ⟨kvs, _, e, _⟩ | ⟨xs, e1, e2, e3, e4⟩
  · cases kvs with
    | nil => simp at e
    | cons p kvs => simp only [List.map_cons, List.cons.injEq] at e; obtain ⟨e, _⟩ := e; cases h : p.1 <;> rw [h] at e <;> cases e
  · simp only [List.cons.injEq, true_and] at e2
    exact ⟨xs, e1, e2, e3, e4⟩
theorem RQ.nd {G : Cfg} {w : Wd} {ks ds : List D} {v : V} (h : RQ G w (.dct (.non :: ks) ds) v) : ∃ a vs xs, v = .ref a ∧ Rd w.H a (NDO G.P G.w a xs) ∧ ks = xs.map (fun x => nkD x.1) ∧ Vals vs (xs.map (·.2.2)) ∧ (∀ x ∈ xs, NK G.K w x.1 (.ref x.2.1) ∧ x.1.depth ≤ 8) ∧ RDs G w ds vs := by
  obtain ⟨a, vs, o, rfl, e, q, r⟩ := h.dct
  obtain ⟨xs, rfl, e1, e2, e3⟩ := q.nd
  exact ⟨a, vs, xs, rfl, e, e1, e2, e3, r⟩
def opNget : D → D → Sto → Rs
  | .dct (.non :: ks) ds, j, st => (match tkOf j with
    | some k => (match ngetL ks ds k with | some d => .ok d st | none => .bad)
    | none => .bad)
  | _, _, _ => .bad
def opInN (neg : Bool) (a b : D) (st : Sto) : Rs := match b with
  | .dct (.non :: ks) _ => (match tkOf a with
    | some k => .ok (.bl (neg ^^ nhas ks k)) st
    | none => .bad)
  | _ => .bad
section
variable {X : Cx} {B : Bs} {k : Kd} {fr : Bool} {Wx : WX} {a b c : Expr} {f g h : Ev} {pos : Pos}
theorem ndat_of {w : Wd} {p : Addr} {xs : NX} (e : Rd w.H p (NDO (cg X).P (cg X).w p xs)) (h : ∀ x ∈ xs, NK (cg X).K w x.1 (.ref x.2.1) ∧ x.1.depth ≤ 8) : NDat X w.H p xs := ⟨e, fun x hx => ⟨NK.h _ _ (h x hx).1, (h x hx).2⟩⟩
def bDctN : Ev := fun _ st => .ok (.dct [.non] []) st
theorem je_dctN : JE X B .fr Wx (.Dict [] [] pos) bDctN := by
  refine pe_imp pe_nnew ?_
  rintro s H Q ⟨O, r, st, w, rfl, R, q⟩ p hp
  exact post.own R (Ext.refl w) q hp fun w' e k => ⟨NDO (cg X).P (cg X).w p [], [], e, .inr ⟨[], rfl, rfl, .nil, fun x hx => nomatch hx⟩, by unfold RDs; rfl⟩
theorem storedH_nk {G : Cfg} {w : Wd} {xs : NX} {k : NestedKey} {b : Addr} {r : Value} (h : ∀ x ∈ xs, NK G.K w x.1 (.ref x.2.1) ∧ x.1.depth ≤ 8) (hk : NK G.K w k (.ref b)) (hd : k.depth ≤ 8) : ∀ x ∈ storedH xs k b r, NK G.K w x.1 (.ref x.2.1) ∧ x.1.depth ≤ 8 := by
  intro x hx
  unfold storedH at hx
  split at hx
  · obtain ⟨y, hy, rfl⟩ := List.mem_map.mp hx
    unfold putAt
    split
    · exact h y hy
    · exact h y hy
  · rcases List.mem_append.mp hx with hx | hx
    · exact h x hx
    · rw [List.mem_singleton.mp hx]
      exact ⟨hk, hd⟩
def sNPutD (i : Nat) (g f : Ev) : Sv := fun r st => ofRs (f r st) r fun d st1 => match r i with
  | some (true, .dct (.non :: ks) ds) => ofRs (g r st1) r fun j st2 => (match tkOf j with
    | some k => if ks.length < LIM then .nx (r.set i (some (true, .dct (.non :: nputK ks k) (nputV ks ds k d)))) st2 else .bad
    | none => .bad)
  | _ => .bad
theorem js_nput {i : Nat} {x : Str} {p tp : Pos} (hu : X.A.units + 64 < cLine) (hN : X.N[i]? = some x) (hv : Vis X.env.scope x) (he : JE X B .sh Wx a f) (hb : JE X B .sh Wx b g) (hd : (x == ("__debug__" : Str)) = false := by decide) (hcd : (x == ("__classdict__" : Str)) = false := by decide)
    (hs : swapsWith a (some (.Subscript (.Name x p) b tp)) pos.line X.env = pure false := by rfl) :
    JS X B fr Wx (.Assign [.Subscript (.Name x p) b tp] a pos) (sNPutD i g f) := by
  refine ps_imp (ps_nput hu (pe_var (pos := p) hN hv hd hcd) hb he hs) ?_
  intro D s H q
  obtain ⟨O, r, st, w, e, R, q⟩ := tS_of (k := .sh) q
  refine ⟨O, r, st, w, e, R, q.mono ?_⟩
  rintro v H1 ⟨O1, r1, w0, d, st1, w1, rfl, R1, x1, ⟨_, R0⟩, rr, q1⟩
  have en := R1.env i
  cases z : r1 i with
  | none => rw [z] at q1; exact q1.elim
  | some bd =>
    obtain ⟨bb, d0⟩ := bd
    cases bb with
    | false => rw [z] at q1; exact (show False from q1).elim
    | true =>
      cases d0 with
      | dct ks0 ds =>
        cases ks0 with
        | nil => rw [z] at q1; exact (show False from q1).elim
        | cons t ks =>
          cases t with
          | non =>
            rw [z] at q1 en
            obtain ⟨al, oi, es, o0, vs, hl, dq, rs⟩ := en
            have q2 : postS (cg X) B fr Wx w0 (ofRs (g r1 st1) r1 fun j st2 => (match tkOf j with
              | some k => if ks.length < LIM then .nx (r1.set i (some (true, .dct (.non :: nputK ks k) (nputV ks ds k d)))) st2 else .bad
              | none => .bad)) D := q1
            refine ⟨.ref al, es, O1, r1, st1, w1, rfl, R1, ?_⟩
            cases zg : g r1 st1 with
            | ok j st2 =>
              rw [zg] at q2
              intro w2 u R2 x2 rj
              have q2 : postS (cg X) B fr Wx w0 (match tkOf j with
                | some k => if ks.length < LIM then .nx (r1.set i (some (true, .dct (.non :: nputK ks k) (nputV ks ds k d)))) st2 else .bad
                | none => .bad) D := q2
              have own1 := R1.own i al oi
              have own2 := R2.own i al oi
              have hl2 : w2.H al = some o0 := (x2.hk al (by rw [hl]; simp) (.inl own1.2.1)).trans hl
              cases ek : tkOf j with
              | none => rw [ek] at q2; exact q2.elim
              | some k =>
                simp only [ek] at q2
                by_cases hk : ks.length < LIM
                · rw [if_pos hk] at q2
                  obtain ⟨xs, rfl, rfl, hvs, hx⟩ := dq.nd
                  have lm := LIM_le
                  rw [List.length_map] at hk
                  obtain ⟨pb, rfl, hkk, hd8⟩ := tk_rq ek (.inl rj)
                  have m2 := own2.1
                  have hx2 : ∀ x ∈ xs, NK (cg X).K w2 x.1 (.ref x.2.1) ∧ x.1.depth ≤ 8 := fun x h => ⟨NK.wk (x2.wk R1.wf) _ _ (hx x h).1, (hx x h).2⟩
                  refine ⟨al, pb, xs, k, rfl, rfl, ndat_of (.inl hl2) hx2, hl2, NK.h _ _ hkk, hd8, by omega, fun rv hrv => ?_⟩
                  have kc : Wk w2 (w2.chg al (NDO X.prog X.w al (storedH xs k pb rv))) := Wd.chg_wk m2
                  have kk := (x2.wk R1.wf).trans kc
                  obtain ⟨vs', i1, i2, i3⟩ := nput_rd (b := pb) (k := k) hvs (RDs.wk kk _ _ rs) (RD.wk kk _ _ rr) hrv
                  refine q2 O1 s (w2.chg al _) (R2.chgOwn z oi ⟨_, vs', upd_same, .inr ⟨storedH xs k pb rv, rfl, by rw [i3], i1, ?_⟩, i2⟩) (((x1.wk R0.wf).trans (x2.wk R1.wf)).trans kc)
                  exact storedH_nk (fun x h => ⟨NK.wk kc _ _ (hx2 x h).1, (hx2 x h).2⟩) (NK.wk kc _ _ hkk) hd8
                · rw [if_neg hk] at q2; exact q2.elim
            | err cc aa st2 => rw [zg] at q2; exact fun w' cls dd R' x' rx => q2 O1 s w' cls dd R' ((x1.wk R0.wf).trans (x'.wk R1.wf)) rx
            | bad => rw [zg] at q2; exact q2.elim
          | _ => rw [z] at q1; exact (show False from q1).elim
      | _ => rw [z] at q1; exact (show False from q1).elim
end
section
variable {N : Env → Sto → Prop} {R : D → Sto → Prop} {L : Bool → Env → Sto → Prop} {E : Str → Option (Str × D) → Env → Sto → Prop} {E' : Str → Option (Str × D) → Sto → Prop} {Q : D → Sto → Prop} {r : Env} {st : Sto} {f g : Ev} {i : Nat} {ks ds : List D} {j : D}
theorem o_nget : RsP (opNget (.dct (.non :: ks) ds) j st) Q E' = ∃ k, tkOf j = some k ∧ ∃ d, ngetL ks ds k = some d ∧ Q d st := by
  simp only [opNget]
  cases tkOf j with
  | none => simp [RsP]
  | some k => cases h : ngetL ks ds k <;> simp [RsP, h]
theorem dr_nget {a b : D} : RsP (drOp opNget a b st) Q E' = derP st a fun a' => derP st b fun b' => RsP (opNget a' b' st) Q E' := rfl
theorem o_inN {neg : Bool} : RsP (opInN neg j (.dct (.non :: ks) ds) st) Q E' = ∃ k, tkOf j = some k ∧ Q (.bl (neg ^^ nhas ks k)) st := by
  simp only [opInN]
  cases tkOf j <;> simp [RsP]
theorem dr_inN {neg : Bool} {a b : D} : RsP (drOp (opInN neg) a b st) Q E' = derP st b fun b' => RsP (opInN neg (der st a) b' st) Q E' := rfl
theorem w_dctN : RsP (bDctN r st) Q E' = Q (.dct [.non] []) st := rfl
theorem m_nput : RtP (sNPutD i g f r st) N R L E = RsP (f r st) (fun d st1 => match r i with
    | some (true, .dct (.non :: ks) ds) => RsP (g r st1) (fun j st2 => ∃ k, tkOf j = some k ∧ ks.length < LIM ∧ N (r.set i (some (true, .dct (.non :: nputK ks k) (nputV ks ds k d)))) st2) (fun c a st => E c a r st)
    | _ => False) (fun c a st => E c a r st) := by
  unfold sNPutD
  rw [w_of]
  congr 1; funext d st1
  split
  · rw [w_of]
    congr 1; funext j st2
    cases tkOf j with
    | none => simp [RtP]
    | some k => rename_i ks ds _; by_cases z : ks.length < LIM <;> simp [z, RtP]
  · rfl
end
end Sm

namespace Sm
open PySem PySem.Spec PyProof.Rows L2
variable {X : Cx} {B : Bs} {Wx : WX} {a b : Expr} {f g : Ev} {pos : Pos}
def opRep : D → D → Sto → Rs
  | .lst ds, .int k, st => if (-1000 ≤ k ∧ k ≤ 1000) ∧ ds.length ≤ 1000 then .ok (.lst (List.replicate k.toNat ds).flatten) st else .bad
  | _, _, _ => .bad
section
variable {st : Sto} {Q : D → Sto → Prop} {E : Str → Option (Str × D) → Sto → Prop}
theorem o_rep {xs : List D} {k : Int} : RsP (opRep (.lst xs) (.int k) st) Q E = (((-1000 ≤ k ∧ k ≤ 1000) ∧ xs.length ≤ 1000) ∧ Q (.lst (List.replicate k.toNat xs).flatten) st) := by
  show RsP (if (-1000 ≤ k ∧ k ≤ 1000) ∧ xs.length ≤ 1000 then .ok _ st else .bad) Q E = _
  by_cases z : (-1000 ≤ k ∧ k ≤ 1000) ∧ xs.length ≤ 1000
  · rw [if_pos z]
    show Q _ _ = _
    simp only [z, true_and, and_true]
  · rw [if_neg z]
    show False = _
    exact propext ⟨False.elim, fun h => z h.1⟩
end
end Sm

namespace Sm
open PySem PySem.Spec PyProof.Rows L2
section
variable {X : Cx} {B : Bs} {Wx : WX}
noncomputable def fSortN : List D → Sto → Rs
  | [.dct (.non :: ks) _], st => match prsOf ks with
    | some ps => .ok (.lst ((srt kP ps).map dP)) st
    | none => .bad
  | _, _ => .bad
section
variable {st : Sto} {Q : D → Sto → Prop} {E : Str → Option (Str × D) → Sto → Prop}
theorem f_sortN {ps : List (Int × Int)} {ds : List D} : RsP (fSortN [.dct (.non :: ps.map dP) ds] st) Q E = Q (.lst ((srt kP ps).map dP)) st := by
  simp only [fSortN, prsOf_map]
  rfl
end
end
end Sm

namespace Sm
open PySem PySem.Spec PyProof.Rows L2
section
variable {prog : Program} {w : World} {A : Around} {E : Value → Shared → Prop} {s : Shared}
variable {z TI TO T i1 i2 l1 l2 : Addr} {g : Bool} {j1 j2 : Nat} {us vs : Array Value} {u v c0 d0 : Value}
end
end Sm

namespace Sm
open PySem PySem.Spec PyProof.Rows L2
end Sm

namespace Sm
open PySem PySem.Spec PyProof.Rows L2
def zipN : D → D → Sto → RsI
  | .lst xs, .lst ys, st => zipS (.lst xs) (.lst ys) st
  | _, _, _ => .bad
def itZipN (f g : Ev) : Iv := fun r st => match f r st with
  | .ok d st1 => match g r st1 with
    | .ok d2 st2 => zipN d d2 st2
    | .err c a st1 => .err c a st1
    | .bad => .bad
  | .err c a st1 => .err c a st1
  | .bad => .bad
section
variable {X : Cx} {B : Bs} {Wx : WX} {a b : Expr} {f g : Ev} {pos : Pos}
variable {r : Env} {st : Sto} {E' : Str → Option (Str × D) → Sto → Prop}
theorem wi_zipN {QL : List D → Gd → Sto → Prop} : RsIP (itZipN f g r st) QL E' = RsP (f r st) (fun d st1 => RsP (g r st1) (fun d2 st2 => match d, d2 with | .lst xs, .lst ys => QL (zipd xs ys) [] st2 | _, _ => False) E') E' := by
  unfold itZipN
  cases f r st <;> try rfl
  rename_i d st1
  simp only [RsP]
  cases g r st1 <;> try rfl
  rename_i d2 st2
  cases d <;> cases d2 <;> rfl
end
end Sm

namespace Sm
open PySem PySem.Spec PyProof.Rows L2
mutual
def noTx : NestedKey → Bool
  | .none => true
  | .num _ => true
  | .text _ => false
  | .tup ks => noTxs ks
def noTxs : List NestedKey → Bool
  | [] => true
  | k :: ks => noTx k && noTxs ks
end
structure NI (h : Heap) (q : NestedKey) (z : Addr) : Prop where
  is : NestedIs h q (.ref z)
  dp : q.depth ≤ 8
  nt : noTx q = true
section
variable {P : Program} {w : World} {A : Around} {E : Value → Shared → Prop} {s : Shared}
def Says (P : Program) (w : World) (m : Sem Bool) (b : Bool) (s : Shared) : Prop := ∀ (A : Around) (E : Value → Shared → Prop) (Q : Bool → Shared → Prop), Q b s → wpAny (model P w) A m Q E s
theorem Says.pure {b : Bool} : Says P w (Pure.pure b) b s := fun _ _ _ h => wpAny_pure h
mutual
theorem byV_key : ∀ (q : NestedKey) (v : Value) (n : Nat) (s : Shared), NestedIs s.heap q v → q.depth ≤ n → noTx q = true → Says P w (hashByValue n v) true s
  | .none, _, n, s, x, _, _ => by cases x; cases n <;> exact Says.pure
  | .num i, _, n, s, x, _, _ => by cases x <;> cases n <;> exact Says.pure
  | .text y, _, n, s, x, _, h => by simp [noTx] at h
  | .tup ks, _, n, s, x, hn, h => by
    cases x with
    | @tup l ob its m _ hg hc hd hk =>
      simp only [NestedKey.depth] at hn
      cases n with
      | zero => omega
      | succ n =>
        intro A E Q hq
        have ty : s.TypeIs (.ref l) "tuple" := ⟨ob, hg, hc⟩
        have all := byV_keys ks its.toList n s hk (by omega) (by simpa [noTx] using h)
        unfold hashByValue
        refine wpAny_bind (wpAny_specialOf ty F.slot_tuple_hash.lookup ?_)
        show wpAny _ _ (seqItems? (.ref l) >>= _) _ _ s
        refine wpAny_bind (wpAny_seqItems hg hd (wpAny_bind ?_))
        show wpAny _ _ (forIn its _ _) _ _ s
        rw [← Array.forIn_toList]
        refine wpAny_forIn_list _ (fun left r s1 => r.1 = none ∧ s1 = s ∧ ∀ v ∈ left, Says P w (hashByValue n v) true s) _ ?_ ?_ _ _ ⟨rfl, rfl, all⟩
        · rintro v left r s1 ⟨hr, rfl, each⟩
          refine wpAny_bind (each v List.mem_cons_self _ _ _ ?_)
          simp only [Bool.not_true, Bool.false_eq_true, if_false]
          exact wpAny_pure ⟨rfl, rfl, fun u hu => each u (List.mem_cons_of_mem _ hu)⟩
        · rintro ⟨r1, r2⟩ s1 ⟨hr, rfl, _⟩
          simp only at hr
          subst hr
          exact wpAny_pure hq
theorem byV_keys : ∀ (ks : List NestedKey) (vs : List Value) (n : Nat) (s : Shared), NestedAll s.heap ks vs → NestedKey.depthAll ks ≤ n → noTxs ks = true → ∀ v ∈ vs, Says P w (hashByValue n v) true s
  | [], _, n, s, x, _, _, v, hv => by cases x; cases hv
  | k :: ks, _, n, s, x, hn, h, v, hv => by
    cases x with
    | cons x1 x2 =>
      simp only [NestedKey.depthAll] at hn
      simp only [noTxs, Bool.and_eq_true] at h
      rcases List.mem_cons.mp hv with rfl | hv
      · exact byV_key k _ n s x1 (by omega) h.1
      · exact byV_keys ks _ n s x2 (by omega) h.2 v hv
end
mutual
theorem noC_key : ∀ (q : NestedKey) (v : Value) (n : Nat) (s : Shared), NestedIs s.heap q v → q.depth ≤ n → Says P w (ofAClassStatement n v) false s
  | .none, _, n, s, x, _ => by cases x; cases n <;> exact Says.pure
  | .num i, _, n, s, x, _ => by cases x <;> cases n <;> exact Says.pure
  | .text y, _, n, s, x, _ => by cases x; cases n <;> exact Says.pure
  | .tup ks, _, n, s, x, hn => by
    cases x with
    | @tup l ob its m _ hg hc hd hk =>
      simp only [NestedKey.depth] at hn
      cases n with
      | zero => omega
      | succ n =>
        intro A E Q hq
        have ty : s.TypeIs (.ref l) "tuple" := ⟨ob, hg, hc⟩
        have all := noC_keys ks its.toList n s hk (by omega)
        unfold ofAClassStatement
        refine wpAny_bind (wpAny_typeOf ty ?_)
        dsimp only
        have e0 : (("tuple" : String) == "tuple") = true := by decide
        simp only [e0, if_true, Bool.not_true, Bool.false_eq_true, if_false]
        try refine wpAny_bind (wpAny_pure ?_)
        try simp only [Bool.not_true, Bool.false_eq_true, if_false]
        show wpAny _ _ (seqItems? (.ref l) >>= _) _ _ s
        refine wpAny_bind (wpAny_seqItems hg hd ?_)
        dsimp only
        refine wpAny_bind ?_
        show wpAny _ _ (forIn its _ _) _ _ s
        rw [← Array.forIn_toList]
        refine wpAny_forIn_list _ (fun left r s1 => r.1 = none ∧ s1 = s ∧ ∀ v ∈ left, Says P w (ofAClassStatement n v) false s) _ ?_ ?_ _ _ ⟨rfl, rfl, all⟩
        · rintro v left r s1 ⟨hr, rfl, each⟩
          refine wpAny_bind (each v List.mem_cons_self _ _ _ ?_)
          simp only [Bool.false_eq_true, if_false]
          exact wpAny_pure ⟨rfl, rfl, fun u hu => each u (List.mem_cons_of_mem _ hu)⟩
        · rintro ⟨r1, r2⟩ s1 ⟨hr, rfl, _⟩
          simp only at hr
          subst hr
          exact wpAny_pure hq
theorem noC_keys : ∀ (ks : List NestedKey) (vs : List Value) (n : Nat) (s : Shared), NestedAll s.heap ks vs → NestedKey.depthAll ks ≤ n → ∀ v ∈ vs, Says P w (ofAClassStatement n v) false s
  | [], _, n, s, x, _, v, hv => by cases x; cases hv
  | k :: ks, _, n, s, x, hn, v, hv => by
    cases x with
    | cons x1 x2 =>
      simp only [NestedKey.depthAll] at hn
      rcases List.mem_cons.mp hv with rfl | hv
      · exact noC_key k _ n s x1 (by omega)
      · exact noC_keys ks _ n s x2 (by omega) v hv
end
theorem NI.hb {q : NestedKey} {z : Addr} (d : NI s.heap q z) : Says P w (hashByValue 8 (.ref z)) true s := byV_key q _ 8 s d.is d.dp d.nt
theorem NI.oc {q : NestedKey} {z : Addr} (d : NI s.heap q z) : Says P w (ofAClassStatement 8 (.ref z)) false s := noC_key q _ 8 s d.is d.dp
theorem NI.quiet {q : NestedKey} {z : Addr} (d : NI s.heap q z) : Says P w (eqIsQuiet 8 (.ref z)) true s := quiet_key q _ 8 s d.is d.dp
theorem NI.keep {h h' : Heap} {q : NestedKey} {z : Addr} (d : NI h q z) (k : ∀ b o, h.get? b = some o → h'.get? b = some o) : NI h' q z := ⟨NestedIs.at (fun b o _ _ e _ => k b o e) _ _ d.is, d.dp, d.nt⟩
theorem NI.inj {h : Heap} {q r : NestedKey} {z : Addr} (d : NI h q z) (e : NI h r z) : q = r := NestedIs.inj _ _ _ d.is e.is
theorem NI.apart {h h' : Heap} {q : NestedKey} {z S : Addr} {o : Obj} {rs : Array (Int × Value)} {vn : Nat} {tb : SetTable} (d : NI h q z) (ho : h.get? S = some o) (hd : o.data = .set rs vn tb) (hs : Heap.SameBut S h h') : NI h' q z :=
  ⟨NestedIs.at (fun b ob vs n e c => (hs.2 b (fun z => by
    subst z
    rw [ho] at e
    cases e
    rw [hd] at c
    cases c)).trans e) _ _ d.is, d.dp, d.nt⟩
theorem unseen {q : NestedKey} {z : Addr} (d : NI s.heap q z) {ys : List Value} (hy : ∀ y ∈ ys, ∃ r c, y = Value.ref c ∧ NI s.heap r c) : Says P w (searchCouldBeSeen (.ref z) ys) false s := by
  intro A E Q h
  unfold searchCouldBeSeen
  refine wpAny_bind ?_
  refine wpAny_forIn_list _ (fun left r s1 => r.1 = none ∧ s1 = s ∧ ∀ y ∈ left, ∃ r c, y = Value.ref c ∧ NI s.heap r c) _ ?_ ?_ _ _ ⟨rfl, rfl, hy⟩
  · rintro v left r s1 ⟨hr, rfl, each⟩
    obtain ⟨r', c, rfl, hc⟩ := each v List.mem_cons_self
    have each' := fun y hy => each y (List.mem_cons_of_mem _ hy)
    dsimp only
    by_cases hv : (z == c || (carriedByValue (.ref z) && carriedByValue (.ref c))) = true
    · exact wp_if_pos hv (wpAny_pure ⟨rfl, rfl, each'⟩)
    · refine wp_if_neg hv (wpAny_bind (d.quiet _ _ _ ?_))
      simp only [Bool.not_true, Bool.false_eq_true, if_false]
      refine wpAny_bind (hc.quiet _ _ _ ?_)
      simp only [Bool.not_true, Bool.false_eq_true, if_false]
      refine wpAny_bind (d.oc _ _ _ ?_)
      simp only [Bool.false_eq_true, if_false]
      refine wpAny_bind (hc.oc _ _ _ ?_)
      simp only [Bool.false_eq_true, if_false]
      exact wpAny_pure ⟨rfl, rfl, each'⟩
  · rintro ⟨r1, r2⟩ s1 ⟨hr, rfl, _⟩
    simp only at hr
    subst hr
    exact wpAny_pure h
abbrev ML := List (Addr × NestedKey)
def rowN (w : World) (p : Addr × NestedKey) : Int × Value := (p.2.hash w, .ref p.1)
def hsN (w : World) (M : ML) : List Int := M.map fun p => p.2.hash w
structure SN (w : World) (h : Heap) (S : Addr) (M : ML) (rs : Array (Int × Value)) (vn : Nat) (tb : SetTable) : Prop where
  ob : ∃ o, h.get? S = some o ∧ o.ExactSet ∧ o.data = .set rs vn tb
  rows : rs.toList = M.map (rowN w)
  tab : TabOk tb (hsN w M)
  nd : (M.map (·.2)).Nodup
  mem : ∀ p ∈ M, NI h p.2 p.1
  plain : tb.plain = true
  led : w.params.followText "set-order" = true ∨ tb.led = true
  room : M.length * 5 < tb.mask * 3
  few : M.length < 64
variable {S : Addr} {M : ML} {rs : Array (Int × Value)} {vn : Nat} {tb : SetTable}
theorem rows_len (h : rs.toList = M.map (rowN w)) : rs.size = M.length := by
  have := congrArg List.length h
  rwa [Array.length_toList, List.length_map] at this
theorem hsN_len : (hsN w M).length = M.length := List.length_map ..
theorem fits_of (h1 : tb.place.size = rs.size) (h2 : tb.dummies = #[]) (h3 : rs.size ≤ tb.mask) : tb.fits rs.size = true := by
  unfold SetTable.fits SetTable.fill
  rw [h2, Bool.and_eq_true, beq_iff_eq, decide_eq_true_eq]
  show tb.place.size = rs.size ∧ tb.place.size + 0 ≤ tb.mask
  omega
theorem SN.size (R : SN w s.heap S M rs vn tb) : rs.size = M.length := rows_len R.rows
theorem SN.fits (R : SN w s.heap S M rs vn tb) : tb.fits rs.size = true := by
  have h1 := R.tab.sz
  rw [hsN_len] at h1
  have h2 := R.size
  have h3 := R.room
  exact fits_of (by omega) R.tab.dm (by omega)
theorem row_at (h : rs.toList = M.map (rowN w)) {i : Nat} {p : Addr × NestedKey} (e : M[i]? = some p) : rs[i]? = some (rowN w p) := by
  rw [← Array.getElem?_toList, h, List.getElem?_map, e]; rfl
theorem SN.gw (R : SN w s.heap S M rs vn tb) : ¬ tb.gaveWay = true := by
  unfold SetTable.gaveWay
  rw [mask_odd R.tab.mok]
  decide
def beg (tb : SetTable) (H : Int) : SetTable.Probe := runAt tb.mask (SetTable.bits H % (tb.mask + 1)) (SetTable.bits H)
theorem nth_dummy {m : Nat} : ∀ (n : Nat) (p : SetTable.Probe), p.dummy = none → (nth m p n).dummy = none
  | 0, p, h => h
  | n + 1, p, h => nth_dummy n (adv m p) (by unfold adv; split <;> exact h)
theorem nsearch (R : SN w s.heap S M rs vn tb) {z : Addr} {q : NestedKey} (hz : NI s.heap q z) (hu : A.units + 8 < cLine) {n : Nat} (nf : n < 10 * SetTable.turns tb.mask)
    (out : way tb.mask (q.hash w) n ∉ tb.place.toList) (ins : ∀ c, c < n → way tb.mask (q.hash w) c ∈ tb.place.toList) {Q : SetFound → Shared → Prop}
    (yes : q ∈ M.map (·.2) → Q (.there none) s) (no : q ∉ M.map (·.2) → Q (.free (way tb.mask (q.hash w) n) false) s) :
    ∀ (f c : Nat) (at_ : Option SetTable.Probe), at_.getD (tb.probeStart (q.hash w)) = nth tb.mask (beg tb (q.hash w)) c → c ≤ n → n - c < f →
      (∀ (i : Nat) p, M[i]? = some p → p.2 = q → ∃ d, c ≤ d ∧ d < n ∧ tb.place.toList[i]? = some (way tb.mask (q.hash w) d)) →
      wpAny (model P w) A (setSearchFrom S (.ref z) (q.hash w) true f at_) Q E s
  | 0, _, _, _, _, hf, _ => absurd hf (Nat.not_lt_zero _)
  | f + 1, c, at_, hat, hc, hf, hre => by
    obtain ⟨o, ho, hex, hd⟩ := R.ob
    generalize hH : q.hash w = H at *
    rw [setSearchFrom_succ]
    refine wpAny_bind (wpAny_setState_of ho hd R.fits ?_)
    dsimp only
    refine wp_if_neg R.gw ?_
    try refine wpAny_bind (wpAny_pure ?_)
    have dm : (nth tb.mask (beg tb H) c).dummy = none := nth_dummy c _ rfl
    have sh : ∀ d, nth tb.mask (nth tb.mask (beg tb H) c) d = nth tb.mask (beg tb H) (c + d) := fun d => (nth_add tb.mask c _ d).symm
    have wy : ∀ d, (nth tb.mask (nth tb.mask (beg tb H) c) d).j = way tb.mask H (c + d) := fun d => congrArg SetTable.Probe.j (sh d)
    have end_ : c + (n - c) = n := by omega
    have spec := go_spec tb R.tab.ris R.tab.dm (fun i => (rs[i]?.map (·.1)).getD 0) H (10 * SetTable.turns tb.mask) (n - c) _ dm (by omega) (fun d hd => by rw [wy]; exact ins _ (by omega)) (by rw [wy, end_]; exact out)
    have hsh : ∀ (i : Nat) p, M[i]? = some p → (rs[i]?.map (·.1)).getD 0 = p.2.hash w := fun i p hp => by rw [row_at R.rows hp]; rfl
    have meet : ∀ (i : Nat) p d, M[i]? = some p → p.2 = q → c ≤ d → tb.place.toList[i]? = some (way tb.mask H d) → tb.place.toList[i]? = some (nth tb.mask (nth tb.mask (beg tb H) c) (d - c)).j ∧ (rs[i]?.map (·.1)).getD 0 = H := fun i p d hp hq hd e => by
      refine ⟨?_, by rw [hsh i p hp, hq, hH]⟩
      rw [wy, show c + (d - c) = d by omega]; exact e
    rcases spec with ⟨d, i, hd', hi, hh, hno, hpr⟩ | ⟨hno, hpr⟩
    · have hpr' : tb.probe (fun i => (rs[i]?.map (·.1)).getD 0) H (at_.getD (tb.probeStart H)) = some (.candidate (way tb.mask H (c + d)) i (nth tb.mask (beg tb H) (c + (d + 1)))) := by
        rw [hat, ← wy, ← sh]; exact hpr
      rw [hpr']
      dsimp only
      rw [wy] at hi
      have il : i < M.length := by
        have h1 := (List.getElem?_eq_some_iff.mp hi).1
        have h2 := R.tab.sz
        rw [hsN_len] at h2
        rw [Array.length_toList] at h1
        omega
      obtain ⟨p, hp⟩ : ∃ p, M[i]? = some p := ⟨_, List.getElem?_eq_getElem il⟩
      have pm := List.mem_of_getElem? hp
      have hpn := R.mem p pm
      have live : tb.slot (way tb.mask H (c + d)) = .live i := slot_live R.tab.ris hi
      have rest : wpAny (model P w) A (searchRest S (.ref z) H true f rs tb (way tb.mask H (c + d)) i (nth tb.mask (beg tb H) (c + (d + 1)))) Q E s := by
        unfold searchRest
        rw [row_at R.rows hp]
        dsimp only [rowN]
        refine wpAny_bind (wpAny_holding ((nestedKind P w).eqBool hu ⟨hpn.is, hpn.dp⟩ ⟨hz.is, hz.dp⟩ ?_))
        refine wpAny_bind (wpAny_setState_of ho hd R.fits ?_)
        dsimp only
        by_cases eq : p.2 = q
        · exact wp_if_pos (by simp [eq]) (wpAny_pure (yes (List.mem_map.mpr ⟨p, pm, eq⟩)))
        · refine wp_if_neg (by simp [eq]) ?_
          try refine wpAny_bind (wpAny_pure ?_)
          rw [sameMem]
          dsimp only
          simp only [if_true, live, row_at R.rows hp, rowN]
          refine wpAny_bind (wpAny_isSame_ref_self (wpAny_bind (wpAny_pure ?_)))
          simp only [if_true]
          refine wp_if_neg (by simp [eq]) ?_
          have hin := nsearch R hz hu nf (by rw [hH]; exact out) (by rw [hH]; exact ins) yes (by rw [hH]; exact no) f (c + (d + 1)) (some (nth tb.mask (beg tb H) (c + (d + 1)))) (by rw [hH]; rfl) (by omega) (by omega) fun i0 p0 h0 e0 => ?_
          · rw [hH] at hin; exact hin
          obtain ⟨d0, a1, a2, a3⟩ := hre i0 p0 h0 e0
          rw [hH]
          refine ⟨d0, ?_, a2, a3⟩
          obtain ⟨m1, m2⟩ := meet i0 p0 d0 h0 e0 a1 a3
          rcases Nat.lt_trichotomy d0 (c + d) with lt | eq0 | gt
          · exact (hno (d0 - c) i0 (by omega) m1 m2).elim
          · exfalso
            rw [eq0] at a3
            have l2 := slot_live R.tab.ris a3
            rw [live] at l2
            injection l2 with l2
            rw [← l2, hp] at h0
            exact eq ((congrArg Prod.snd (Option.some.inj h0)).trans e0)
          · omega
      by_cases ld : tb.led = true
      · refine wp_if_neg (by simp [ld]) ?_
        try refine wpAny_bind (wpAny_pure ?_)
        exact rest
      · refine wp_if_pos (by simp [ld]) (wpAny_bind (unseen hz (fun y hy => ?_) _ _ _ ?_))
        · obtain ⟨e, he, ee⟩ := List.mem_map.mp hy
          have he2 : e ∈ rs.toList := by
            have : e ∈ rs ∧ e.1 = H := by simpa using he
            simpa using this.1
          rw [R.rows] at he2
          obtain ⟨p2, hp2, e2⟩ := List.mem_map.mp he2
          exact ⟨p2.2, p2.1, by rw [← ee, ← e2]; rfl, R.mem p2 hp2⟩
        · refine wp_if_neg (by decide) ?_
          try refine wpAny_bind (wpAny_pure ?_)
          exact rest
    · have hpr' : tb.probe (fun i => (rs[i]?.map (·.1)).getD 0) H (at_.getD (tb.probeStart H)) = some (.empty (way tb.mask H n) none) := by
        rw [hat, show way tb.mask H n = (nth tb.mask (nth tb.mask (beg tb H) c) (n - c)).j by rw [wy, end_]]
        exact hpr
      rw [hpr']
      dsimp only
      refine wpAny_pure (no fun hm => ?_)
      obtain ⟨p0, h0, e0⟩ := List.mem_map.mp hm
      obtain ⟨i0, h00⟩ := List.mem_iff_getElem?.mp h0
      obtain ⟨d0, a1, a2, a3⟩ := hre i0 p0 h00 e0
      obtain ⟨m1, m2⟩ := meet i0 p0 d0 h00 e0 a1 a3
      exact hno (d0 - c) i0 (by omega) m1 m2
theorem nfind (R : SN w s.heap S M rs vn tb) {z : Addr} {q : NestedKey} (hz : NI s.heap q z) (hu : A.units + 8 < cLine) {Q : SetFound → Shared → Prop} (yes : q ∈ M.map (·.2) → Q (.there none) s)
    (no : ∀ n, q ∉ M.map (·.2) → way tb.mask (q.hash w) n ∉ tb.place.toList → (∀ c, c < n → way tb.mask (q.hash w) c ∈ tb.place.toList) → Q (.free (way tb.mask (q.hash w) n) false) s) :
    wpAny (model P w) A (setSearch S (.ref z) (q.hash w) true) Q E s := by
  have rm := R.room
  obtain ⟨n, nf, out, ins⟩ := R.tab.first (by rw [hsN_len]; omega) (q.hash w)
  have big : n < 100000 := by
    have : 10 * SetTable.turns tb.mask ≤ 1420 := by
      unfold SetTable.turns
      rcases R.tab.mok with e | e | e <;> omega
    omega
  unfold setSearch
  refine nsearch R hz hu nf out ins yes (fun hn => no n hn out ins) 100000 0 none rfl (Nat.zero_le _) (by omega) fun i p hp hq => ?_
  have hi : (hsN w M)[i]? = some (q.hash w) := by unfold hsN; rw [List.getElem?_map, hp, ← hq]; rfl
  have il : i < tb.place.toList.length := by
    have h1 : i < M.length := (List.getElem?_eq_some_iff.mp hp).1
    have h2 := R.tab.sz
    rw [hsN_len] at h2
    rw [Array.length_toList]
    omega
  have hj := List.getElem?_eq_getElem il
  obtain ⟨c, hc, e⟩ := R.tab.before out hi hj
  exact ⟨c, Nat.zero_le _, hc, by rw [hj, e]⟩
end
end Sm

namespace Sm
open PySem PySem.Spec PyProof.Rows L2
section
variable {P : Program} {w : World} {A : Around} {E : Value → Shared → Prop} {s : Shared}
theorem range_pick {α : Type} : ∀ M : List α, (List.range M.length).filterMap (fun i => M[i]?) = M
  | [] => rfl
  | x :: M => by
    rw [List.length_cons, List.range_succ_eq_map, List.filterMap_cons]
    simp only [List.getElem?_cons_zero, List.filterMap_map]
    have e : ((fun i => (x :: M)[i]?) ∘ Nat.succ) = fun i => M[i]? := rfl
    rw [e, range_pick M]
theorem in_order (M : ML) (rs : Array (Int × Value)) (od : Array Nat) (hr : rs.toList = M.map (rowN w)) (hp : od.toList.Perm (List.range M.length)) :
    ∃ M2, (od.filterMap (rs[·]?)).toList = M2.map (rowN w) ∧ M2.Perm M ∧ hsN w M2 = od.toList.map fun i => (rs.map (·.1)).getD i 0 := by
  have at_ : ∀ i : Nat, rs[i]? = (M[i]?).map (rowN w) := fun i => by rw [← Array.getElem?_toList, hr, List.getElem?_map]
  refine ⟨od.toList.filterMap fun i => M[i]?, ?_, ?_, ?_⟩
  · have e1 : (od.filterMap (rs[·]?)).toList = od.toList.filterMap (fun i => rs[i]?) := by simp
    rw [e1, List.map_filterMap]
    exact congrFun (congrArg _ (funext at_)) _
  · have := hp.filterMap fun i => M[i]?
    rwa [range_pick] at this
  · have key : ∀ l : List Nat, (∀ i ∈ l, i < M.length) → hsN w (l.filterMap fun i => M[i]?) = l.map fun i => (rs.map (·.1)).getD i 0 := by
      intro l
      induction l with
      | nil => intro _; rfl
      | cons i l ih =>
        intro hl
        have hi := hl i List.mem_cons_self
        rw [List.filterMap_cons_some (List.getElem?_eq_getElem hi), List.map_cons, ← ih fun j hj => hl j (List.mem_cons_of_mem _ hj)]
        have e5 : (rs.map (·.1))[i]? = some ((M[i]).2.hash w) := by rw [Array.getElem?_map, at_ i, List.getElem?_eq_getElem hi]; rfl
        unfold hsN
        simp [Array.getD_eq_getD_getElem?, e5]
    exact key _ fun i hi => List.mem_range.mp (hp.mem_iff.mp hi)
variable {S : Addr} {M : ML} {rs : Array (Int × Value)} {vn : Nat} {tb : SetTable}
theorem nrelay {o : Obj} (ho : s.heap.get? S = some o) (hex : o.ExactSet) (hd : o.data = .set rs vn tb) (hrows : rs.toList = M.map (rowN w)) (hpl : tb.place.size = rs.size) (hdm : tb.dummies = #[]) (hfl : rs.size ≤ tb.mask)
    (nd : (M.map (·.2)).Nodup) (mem : ∀ p ∈ M, NI s.heap p.2 p.1) (pl : tb.plain = true) (ld : w.params.followText "set-order" = true ∨ tb.led = true) (few : M.length < 64) {want G : Nat}
    (hw : SetTable.sizeAbove want - 1 = G) (hG : MaskOk G) (hw2 : SetTable.sizeAbove want ≤ 128) (hn : M.length * 5 < G * 3) {Q : Unit → Shared → Prop}
    (hQ : ∀ h' M' rs' vn' tb', Heap.SameBut S s.heap h' → SN w h' S M' rs' vn' tb' → M'.Perm M → Q () { s with heap := h' }) : wpAny (model P w) A (setRelay S want) Q E s := by
  have sl := rows_len hrows
  obtain ⟨tb', od, e, hp, T, em, el, epl, ed⟩ := relaid_ok tb (hs := rs.map (·.1)) (wanted := want) hw hG (by rw [Array.size_map, sl]; omega)
  rw [Array.size_map, sl] at hp
  obtain ⟨M2, r1, r2, r3⟩ := in_order M rs od hrows hp
  rw [← r3] at T
  have s2 : (od.filterMap (rs[·]?)).size = rs.size := by rw [rows_len r1, r2.length_eq, sl]
  rw [setRelay_eq]
  refine wpAny_bind (wpAny_setState_of ho hd (fits_of hpl hdm hfl) ?_)
  dsimp only
  refine wp_if_neg (by rw [sizeLine_eq]; omega) ?_
  try refine wpAny_bind (wpAny_pure ?_)
  rw [e]
  dsimp only
  refine wpAny_bind (wp_if_neg (by rw [s2]; simp) ?_)
  try refine wpAny_bind (wpAny_pure ?_)
  refine wpAny_pure ?_
  dsimp only
  refine wpAny_storeSet_of ho hd ?_ (by rw [s2, sl, sizeLine_eq]; omega)
  have sb : Heap.SameBut S s.heap (s.heap.update S (Obj.putSet (od.filterMap (rs[·]?)) tb')) := Heap.SameBut.update ..
  refine hQ _ M2 _ (vn + 1) tb' sb ⟨⟨_, store_at ho hd, ⟨hex.1, hex.2.1, hex.2.2⟩, rfl⟩, r1, T, (r2.map (·.2)).nodup_iff.mpr nd, fun p hpm => (mem p (r2.mem_iff.mp hpm)).apart ho hd sb, by rw [epl]; exact pl, by rw [el]; exact ld, ?_, by rw [r2.length_eq]; exact few⟩ r2
  rw [r2.length_eq, em]
  exact hn
theorem mid_perm {α : Type} (M : List α) (n : Nat) (x : α) : (M.take n ++ x :: M.drop n).Perm (x :: M) :=
  (List.perm_middle (a := x) (l₁ := M.take n) (l₂ := M.drop n)).trans (by rw [List.take_append_drop])
theorem nadd (R : SN w s.heap S M rs vn tb) {z : Addr} {q : NestedKey} (hz : NI s.heap q z) (hu : A.units + 8 < cLine) (few : q ∉ M.map (·.2) → M.length + 1 < 64) {Q : Bool → Shared → Prop}
    (hQ : ∀ b h' M' rs' vn' tb', Heap.SameBut S s.heap h' → SN w h' S M' rs' vn' tb' → (q ∈ M.map (·.2) → M' = M) → (q ∉ M.map (·.2) → M'.Perm ((z, q) :: M)) → Q b { s with heap := h' }) :
    wpAny (model P w) A (setAddHashed S (.ref z) (q.hash w)) Q E s := by
  obtain ⟨o, ho, hex, hd⟩ := R.ob
  have sl := R.size
  have rm := R.room
  unfold setAddHashed
  refine wpAny_holding ?_
  rw [show (100000 : Nat) = 99999 + 1 from rfl, setAddHashedIn_succ]
  refine wpAny_bind (wpAny_setState_of ho hd R.fits ?_)
  dsimp only
  refine wp_if_neg (by simp [byScan, Value.scannable]) ?_
  try refine wpAny_bind (wpAny_pure ?_)
  refine wpAny_bind (nfind R hz hu (fun hm => ?_) fun n hm out ins => ?_)
  · dsimp only
    exact wpAny_pure (hQ false s.heap M rs vn tb (Heap.SameBut.refl S s.heap) R (fun _ => rfl) fun y => absurd hm y)
  · dsimp only
    refine wpAny_bind (wpAny_setState_of ho hd R.fits ?_)
    dsimp only
    have fw := few hm
    obtain ⟨q1, q2, q3, q4, q5, q6, q7, q8, q9⟩ := R.tab.put out ins
    have pl1 : (tb.put (way tb.mask (q.hash w) n)).1.plain = true := by rw [q6]; exact R.plain
    generalize hpt : tb.put (way tb.mask (q.hash w) n) = pt at q1 q3 q4 q5 q6 q7 q8 q9 pl1 ⊢
    obtain ⟨t1, m⟩ := pt
    dsimp only at q1 q3 q4 q5 q6 q7 q8 q9 pl1 ⊢
    subst q1
    first
      | (refine wpAny_bind ?_; refine wp_if_pos pl1 ?_; refine hz.hb _ _ _ ?_)
      | refine wp_if_pos pl1 (wpAny_bind (hz.hb _ _ _ ?_))
    simp only [if_true]
    generalize hpp : SetTable.below tb.place (way tb.mask (q.hash w) n) = m at q2 q3 ⊢
    have rows1 : (SetTable.insertAt rs m (q.hash w, Value.ref z)).toList = (M.take m ++ (z, q) :: M.drop m).map (rowN w) := by
      rw [SetTable.toList_insertAt, R.rows, List.map_append, List.map_cons, List.map_take, List.map_drop]; rfl
    have pm := mid_perm M m (z, q)
    have len1 : (M.take m ++ (z, q) :: M.drop m).length = M.length + 1 := pm.length_eq
    have hs1 : hsN w (M.take m ++ (z, q) :: M.drop m) = (hsN w M).take m ++ q.hash w :: (hsN w M).drop m := by
      unfold hsN
      rw [List.map_append, List.map_cons, List.map_take, List.map_drop]
    rw [← hs1] at q3
    have nd1 : ((M.take m ++ (z, q) :: M.drop m).map (·.2)).Nodup := (pm.map (·.2)).nodup_iff.mpr (by rw [List.map_cons]; exact List.nodup_cons.mpr ⟨hm, R.nd⟩)
    have es1 : (SetTable.insertAt rs m (q.hash w, Value.ref z)).size = M.length + 1 := by rw [rows_len rows1, len1]
    generalize SetTable.insertAt rs m (q.hash w, Value.ref z) = rs1 at rows1 es1 ⊢
    generalize M.take m ++ (z, q) :: M.drop m = M1 at pm len1 q3 nd1 rows1
    refine wpAny_bind (wpAny_storeSet_of ho hd ?_ (by rw [es1, sizeLine_eq]; omega))
    have sb : Heap.SameBut S s.heap (s.heap.update S (Obj.putSet rs1 t1)) := Heap.SameBut.update ..
    have ho1 := store_at (es' := rs1) (t' := t1) ho hd
    generalize s.heap.update S (Obj.putSet rs1 t1) = h1 at sb ho1 ⊢
    have mem1 : ∀ p ∈ M1, NI h1 p.2 p.1 := fun p hp => by
      rcases List.mem_cons.mp (pm.mem_iff.mp hp) with e | hp
      · rw [e]; exact hz.apart ho hd sb
      · exact (R.mem p hp).apart ho hd sb
    have ld1 : w.params.followText "set-order" = true ∨ t1.led = true := by rw [q5]; exact R.led
    have fl : t1.tooFull = true ↔ (M.length + 1) * 5 ≥ t1.mask * 3 := by
      unfold SetTable.tooFull
      rw [decide_eq_true_eq, q9, hsN_len]
    by_cases hf : t1.tooFull = true
    · first
        | (refine wpAny_bind ?_; refine wp_if_pos (by simp [hf]) ?_)
        | (refine wp_if_pos (by simp [hf]) ?_; refine wpAny_bind ?_)
      have full := fl.mp hf
      rw [sl]
      have pl2 : t1.place.size = rs1.size := by
        have h := q3.sz
        rw [hsN_len, len1] at h
        rw [h, es1]
      have two : (tb.mask = 7 ∧ M.length = 4) ∨ (tb.mask = 31 ∧ M.length = 18) := by
        rcases R.tab.mok with e | e | e
        · left; rw [q4, e] at full; rw [e] at rm; exact ⟨e, by omega⟩
        · right; rw [q4, e] at full; rw [e] at rm; exact ⟨e, by omega⟩
        · exfalso; rw [q4, e] at full; omega
      have go : ∀ G, SetTable.sizeAbove (SetTable.grown (M.length + 1)) - 1 = G → MaskOk G → SetTable.sizeAbove (SetTable.grown (M.length + 1)) ≤ 128 → (M.length + 1) * 5 < G * 3 →
          wpAny (model P w) A (setRelay S (SetTable.grown (M.length + 1))) (fun _ s' => wpAny (model P w) A (pure true) Q E s') E { s with heap := h1 } := fun G g1 g2 g3 g4 =>
        nrelay (s := { s with heap := h1 }) ho1 ⟨hex.1, hex.2.1, hex.2.2⟩ rfl rows1 pl2 q3.dm (by rw [es1, q4]; rcases two with ⟨e, e2⟩ | ⟨e, e2⟩ <;> omega) nd1 mem1 pl1 ld1 (by omega) g1 g2 g3 (by rw [len1]; exact g4)
          fun h2 M2 rs2 vn2 tb2 sb2 R2 pm2 => wpAny_pure (hQ true h2 M2 rs2 vn2 tb2 (sb.trans sb2) R2 (fun y => absurd y hm) fun _ => pm2.trans pm)
      rcases two with ⟨_, e2⟩ | ⟨_, e2⟩
      · exact go 31 (by rw [e2, size_20]) (.inr (.inl rfl)) (by rw [e2, size_20]; decide) (by omega)
      · exact go 127 (by rw [e2, size_76]) (.inr (.inr rfl)) (by rw [e2, size_76]; decide) (by omega)
    · first
        | refine wp_if_neg (by simp [hf]) ?_
        | (refine wpAny_bind ?_; refine wp_if_neg (by simp [hf]) ?_; refine wpAny_pure ?_)
      have nf : ¬ (M.length + 1) * 5 ≥ t1.mask * 3 := fun h => hf (fl.mpr h)
      exact wpAny_pure (hQ true h1 M1 rs1 (vn + 1) t1 sb ⟨⟨_, ho1, ⟨hex.1, hex.2.1, hex.2.2⟩, rfl⟩, rows1, q3, nd1, mem1, pl1, ld1, by omega, by omega⟩ (fun y => absurd y hm) fun _ => pm)
structure Had (ks : ML) (i : Nat) (M : ML) : Prop where
  sub : ∀ p ∈ M, p ∈ ks.take i
  all : ∀ p ∈ ks.take i, p.2 ∈ M.map (·.2)
theorem SN.keep {h h' : Heap} (R : SN w h S M rs vn tb) (kS : ∀ o, h.get? S = some o → h'.get? S = some o) (km : ∀ p ∈ M, NI h' p.2 p.1) : SN w h' S M rs vn tb :=
  let ⟨o, ho, r⟩ := R.ob
  ⟨⟨o, kS o ho, r⟩, R.rows, R.tab, R.nd, km, R.plain, R.led, R.room, R.few⟩
theorem SN.fresh {h : Heap} (ho : h.get? S = some (bare w)) : SN w h S [] #[] 0 (.fresh 0 0 (!w.params.followText "set-order")) :=
  ⟨⟨_, ho, ⟨rfl, rfl, rfl⟩, rfl⟩, rfl, ⟨List.Pairwise.nil, rfl, rfl, .inl rfl, fun x hx => (by cases hx), fun i h j hi => (by simp [hsN] at hi)⟩, List.nodup_nil, fun p hp => (by cases hp), rfl, by
    show _ ∨ (!w.params.followText "set-order") = true
    cases w.params.followText "set-order"
    · exact .inr rfl
    · exact .inl rfl, by show 0 * 5 < 7 * 3; decide, by show 0 < 64; decide⟩
theorem nloop {I : Addr} {fp wr : List Addr} {G : Array GenState → Array GenState → Prop} {n : Nat} {Pv : Nat → Value → Prop} {St : Nat → Shared → Prop} {R : Result → Shared → Prop}
    (W : WalksS P w A.in1 I fp wr G n Pv St) (S : Addr) (hS : S ∉ fp) (ks : ML) (hn : n = ks.length) (few : ∀ M : ML, (M.map (·.2)).Nodup → (∀ p ∈ M, p ∈ ks) → M.length < 64) (hv : ∀ i v, Pv i v → ∃ p, ks[i]? = some p ∧ v = .ref p.1)
    (h0 : Heap) (hk : ∀ p ∈ ks, NI h0 p.2 p.1) (noS : h0.get? S = none) (noW : ∀ b ∈ wr, h0.get? b = none) (hu : A.in1.units + 8 < cLine) :
    ∀ (k i : Nat) (s : Shared), n - i = k → i ≤ n → St i s → (∀ b o, h0.get? b = some o → s.heap.get? b = some o) → (∃ M rs vn tb, SN w s.heap S M rs vn tb ∧ Had ks i M) →
      (∀ s' M rs vn tb, Moved (S :: wr) G s s' → SN w s'.heap S M rs vn tb → Had ks n M → (∀ b o, h0.get? b = some o → s'.heap.get? b = some o) → R (.ok (.ret .none)) s') →
      codeAny (model P w) A (.builtin "set.update.loop" ⟨[.ref S, .ref I], []⟩) R s := by
  have nW : S ∉ wr := fun h => hS (W.sub _ h)
  have wide : ∀ b ∈ wr, b ∈ S :: wr := fun b hb => List.mem_cons_of_mem _ hb
  have go : ∀ {s s' : Shared}, Moved wr G s s' → (∀ b o, h0.get? b = some o → s.heap.get? b = some o) → ∀ b o, h0.get? b = some o → s'.heap.get? b = some o := fun hm kp b o e =>
    hm.heap b o (fun hb => by rw [noW b hb] at e; cases e) (kp b o e)
  intro k
  induction k with
  | zero =>
    intro i s hk' hi hst kp ⟨M, rs, vn, tb, hM, g⟩ hR
    obtain rfl : i = n := by omega
    refine codeAny_builtin F.entry_set_update_loop ?_
    rw [Around.under_plainId F.plain_set_update_loop _]
    show wpAny _ A.in1 (pyNext (.ref I) >>= _) _ _ s
    refine wpAny_bind (W.done s _ _ hst fun s' hm => ?_)
    show wpAny _ A.in1 (ret Value.none) _ _ s'
    have kp' := go hm kp
    exact wpAny_pure (hR s' M rs vn tb (hm.mono wide) (hM.keep (fun o e => hm.heap S o nW e) fun p hp => (hk p (List.mem_of_mem_take (g.sub p hp))).keep kp') g kp')
  | succ k ih =>
    intro i s hk' hi hst kp ⟨M, rs, vn, tb, hM, g⟩ hR
    have hlt : i < n := by omega
    refine codeAny_builtin F.entry_set_update_loop ?_
    rw [Around.under_plainId F.plain_set_update_loop _]
    show wpAny _ A.in1 (pyNext (.ref I) >>= _) _ _ s
    refine wpAny_bind (W.item i s _ _ hlt hst fun v s' hP hst' hm => ?_)
    obtain ⟨p, hp, rfl⟩ := hv i v hP
    have kp' := go hm kp
    have hM' : SN w s'.heap S M rs vn tb := hM.keep (fun o e => hm.heap S o nW e) fun r hr => (hk r (List.mem_of_mem_take (g.sub r hr))).keep kp'
    have pk := List.mem_of_getElem? hp
    have hx : NI s'.heap p.2 p.1 := (hk p pk).keep kp'
    show wpAny _ A.in1 (holding [Value.ref p.1] (setAdd S (.ref p.1)) >>= _) _ _ s'
    refine wpAny_bind (wpAny_holding ?_)
    unfold setAdd
    refine wpAny_holding (wpAny_bind ((nestedKind P w).pyHash hu ⟨hx.is, hx.dp⟩ ?_))
    refine nadd (s := { s' with toks := s'.toks + p.2.draws }) hM' hx hu (fun nm => ?_) fun b h' M' rs' vn' tb' sb hM2 c1 c2 => ?_
    · have := few (p :: M) (by rw [List.map_cons]; exact List.nodup_cons.mpr ⟨nm, hM.nd⟩) fun r hr => by
        rcases List.mem_cons.mp hr with rfl | hr
        · exact pk
        · exact List.mem_of_mem_take (g.sub r hr)
      simpa using this
    have tk : ks.take (i + 1) = ks.take i ++ [p] := by rw [List.take_succ, hp]; rfl
    have g' : Had ks (i + 1) M' := by
      by_cases c : p.2 ∈ M.map (·.2)
      · rw [c1 c]
        refine ⟨fun r hr => by rw [tk]; exact List.mem_append_left _ (g.sub r hr), fun r hr => ?_⟩
        rw [tk] at hr
        rcases List.mem_append.mp hr with y | y
        · exact g.all r y
        · rw [List.mem_singleton.mp y]; exact c
      · have pm := c2 c
        refine ⟨fun r hr => ?_, fun r hr => ?_⟩
        · rw [tk]
          rcases List.mem_cons.mp (pm.mem_iff.mp hr) with e | y
          · rw [e]; exact List.mem_append_right _ (List.mem_singleton.mpr rfl)
          · exact List.mem_append_left _ (g.sub r y)
        · rw [(pm.map (·.2)).mem_iff, List.map_cons]
          rw [tk] at hr
          rcases List.mem_append.mp hr with y | y
          · exact List.mem_cons_of_mem _ (g.all r y)
          · rw [List.mem_singleton.mp y]; exact List.mem_cons_self
    have kp2 : ∀ b o, h0.get? b = some o → h'.get? b = some o := fun b o e => (sb.2 b (fun y => by rw [y, noS] at e; cases e)).trans (kp' b o e)
    refine wpAny_pure ⟨plainId_quiet F.plain_set_update_loop _, ih (i + 1) _ (by omega) hlt (W.frame _ s' _ _ hst' (Nat.le_add_right _ _) fun b hb o e => ?_) kp2 ⟨M', rs', vn', tb', hM2, g'⟩ fun s'' M2 rs2 vn2 tb2 hm'' hM'' g'' kp'' => ?_⟩
    · rw [sb.2 b (fun h : b = S => hS (by rw [← h]; exact hb))]; exact e
    · refine hR s'' M2 rs2 vn2 tb2 (Moved.trans W.gtrans ((hm.mono wide).then_heap (Nat.le_add_right _ _) fun b o hb e => ?_) hm'') hM'' g'' kp''
      rw [sb.2 b (fun h : b = S => hb (by rw [h]; exact List.mem_cons_self))]; exact e
end
end Sm

namespace Sm
open PySem PySem.Spec PyProof.Rows L2
section
variable {P : Program} {w : World} {A : Around} {E : Value → Shared → Prop} {s : Shared} {S : Addr} {M : ML} {rs : Array (Int × Value)} {vn : Nat} {tb : SetTable}
theorem init_lst {l n : Addr} {its : Array Value} {Q : Shared → Prop} (calm : A.handled = none) (bareN : s.heap.get? n = some (bare w)) (ht : s.heap.IsList l its)
    (loop : ∀ B : Around, B.handled = none → B.units ≤ A.units + 2 → codeAny (model P w) B (.builtin "set.update.loop" ⟨[.ref n, .ref s.heap.objs.size], []⟩) (wants (fun r s2 => Q s2) E) { s with heap := s.heap.push { cls := .type "list_iterator", data := .fields #[.ref l, .int 0 0] } }) :
    codeAny (model P w) A (.call (.builtin "set.__init__") ⟨[.ref n, .ref l], []⟩) (wants (fun r s2 => r = .none ∧ Q s2) E) s := by
  have ty : Shared.TypeIs s (.ref n) "set" := ⟨_, bareN, rfl⟩
  refine codeAny_call_builtin F.called_set.init.plain F.entry_set_init (check_set_init_1 ty ?_)
  have k1 := F.sub_list_set
  have k2 := F.sub_list_frozenset
  have k3 : (Value.type "list" == .type "dict") = false := by decide
  obtain ⟨o, ho, oc, k, od⟩ := _root_.id ht
  obtain ⟨c1, d1, e1, g1⟩ := o
  simp only at oc od
  subst oc od
  unfold Builtin.«set.__init__» Builtin.Frozenset.updateFrom noKeywords
  generalize hPI : pyIter = PI
  wp_walk
  subst hPI
  refine wpAny_pyIter_list ht ?_
  refine wpAny_bind ?_
  refine wpAny_runValue ?_
  have quiet3 : A.in1.in1.in1.handled = none := by simp [calm]
  refine codeAny_mono (loop _ quiet3 (by simp [Around.in1, Around.units])) fun out s1 got => ?_
  match out, got with
  | .error e, got => exact got
  | .ok .next, got => exact got.elim
  | .ok .brk, got => exact got.elim
  | .ok .cont, got => exact got.elim
  | .ok (.ret v), got => exact wpAny_pure (wpAny_pure ⟨rfl, got⟩)
theorem nset {l : Addr} {its : Array Value} (ks : ML) {Q : Value → Shared → Prop} (calm : A.handled = none) (ht : s.heap.IsTuple l its ∨ s.heap.IsList l its) (ei : its.toList = ks.map fun p => Value.ref p.1) (hk : ∀ p ∈ ks, NI s.heap p.2 p.1)
    (few : ∀ M : ML, (M.map (·.2)).Nodup → (∀ p ∈ M, p ∈ ks) → M.length < 64) (hu : A.units + 20 < cLine)
    (h : ∀ (h' : Heap) (n : Nat) (M : ML) rs vn tb, SN w h' s.heap.objs.size M rs vn tb → (∀ p ∈ M, p ∈ ks) → (∀ p ∈ ks, p.2 ∈ M.map (·.2)) → (∀ b o, s.heap.get? b = some o → h'.get? b = some o) → Q (.ref s.heap.objs.size) { s with heap := h', toks := n }) :
    wpAny (model P w) A (call (Value.type "set") [Value.ref l]) Q E s := by
  have sz : its.size = ks.length := by
    have := congrArg List.length ei
    rwa [Array.length_toList, List.length_map] at this
  have lt : l < s.heap.objs.size := by
    rcases ht with ⟨o, ho, _⟩ | ⟨o, ho, _⟩ <;> exact Heap.lt_size ho
  have s1 : (s.heap.push (bare w)).objs.size = s.heap.objs.size + 1 := Heap.size_push ..
  have at1 : (s.heap.push (bare w)).get? s.heap.objs.size = some (bare w) := Heap.get?_push_size _ rfl
  have val : ∀ (i : Nat) (v : Value), its[i]? = some v → ∃ p, ks[i]? = some p ∧ v = .ref p.1 := fun i v hv => by
    rw [← Array.getElem?_toList, ei, List.getElem?_map] at hv
    obtain ⟨p, hp, e⟩ := Option.map_eq_some_iff.mp hv
    exact ⟨p, hp, e.symm⟩
  have ne1 : l ≠ (s.heap.push (bare w)).objs.size := s1 ▸ Nat.ne_of_lt (Nat.lt_succ_of_lt lt)
  have out : s.heap.objs.size ∉ [(s.heap.push (bare w)).objs.size, l] := by
    rw [s1]
    simp only [List.mem_cons, List.not_mem_nil, or_false, not_or]
    exact ⟨Nat.ne_of_lt (Nat.lt_succ_self _), Nat.ne_of_gt lt⟩
  have uB : ∀ B : Around, B.units ≤ A.in1.units + 2 → B.in1.units + 8 < cLine := fun B uB => by
    have e1 : B.in1.units ≤ B.units + 1 := by simp [Around.in1, Around.units]
    have e2 : A.in1.units ≤ A.units + 1 := by simp [Around.in1, Around.units]
    omega
  rcases ht with ht | ht
  · have ht1 := ht.push (bare w)
    refine set_call (init_tup (by simp [calm]) at1 ht1 fun B hB hU => ?_)
    refine nloop ((Walks.tuple (A := B.in1) (by simpa using hB) _ l ne1 its).toS) s.heap.objs.size out ks sz few val s.heap hk (past (Nat.le_refl _)) (fun b hb => past ?_) (uB B hU) its.size 0 _ (by omega) (Nat.zero_le _) ?_ ?_ ?_ ?_
    · rw [List.mem_singleton.mp hb, s1]; omega
    · exact ⟨⟨_, Heap.get?_push_size _ rfl, rfl, rfl⟩, ht1.push _⟩
    · exact fun b o e => Heap.get?_push_of_some _ (Heap.get?_push_of_some _ e)
    · exact ⟨[], #[], 0, _, SN.fresh (Heap.get?_push_of_some _ at1), ⟨(fun p hp => nomatch hp), (fun p hp => by rw [List.take_zero] at hp; cases hp)⟩⟩
    · intro s' M rs vn tb mv R g kp
      obtain ⟨h', g2, d', n', os'⟩ := s'
      cases (show g2 = s.gens from mv.gens)
      cases (show d' = s.drawn from mv.drawn)
      cases (show os' = s.os from mv.os)
      exact h h' n' M rs vn tb R (fun p hp => List.mem_of_mem_take (g.sub p hp)) (fun p hp => g.all p (by rw [sz, List.take_length]; exact hp)) kp
  · have ht1 := ht.push (bare w)
    refine set_call (init_lst (by simp [calm]) at1 ht1 fun B hB hU => ?_)
    refine nloop ((Walks.list (A := B.in1) (by simpa using hB) _ l ne1 its).toS) s.heap.objs.size out ks sz few val s.heap hk (past (Nat.le_refl _)) (fun b hb => past ?_) (uB B hU) its.size 0 _ (by omega) (Nat.zero_le _) ?_ ?_ ?_ ?_
    · rw [List.mem_singleton.mp hb, s1]; omega
    · exact ⟨⟨_, Heap.get?_push_size _ rfl, rfl, rfl⟩, ht1.push _⟩
    · exact fun b o e => Heap.get?_push_of_some _ (Heap.get?_push_of_some _ e)
    · exact ⟨[], #[], 0, _, SN.fresh (Heap.get?_push_of_some _ at1), ⟨(fun p hp => nomatch hp), (fun p hp => by rw [List.take_zero] at hp; cases hp)⟩⟩
    · intro s' M rs vn tb mv R g kp
      obtain ⟨h', g2, d', n', os'⟩ := s'
      cases (show g2 = s.gens from mv.gens)
      cases (show d' = s.drawn from mv.drawn)
      cases (show os' = s.os from mv.os)
      exact h h' n' M rs vn tb R (fun p hp => List.mem_of_mem_take (g.sub p hp)) (fun p hp => g.all p (by rw [sz, List.take_length]; exact hp)) kp
theorem perm_back {α β : Type} {f : α → β} : ∀ {us vs : List β}, us.Perm vs → ∀ N : List α, vs = N.map f → ∃ L : List α, L.Perm N ∧ us = L.map f := by
  intro us vs p
  induction p with
  | nil => intro M e; cases M with
    | nil => exact ⟨[], .nil, rfl⟩
    | cons m M => simp at e
  | cons x _ ih => intro M e; cases M with
    | nil => simp at e
    | cons m M =>
      simp only [List.map_cons, List.cons.injEq] at e
      obtain ⟨L, p1, e1⟩ := ih M e.2
      exact ⟨m :: L, p1.cons m, by rw [List.map_cons, e1, e.1]⟩
  | swap x y l => intro M e; cases M with
    | nil => simp at e
    | cons m M => cases M with
      | nil => simp at e
      | cons m2 M =>
        simp only [List.map_cons, List.cons.injEq] at e
        exact ⟨m2 :: m :: M, .swap m m2 M, by simp [e.1, e.2.1, e.2.2]⟩
  | trans _ _ i1 i2 =>
    intro M e
    obtain ⟨L2, p2, e2⟩ := i2 M e
    obtain ⟨L1, p1, e1⟩ := i1 L2 e2
    exact ⟨L1, p1.trans p2, e1⟩
theorem each_of {R : Value → (Addr × NestedKey) → Prop} : ∀ {L : ML}, (∀ q ∈ L, R (.ref q.1) q) → PySem.W.EachIs R (L.map fun q => Value.ref q.1) L
  | [], _ => .nil
  | q :: L, h => .cons (h q List.mem_cons_self) (each_of fun r hr => h r (List.mem_cons_of_mem _ hr))
theorem eachIs_ref : ∀ {us : List Value} {L : ML}, PySem.W.EachIs (fun v q => v = Value.ref q.1) us L → us = L.map fun q => Value.ref q.1
  | _, _, .nil => rfl
  | _, _, .cons h t => by rw [h, eachIs_ref t]; rfl
theorem nsorted {Q : Value → Shared → Prop} (R : SN w s.heap S M rs vn tb) (calm : A.handled = none) (rd : ∀ p ∈ M, Reads s.heap (.ref p.1) p.2.data []) (hal : PySem.W.AllAlike (M.map fun p => p.2.data)) (hk : PySem.W.Sortable (M.map fun p => p.2.data))
    (dp : ∀ p ∈ M, p.2.data.depth ≤ 60) (hu : A.units + 64 < cLine)
    (hQ : ∀ s' p (out : Array Value) (c : Nat) (L : ML), (∀ b o, s.heap.get? b = some o → s'.heap.get? b = some o) → s'.gens = s.gens → s'.os = s.os → s.heap.objs.size ≤ p →
      s'.heap.get? p = some (seqObj "list" out c) → out.toList = L.map (fun q => Value.ref q.1) → L.Perm M → L.Pairwise (fun q r => PySem.W.dataLe false (fun p : Addr × NestedKey => p.2.data) q r = true) → Q (.ref p) s') :
    wpAny (model P w) A (call (.builtin "sorted") [.ref S]) Q E s := by
  obtain ⟨o, ho, hex, hd⟩ := R.ob
  have sl := R.size
  have fw := R.few
  refine Calls.call_function_entry kind_sorted plain_sorted entry_sorted (args_sorted1 _) ?_
  unfold Builtin.«sorted»
  refine wpAny_bind (m := checkCount "sorted" 1 1 _) (wpAny_pure ?_)
  refine wpAny_bind (collect_set (A := A.in1) calm ⟨o, ho, hex.1, hd⟩ R.fits (by unfold scanBound; omega) R.tab.ris R.led fun s1 vs k1 hz g1 o1 pm => ?_)
  obtain ⟨M1, pM, rfl⟩ := perm_back pm M (by rw [R.rows, List.map_map] <;> rfl)
  have ml : M1.length < 64 := by rw [pM.length_eq]; exact fw
  refine wpAny_bind (wpAny_newList ?_ (by rw [sizeLine_eq, List.length_map]; omega))
  have at1 : (s1.heap.push (seqObj "list" (M1.map fun q => Value.ref q.1).toArray 0)).get? s1.heap.objs.size = some (seqObj "list" (M1.map fun q => Value.ref q.1).toArray 0) := Heap.get?_push_size _ rfl
  have e2 : PySem.W.EachIs (fun v q => ∃ as, Reads (s1.heap.push (seqObj "list" (M1.map fun q => Value.ref q.1).toArray 0)) v (Prod.snd q).data as ∧ s1.heap.objs.size ∉ as) (M1.map fun q => Value.ref q.1) M1 := each_of fun q hq =>
    ⟨[], PyProof.Rows.Reads.keeps (fun b u e => Heap.get?_push_of_some _ (k1 b u e)) (rd q (pM.mem_iff.mp hq)), by simp⟩
  have al1 : PySem.W.AllAlike (M1.map fun p => p.2.data) := fun x hx y hy => hal x ((pM.map _).mem_iff.mp hx) y ((pM.map _).mem_iff.mp hy)
  have so1 : PySem.W.Sortable (M1.map fun p => p.2.data) := hk.imp (fun h x hx => h x ((pM.map _).mem_iff.mp hx)) (fun h x hx => h x ((pM.map _).mem_iff.mp hx))
  have u1 : A.in1.units ≤ A.units + 1 := by simp [Around.in1, Around.units]
  refine wpAny_bind (wpAny_holding (PySem.W.list_sort_data (s := { s1 with heap := s1.heap.push (seqObj "list" (M1.map fun q => Value.ref q.1).toArray 0) }) (R := fun v q => v = Value.ref q.1) (enc := fun q => q.2.data) (bs := M1) at1 (each_of fun q _ => rfl) e2 al1 so1
    (by rw [sizeLine_eq]; omega) (fun b hb => by have := dp b (pM.mem_iff.mp hb); omega) fun out lo eo => ?_))
  obtain ⟨c, hc⟩ := sortedHeap_at (vs := M1.map fun q => Value.ref q.1) (out := out.toArray) at1
  refine wpAny_pure ⟨_, rfl, hQ _ s1.heap.objs.size out.toArray c _ (fun b u e => ?_) g1 o1 hz hc (eachIs_ref eo) ((List.mergeSort_perm _ _).trans pM) (srt_pw (k := fun q : Addr × NestedKey => q.2.data) M1)⟩
  have q := k1 b u e
  have lt := Heap.lt_size q
  show (sortedHeap (s1.heap.push _) s1.heap.objs.size _ out.toArray).get? b = some u
  rw [sortedHeap_old (Nat.ne_of_lt lt) (by rw [size_push']; exact Nat.lt_succ_of_lt lt)]
  exact Heap.get?_push_of_some _ q
end
def SetN0 (w : World) (S : Addr) (M : ML) : Heap → Prop := fun h => ∃ (rs : Array (Int × Value)) (vn : Nat) (tb : SetTable), (∃ o, h.get? S = some o ∧ o.ExactSet ∧ o.data = .set rs vn tb) ∧ rs.toList = M.map (rowN w) ∧ TabOk tb (hsN w M) ∧ (M.map (·.2)).Nodup ∧ tb.plain = true ∧
    (w.params.followText "set-order" = true ∨ tb.led = true) ∧ M.length * 5 < tb.mask * 3 ∧ M.length < 64
def SetNO (w : World) (S : Addr) (M : ML) : HO := .ext (SetN0 w S M)
theorem SN.n0 {w : World} {h : Heap} {S : Addr} {M : ML} {rs : Array (Int × Value)} {vn : Nat} {tb : SetTable} (R : SN w h S M rs vn tb) : SetN0 w S M h := ⟨rs, vn, tb, R.ob, R.rows, R.tab, R.nd, R.plain, R.led, R.room, R.few⟩
theorem setN_ok {P : Program} {w : World} {H : Hp} {h : Heap} {S : Addr} {M : ML} (R : SetN0 w S M h) : ObjOk P w H h S (SetNO w S M) := by
  have ⟨rs, vn, tb, ⟨o, ho, r⟩, q⟩ := R
  refine ⟨R, ⟨o, ho⟩, fun h1 h2 p k => ?_⟩
  have ⟨rs', vn', tb', ⟨o', ho', r'⟩, q'⟩ := p
  exact ⟨rs', vn', tb', ⟨o', k o' ho', r'⟩, q'⟩
section
variable {X : Cx} {pins : List (Addr × Obj)} {σ : L2.St} {H : Hp} {s : Shared}
mutual
theorem NKH.rd (I : Inv X pins σ H s) : ∀ (k : NestedKey) (v : V) (u : Value), noTx k = true → NKH X.K H k v → RelV v u → Reads s.heap u k.data []
  | .none, v, u, _, h, r => by unfold NKH at h; subst h; obtain rfl : u = Value.none := r; exact .none
  | .num i, v, u, _, h, r => by unfold NKH at h; subst h; obtain ⟨t, rfl⟩ := r; exact .int i t
  | .text y, v, u, n, h, r => by simp [noTx] at n
  | .tup ks, v, u, n, h, r => by
    unfold NKH at h
    obtain ⟨a, vs, rfl, t, hk⟩ := h
    obtain rfl : u = Value.ref a := r
    obtain ⟨its, rv, ⟨o, ho, hc, n', hd⟩, _⟩ := I.tuple t
    exact .tuple ho hc hd (by simpa using NKHs.rd I ks vs its (by simpa [noTx] using n) hk rv)
theorem NKHs.rd (I : Inv X pins σ H s) : ∀ (ks : List NestedKey) (vs : List V) (us : List Value), noTxs ks = true → NKHs X.K H ks vs → Vals vs us → ReadsAll s.heap us (NestedKey.datas ks) []
  | [], vs, us, _, h, r => by unfold NKHs at h; subst h; cases r; exact .nil
  | k :: ks, vs, us, n, h, r => by
    unfold NKHs at h
    obtain ⟨v, vr, rfl, h1, h2⟩ := h
    simp only [noTxs, Bool.and_eq_true] at n
    cases r with
    | cons r1 r2 => exact .cons (as := []) (bs := []) (NKH.rd I k v _ n.1 h1 r1) (NKHs.rd I ks vr _ n.2 h2 r2)
end
def MemH (F : PySem.W.Frag) (H : Hp) (p : Addr × NestedKey) : Prop := NKH F H p.2 (.ref p.1) ∧ p.2.depth ≤ 8 ∧ noTx p.2 = true
theorem MemH.ni {p : Addr × NestedKey} (I : Inv X pins σ H s) (h : MemH X.K H p) : NI s.heap p.2 p.1 := ⟨NKH.is I _ _ _ h.1 rfl, h.2.1, h.2.2⟩
theorem refsN_of_vals : ∀ {ks : ML} {us : List Value}, Vals (ks.map fun p => V.ref p.1) us → us = ks.map fun p => Value.ref p.1
  | [], _, .nil => rfl
  | p :: ks, _, .cons r t => by cases r; rw [refsN_of_vals t]; rfl
theorem valsN_of_refs : ∀ (ks : ML), Vals (ks.map fun p => V.ref p.1) (ks.map fun p => Value.ref p.1)
  | [] => .nil
  | p :: ks => .cons rfl (valsN_of_refs ks)
def rSetN (F : PySem.W.Frag) (w : World) : List V → Hp → VK → Prop := fun xs H Q => ∃ (l : Addr) (ks : ML), xs = [V.ref l] ∧ (SqT F H l (ks.map fun p => V.ref p.1) ∨ SqL F H l (ks.map fun p => V.ref p.1)) ∧ (∀ p ∈ ks, MemH F H p) ∧
  (∀ M : ML, (M.map (·.2)).Nodup → (∀ p ∈ M, p ∈ ks) → M.length < 64) ∧
  ∀ a M, H a = none → (M.map (·.2)).Nodup → (∀ p ∈ M, p ∈ ks) → (∀ p ∈ ks, p.2 ∈ M.map (·.2)) → Q (.ref a) (upd H a (SetNO w a M))
theorem cr_setN (cm : X.calm = true) (hu : X.A.units + 64 < cLine) : CallR X (.type "set") (rSetN X.K X.w) := by
  rintro pins t sl K xs us Q J r ⟨l, ks, rfl, hl, hk, few, q⟩
  rw [Vals.ref1 r]
  have new : K t.heap.objs.size = none := J.hok.fresh (Nat.le_refl _)
  obtain ⟨its, rv, pl⟩ : ∃ its : List Value, Vals (ks.map fun p => V.ref p.1) its ∧ (t.heap.IsTuple l its.toArray ∨ t.heap.IsList l its.toArray) := by
    rcases hl with hl | hl
    · obtain ⟨its, rv, pl, _⟩ := J.tuple hl
      exact ⟨its, rv, .inl pl⟩
    · obtain ⟨its, rv, pl, _⟩ := J.list hl
      exact ⟨its, rv, .inr pl.isList⟩
  refine nset ks (J.ok.hd cm) pl (by simpa using refsN_of_vals rv) (fun p hp => (hk p hp).ni J) few (by omega) fun h' n M rs vn tb R sub all keep => ?_
  exact ⟨.ref t.heap.objs.size, upd K t.heap.objs.size (SetNO X.w t.heap.objs.size M), J.laid (t' := n) keep (Nat.le_refl _) (setN_ok R.n0), rfl, q _ M new R.nd sub all⟩
def rSortedN (F : PySem.W.Frag) (w : World) : List V → Hp → VK → Prop := fun vs H Q => ∃ (a : Addr) (M : ML), vs = [V.ref a] ∧ H a = some (SetNO w a M) ∧ (∀ p ∈ M, MemH F H p) ∧ PySem.W.AllAlike (M.map fun p => p.2.data) ∧ PySem.W.Sortable (M.map fun p => p.2.data) ∧ (∀ p ∈ M, p.2.data.depth ≤ 60) ∧
  ∀ (L : ML) (p : Addr), L.Perm M → (L.map (·.2)).Nodup → L.Pairwise (fun q r => PySem.W.dataLe false (fun p : Addr × NestedKey => p.2.data) q r = true) → H p = none → Q (.ref p) (upd H p (.lst (L.map fun q => V.ref q.1)))
theorem cr_sortedN (cm : X.calm = true) (hu : X.A.units + 64 < cLine) : CallR X (.builtin "sorted") (rSortedN X.K X.w) := by
  rintro pins t sl K xs us Q J r ⟨a, M, rfl, ha, hk, al, so, dp, q⟩
  obtain ⟨rs, vn, tb, h1, h2, h3, h4, h5, h6, h7, h8⟩ : SetN0 X.w a M t.heap := (J.hok a _ ha).1
  have R : SN X.w t.heap a M rs vn tb := ⟨h1, h2, h3, h4, fun p hp => (hk p hp).ni J, h5, h6, h7, h8⟩
  rw [Vals.ref1 r]
  refine nsorted R (J.ok.hd cm) (fun p hp => NKH.rd J _ _ _ (hk p hp).2.2 (hk p hp).1 rfl) al so dp hu fun s' p out c L k g o hp hg hout pm pw => ?_
  have hfew : L.length < 64 := by rw [pm.length_eq]; exact R.few
  have hlen : (L.map fun q => V.ref q.1).length ≤ sizeLine := by rw [List.length_map, sizeLine_eq]; omega
  have hn : K p = none := J.hok.fresh hp
  have hv : Vals (L.map fun q => V.ref q.1) out.toList := by rw [hout]; exact valsN_of_refs L
  have J2 : Inv X pins sl (upd K p (.lst (L.map fun q => V.ref q.1))) { t with heap := s'.heap, gens := s'.gens, drawn := s'.drawn, toks := s'.toks } :=
    J.call (ch := []) (Un.laid k hp hn) (J.hok.laid k hp ⟨hlen, out.toList, c, hv, hg⟩) (by rw [g]; exact J.bare) (fun _ z => nomatch z)
  have e : s' = { t with heap := s'.heap, gens := s'.gens, drawn := s'.drawn, toks := s'.toks } := by
    cases s'
    cases t
    cases o
    rfl
  rw [e]
  exact ⟨.ref p, _, J2, rfl, q L p pm ((pm.map (·.2)).nodup_iff.mpr R.nd) pw hn⟩
end
end Sm

namespace Sm
open PySem L2 PyProof.Rows
mutual
theorem nkD_py : ∀ k : NestedKey, (nkD k).py = k.data
  | .none => rfl
  | .num _ => rfl
  | .text _ => rfl
  | .tup ks => by
    show PyData.tuple (pys (nkDs ks)) = PyData.tuple (NestedKey.datas ks)
    rw [nkDs_py ks]
theorem nkDs_py : ∀ ks : List NestedKey, pys (nkDs ks) = NestedKey.datas ks
  | [] => rfl
  | k :: ks => by
    show (nkD k).py :: pys (nkDs ks) = k.data :: NestedKey.datas ks
    rw [nkD_py k, nkDs_py ks]
end
mutual
theorem data_dep : ∀ k : NestedKey, k.data.depth = k.depth
  | .none => rfl
  | .num _ => rfl
  | .text _ => rfl
  | .tup ks => by
    simp only [NestedKey.data, NestedKey.depth, PyData.depth]
    rw [datas_dep ks]
theorem datas_dep : ∀ ks : List NestedKey, PyData.depthAll (NestedKey.datas ks) = NestedKey.depthAll ks
  | [] => rfl
  | k :: ks => by
    simp only [NestedKey.datas, NestedKey.depthAll, PyData.depthAll]
    rw [data_dep k, datas_dep ks]
end
mutual
theorem nb_nkD : ∀ k : NestedKey, nb (nkD k) = true
  | .none => by simp [nkD, nb, nbs]
  | .num _ => by simp [nkD, nb, nbs]
  | .text _ => by simp [nkD, nb, nbs]
  | .tup ks => by
    show nb (.tup (nkDs ks)) = true
    rw [nb_tup]
    exact List.all_eq_true.mpr (nb_nkDs ks)
theorem nb_nkDs : ∀ ks : List NestedKey, ∀ d ∈ nkDs ks, nb d = true
  | [] => fun d h => nomatch h
  | k :: ks => fun d h => by
    rcases List.mem_cons.mp (show d ∈ nkD k :: nkDs ks from h) with rfl | h
    · exact nb_nkD k
    · exact nb_nkDs ks d h
end
theorem nkD_inj {a b : NestedKey} (h : nkD a = nkD b) : a = b := by
  have := congrArg nkOf h
  rw [nkOf_D, nkOf_D] at this
  exact Option.some.inj this
theorem leE_antiL {a b : D} (haa : PySem.W.alike a.py a.py = true) (hab : PySem.W.alike a.py b.py = true) (hba : PySem.W.alike b.py a.py = true) (hbb : PySem.W.alike b.py b.py = true) (na : nb a = true) (nb_ : nb b = true) (h1 : leE D.py a b = true) (h2 : leE D.py b a = true) : a = b := by
  have ok : OKey fun x : {x : D // x = a ∨ x = b} => x.1.py := ⟨fun x y => by
    obtain ⟨x, hx⟩ := x
    obtain ⟨y, hy⟩ := y
    rcases hx with rfl | rfl <;> rcases hy with rfl | rfl <;> assumption, fun x y e => by
    obtain ⟨x, hx⟩ := x
    obtain ⟨y, hy⟩ := y
    refine Subtype.ext ((eqv_nb ?_ ?_).mp e)
    · rcases hx with rfl | rfl <;> assumption
    · rcases hy with rfl | rfl <;> assumption⟩
  exact congrArg Subtype.val (leE_anti (a := ⟨a, .inl rfl⟩) (b := ⟨b, .inr rfl⟩) ok h1 h2)
theorem rise_uniqD {xs ys : List D} (p : xs.Pairwise (ltE D.py)) (q : ys.Pairwise (ltE D.py)) (e : ∀ a, a ∈ xs ↔ a ∈ ys) (al : ∀ a ∈ xs, ∀ b ∈ xs, PySem.W.alike a.py b.py = true) (nbs : ∀ a ∈ xs, nb a = true) : xs = ys := by
  have nx : xs.Nodup := p.imp fun z => z.2
  have ny : ys.Nodup := q.imp fun z => z.2
  have pp : xs.Perm ys := (List.perm_ext_iff_of_nodup nx ny).mpr e
  exact List.Perm.eq_of_pairwise (le := fun a b => leE D.py a b = true) (fun a b ha hb h1 h2 => leE_antiL (al a ha a ha) (al a ha b ((e b).mpr hb)) (al b ((e b).mpr hb) a ha) (al b ((e b).mpr hb) b ((e b).mpr hb)) (nbs a ha) (nbs b ((e b).mpr hb)) h1 h2) (p.imp fun z => z.1) (q.imp fun z => z.1) pp
open Classical in
noncomputable def onceD (ds : List D) : List D := once D.py ds
open Classical in
theorem mem_onceD {ds : List D} {a : D} : a ∈ onceD ds ↔ a ∈ ds := by
  unfold onceD
  exact mem_once
open Classical in
theorem onceD_pw {ds : List D} : (onceD ds).Pairwise (ltE D.py) := by
  unfold onceD
  exact once_pw
theorem onceD_enc {α : Type} [DecidableEq α] {enc : α → D} {xs : List α} (al : ∀ a b, PySem.W.alike (enc a).py (enc b).py = true) (hn : ∀ a, nb (enc a) = true) (hi : ∀ a b, enc a = enc b → a = b) : onceD (xs.map enc) = (once (fun a => (enc a).py) xs).map enc := by
  refine rise_uniqD onceD_pw ?_ (fun d => ?_) (fun a ha b hb => ?_) (fun a ha => ?_)
  · rw [List.pairwise_map]
    exact once_pw.imp fun {a b} h => ⟨h.1, fun e => h.2 (hi a b e)⟩
  · rw [mem_onceD, List.mem_map, List.mem_map]
    exact ⟨fun ⟨a, h, e⟩ => ⟨a, mem_once.mpr h, e⟩, fun ⟨a, h, e⟩ => ⟨a, mem_once.mp h, e⟩⟩
  · obtain ⟨x, _, rfl⟩ := List.mem_map.mp (mem_onceD.mp ha)
    obtain ⟨y, _, rfl⟩ := List.mem_map.mp (mem_onceD.mp hb)
    exact al x y
  · obtain ⟨x, _, rfl⟩ := List.mem_map.mp (mem_onceD.mp ha)
    exact hn x
theorem onceW {ws : List Wi} : onceD (ws.map dW) = (once kW ws).map dW := onceD_enc al_dW (fun _ => nb_dW) dW_inj
theorem onceP {ws : List (Int × Int)} : onceD (ws.map dP) = (once kP ws).map dP := onceD_enc al_dP (fun _ => nb_dP) dP_inj
theorem nodup_fit {α : Type} : ∀ (l d : List α), l.Nodup → (∀ x ∈ l, x ∈ d) → l.length ≤ d.length
  | [], _, _, _ => Nat.zero_le _
  | x :: l, d, n, h => by
    obtain ⟨d1, d2, rfl⟩ := List.append_of_mem (h x List.mem_cons_self)
    obtain ⟨nx, nl⟩ := List.nodup_cons.mp n
    have := nodup_fit l (d1 ++ d2) nl fun y hy => by
      have m := h y (List.mem_cons_of_mem _ hy)
      rw [List.mem_append, List.mem_cons] at m
      rw [List.mem_append]
      rcases m with m | m | m
      · exact .inl m
      · exact absurd (m ▸ hy) nx
      · exact .inr m
    simp only [List.length_append, List.length_cons] at this ⊢
    omega
theorem mem_refs {G : Cfg} {w : Wd} : ∀ {ds : List D} {vs : List V}, RDs G w ds vs → (∀ d ∈ ds, ∃ k, tkOf d = some k ∧ noTx k = true) →
    ∃ ks : ML, vs = ks.map (fun q => V.ref q.1) ∧ ds = ks.map (fun q => nkD q.2) ∧ ∀ q ∈ ks, NK G.K w q.2 (.ref q.1) ∧ q.2.depth ≤ 8 ∧ noTx q.2 = true
  | [], vs, h, _ => by
    unfold RDs at h
    subst h
    exact ⟨[], rfl, rfl, fun q hq => nomatch hq⟩
  | d :: ds, vs, h, t => by
    unfold RDs at h
    obtain ⟨v, vr, rfl, hp, hr⟩ := h
    obtain ⟨ks, rfl, e, hk⟩ := mem_refs hr fun d hd => t d (List.mem_cons_of_mem _ hd)
    obtain ⟨k, tk, nt⟩ := t d List.mem_cons_self
    obtain ⟨b, rfl, nk, dp⟩ := tk_rq tk (.inl hp)
    refine ⟨(b, k) :: ks, rfl, by rw [List.map_cons, ← e, ← (tkOf_eq tk).1], fun q hq => ?_⟩
    rcases List.mem_cons.mp hq with rfl | hq
    · exact ⟨nk, dp, nt⟩
    · exact hk q hq
def sqOf : D → Option (List D)
  | .lst ds => some ds
  | .tup ds => some ds
  | _ => none
open Classical in
noncomputable def sortSetN (d : D) (st : Sto) : Rs := match sqOf d with
  | some ds => if (∀ d ∈ ds, ∃ k, tkOf d = some k ∧ noTx k = true) ∧ (onceD ds).length < 64 ∧ PySem.W.AllAlike (pys ds) ∧ PySem.W.Sortable (pys ds) then .ok (.lst (onceD ds)) st else .bad
  | none => .bad
noncomputable def bSortSetN (f : Ev) : Ev := fun r st => (f r st).bind fun d st1 => sortSetN (der st1 d) st1
section
variable {X : Cx} {B : Bs} {Wx : WX} {a : Expr} {f : Ev} {r : Env} {st : Sto} {Q : D → Sto → Prop} {E' : Str → Option (Str × D) → Sto → Prop}
theorem rq_sq {w : Wd} {d : D} {v : V} {ds : List D} (h : sqOf d = some ds) (r : RQ (cg X) w d v) : ∃ l vs, v = .ref l ∧ (SqT X.K w.H l vs ∨ SqL X.K w.H l vs) ∧ RDs (cg X) w ds vs := by
  cases d with
  | lst xs =>
    cases h
    obtain ⟨l, vs, rfl, t, rs⟩ := r.lst
    exact ⟨l, vs, rfl, .inr (.of t), rs⟩
  | tup xs =>
    cases h
    obtain ⟨l, vs, rfl, t, rs⟩ := r.tup
    exact ⟨l, vs, rfl, .inl t, rs⟩
  | _ => cases h
theorem je_sortSetN {p p2 q pos : Pos} (hu : X.A.units + 64 < cLine) (g1 : Gl X "sorted") (m1 : X.mg "sorted" = none) (g2 : Gl X "set") (m2 : X.mg "set" = none) (ha : JE X B .bo Wx a f) (cm : X.calm = true := by rfl)
    (s1 : starEach [a] X.env = (false, eval a X.env) :: starEach [] X.env := by rfl) (s2 : starEach [.Call (.Name "set" p2) [a] [] q] X.env = (false, eval (.Call (.Name "set" p2) [a] [] q) X.env) :: starEach [] X.env := by rfl)
    (f1 : (backTo q (starEach [] X.env)).any (·.1) = false := by rfl) (f2 : (backTo pos (starEach [] X.env)).any (·.1) = false := by rfl) :
    JE X B .fr Wx (.Call (.Name "sorted" p) [.Call (.Name "set" p2) [a] [] q] [] pos) (bSortSetN f) := by
  refine pe_imp (pe_callB (cr_sortedN cm hu) g1 m1 boot_sorted (pa_cons (pe_callTy (cr_setN cm hu) g2 m2 boot_set (pa_cons ha pa_nil s1) (by decide) (by decide) s1 f1) pa_nil s2) (by decide) (by decide) s2 f2) ?_
  rintro s H Q ⟨O, r, st, w, rfl, R, q⟩
  refine ⟨O, r, st, w, rfl, R, (post.bind q).mono ?_⟩
  rintro v H1 ⟨d1, st1, w1, rfl, R1, x1, rr1, q1⟩
  have rb := (rr1.q).der R1.sto
  unfold sortSetN at q1
  cases z : sqOf (der st1 d1) with
  | none => rw [z] at q1; exact (show False from q1).elim
  | some ds =>
    rw [z] at q1
    by_cases hz : (∀ d ∈ ds, ∃ k, tkOf d = some k ∧ noTx k = true) ∧ (onceD ds).length < 64 ∧ PySem.W.AllAlike (pys ds) ∧ PySem.W.Sortable (pys ds)
    · simp only [if_pos hz] at q1
      obtain ⟨ht, hf, hal, hso⟩ := hz
      obtain ⟨l, vs, rfl, tq, rs0⟩ := rq_sq z rb
      obtain ⟨ks, rfl, ed, hk⟩ := mem_refs rs0 ht
      have rdk : ∀ p ∈ ks, ∀ w', Wk w1 w' → RD (cg X) w' (nkD p.2) (.ref p.1) := fun p hp w' k => nk_dr _ _ (NK.wk k _ _ (hk p hp).1)
      have inds : ∀ p ∈ ks, nkD p.2 ∈ ds := fun p hp => by rw [ed]; exact List.mem_map.mpr ⟨p, hp, rfl⟩
      refine ⟨l, ks, rfl, tq, fun p hp => ⟨NK.h _ _ (hk p hp).1, (hk p hp).2.1, (hk p hp).2.2⟩, fun M nd sub => ?_, fun a M ha nd sub all => ?_⟩
      · have := nodup_fit (M.map fun q => nkD q.2) (onceD ds) (by
          exact List.pairwise_map.mpr ((List.pairwise_map.mp nd).imp fun h e => h (nkD_inj e))) fun x hx => by
            obtain ⟨p, hp, rfl⟩ := List.mem_map.mp hx
            exact mem_onceD.mpr (inds p (sub p hp))
        rw [List.length_map] at this
        omega
      · have k2 := (Wd.add_ext (o := SetNO X.w a M) (b := false) ha).wk R1.wf
        have R2 := R1.add (o := SetNO X.w a M) (b := false) ha
        have x2 := x1.trans (Wd.add_ext (o := SetNO X.w a M) (b := false) ha)
        have dat : ∀ p ∈ M, p.2.data ∈ pys ds := fun p hp => by
          rw [pys_map, ← nkD_py]
          exact List.mem_map.mpr ⟨_, inds p (sub p hp), rfl⟩
        refine ⟨a, M, rfl, upd_same, fun p hp => ⟨NK.h _ _ (NK.wk k2 _ _ (hk p (sub p hp)).1), (hk p (sub p hp)).2.1, (hk p (sub p hp)).2.2⟩, fun x hx y hy => ?_, ?_, fun p hp => ?_, fun L b perm nd2 pw hb => ?_⟩
        · obtain ⟨p, hp, rfl⟩ := List.mem_map.mp hx
          obtain ⟨p2, hp2, rfl⟩ := List.mem_map.mp hy
          exact hal _ (dat p hp) _ (dat p2 hp2)
        · refine hso.imp (fun h x hx => ?_) (fun h x hx => ?_) <;> obtain ⟨p, hp, rfl⟩ := List.mem_map.mp hx <;> exact h _ (dat p hp)
        · rw [data_dep]
          have := (hk p (sub p hp)).2.1
          omega
        · have el : L.map (fun q => nkD q.2) = onceD ds := by
            refine rise_uniqD ?_ onceD_pw (fun d => ?_) (fun x hx y hy => ?_) (fun x hx => ?_)
            · rw [List.pairwise_map]
              refine (pw.and (List.pairwise_map.mp nd2)).imp fun {q r} h => ⟨?_, fun e => h.2 (nkD_inj e)⟩
              have h1 : leE (fun p : Addr × NestedKey => p.2.data) q r = true := h.1
              have e1 : leE D.py (nkD q.2) (nkD r.2) = leE (fun p : Addr × NestedKey => p.2.data) q r := by
                show (!_) = (!_)
                simp only [nkD_py]
              rw [e1]; exact h1
            · rw [mem_onceD]
              constructor
              · intro h
                obtain ⟨p, hp, rfl⟩ := List.mem_map.mp h
                exact inds p (sub p (perm.mem_iff.mp hp))
              · intro h
                rw [ed] at h
                obtain ⟨p, hp, rfl⟩ := List.mem_map.mp h
                obtain ⟨p2, hp2, e2⟩ := List.mem_map.mp (all p hp)
                exact List.mem_map.mpr ⟨p2, perm.mem_iff.mpr hp2, congrArg nkD e2⟩
            · obtain ⟨p, hp, rfl⟩ := List.mem_map.mp hx
              obtain ⟨p2, hp2, rfl⟩ := List.mem_map.mp hy
              rw [nkD_py, nkD_py]
              exact hal _ (dat p (perm.mem_iff.mp hp)) _ (dat p2 (perm.mem_iff.mp hp2))
            · obtain ⟨p, hp, rfl⟩ := List.mem_map.mp hx
              exact nb_nkD _
          have rds : ∀ (w' : Wd), Wk w1 w' → ∀ L : ML, (∀ p ∈ L, p ∈ ks) → RDs (cg X) w' (L.map fun q => nkD q.2) (L.map fun q => V.ref q.1) := fun w' k L => by
            induction L with
            | nil => intro _; show RDs _ _ [] []; unfold RDs; rfl
            | cons p L ih =>
              intro h
              show RDs _ _ (nkD p.2 :: _) (V.ref p.1 :: _)
              unfold RDs
              exact ⟨_, _, rfl, rdk p (h p List.mem_cons_self) w' k, ih fun r hr => h r (List.mem_cons_of_mem _ hr)⟩
          rw [← el] at q1
          exact post.own R2 x2 q1 hb fun w' i k => ⟨_, i, rds w' (k2.trans k) L fun p hp => sub p (perm.mem_iff.mp hp)⟩
    · simp only [if_neg hz] at q1; exact (show False from q1).elim
theorem w_sortSetN : RsP (bSortSetN f r st) Q E' = RsP (f r st) (fun d st1 => derP st1 d fun d' => RsP (sortSetN d' st1) Q E') E' := by
  unfold bSortSetN
  rw [w_bind]; rfl
theorem f_sortSetL {ds : List D} : RsP (sortSetN (.lst ds) st) Q E' = (((∀ d ∈ ds, ∃ k, tkOf d = some k ∧ noTx k = true) ∧ (onceD ds).length < 64 ∧ PySem.W.AllAlike (pys ds) ∧ PySem.W.Sortable (pys ds)) ∧ Q (.lst (onceD ds)) st) := by
  unfold sortSetN
  simp only [sqOf]
  by_cases hz : (∀ d ∈ ds, ∃ k, tkOf d = some k ∧ noTx k = true) ∧ (onceD ds).length < 64 ∧ PySem.W.AllAlike (pys ds) ∧ PySem.W.Sortable (pys ds)
  · rw [if_pos hz]
    exact propext ⟨fun h => ⟨hz, h⟩, fun h => h.2⟩
  · rw [if_neg hz]
    exact propext ⟨fun h => h.elim, fun h => hz h.1⟩
theorem f_sortSetT {ds : List D} : RsP (sortSetN (.tup ds) st) Q E' = (((∀ d ∈ ds, ∃ k, tkOf d = some k ∧ noTx k = true) ∧ (onceD ds).length < 64 ∧ PySem.W.AllAlike (pys ds) ∧ PySem.W.Sortable (pys ds)) ∧ Q (.lst (onceD ds)) st) := f_sortSetL
theorem tk_dW {x : Wi} : ∃ k, tkOf (dW x) = some k ∧ noTx k = true := by
  have e1 : ∀ w : Wi, nksOf (w.map dP) = some (w.map fun p => .tup [.num p.1, .num p.2]) := fun w => by
    induction w with
    | nil => rfl
    | cons p w ih =>
      show (match nkOf (dP p), nksOf (w.map dP) with | some k, some ks => some (k :: ks) | _, _ => none) = _
      rw [ih]
      rfl
  have e2 : ∀ w : Wi, NestedKey.depthAll (w.map fun p => NestedKey.tup [.num p.1, .num p.2]) ≤ 1 := fun w => by
    induction w with
    | nil => simp [NestedKey.depthAll]
    | cons p w ih =>
      simp only [List.map_cons, NestedKey.depthAll, NestedKey.depth]
      omega
  have e3 : ∀ w : Wi, noTxs (w.map fun p => NestedKey.tup [.num p.1, .num p.2]) = true := fun w => by
    induction w with
    | nil => rfl
    | cons p w ih => simp only [List.map_cons, noTxs, noTx, ih, Bool.and_self, Bool.true_and]
  refine ⟨.tup (x.map fun p => .tup [.num p.1, .num p.2]), ?_, by simp only [noTx]; exact e3 x⟩
  show ((nksOf (x.map dP)).map NestedKey.tup).bind _ = _
  rw [e1 x]
  show (if _ then _ else _) = _
  rw [if_pos (by simp only [NestedKey.depth]; have := e2 x; omega)]
theorem setW_ok {ws : List Wi} (hw : ∀ w ∈ ws, w ≠ []) (hl : ws.length ≤ LIM) (few : (once kW ws).length < 64) : (∀ d ∈ ws.map dW, ∃ k, tkOf d = some k ∧ noTx k = true) ∧ (onceD (ws.map dW)).length < 64 ∧ PySem.W.AllAlike (pys (ws.map dW)) ∧ PySem.W.Sortable (pys (ws.map dW)) :=
  ⟨fun d hd => by
    obtain ⟨w, _, rfl⟩ := List.mem_map.mp hd
    exact tk_dW, by rw [onceW, List.length_map]; exact few, (sortW_ok hw hl).2⟩
theorem tk_dP {x : Int × Int} : ∃ k, tkOf (dP x) = some k ∧ noTx k = true := ⟨.tup [.num x.1, .num x.2], rfl, rfl⟩
end
end Sm

namespace Sm
open PySem L2
def ixS (x : Str) : List Str → Option Nat
  | [] => none
  | y :: ys => match x == y with
    | true => some 0
    | false => (ixS x ys).map (· + 1)
theorem put_old {x : Str} {v : V} : ∀ {fv : List (Str × V)} {i : Nat}, ixS x (fv.map (·.1)) = some i → (putF x v fv).map (·.1) = fv.map (·.1) ∧ (putF x v fv).map (·.2) = (fv.map (·.2)).set i v
  | [], i, h => by simp [ixS] at h
  | (y, u) :: fv, i, h => by
    simp only [List.map_cons, ixS] at h
    unfold putF
    cases e : x == y with
    | true =>
      rw [e] at h
      cases h
      rw [if_pos (beq_iff_eq.mp e).symm]
      exact ⟨rfl, rfl⟩
    | false =>
      rw [e] at h
      obtain ⟨j, hj, rfl⟩ := Option.map_eq_some_iff.mp h
      have ne : ¬ y = x := fun z => by subst z; simp at e
      rw [if_neg ne]
      obtain ⟨h1, h2⟩ := put_old (v := v) hj
      exact ⟨by rw [List.map_cons, h1]; rfl, by rw [List.map_cons, h2]; rfl⟩
theorem put_new {x : Str} {v : V} : ∀ {fv : List (Str × V)}, ixS x (fv.map (·.1)) = none → putF x v fv = fv ++ [(x, v)]
  | [], _ => rfl
  | (y, u) :: fv, h => by
    simp only [List.map_cons, ixS] at h
    unfold putF
    cases e : x == y with
    | true => rw [e] at h; cases h
    | false =>
      rw [e] at h
      have ne : ¬ y = x := fun z => by subst z; simp at e
      rw [if_neg ne, put_new (by simpa using h)]
      rfl
def bFld (c : Str) (ns : List Str) (i : Nat) (f : Ev) : Ev := fun r st => (f r st).bind fun d st1 => match d with
  | .ref n => (match st1[n]? with
    | some (.ins c' ns' xs) => if c' = c ∧ ns' = ns then (match xs[i]? with | some v => .ok v st1 | none => .bad) else .bad
    | _ => .bad)
  | _ => .bad
section
variable {X : Cx} {B : Bs} {k : Kd} {fr : Bool} {Wx : WX} {a b e : Expr} {es : List Expr} {f g h : Ev} {fs : List Ev} {pos : Pos} {c x : Str} {ns : List Str} {i : Nat} {C : Addr}
def sFldK (c : Str) (h : Ev) (r : Env) (k : List Str → List D → Option (List Str × List D)) (st1 : Sto) : Rt := ofRs (h r st1) r fun o st2 => match o with
  | .ref n => (match st2[n]? with
    | some (.ins c' ns' xs) => if c' = c then (match k ns' xs with | some p => .nx r (st2.set n (.ins c p.1 p.2)) | none => .bad) else .bad
    | _ => .bad)
  | _ => .bad
def sFld (c : Str) (ns : List Str) (i : Nat) (h f : Ev) : Sv := fun r st => ofRs (f r st) r fun d st1 => sFldK c h r (fun ns' xs => if ns' = ns ∧ i < xs.length then some (ns, xs.set i d) else none) st1
def sFldN (c : Str) (ns ns2 : List Str) (h f : Ev) : Sv := fun r st => ofRs (f r st) r fun d st1 => sFldK c h r (fun ns' xs => if ns' = ns then some (ns2, xs ++ [d]) else none) st1
def bMeth (c : Str) (ns : List Str) (g : Fn) (f : Ev) (fs : List Ev) : Ev := fun r st => (f r st).bind fun d st1 => match d with
  | .ref n => (match st1[n]? with
    | some (.ins c' ns' _) => if c' = c ∧ ns' = ns then (evs fs r st1).bind fun ds st2 => g (.ref n :: ds) st2 else .bad
    | _ => .bad)
  | _ => .bad
variable {j n : Nat} {frr : Bool} {gF : Fn} {fA : Addr} {fd : FuncData} {ps : List Str} {m : Str} {apos : Pos}
def bMake (c : Str) (g : Fn) (fs : List Ev) : Ev := fun r st => (evs fs r st).bind fun ds st1 => match g (.ref st1.length :: ds) (st1 ++ [.ins c [] []]) with
  | .ok .non st2 => .ok (.ref st1.length) st2
  | _ => .bad
variable {fI : Addr} {p : Pos}
end
section
variable {N : Env → Sto → Prop} {R : D → Sto → Prop} {L : Bool → Env → Sto → Prop} {E : Str → Option (Str × D) → Env → Sto → Prop} {E' : Str → Option (Str × D) → Sto → Prop} {Q : D → Sto → Prop} {r : Env} {st : Sto} {f g h : Ev} {fs : List Ev} {c : Str} {ns ns2 : List Str} {i : Nat} {G : Fn}
def insP (c : Str) (ns : List Str) (st : Sto) (d : D) (P : Nat → List D → Prop) : Prop := ∃ n xs, d = .ref n ∧ st[n]? = some (.ins c ns xs) ∧ P n xs
theorem w_fld : RsP (bFld c ns i f r st) Q E' = RsP (f r st) (fun d st1 => insP c ns st1 d fun _ xs => ∃ v, xs[i]? = some v ∧ Q v st1) E' := by
  unfold bFld
  rw [w_bind]
  congr 1; funext d st1
  unfold insP
  cases d with
  | ref n =>
    simp only
    cases z : st1[n]? with
    | none => simp [RsP, z]
    | some so =>
      cases so with
      | ins c' ns' xs =>
        simp only
        by_cases hz : c' = c ∧ ns' = ns
        · obtain ⟨rfl, rfl⟩ := hz
          simp only [and_self, if_true]
          cases zx : xs[i]? with
          | none => simp [RsP, z, zx]
          | some v => simp [RsP, z, zx]
        · rw [if_neg hz]
          refine propext ⟨fun h => h.elim, ?_⟩
          rintro ⟨n', xs', e, e2, _⟩
          cases e
          rw [z] at e2
          cases e2
          exact hz ⟨rfl, rfl⟩
      | _ => simp [RsP, z]
  | _ => simp [RsP]
theorem m_fldK {k : List Str → List D → Option (List Str × List D)} : RtP (sFldK c h r k st) N R L E = RsP (h r st) (fun d st1 => ∃ n ns xs, d = .ref n ∧ st1[n]? = some (.ins c ns xs) ∧ ∃ p, k ns xs = some p ∧ N r (st1.set n (.ins c p.1 p.2))) (fun c a st => E c a r st) := by
  unfold sFldK
  rw [w_of]
  congr 1; funext d st1
  cases d with
  | ref n =>
    simp only
    cases z : st1[n]? with
    | none => simp [RtP, z]
    | some so =>
      cases so with
      | ins c' ns' xs =>
        simp only
        by_cases hz : c' = c
        · subst hz
          rw [if_pos rfl]
          cases zk : k ns' xs with
          | none =>
            refine propext ⟨fun h => h.elim, ?_⟩
            rintro ⟨n', ns2, xs', e, e2, p, e3, _⟩
            cases e
            rw [z] at e2
            cases e2
            rw [zk] at e3; cases e3
          | some p =>
            refine propext ⟨fun h => ⟨n, ns', xs, rfl, z, p, zk, h⟩, ?_⟩
            rintro ⟨n', ns2, xs', e, e2, p, e3, h⟩
            cases e
            rw [z] at e2
            cases e2
            rw [zk] at e3; cases e3
            exact h
        · rw [if_neg hz]
          refine propext ⟨fun h => h.elim, ?_⟩
          rintro ⟨n', ns2, xs', e, e2, _⟩
          cases e
          rw [z] at e2
          cases e2
          exact hz rfl
      | _ => simp [RtP, z]
  | _ => simp [RtP]
theorem m_fld : RtP (sFld c ns i h f r st) N R L E = RsP (f r st) (fun v st1 => RsP (h r st1) (fun d st2 => insP c ns st2 d fun n xs => i < xs.length ∧ N r (st2.set n (.ins c ns (xs.set i v)))) (fun c a st => E c a r st)) (fun c a st => E c a r st) := by
  unfold sFld
  rw [w_of]
  congr 1; funext v st1
  rw [m_fldK]
  congr 1; funext d st2
  unfold insP
  refine propext ⟨?_, ?_⟩
  · rintro ⟨n, ns', xs, rfl, e, p, hp, h⟩
    by_cases hz : ns' = ns ∧ i < xs.length
    · rw [if_pos hz] at hp
      cases hp
      obtain ⟨rfl, h2⟩ := hz
      exact ⟨n, xs, rfl, e, h2, h⟩
    · rw [if_neg hz] at hp; cases hp
  · rintro ⟨n, xs, rfl, e, h2, h⟩
    exact ⟨n, ns, xs, rfl, e, _, if_pos ⟨rfl, h2⟩, h⟩
theorem m_fldN : RtP (sFldN c ns ns2 h f r st) N R L E = RsP (f r st) (fun v st1 => RsP (h r st1) (fun d st2 => insP c ns st2 d fun n xs => N r (st2.set n (.ins c ns2 (xs ++ [v])))) (fun c a st => E c a r st)) (fun c a st => E c a r st) := by
  unfold sFldN
  rw [w_of]
  congr 1; funext v st1
  rw [m_fldK]
  congr 1; funext d st2
  unfold insP
  refine propext ⟨?_, ?_⟩
  · rintro ⟨n, ns', xs, rfl, e, p, hp, h⟩
    by_cases hz : ns' = ns
    · rw [if_pos hz] at hp
      cases hp
      subst hz
      exact ⟨n, xs, rfl, e, h⟩
    · rw [if_neg hz] at hp; cases hp
  · rintro ⟨n, xs, rfl, e, h⟩
    exact ⟨n, ns, xs, rfl, e, _, if_pos rfl, h⟩
theorem w_meth : RsP (bMeth c ns G f fs r st) Q E' = RsP (f r st) (fun d st1 => insP c ns st1 d fun n _ => RsLP (evs fs r st1) (fun ds st2 => RsP (G (.ref n :: ds) st2) Q E') E') E' := by
  unfold bMeth
  rw [w_bind]
  congr 1; funext d st1
  unfold insP
  cases d with
  | ref n =>
    simp only
    cases z : st1[n]? with
    | none => simp [RsP, z]
    | some so =>
      cases so with
      | ins c' ns' xs =>
        simp only
        by_cases hz : c' = c ∧ ns' = ns
        · obtain ⟨rfl, rfl⟩ := hz
          rw [if_pos ⟨rfl, rfl⟩, w_bindL]
          refine propext ⟨fun h => ⟨n, xs, rfl, z, h⟩, ?_⟩
          rintro ⟨n', xs', e, e2, h⟩
          cases e
          exact h
        · rw [if_neg hz]
          refine propext ⟨fun h => h.elim, ?_⟩
          rintro ⟨n', xs', e, e2, _⟩
          cases e
          rw [z] at e2
          cases e2
          exact hz ⟨rfl, rfl⟩
      | _ => simp [RsP, z]
  | _ => simp [RsP]
theorem w_make : RsP (bMake c G fs r st) Q E' = RsLP (evs fs r st) (fun ds st1 => RsP (G (.ref st1.length :: ds) (st1 ++ [.ins c [] []])) (fun d st2 => d = .non ∧ Q (.ref st1.length) st2) (fun _ _ _ => False)) E' := by
  unfold bMake
  rw [w_bindL]
  congr 1; funext ds st1
  cases G (.ref st1.length :: ds) (st1 ++ [.ins c [] []]) with
  | ok d st2 => cases d <;> simp [RsP]
  | err _ _ _ => simp [RsP]
  | bad => simp [RsP]
end
end Sm

namespace Sm
open PySem L2
structure Un (w w' : Wd) (al : Addr) : Prop where
  im : ∀ a o, Im w a o → a ≠ al → Im w' a o
  at_ : ∃ ob u, w.H al = some (.frz ob u) ∧ ((∃ kvs, u = .dK kvs) ∨ ∃ φ, u = .ext φ)
  mu : al ∈ w.u
  u : w'.u = w.u
section
variable {G : Cfg} {w w' : Wd} {al : Addr}
theorem Un.ne {a : Addr} {o : HO} (x : Un w w' al) (i : Im w a o) (h : (∀ ob u, o ≠ .frz ob u) ∨ ∃ ob u, o = .frz ob u ∧ (∀ kvs, u ≠ .dK kvs) ∧ ∀ φ, u ≠ .ext φ) : a ≠ al := fun e => by
  obtain ⟨ob, u, e2, h2⟩ := x.at_
  rw [e] at i
  have e3 := i.1.symm.trans e2
  cases e3
  rcases h with h | ⟨ob', u', e4, h3, h4⟩
  · exact h ob u rfl
  · cases e4
    rcases h2 with ⟨k, rfl⟩ | ⟨k, rfl⟩
    · exact h3 k rfl
    · exact h4 k rfl
theorem Un.tp {K : PySem.W.Frag} {a : Addr} {xs : List V} (x : Un w w' al) (h : TpI K w a xs) : TpI K w' a xs := by
  rcases h with h | ⟨o, h⟩ | h
  · exact .inl (x.im _ _ h (x.ne h (.inl fun _ _ z => nomatch z)))
  · exact .inr (.inl ⟨o, x.im _ _ h (x.ne h (.inr ⟨o, _, rfl, fun _ z => (nomatch z), fun _ z => nomatch z⟩))⟩)
  · exact .inr (.inr h)
theorem Un.fr {K : PySem.W.Frag} {a : Addr} {xs : List V} (x : Un w w' al) (h : FrI K w a xs) : FrI K w' a xs := by
  rcases h with ⟨o, h⟩ | h
  · exact .inl ⟨o, x.im _ _ h (x.ne h (.inr ⟨o, _, rfl, fun _ z => (nomatch z), fun _ z => nomatch z⟩))⟩
  · exact .inr h
mutual
theorem NK.un {F : PySem.W.Frag} (x : Un w w' al) : ∀ (k : NestedKey) (v : V), NK F w k v → NK F w' k v
  | .none, v, h => by unfold NK at *; exact h
  | .num i, v, h => by unfold NK at *; exact h
  | .text y, v, h => by unfold NK at *; exact h
  | .tup ks, v, h => by
    unfold NK at *
    obtain ⟨a, vs, e, t, r⟩ := h
    exact ⟨a, vs, e, x.tp t, NKs.un x ks vs r⟩
theorem NKs.un {F : PySem.W.Frag} (x : Un w w' al) : ∀ (ks : List NestedKey) (vs : List V), NKs F w ks vs → NKs F w' ks vs
  | [], vs, h => by unfold NKs at *; exact h
  | k :: ks, vs, h => by
    unfold NKs at *
    obtain ⟨v, r, e, h1, h2⟩ := h
    exact ⟨v, r, e, NK.un x k v h1, NKs.un x ks r h2⟩
end
theorem DcO.un (x : Un w w' al) {a : Addr} {ks : List D} {vs : List V} {o : HO} (h : DcO G w a ks vs o) : DcO G w' a ks vs o := by
  rcases h with h | ⟨xs, e1, e2, e3, e4⟩
  · exact .inl h
  · exact .inr ⟨xs, e1, e2, e3, fun y hy => ⟨NK.un x _ _ (e4 y hy).1, (e4 y hy).2⟩⟩
theorem DcI.un (x : Un w w' al) {a : Addr} {ks : List D} {vs : List V} (ne : a ≠ al) (h : DcI G w a ks vs) : DcI G w' a ks vs :=
  let ⟨o, ob, t, q⟩ := h
  ⟨o, ob, x.im _ _ t ne, q.un x⟩
mutual
theorem RD.un (x : Un w w' al) : ∀ (d : D) (v : V), RD G w d v → RD G w' d v
  | .non, v, h => by unfold RD at *; exact h
  | .bl b, v, h => by unfold RD at *; exact h
  | .int i, v, h => by unfold RD at *; exact h
  | .str s, v, h => by unfold RD at *; exact h
  | .tup ds, v, h => by
    unfold RD at *
    obtain ⟨a, vs, e, t, r⟩ := h
    exact ⟨a, vs, e, x.tp t, RDs.un x ds vs r⟩
  | .lst ds, v, h => by
    unfold RD at *
    obtain ⟨a, vs, e, t, r⟩ := h
    exact ⟨a, vs, e, x.im _ _ t (x.ne t (.inl fun _ _ z => nomatch z)), RDs.un x ds vs r⟩
  | .dct ks ds, v, h => by
    unfold RD at *
    obtain ⟨a, vs, e, ⟨dc, nu⟩, r2⟩ := h
    exact ⟨a, vs, e, ⟨dc.un x fun z => nu (by rw [z]; exact x.mu), by rw [x.u]; exact nu⟩, RDs.un x ds vs r2⟩
  | .ref n, v, h => by
    unfold RD at *
    obtain ⟨a, e, t⟩ := h
    exact ⟨a, e, by rw [x.u]; exact t⟩
  | .exc c f, v, h => by
    unfold RD at *
    obtain ⟨a, C, e, g, φ, d, i, p, q⟩ := h
    refine ⟨a, C, e, g, φ, d, x.im _ _ i (x.ne i (.inl fun _ _ z => nomatch z)), p, ?_⟩
    cases f with
    | none => exact q
    | some n => obtain ⟨z, e1, e2⟩ := q; exact ⟨z, e1, x.im _ _ e2 (x.ne e2 (.inl fun _ _ z => nomatch z))⟩
  | .frg ds, v, h => by
    unfold RD at *
    obtain ⟨a, vs, e, t, r⟩ := h
    exact ⟨a, vs, e, x.fr t, RDs.un x ds vs r⟩
theorem RDs.un (x : Un w w' al) : ∀ (ds : List D) (vs : List V), RDs G w ds vs → RDs G w' ds vs
  | [], vs, h => by unfold RDs at *; exact h
  | d :: ds, vs, h => by
    unfold RDs at *
    obtain ⟨v, r, e, h1, h2⟩ := h
    exact ⟨v, r, e, RD.un x d v h1, RDs.un x ds r h2⟩
end
theorem RC.un (x : Un w w' al) {a : Addr} (e : w'.H a = w.H a) : ∀ {d : D}, RC G w a d → RC G w' a d := fun {d} h => by
  cases d with
  | lst ds =>
    obtain ⟨vs, e1, r⟩ := h
    exact ⟨vs, e.trans e1, RDs.un x _ _ r⟩
  | dct ks ds =>
    obtain ⟨o, vs, t, q, r2⟩ := h
    exact ⟨o, vs, e.trans t, q.un x, RDs.un x ds vs r2⟩
  | _ => exact (show False from h).elim
theorem RSO.un (x : Un w w' al) {a : Addr} (ne : a ≠ al) (e : w'.H a = w.H a) : ∀ {o : SO}, RSO G w a o → RSO G w' a o := fun {o} h => by
  cases o with
  | lst ds => exact RC.un (d := .lst ds) x e h
  | dct ks ds => exact RC.un (d := .dct ks ds) x e h
  | ins c ns xs =>
    obtain ⟨C, dx, fv, e1, g, en, r⟩ := h
    exact ⟨C, dx, fv, e.trans e1, g, en, RDs.un x _ _ r⟩
  | lk ks ds =>
    obtain ⟨vs, dc, r⟩ := h
    exact ⟨vs, dc.un x ne, RDs.un x ds vs r⟩
  | gone => exact True.intro
theorem DcO.kd {a : Addr} {ks : List D} {vs : List V} {o : HO} (h : DcO G w a ks vs o) : (∃ kvs, o = .dK kvs) ∨ ∃ φ, o = .ext φ := by
  rcases h with ⟨kvs, rfl, _⟩ | ⟨xs, rfl, _⟩
  · exact .inl ⟨kvs, rfl⟩
  · exact .inr ⟨_, rfl⟩
end
def Wd.free (w : Wd) (al : Addr) (u : HO) : Wd := ⟨upd w.H al u, fun b => w.M b ∨ b = al, w.u⟩
noncomputable def Bs.at (B : Bs) (w : Wd) : Bs := open Classical in ⟨⟨fun b => if b ∈ w.u then w.H b else B.H b, fun b => if b ∈ w.u then w.M b else B.M b, w.u⟩, B.L⟩
section
variable {G : Cfg} {B : Bs} {O : Nat → Option Addr} {r : Env} {st : Sto} {s : L2.St} {w : Wd} {n : Nat} {ks ds : List D} {al : Addr} {ob : Obj} {u : HO} {vs : List V}
theorem at_out {b : Addr} (h : b ∉ w.u) : (B.at w).H b = B.H b ∧ ((B.at w).M b ↔ B.M b) := by
  unfold Bs.at
  simp only
  rw [if_neg h, if_neg h]
  exact ⟨rfl, Iff.rfl⟩
structure Freed (G : Cfg) (B : Bs) (w2 : Wd) (st2 : Sto) (n : Nat) (ks ds : List D) (al : Addr) (ob : Obj) (u : HO) : Prop where
  at_ : w2.H al = some (.frz ob u)
  un : Un w2 (w2.free al u) al
  base : Ext B.toWd (w2.free al u)
  toF : RelF G (st2.set n (.dct ks ds)) (w2.free al u)
theorem Freed.rel {st2 : Sto} {w2 : Wd} {O2 : Nat → Option Addr} {r2 : Env} {s2 : L2.St} {ks2 ds2 : List D} (R : Rel G B O r st s w) (ea : w.u[n]? = some al) (R2 : Rel G (B.at (w.lock al (.frz ob u))) O2 r2 st2 s2 w2) (f : Freed G B w2 st2 n ks2 ds2 al ob u) : Rel G B O2 r2 (st2.set n (.dct ks2 ds2)) s2 (w2.free al u) := by
  obtain ⟨q, e, _⟩ := R2.base.mu
  have e : w2.u = w.u ++ q := e
  have ne : ∀ i a, O2 i = some a → a ≠ al := fun i a h z => (R2.own i a h).2.1 (by rw [z]; exact f.un.mu)
  refine ⟨f.toF.wf, R.wb, f.base, R2.ln, f.toF.sto, fun i a h => ⟨.inl (R2.own i a h).1, (R2.own i a h).2.1, ?_⟩, R2.inj, fun i => ?_⟩
  · have o := R2.own i a h
    have nu : a ∉ w.u := fun z => o.2.1 (by rw [e]; exact List.mem_append_left _ z)
    rw [← (at_out (B := B) (w := w.lock al (.frz ob u)) nu).1]
    exact o.2.2
  · have q := R2.env i
    match zr : r2 i, q with
    | none, q => exact q
    | some (false, d), q =>
      obtain ⟨h1, v, h2, h3⟩ := q
      exact ⟨h1, v, h2, RD.un f.un _ _ h3⟩
    | some (true, d), q =>
      obtain ⟨a, h1, h2, h3⟩ := q
      exact ⟨a, h1, h2, RC.un f.un (upd_ne (ne i a h1)) h3⟩
theorem Freed.wk {st2 : Sto} {w2 : Wd} {ks2 ds2 : List D} (m : w.M al) (f : Freed G B w2 st2 n ks2 ds2 al ob u) (k : Wk (w.lock al (.frz ob u)) w2) : Wk w (w2.free al u) := by
  have k0 := (w.lock_wk (o := .frz ob u) m).trans k
  refine ⟨fun a o i => f.un.im a o (k0.im a o i) fun z => ?_, k0.mu⟩
  subst z
  exact i.2 m
theorem Freed.ext {st2 : Sto} {w2 : Wd} {ks2 ds2 : List D} (R : Rel G B O r st s w) (m : w.M al) (ea : w.u[n]? = some al) (f : Freed G B w2 st2 n ks2 ds2 al ob u) (x : Ext (w.lock al (.frz ob u)) w2) : Ext w (w2.free al u) := by
  have mu := List.mem_of_getElem? ea
  refine ⟨fun b h nb => ?_, fun b h => ?_, fun b h nm => ?_, ?_, fun b h => ?_⟩
  · have nal : b ≠ al := fun z => nb.elim (fun y => y (by rw [z]; exact mu)) fun y => y (by rw [z]; exact m)
    show upd w2.H al u b = _
    rw [upd_ne nal]
    have e1 : (w.lock al (.frz ob u)).H b = w.H b := upd_ne nal
    rw [x.hk b (by rw [e1]; exact h) (nb.imp id fun y z => y z.1), e1]
  · by_cases nal : b = al
    · exact .inr nal
    · exact .inl (x.mt b ⟨h, nal⟩)
  · have nal : b ≠ al := fun z => nm (by rw [z]; exact m)
    have e1 : (w.lock al (.frz ob u)).H b = w.H b := upd_ne nal
    exact fun z => z.elim (x.mn b (by rw [e1]; exact h) fun y => nm y.1) nal
  · obtain ⟨q, e, fr⟩ := x.mu
    refine ⟨q, e, fun b hb => ?_⟩
    have z := fr b hb
    by_cases nal : b = al
    · subst nal; rw [show (w.lock b (.frz ob u)).H b = some (.frz ob u) from upd_same] at z; cases z
    · exact (upd_ne nal).symm.trans z
  · show upd w2.H al u b ≠ none
    by_cases nal : b = al
    · subst nal; rw [upd_same]; simp
    · rw [upd_ne nal]
      exact x.hh b (by rw [show (w.lock al (.frz ob u)).H b = w.H b from upd_ne nal]; exact h)
end
def unlT (n : Nat) (st : Sto) (k : Sto → Rt) : Rt := match st[n]? with
  | some (.lk ks ds) => k (st.set n (.dct ks ds))
  | _ => .bad
def unlR (n : Nat) : Rt → Rt
  | .nx r st => unlT n st fun st => .nx r st
  | .bk r st => unlT n st fun st => .bk r st
  | .ct r st => unlT n st fun st => .ct r st
  | .rt d st => unlT n st fun st => .rt d st
  | _ => .bad
def selN (sel : Ev) (r : Env) (st : Sto) : Option Nat := match sel r st with
  | .ok (.ref n) _ => some n
  | _ => none
def sLock (sel : Ev) (F : Sv) : Sv := fun r st => match selN sel r st with
  | some n => (match st[n]? with
    | some (.dct ks ds) => unlR n (F r (st.set n (.lk ks ds)))
    | _ => .bad)
  | none => .bad
def bLock (sel : Ev) (f : Ev) : Ev := fun r st => match selN sel r st with
  | some n => (match st[n]? with
    | some (.dct ks ds) => (match f r (st.set n (.lk ks ds)) with
      | .ok d st2 => (match st2[n]? with
        | some (.lk ks2 ds2) => .ok d (st2.set n (.dct ks2 ds2))
        | _ => .bad)
      | _ => .bad)
    | _ => .bad)
  | none => .bad
section
variable {X : Cx} {B : Bs} {k : Kd} {fr : Bool} {Wx : WX} {st1 : Stmt} {e : Expr} {F : Sv} {f sel : Ev}
end
section
variable {N : Env → Sto → Prop} {R : D → Sto → Prop} {L : Bool → Env → Sto → Prop} {E : Str → Option (Str × D) → Env → Sto → Prop} {E' : Str → Option (Str × D) → Sto → Prop} {Q : D → Sto → Prop} {r : Env} {st : Sto} {f sel : Ev} {F : Sv}
def unlP (n : Nat) (st : Sto) (P : Sto → Prop) : Prop := ∃ ks ds, st[n]? = some (.lk ks ds) ∧ P (st.set n (.dct ks ds))
theorem m_lock : RtP (sLock sel F r st) N R L E = ∃ n ks ds, selN sel r st = some n ∧ st[n]? = some (.dct ks ds) ∧ RtP (F r (st.set n (.lk ks ds))) (fun r2 st2 => unlP n st2 (N r2)) (fun d st2 => unlP n st2 (R d)) (fun b r2 st2 => unlP n st2 (L b r2)) (fun _ _ _ _ => False) := by
  unfold sLock
  cases zn : selN sel r st with
  | none => simp [RtP, zn]
  | some n =>
    simp only
    cases zs : st[n]? with
    | none => simp [RtP, zs]
    | some so =>
      cases so with
      | dct ks ds =>
        simp only
        have core : ∀ (st2 : Sto) (kk : Sto → Rt) (P : Sto → Prop), (∀ st3, RtP (kk st3) N R L E = P st3) → RtP (unlT n st2 kk) N R L E = unlP n st2 P := fun st2 kk P h => by
          unfold unlT unlP
          cases zs2 : st2[n]? with
          | none => simp [RtP]
          | some so2 =>
            cases so2 with
            | lk ks2 ds2 =>
              rw [h]
              refine propext ⟨fun z => ⟨ks2, ds2, rfl, z⟩, ?_⟩
              rintro ⟨a, b, e, z⟩
              cases e
              exact z
            | _ => simp [RtP]
        have e : RtP (unlR n (F r (st.set n (.lk ks ds)))) N R L E = RtP (F r (st.set n (.lk ks ds))) (fun r2 st2 => unlP n st2 (N r2)) (fun d st2 => unlP n st2 (R d)) (fun b r2 st2 => unlP n st2 (L b r2)) (fun _ _ _ _ => False) := by
          cases F r (st.set n (.lk ks ds)) with
          | nx r2 st2 => exact core st2 _ _ fun _ => rfl
          | bk r2 st2 => exact core st2 _ _ fun _ => rfl
          | ct r2 st2 => exact core st2 _ _ fun _ => rfl
          | rt d st2 => exact core st2 _ _ fun _ => rfl
          | err _ _ _ _ => rfl
          | bad => rfl
        rw [e]
        refine propext ⟨fun h => ⟨n, ks, ds, rfl, zs, h⟩, ?_⟩
        rintro ⟨n2, ks2, ds2, e1, e2, h⟩
        cases e1
        rw [zs] at e2
        cases e2
        exact h
      | _ => simp [RtP, zs]
theorem w_lock : RsP (bLock sel f r st) Q E' = ∃ n ks ds, selN sel r st = some n ∧ st[n]? = some (.dct ks ds) ∧ RsP (f r (st.set n (.lk ks ds))) (fun d st2 => unlP n st2 (Q d)) (fun _ _ _ => False) := by
  unfold bLock
  cases zn : selN sel r st with
  | none => simp [RsP, zn]
  | some n =>
    simp only
    cases zs : st[n]? with
    | none => simp [RsP, zs]
    | some so =>
      cases so with
      | dct ks ds =>
        simp only
        have e : RsP (match f r (st.set n (.lk ks ds)) with
            | .ok d st2 => (match st2[n]? with | some (.lk ks2 ds2) => .ok d (st2.set n (.dct ks2 ds2)) | _ => .bad)
            | _ => .bad) Q E' = RsP (f r (st.set n (.lk ks ds))) (fun d st2 => unlP n st2 (Q d)) (fun _ _ _ => False) := by
          cases f r (st.set n (.lk ks ds)) with
          | ok d st2 =>
            simp only
            show _ = unlP n st2 (Q d)
            unfold unlP
            cases zs2 : st2[n]? with
            | none => simp [RsP]
            | some so2 =>
              cases so2 with
              | lk ks2 ds2 =>
                refine propext ⟨fun z => ⟨ks2, ds2, rfl, z⟩, ?_⟩
                rintro ⟨a, b, e, z⟩
                cases e
                exact z
              | _ => simp [RsP]
          | err _ _ _ => rfl
          | bad => rfl
        rw [e]
        refine propext ⟨fun h => ⟨n, ks, ds, rfl, zs, h⟩, ?_⟩
        rintro ⟨n2, ks2, ds2, e1, e2, h⟩
        cases e1
        rw [zs] at e2
        cases e2
        exact h
      | _ => simp [RsP, zs]
end
end Sm

namespace Sm
open PySem PySem.Spec PyProof.Rows L2
section
variable {X : Cx} {pins : List (Addr × Obj)} {σ : L2.St} {H : Hp} {s : Shared} {d : Addr} {o : Obj} {xs : NX}
end
def itKeysR (f : Ev) : Iv := fun r st => match f r st with
  | .ok d st1 => (match d with
    | .ref n => (match st1[n]? with
      | some (.lk ks _) => if DKs ks = true then .ok ks [] st1 else .bad
      | _ => .bad)
    | _ => .bad)
  | .err c a st1 => .err c a st1
  | .bad => .bad
def itKeysRN (f : Ev) : Iv := fun r st => match f r st with
  | .ok d st1 => (match d with
    | .ref n => (match st1[n]? with
      | some (.lk (.non :: ks) _) => .ok ks [] st1
      | _ => .bad)
    | _ => .bad)
  | .err c a st1 => .err c a st1
  | .bad => .bad
section
variable {X : Cx} {B : Bs} {k : Kd} {fr : Bool} {Wx : WX} {a b c tg iter : Expr} {f g h : Ev} {pos : Pos}
def fListN : List D → Sto → Rs
  | [.dct (.non :: ks) _], st => .ok (.lst ks) st
  | _, _ => .bad
def bListVals (f : Ev) : Ev := fun r st => (f r st).bind fun d st1 => match d with
  | .ref n => (match st1[n]? with
    | some (.dct ks ds) => if DKs ks = true then .ok (.lst ds) st1 else .bad
    | _ => .bad)
  | _ => .bad
end
section
variable {r : Env} {st : Sto} {f : Ev} {Q : D → Sto → Prop} {E' : Str → Option (Str × D) → Sto → Prop} {ks ds : List D}
theorem wi_keysR {QL : List D → Gd → Sto → Prop} : RsIP (itKeysR f r st) QL E' = RsP (f r st) (fun d st1 => ∃ n ks ds, d = .ref n ∧ st1[n]? = some (.lk ks ds) ∧ DKs ks = true ∧ QL ks [] st1) E' := by
  unfold itKeysR
  cases f r st with
  | bad => rfl
  | err c a st1 => rfl
  | ok d st1 =>
    cases d with
    | ref n =>
      simp only [RsP]
      cases zs : st1[n]? with
      | none => simp [RsIP, zs]
      | some so =>
        cases so with
        | lk ks ds =>
          simp only
          by_cases hk : DKs ks = true
          · rw [if_pos hk]
            refine propext ⟨fun h => ⟨n, ks, ds, rfl, zs, hk, h⟩, ?_⟩
            rintro ⟨n2, k2, d2, e1, e2, _, h⟩
            cases e1
            rw [zs] at e2
            cases e2
            exact h
          · rw [if_neg hk]
            refine propext ⟨fun h => h.elim, ?_⟩
            rintro ⟨n2, k2, d2, e1, e2, h2, h⟩
            cases e1
            rw [zs] at e2
            cases e2
            exact hk h2
        | _ => simp [RsIP, zs]
    | _ => simp [RsP, RsIP]
theorem wi_keysRN {QL : List D → Gd → Sto → Prop} : RsIP (itKeysRN f r st) QL E' = RsP (f r st) (fun d st1 => ∃ n ks ds, d = .ref n ∧ st1[n]? = some (.lk (.non :: ks) ds) ∧ QL ks [] st1) E' := by
  unfold itKeysRN
  cases f r st with
  | bad => rfl
  | err c a st1 => rfl
  | ok d st1 =>
    cases d with
    | ref n =>
      simp only [RsP]
      cases zs : st1[n]? with
      | none => simp [RsIP, zs]
      | some so =>
        cases so with
        | lk ks0 ds =>
          cases ks0 with
          | nil => simp [RsIP, zs]
          | cons t ks =>
            cases t with
            | non =>
              refine propext ⟨fun h => ⟨n, ks, ds, rfl, zs, h⟩, ?_⟩
              rintro ⟨n2, k2, d2, e1, e2, h⟩
              cases e1
              rw [zs] at e2
              cases e2
              exact h
            | _ => simp [RsIP, zs]
        | _ => simp [RsIP, zs]
    | _ => simp [RsP, RsIP]
theorem f_listN : RsP (fListN [.dct (.non :: ks) ds] st) Q E' = Q (.lst ks) st := rfl
theorem w_listVals : RsP (bListVals f r st) Q E' = RsP (f r st) (fun d st1 => ∃ n ks ds, d = .ref n ∧ st1[n]? = some (.dct ks ds) ∧ DKs ks = true ∧ Q (.lst ds) st1) E' := by
  unfold bListVals
  rw [w_bind]
  congr 1; funext d st1
  cases d with
  | ref n =>
    simp only
    cases zs : st1[n]? with
    | none => simp [RsP, zs]
    | some so =>
      cases so with
      | dct ks ds =>
        simp only
        by_cases hk : DKs ks = true
        · rw [if_pos hk]
          refine propext ⟨fun h => ⟨n, ks, ds, rfl, zs, hk, h⟩, ?_⟩
          rintro ⟨n2, k2, d2, e1, e2, _, h⟩
          cases e1
          rw [zs] at e2
          cases e2
          exact h
        · rw [if_neg hk]
          refine propext ⟨fun h => h.elim, ?_⟩
          rintro ⟨n2, k2, d2, e1, e2, h2, h⟩
          cases e1
          rw [zs] at e2
          cases e2
          exact hk h2
      | _ => simp [RsP, zs]
  | _ => simp [RsP]
end
end Sm

namespace Sm
open PySem PySem.Spec PyProof.Rows L2
def ddropK (ks : List D) (k : Key) : List D := ks.filter fun a => decide (kOf a ≠ some k)
def ddropV (ks ds : List D) (k : Key) : List D := ((ks.zip ds).filter fun p => decide (kOf p.1 ≠ some k)).map (·.2)
def putDK (r : Env) (st : Sto) (o j d : D) : Rt := match o with
  | .ref n => (match st[n]? with
    | some (.dct ks ds) => (match kOf j with
      | some k => if DKs ks = true ∧ ks.length < LIM then .nx r (st.set n (.dct (dputK ks k) (dputV ks ds k d))) else .bad
      | none => .bad)
    | _ => .bad)
  | _ => .bad
def putDN (r : Env) (st : Sto) (o j d : D) : Rt := match o with
  | .ref n => (match st[n]? with
    | some (.dct (.non :: ks) ds) => (match tkOf j with
      | some k => if ks.length < LIM then .nx r (st.set n (.dct (.non :: nputK ks k) (nputV ks ds k d))) else .bad
      | none => .bad)
    | _ => .bad)
  | _ => .bad
def sPutX (P : Env → Sto → D → D → D → Rt) (h g f : Ev) : Sv := fun r st => ofRs (f r st) r fun d st1 => ofRs (h r st1) r fun o st2 => ofRs (g r st2) r fun j st3 => P r st3 o j d
def sPutKR (h g f : Ev) : Sv := sPutX putDK h g f
def sPutNR (h g f : Ev) : Sv := sPutX putDN h g f
section
variable {X : Cx} {B : Bs} {k : Kd} {fr : Bool} {Wx : WX} {a b c : Expr} {f g h : Ev} {pos : Pos}
end
def popDK (o j : D) (st : Sto) : Rs := match o with
  | .ref n => (match st[n]? with
    | some (.dct ks ds) => (match kOf j with
      | some k => if DKs ks = true then (match dgetL ks ds k with | some y => .ok y (st.set n (.dct (ddropK ks k) (ddropV ks ds k))) | none => .bad) else .bad
      | none => .bad)
    | _ => .bad)
  | _ => .bad
def popDN (o j : D) (st : Sto) : Rs := match o with
  | .ref n => (match st[n]? with
    | some (.dct (.non :: ks) ds) => (match tkOf j with
      | some k => (match ngetL ks ds k with | some y => .ok y (st.set n (.dct (.non :: ndropK ks k) (ndropV ks ds k))) | none => .bad)
      | none => .bad)
    | _ => .bad)
  | _ => .bad
def isDctK (o : D) (st : Sto) : Prop := match o with
  | .ref n => (match st[n]? with | some (.dct ks _) => DKs ks = true | _ => False)
  | _ => False
def isDctN (o : D) (st : Sto) : Prop := match o with
  | .ref n => (match st[n]? with | some (.dct (.non :: _) _) => True | _ => False)
  | _ => False
noncomputable def bPopDK (h g : Ev) : Ev := open Classical in fun r st => (h r st).bind fun o st1 => if isDctK o st1 then (g r st1).bind fun j st2 => popDK o j st2 else .bad
noncomputable def bPopDN (h g : Ev) : Ev := open Classical in fun r st => (h r st).bind fun o st1 => if isDctN o st1 then (g r st1).bind fun j st2 => popDN o j st2 else .bad
section
variable {X : Cx} {B : Bs} {k : Kd} {fr : Bool} {Wx : WX} {a b c : Expr} {f g h : Ev} {pos : Pos}
end
section
variable {N : Env → Sto → Prop} {R : D → Sto → Prop} {L : Bool → Env → Sto → Prop} {E : Str → Option (Str × D) → Env → Sto → Prop} {E' : Str → Option (Str × D) → Sto → Prop} {Q : D → Sto → Prop} {r : Env} {st : Sto} {f g h : Ev} {n : Nat}
def putKP (st : Sto) (o j d : D) (N : Sto → Prop) : Prop := ∃ n ks ds k, o = .ref n ∧ st[n]? = some (.dct ks ds) ∧ kOf j = some k ∧ (DKs ks = true ∧ ks.length < LIM) ∧ N (st.set n (.dct (dputK ks k) (dputV ks ds k d)))
def putNP (st : Sto) (o j d : D) (N : Sto → Prop) : Prop := ∃ n ks ds k, o = .ref n ∧ st[n]? = some (.dct (.non :: ks) ds) ∧ tkOf j = some k ∧ ks.length < LIM ∧ N (st.set n (.dct (.non :: nputK ks k) (nputV ks ds k d)))
def popKP (o j : D) (st : Sto) (Q : D → Sto → Prop) : Prop := ∃ n ks ds k y, o = .ref n ∧ st[n]? = some (.dct ks ds) ∧ kOf j = some k ∧ DKs ks = true ∧ dgetL ks ds k = some y ∧ Q y (st.set n (.dct (ddropK ks k) (ddropV ks ds k)))
def popNP (o j : D) (st : Sto) (Q : D → Sto → Prop) : Prop := ∃ n ks ds k y, o = .ref n ∧ st[n]? = some (.dct (.non :: ks) ds) ∧ tkOf j = some k ∧ ngetL ks ds k = some y ∧ Q y (st.set n (.dct (.non :: ndropK ks k) (ndropV ks ds k)))
theorem m_putKR : RtP (sPutKR h g f r st) N R L E = RsP (f r st) (fun d st1 => RsP (h r st1) (fun o st2 => RsP (g r st2) (fun j st3 => putKP st3 o j d (N r)) (fun c a st => E c a r st)) (fun c a st => E c a r st)) (fun c a st => E c a r st) := by
  unfold sPutKR sPutX
  rw [w_of]; congr 1; funext d st1
  rw [w_of]; congr 1; funext o st2
  rw [w_of]; congr 1; funext j st3
  unfold putKP putDK
  cases o with
  | ref n =>
    cases zs : st3[n]? with
    | none => simp [RtP, zs]
    | some so =>
      cases so with
      | dct ks ds =>
        cases ek : kOf j with
        | none => simp [RtP, zs, ek]
        | some k =>
          by_cases hk : DKs ks = true ∧ ks.length < LIM
          · simp only [zs, if_pos hk]
            refine propext ⟨fun z => ⟨n, ks, ds, k, rfl, zs, rfl, hk, z⟩, ?_⟩
            rintro ⟨n2, ks2, ds2, k2, e1, e2, e3, _, z⟩
            cases e1; rw [zs] at e2; cases e2; cases e3
            exact z
          · simp only [zs, if_neg hk]
            refine propext ⟨fun z => z.elim, ?_⟩
            rintro ⟨n2, ks2, ds2, k2, e1, e2, e3, z, _⟩
            cases e1; rw [zs] at e2; cases e2
            exact hk z
      | _ => simp [RtP, zs]
  | _ => simp [RtP]
theorem m_putNR : RtP (sPutNR h g f r st) N R L E = RsP (f r st) (fun d st1 => RsP (h r st1) (fun o st2 => RsP (g r st2) (fun j st3 => putNP st3 o j d (N r)) (fun c a st => E c a r st)) (fun c a st => E c a r st)) (fun c a st => E c a r st) := by
  unfold sPutNR sPutX
  rw [w_of]; congr 1; funext d st1
  rw [w_of]; congr 1; funext o st2
  rw [w_of]; congr 1; funext j st3
  unfold putNP putDN
  cases o with
  | ref n =>
    cases zs : st3[n]? with
    | none => simp [RtP, zs]
    | some so =>
      cases so with
      | dct ks ds =>
        cases ks with
        | nil => simp [RtP, zs]
        | cons t ks =>
          cases t with
          | non =>
            cases ek : tkOf j with
            | none => simp [RtP, zs, ek]
            | some k =>
              by_cases hk : ks.length < LIM
              · simp only [zs, if_pos hk]
                refine propext ⟨fun z => ⟨n, ks, ds, k, rfl, zs, rfl, hk, z⟩, ?_⟩
                rintro ⟨n2, ks2, ds2, k2, e1, e2, e3, _, z⟩
                cases e1; rw [zs] at e2; cases e2; cases e3
                exact z
              · simp only [zs, if_neg hk]
                refine propext ⟨fun z => z.elim, ?_⟩
                rintro ⟨n2, ks2, ds2, k2, e1, e2, e3, z, _⟩
                cases e1; rw [zs] at e2; cases e2
                exact hk z
          | _ => simp [RtP, zs]
      | _ => simp [RtP, zs]
  | _ => simp [RtP]
theorem w_popDK : RsP (bPopDK h g r st) Q E' = RsP (h r st) (fun o st1 => isDctK o st1 ∧ RsP (g r st1) (fun j st2 => popKP o j st2 Q) E') E' := by
  unfold bPopDK
  rw [w_bind]; congr 1; funext o st1
  by_cases hd : isDctK o st1
  · rw [if_pos hd, w_bind]
    simp only [hd, true_and]
    congr 1; funext j st2
    unfold popKP popDK
    cases o with
    | ref n =>
      cases zs : st2[n]? with
      | none => simp [RsP, zs]
      | some so =>
        cases so with
        | dct ks ds =>
          cases ek : kOf j with
          | none => simp [RsP, zs, ek]
          | some k =>
            by_cases hk : DKs ks = true
            · simp only [zs, if_pos hk]
              cases eg : dgetL ks ds k with
              | none =>
                refine propext ⟨fun z => z.elim, ?_⟩
                rintro ⟨n2, ks2, ds2, k2, y, e1, e2, e3, _, e4, _⟩
                cases e1; rw [zs] at e2; cases e2; cases e3
                rw [eg] at e4; cases e4
              | some y =>
                refine propext ⟨fun z => ⟨n, ks, ds, k, y, rfl, zs, rfl, hk, eg, z⟩, ?_⟩
                rintro ⟨n2, ks2, ds2, k2, y2, e1, e2, e3, _, e4, z⟩
                cases e1; rw [zs] at e2; cases e2; cases e3
                rw [eg] at e4; cases e4
                exact z
            · simp only [zs, if_neg hk]
              refine propext ⟨fun z => z.elim, ?_⟩
              rintro ⟨n2, ks2, ds2, k2, y, e1, e2, e3, z, _⟩
              cases e1; rw [zs] at e2; cases e2
              exact hk z
        | _ => simp [RsP, zs]
    | _ => simp [RsP]
  · rw [if_neg hd]
    simp [hd, RsP]
theorem w_popDN : RsP (bPopDN h g r st) Q E' = RsP (h r st) (fun o st1 => isDctN o st1 ∧ RsP (g r st1) (fun j st2 => popNP o j st2 Q) E') E' := by
  unfold bPopDN
  rw [w_bind]; congr 1; funext o st1
  by_cases hd : isDctN o st1
  · rw [if_pos hd, w_bind]
    simp only [hd, true_and]
    congr 1; funext j st2
    unfold popNP popDN
    cases o with
    | ref n =>
      cases zs : st2[n]? with
      | none => simp [RsP, zs]
      | some so =>
        cases so with
        | dct ks ds =>
          cases ks with
          | nil => simp [RsP, zs]
          | cons t ks =>
            cases t with
            | non =>
              cases ek : tkOf j with
              | none => simp [RsP, zs, ek]
              | some k =>
                simp only [zs]
                cases eg : ngetL ks ds k with
                | none =>
                  refine propext ⟨fun z => z.elim, ?_⟩
                  rintro ⟨n2, ks2, ds2, k2, y, e1, e2, e3, e4, _⟩
                  cases e1; rw [zs] at e2; cases e2; cases e3
                  rw [eg] at e4; cases e4
                | some y =>
                  refine propext ⟨fun z => ⟨n, ks, ds, k, y, rfl, zs, rfl, eg, z⟩, ?_⟩
                  rintro ⟨n2, ks2, ds2, k2, y2, e1, e2, e3, e4, z⟩
                  cases e1; rw [zs] at e2; cases e2; cases e3
                  rw [eg] at e4; cases e4
                  exact z
            | _ => simp [RsP, zs]
        | _ => simp [RsP, zs]
    | _ => simp [RsP]
  · rw [if_neg hd]
    simp [hd, RsP]
end
end Sm

namespace Sm
open PySem PySem.Spec PyProof.Rows L2
def bDctS (ks : List Str) (fs : List Ev) : Ev := fun r st => (evs fs r st).bind fun ds st1 => .ok (.dct (ks.map D.str) ds) st1
section
variable {X : Cx} {B : Bs} {k : Kd} {Wx : WX} {a b c : Expr} {f g h : Ev} {pos : Pos} {fs : List Ev} {ks : List Str} {keys : List (Option Expr)} {es : List Expr}
end
section
variable {E' : Str → Option (Str × D) → Sto → Prop} {Q : D → Sto → Prop} {r : Env} {st : Sto} {fs : List Ev} {ks : List Str}
theorem w_dctS : RsP (bDctS ks fs r st) Q E' = RsLP (evs fs r st) (fun ds st1 => Q (.dct (ks.map D.str) ds) st1) E' := w_bindL
end
end Sm

namespace Sm
open PySem L2
section
variable {K : List Int} {v : Int → D} {k : Int} {d : D} {ds : List D}
end
structure NE {α : Type} (enc : α → D) (nk : α → NestedKey) : Prop where
  tk : ∀ x, tkOf (enc x) = some (nk x)
  inj : ∀ x y, enc x = enc y → x = y
section
variable {α : Type} [DecidableEq α] {enc : α → D} {nk : α → NestedKey} {K : List α} {v : α → D} {k : α} {d : D} {ds : List D} (ne : NE enc nk)
include ne
theorem NE.nkd (x : α) : enc x = nkD (nk x) := (tkOf_eq (ne.tk x)).1
theorem NE.of (x : α) : nkOf (enc x) = some (nk x) := by rw [ne.nkd, nkOf_D]
theorem NE.eq {x y : α} : (nkOf (enc x) = some (nk y)) ↔ x = y := by
  rw [ne.of, Option.some.injEq]
  exact ⟨fun h => ne.inj x y (by rw [ne.nkd, ne.nkd, h]), fun h => by rw [h]⟩
theorem NE.has : nhas (K.map enc) (nk k) = decide (k ∈ K) := by
  unfold nhas
  rw [List.any_map]
  have e : ((fun a => decide (nkOf a = some (nk k))) ∘ enc) = fun x => decide (x = k) := by funext x; simp [ne.eq]
  rw [e]
  by_cases h : k ∈ K
  · simp only [h, decide_true]
    exact List.any_eq_true.mpr ⟨k, h, by simp⟩
  · simp only [h, decide_false]
    exact List.any_eq_false.mpr fun x hx => by simp; exact fun z => h (z ▸ hx)
theorem NE.get (h : k ∈ K) : ngetL (K.map enc) (K.map v) (nk k) = some (v k) := by
  unfold ngetL
  induction K with
  | nil => cases h
  | cons x K ih =>
    simp only [List.map_cons, List.zip_cons_cons, List.find?_cons, ne.eq]
    by_cases e : x = k
    · subst e; simp
    · simp only [e, decide_false]
      exact ih ((List.mem_cons.mp h).resolve_left fun z => e z.symm)
theorem NE.put_new (h : k ∉ K) : nputK (K.map enc) (nk k) = (K ++ [k]).map enc ∧ nputV (K.map enc) ds (nk k) d = ds ++ [d] := by
  unfold nputK nputV
  rw [ne.has]
  simp [h, ne.nkd k]
theorem NE.put_old (h : k ∈ K) : nputK (K.map enc) (nk k) = K.map enc ∧ nputV (K.map enc) (K.map v) (nk k) d = K.map fun x => if x = k then d else v x := by
  unfold nputK nputV
  rw [ne.has]
  simp only [h, decide_true, if_true, true_and]
  rw [List.zip_map', List.map_map]
  refine List.map_congr_left fun x _ => ?_
  simp [ne.eq]
theorem NE.drop : ndropK (K.map enc) (nk k) = (K.filter fun x => decide (x ≠ k)).map enc ∧ ndropV (K.map enc) (K.map v) (nk k) = (K.filter fun x => decide (x ≠ k)).map v := by
  unfold ndropK ndropV
  constructor
  · rw [List.filter_map]
    congr 1
    refine List.filter_congr fun x _ => ?_
    simp [ne.eq]
  · rw [List.zip_map', List.filter_map, List.map_map]
    have e : (fun p : D × D => decide (nkOf p.1 ≠ some (nk k))) ∘ (fun x => (enc x, v x)) = fun x => decide (x ≠ k) := by funext x; simp [ne.eq]
    rw [e]
    rfl
theorem NE.putK_new (h : k ∉ K) : nputK (K.map enc) (nk k) = (K ++ [k]).map enc := (ne.put_new (ds := []) (d := .non) h).1
theorem NE.putV_new (h : k ∉ K) : nputV (K.map enc) ds (nk k) d = ds ++ [d] := (ne.put_new h).2
theorem NE.putK_old (h : k ∈ K) : nputK (K.map enc) (nk k) = K.map enc := (ne.put_old (v := fun _ => .non) (d := .non) h).1
theorem NE.putV_old (h : k ∈ K) : nputV (K.map enc) (K.map v) (nk k) d = K.map fun x => if x = k then d else v x := (ne.put_old h).2
end
end Sm

namespace Sm
open PySem PySem.Spec PyProof.Rows L2
section
variable {X : Cx} {B : Bs} {k : Kd} {fr : Bool} {Wx : WX} {a b c : Expr} {f g h : Ev} {pos : Pos}
def opRepT2 : D → D → Sto → Rs
  | .tup ds, .int k, st => if ds ≠ [] ∧ (0 ≤ k ∧ k ≤ 1000) ∧ ds.length ≤ 1000 then .ok (.tup (List.replicate k.toNat ds).flatten) st else .bad
  | _, _, _ => .bad
end
theorem o_repT2 {st : Sto} {Q : D → Sto → Prop} {E : Str → Option (Str × D) → Sto → Prop} {xs : List D} {k : Int} : RsP (opRepT2 (.tup xs) (.int k) st) Q E = ((xs ≠ [] ∧ (0 ≤ k ∧ k ≤ 1000) ∧ xs.length ≤ 1000) ∧ Q (.tup (List.replicate k.toNat xs).flatten) st) := by
  show RsP (if xs ≠ [] ∧ (0 ≤ k ∧ k ≤ 1000) ∧ xs.length ≤ 1000 then .ok _ st else .bad) Q E = _
  by_cases z : xs ≠ [] ∧ (0 ≤ k ∧ k ≤ 1000) ∧ xs.length ≤ 1000
  · rw [if_pos z]
    show Q _ _ = _
    simp only [z, true_and, ne_eq, not_false_iff, and_true]
  · rw [if_neg z]
    show False = _
    refine propext ⟨False.elim, fun h => z h.1⟩
end Sm

namespace Sm
open PySem PySem.Spec PyProof.Rows L2
def zipX (d d2 : D) (st : Sto) : RsI := match srcD st d, d2 with
  | some p, .tup ys => .ok (zipd p.1 ys) p.2 st
  | _, _ => zipS d d2 st
theorem zipX_of {d d2 : D} {st : Sto} : (∃ p ys, srcD st d = some p ∧ d2 = .tup ys ∧ zipX d d2 st = .ok (zipd p.1 ys) p.2 st) ∨ zipX d d2 st = zipS d d2 st := by
  unfold zipX
  split
  · rename_i p ys e
    exact .inl ⟨p, ys, e, rfl, rfl⟩
  · exact .inr rfl
def itZipX (f g : Ev) : Iv := fun r st => match f r st with
  | .ok d st1 => match g r st1 with
    | .ok d2 st2 => zipX d d2 st2
    | .err c a st1 => .err c a st1
    | .bad => .bad
  | .err c a st1 => .err c a st1
  | .bad => .bad
section
variable {X : Cx} {B : Bs} {Wx : WX} {a b : Expr} {f g : Ev} {pos : Pos}
variable {r : Env} {st : Sto} {E' : Str → Option (Str × D) → Sto → Prop}
def zipXP (st : Sto) (d d2 : D) (Q : List D → Gd → Prop) : Prop := RsIP (zipX d d2 st) (fun ds gs _ => Q ds gs) (fun _ _ _ => False)
theorem wi_zipX {QL : List D → Gd → Sto → Prop} : RsIP (itZipX f g r st) QL E' = RsP (f r st) (fun d st1 => RsP (g r st1) (fun d2 st2 => zipXP st2 d d2 fun ds gs => QL ds gs st2) E') E' := by
  unfold itZipX
  cases f r st <;> try rfl
  rename_i d st1
  simp only [RsP]
  cases g r st1 <;> try rfl
  rename_i d2 st2
  simp only [RsP, zipXP]
  rcases zipX_of (d := d) (d2 := d2) (st := st2) with ⟨p, ys, _, _, e⟩ | e
  · rw [e]; rfl
  · rw [e]
    rcases zipS_cases (d := d) (d2 := d2) (st := st2) with ⟨ds, gs, e⟩ | e <;> rw [e] <;> rfl
theorem zipX_lt {xs ys : List D} {Q : List D → Gd → Prop} : zipXP st (.lst xs) (.tup ys) Q = Q (zipd xs ys) [] := rfl
theorem zipX_tt {xs ys : List D} {Q : List D → Gd → Prop} : zipXP st (.tup xs) (.tup ys) Q = Q (zipd xs ys) [] := rfl
theorem zipX_ll {xs ys : List D} {Q : List D → Gd → Prop} : zipXP st (.lst xs) (.lst ys) Q = Q (zipd xs ys) [] := rfl
end
end Sm

namespace Sm
open PySem PySem.Spec PyProof.Rows L2
section
variable {X : Cx} {B : Bs} {Wx : WX}
abbrev nkp (x : NestedKey × Addr × Value) : PyData := x.1.data
def rSortM (X : Cx) : List V → Hp → VK → Prop := fun vs H Q => ∃ (a : Addr) (xs : NX), vs = [.ref a] ∧ NDat X H a xs ∧ (∀ x ∈ xs, noTx x.1 = true) ∧ PySem.W.AllAlike (xs.map nkp) ∧ PySem.W.Sortable (xs.map nkp) ∧
  ∀ (L : NX) (p : Addr), L.Perm xs → L.Pairwise (fun u v => PySem.W.dataLe false nkp u v = true) → H p = none → Q (.ref p) (upd H p (.lst (L.map fun y => V.ref y.2.1)))
theorem each_ofX {R : Value → (NestedKey × Addr × Value) → Prop} : ∀ {L : NX}, (∀ q ∈ L, R (.ref q.2.1) q) → PySem.W.EachIs R (L.map fun q => Value.ref q.2.1) L
  | [], _ => .nil
  | q :: L, h => .cons (h q List.mem_cons_self) (each_ofX fun r hr => h r (List.mem_cons_of_mem _ hr))
theorem eachIs_refX : ∀ {us : List Value} {L : NX}, PySem.W.EachIs (fun v q => v = Value.ref q.2.1) us L → us = L.map fun q => Value.ref q.2.1
  | _, _, .nil => rfl
  | _, _, .cons h t => by rw [h, eachIs_refX t]; rfl
theorem vals_refX : ∀ (L : NX), Vals (L.map fun p => V.ref p.2.1) (L.map fun p => Value.ref p.2.1)
  | [] => .nil
  | p :: L => .cons rfl (vals_refX L)
theorem cr_sortedM (cm : X.calm = true) (hu : X.A.units + 64 < cLine) : CallR X (.builtin "sorted") (rSortM X) := by
  intro pins s σ H vs us Q I r q
  obtain ⟨a, xs, rfl, nd, nt, al, so, q⟩ := q
  obtain ⟨u, rfl, rx⟩ := vals1 r
  obtain rfl : u = Value.ref a := rx
  obtain ⟨h16, lo, dd⟩ := nd.at_ I
  obtain ⟨es, ep, raw, hsz, hent⟩ := dd.raw
  refine Calls.call_function_entry PyProof.Rows.kind_sorted PyProof.Rows.plain_sorted PyProof.Rows.entry_sorted (PyProof.Rows.args_sorted1 _) ?_
  unfold Builtin.«sorted»
  refine wpAny_bind (m := checkCount "sorted" 1 1 _) (wpAny_pure ?_)
  refine wpAny_bind (PySem.W.kdu_collect (A := X.A.in1) (PySem.KdlSrc.rawDict (es := es) (ep := ep) lo) (I.ok.hd cm) raw (by omega) fun h' tk acc hk hacc => ?_)
  have hal : acc.toList.length = xs.length := by rw [Array.length_toList, hacc.1, hsz]
  have hS : acc.toList = xs.map fun x => Value.ref x.2.1 := by
    refine List.ext_getElem? fun j => ?_
    rw [List.getElem?_map]
    cases e : acc.toList[j]? with
    | none =>
      have : xs.length ≤ j := by rw [← hal]; exact List.getElem?_eq_none_iff.mp e
      rw [List.getElem?_eq_none_iff.mpr this]; rfl
    | some v =>
      obtain ⟨hi, ev⟩ := hacc.2 j v (by rw [← Array.getElem?_toList]; exact e)
      obtain ⟨y, e1, e2, _⟩ := hent j hi
      rw [e1, ev, e2]; rfl
  have I1 : Inv X pins σ H { s with heap := h', toks := tk } := I.kept hk
  refine wpAny_bind (wpAny_newList ?_ (by rw [hal]; exact h16))
  have ea : acc = (xs.map fun x => Value.ref x.2.1).toArray := by rw [← hS]
  subst ea
  have at1 : (h'.push (seqObj "list" (xs.map fun x => Value.ref x.2.1).toArray 0)).get? h'.objs.size = some (seqObj "list" (xs.map fun x => Value.ref x.2.1).toArray 0) := Heap.get?_push_size _ rfl
  have e2 : PySem.W.EachIs (fun v q => ∃ as, Reads (h'.push (seqObj "list" (xs.map fun x => Value.ref x.2.1).toArray 0)) v (nkp q) as ∧ h'.objs.size ∉ as) (xs.map fun q => Value.ref q.2.1) xs := each_ofX fun q hq =>
    ⟨[], PyProof.Rows.Reads.keeps (fun b u e => Heap.get?_push_of_some _ e) (NKH.rd I1 _ _ _ (nt q hq) (nd.ks q hq).1 rfl), by simp⟩
  have u1 : X.A.in1.units ≤ X.A.units + 1 := by simp [Around.in1, Around.units]
  show wpAny _ _ _ _ _ { s with heap := h'.push (seqObj "list" (xs.map fun x => Value.ref x.2.1).toArray 0), toks := tk }
  refine wpAny_bind (wpAny_holding (PySem.W.list_sort_data (s := { s with heap := h'.push (seqObj "list" (xs.map fun x => Value.ref x.2.1).toArray 0), toks := tk }) (R := fun v q => v = Value.ref q.2.1) (enc := nkp) (bs := xs) at1 (each_ofX fun q _ => rfl) e2 al so
    (by have := h16; simp at this hal; omega) (fun b hb => by have := (nd.ks b hb).2; have := data_dep b.1; show X.A.in1.units + 1 + b.1.data.depth < cLine; omega) fun out lo eo => ?_))
  obtain ⟨c, hc⟩ := sortedHeap_at (vs := xs.map fun q => Value.ref q.2.1) (out := out.toArray) at1
  have eo2 := eachIs_refX eo
  have pm := List.mergeSort_perm xs (PySem.W.dataLe false nkp)
  have hlen : ((xs.mergeSort (PySem.W.dataLe false nkp)).map fun y => V.ref y.2.1).length ≤ sizeLine := by
    rw [List.length_map, pm.length_eq]
    have := h16
    omega
  have hv : Vals ((xs.mergeSort (PySem.W.dataLe false nkp)).map fun y => V.ref y.2.1) out := by rw [eo2]; exact vals_refX _
  refine wpAny_pure ⟨_, rfl, .ref h'.objs.size, upd H h'.objs.size (.lst ((xs.mergeSort (PySem.W.dataLe false nkp)).map fun y => V.ref y.2.1)), I1.laid (t' := tk) (fun b u e => ?_) (Nat.le_refl _)
    (show ObjOk X.prog X.w _ _ _ (.lst ((xs.mergeSort (PySem.W.dataLe false nkp)).map fun y => V.ref y.2.1)) from ⟨hlen, out, c, hv, hc⟩), rfl, q _ _ pm (srt_pw (k := nkp) xs) (I1.hok.fresh (Nat.le_refl _))⟩
  have lt := Heap.lt_size e
  show (sortedHeap (h'.push _) h'.objs.size _ out.toArray).get? b = some u
  rw [sortedHeap_old (Nat.ne_of_lt lt) (by rw [size_push']; exact Nat.lt_succ_of_lt lt)]
  exact Heap.get?_push_of_some _ e
end
open Classical in
noncomputable def fSortM : List D → Sto → Rs
  | [.dct (.non :: ks) _], st => if (∀ d ∈ ks, ∃ k, tkOf d = some k ∧ noTx k = true) ∧ ks.Nodup ∧ PySem.W.AllAlike (pys ks) ∧ PySem.W.Sortable (pys ks) then .ok (.lst (onceD ks)) st else .bad
  | _, _ => .bad
section
variable {X : Cx} {B : Bs} {Wx : WX}
theorem jb_sortM (hc : X.calm = true) (hu : X.A.units + 64 < cLine) : JB X B .fr Wx (.builtin "sorted") fSortM := ⟨_, cr_sortedM hc hu, by
  intro O e s w0 w ds vs st Q R xt rr q
  cases ds with
  | nil => exact (show False from q).elim
  | cons d ds1 =>
   cases ds1 with
   | cons _ _ =>
     cases d with
     | dct ks dd => cases ks with
       | nil => exact (show False from q).elim
       | cons t ks => cases t <;> exact (show False from q).elim
     | _ => exact (show False from q).elim
   | nil =>
    obtain ⟨v, rfl, h⟩ := RQs.one rr
    cases d with
    | dct ks dd =>
     cases ks with
     | nil => exact (show False from q).elim
     | cons t ks =>
      cases t with
      | non =>
       unfold fSortM at q
       by_cases hz : (∀ d ∈ ks, ∃ k, tkOf d = some k ∧ noTx k = true) ∧ ks.Nodup ∧ PySem.W.AllAlike (pys ks) ∧ PySem.W.Sortable (pys ks)
       · simp only [if_pos hz] at q
         obtain ⟨ht, hnd, hal, hso⟩ := hz
         obtain ⟨a, vs, xs, rfl, er, ek, hv, hx, rs⟩ := h.nd
         have inds : ∀ p ∈ xs, nkD p.1 ∈ ks := fun p hp => by rw [ek]; exact List.mem_map.mpr ⟨p, hp, rfl⟩
         have nts : ∀ p ∈ xs, noTx p.1 = true := fun p hp => by
           obtain ⟨k, tk, nt⟩ := ht _ (inds p hp)
           rw [nkD_inj (tkOf_eq tk).1]
           exact nt
         have dat : ∀ p ∈ xs, nkp p ∈ pys ks := fun p hp => by
           show p.1.data ∈ _
           rw [pys_map, ← nkD_py]
           exact List.mem_map.mpr ⟨_, inds p hp, rfl⟩
         refine ⟨a, xs, rfl, ndat_of er hx, nts, fun x hx' y hy => ?_, ?_, fun L p perm pw hp => ?_⟩
         · obtain ⟨p, hp, rfl⟩ := List.mem_map.mp hx'
           obtain ⟨p2, hp2, rfl⟩ := List.mem_map.mp hy
           exact hal _ (dat p hp) _ (dat p2 hp2)
         · refine hso.imp (fun h x hx => ?_) (fun h x hx => ?_) <;> obtain ⟨p, hp, rfl⟩ := List.mem_map.mp hx <;> exact h _ (dat p hp)
         · have ndL : (L.map fun q => nkD q.1).Nodup := by
             rw [(perm.map fun q => nkD q.1).nodup_iff, ← ek]; exact hnd
           have el : L.map (fun q => nkD q.1) = onceD ks := by
             refine rise_uniqD ?_ onceD_pw (fun d => ?_) (fun x hx y hy => ?_) (fun x hx => ?_)
             · rw [List.pairwise_map]
               refine (pw.and (List.pairwise_map.mp ndL)).imp fun {q r} h => ⟨?_, h.2⟩
               have h1 : leE nkp q r = true := h.1
               have e1 : leE D.py (nkD q.1) (nkD r.1) = leE nkp q r := by
                 show (!_) = (!_)
                 simp only [nkD_py]
               rw [e1]; exact h1
             · rw [mem_onceD, ek]
               exact (perm.map fun q => nkD q.1).mem_iff
             · obtain ⟨p, hp, rfl⟩ := List.mem_map.mp hx
               obtain ⟨p2, hp2, rfl⟩ := List.mem_map.mp hy
               rw [nkD_py, nkD_py]
               exact hal _ (dat p (perm.mem_iff.mp hp)) _ (dat p2 (perm.mem_iff.mp hp2))
             · obtain ⟨p, hp, rfl⟩ := List.mem_map.mp hx
               exact nb_nkD _
           have rds : ∀ L : NX, (∀ p ∈ L, p ∈ xs) → RDs (cg X) w (L.map fun q => nkD q.1) (L.map fun q => V.ref q.2.1) := fun L => by
             induction L with
             | nil => intro _; show RDs _ _ [] []; unfold RDs; rfl
             | cons p L ih =>
               intro h
               show RDs _ _ (nkD p.1 :: _) (V.ref p.2.1 :: _)
               unfold RDs
               exact ⟨_, _, rfl, nk_dr _ _ (hx p (h p List.mem_cons_self)).1, ih fun r hr => h r (List.mem_cons_of_mem _ hr)⟩
           have rds := rds L fun p hp => perm.mem_iff.mp hp
           rw [el] at rds
           exact post.own R xt q hp fun w' e2 k2 => ⟨_, e2, RDs.wk k2 _ _ rds⟩
       · simp only [if_neg hz] at q; exact (show False from q).elim
      | _ => exact (show False from q).elim
    | _ => exact (show False from q).elim⟩
end
section
variable {st : Sto} {Q : D → Sto → Prop} {E : Str → Option (Str × D) → Sto → Prop}
end
end Sm

namespace Sm
open PySem L2
section
variable {r : Env} {st : Sto} {N : Env → Sto → Prop} {R : D → Sto → Prop} {L : Bool → Env → Sto → Prop} {E : Str → Option (Str × D) → Env → Sto → Prop} {i : Nat} {b : Bool} {x y : Str} {A g : Sv} {f : Ev} {v : D}
theorem t_monoR {z : Rt} {P : Env → Sto → Prop} (h : RtP z P (fun _ _ => False) (fun _ _ _ => False) (fun _ _ _ _ => False)) (q : ∀ r st, P r st → N r st) : RtP z N R L E := by
  cases z with
  | nx r st => exact q _ _ h
  | _ => exact h.elim
theorem t_seq (P : Env → Sto → Prop) {A : Sv} (qa : RtP (A r st) P (fun _ _ => False) (fun _ _ _ => False) (fun _ _ _ _ => False)) (q : ∀ r1 st1, P r1 st1 → RtP (g r1 st1) N R L E) : RtP (sSq A g r st) N R L E := by
  rw [w_sq]
  exact t_monoR qa q
end
end Sm

namespace Sm
open PySem PySem.Spec PyProof.Rows L2
def sRem (i : Nat) (f : Ev) : Sv := fun r st => match r i with
  | some (true, .lst ds) => ofRs (f r st) r fun d st1 => if shp 60 d && shp 60 (.lst ds) then (match ds.findIdx? fun z => eqv z d with | some j => .nx (r.set i (some (true, .lst (ds.eraseIdx j)))) st1 | none => .bad) else .bad
  | _ => .bad
section
variable {X : Cx} {B : Bs} {Wx : WX} {fr : Bool} {b : Expr} {f : Ev} {pos ma mp : Pos}
variable {r : Env} {st : Sto} {N : Env → Sto → Prop} {R : D → Sto → Prop} {L : Bool → Env → Sto → Prop} {E : Str → Option (Str × D) → Env → Sto → Prop} {i : Nat}
theorem m_rem {ds : List D} (h : r i = some (true, .lst ds)) : RtP (sRem i f r st) N R L E = RsP (f r st) (fun d st1 => (shp 60 d = true ∧ shp 60 (.lst ds) = true) ∧ ∃ j, ds.findIdx? (fun z => eqv z d) = some j ∧ N (r.set i (some (true, .lst (ds.eraseIdx j)))) st1) (fun c a st => E c a r st) := by
  unfold sRem
  rw [h]
  simp only
  rw [w_of]
  congr 1
  funext d st1
  cases zs : shp 60 d && shp 60 (.lst ds) with
  | false =>
    rw [if_neg (by simp)]
    refine propext ⟨fun q => q.elim, fun q => ?_⟩
    rw [q.1.1, q.1.2] at zs
    cases zs
  | true =>
    rw [if_pos rfl]
    rw [Bool.and_eq_true] at zs
    cases zj : ds.findIdx? fun z => eqv z d with
    | none => exact propext ⟨fun q => q.elim, fun q => by obtain ⟨_, j, e, _⟩ := q; cases e⟩
    | some j => exact propext ⟨fun q => ⟨zs, j, rfl, q⟩, fun q => by obtain ⟨_, j2, e, q⟩ := q; cases e; exact q⟩
theorem m_remM : RtP (sRem i f r st) N R L E = (match r i with | some (true, .lst ds) => RsP (f r st) (fun d st1 => (shp 60 d = true ∧ shp 60 (.lst ds) = true) ∧ ∃ j, ds.findIdx? (fun z => eqv z d) = some j ∧ N (r.set i (some (true, .lst (ds.eraseIdx j)))) st1) (fun c a st => E c a r st) | _ => False) := by
  cases z : r i with
  | none => unfold sRem; rw [z]; rfl
  | some bd =>
    obtain ⟨b, d⟩ := bd
    cases b with
    | false => unfold sRem; rw [z]; rfl
    | true =>
      cases d <;> first
        | exact m_rem z
        | (unfold sRem; rw [z]; rfl)
end
end Sm

namespace Sm
open PySem PySem.Spec PyProof.Rows L2
def turnL {α : Type} (z : Int) (xs : List α) : List α := if z = 1 then xs else xs.reverse
def bWay (f g : Ev) : Ev := fun r st => (f r st).bind fun d st1 => match der st1 d with
  | .lst _ => (g r st1).bind fun y st2 => (match der st2 d, y with | .lst ds, .int z => if z = 1 ∨ z = -1 then .ok (.lst (turnL z ds)) st2 else .bad | _, _ => .bad)
  | _ => .bad
section
variable {X : Cx} {B : Bs} {Wx : WX} {a b : Expr} {f g : Ev} {pos : Pos}
variable {r : Env} {st : Sto} {Q : D → Sto → Prop} {E' : Str → Option (Str × D) → Sto → Prop}
theorem w_way : RsP (bWay f g r st) Q E' = RsP (f r st) (fun d st1 => match der st1 d with | .lst _ => RsP (g r st1) (fun y st2 => match der st2 d, y with | .lst ds, .int z => (z = 1 ∨ z = -1) ∧ Q (.lst (turnL z ds)) st2 | _, _ => False) E' | _ => False) E' := by
  unfold bWay
  rw [w_bind]
  congr 1; funext d st1
  cases der st1 d <;> try rfl
  simp only
  rw [w_bind]
  congr 1; funext y st2
  cases der st2 d <;> try rfl
  cases y <;> try rfl
  simp only
  split
  · rename_i ds z h
    exact propext ⟨fun q => ⟨h, q⟩, fun q => q.2⟩
  · rename_i ds z h
    exact propext ⟨fun q => q.elim, fun q => h q.1⟩
end
end Sm

namespace Sm
open PySem L2
section
variable {X : L2.Cx} {B : Bs} {Wx : WX}
end
end Sm

namespace PySem.W
open Lean Elab Tactic Meta PySem PySem.Calls PyProof.Rows PyProof.V PySem.Spec
section
variable {prog : Program} {w : World} {A : Around} {E : Value → Shared → Prop} {s : Shared}
end
end PySem.W
namespace Sm
open PySem L2 PyProof.Rows
def kcnt : List D → Nat
  | .non :: ks => ks.length
  | ks => ks.length
def opDE (neg : Bool) (a b : D) (st : Sto) : Rs := match a, b with
  | .dct ks _, .dct [] _ => if (DKs ks || nonK ks) = true then .ok (.bl (neg ^^ decide (kcnt ks = 0))) st else .bad
  | _, _ => .bad
where nonK : List D → Bool
  | .non :: _ => true
  | _ => false
section
variable {X : Cx} {B : Bs} {Wx : WX} {a b c : Expr} {f g h : Ev} {pos : Pos}
def sNever : Sv := fun _ _ => .bad
end
section
variable {st : Sto} {Q : D → Sto → Prop} {E' : Str → Option (Str × D) → Sto → Prop}
theorem o_dE {neg : Bool} {ks ds ds2 : List D} : RsP (opDE neg (.dct ks ds) (.dct [] ds2) st) Q E' = ((DKs ks || opDE.nonK ks) = true ∧ Q (.bl (neg ^^ decide (kcnt ks = 0))) st) := by
  unfold opDE
  by_cases z : (DKs ks || opDE.nonK ks) = true
  · simp only [if_pos z, RsP]; exact propext ⟨fun h => ⟨z, h⟩, fun h => h.2⟩
  · simp only [if_neg z, RsP]; exact propext ⟨fun h => h.elim, fun h => z h.1⟩
theorem dr_dE {neg : Bool} {a b : D} : RsP (drOp (opDE neg) a b st) Q E' = derP st a fun a' => derP st b fun b' => RsP (opDE neg a' b' st) Q E' := rfl
variable {r : Env} {N : Env → Sto → Prop} {R2' : D → Sto → Prop} {L2' : Bool → Env → Sto → Prop} {E2 : Str → Option (Str × D) → Env → Sto → Prop}
theorem m_never : RtP (sNever r st) N R2' L2' E2 = False := rfl
end
end Sm

namespace Sm
open PySem L2
def tgL (ts : List Tg) : Tg := fun d r => match d with
  | .lst ds => tgs ts ds r
  | _ => none
section
variable {X : Cx} {B : Bs} {es : List Expr} {ts : List Tg} {pos : Pos}
end
section
variable {r : Env}
theorem t_l {ts : List Tg} {ds : List D} : tgL ts (.lst ds) r = tgs ts ds r := rfl
end
end Sm

namespace Sm
open PySem L2 PyProof.Rows
def fLenD : List D → Sto → Rs
  | [.dct ks _], st => if (DKs ks || opDE.nonK ks) = true then .ok (.int (kcnt ks : Int)) st else .bad
  | _, _ => .bad
section
variable {X : Cx} {B : Bs} {Wx : WX}
end
section
variable {st : Sto} {Q : D → Sto → Prop} {E' : Str → Option (Str × D) → Sto → Prop}
theorem f_lenD {ks ds : List D} : RsP (fLenD [.dct ks ds] st) Q E' = ((DKs ks || opDE.nonK ks) = true ∧ Q (.int (kcnt ks : Int)) st) := by
  unfold fLenD
  by_cases z : (DKs ks || opDE.nonK ks) = true
  · simp only [if_pos z, RsP]; exact propext ⟨fun h => ⟨z, h⟩, fun h => h.2⟩
  · simp only [if_neg z, RsP]; exact propext ⟨fun h => h.elim, fun h => z h.1⟩
end
end Sm

namespace Sm
open PySem PySem.Spec PyProof.Rows L2
open Classical in
noncomputable def sortSetI : D → Sto → Rs
  | .tup ds, st => (match intsOf ds with
    | some ns => if ns.length < 64 then .ok (.lst ((once kI ns).map D.int)) st else .bad
    | none => .bad)
  | _, _ => .bad
noncomputable def bSortSetI (f : Ev) : Ev := fun r st => (f r st).bind fun d st1 => sortSetI (der st1 d) st1
section
variable {X : Cx} {B : Bs} {Wx : WX} {a : Expr} {f : Ev} {r : Env} {st : Sto} {Q : D → Sto → Prop} {E' : Str → Option (Str × D) → Sto → Prop}
theorem w_sortSetI : RsP (bSortSetI f r st) Q E' = RsP (f r st) (fun d st1 => derP st1 d fun d' => RsP (sortSetI d' st1) Q E') E' := by
  unfold bSortSetI
  rw [w_bind]; rfl
theorem f_sortSetI {ns : List Int} : RsP (sortSetI (.tup (ns.map D.int)) st) Q E' = (ns.length < 64 ∧ Q (.lst ((once kI ns).map D.int)) st) := by
  have e : intsOf (ns.map D.int) = some ns := intsOf_int
  simp only [sortSetI, e]
  by_cases hz : ns.length < 64
  · rw [if_pos hz]
    exact propext ⟨fun h => ⟨hz, h⟩, fun h => h.2⟩
  · rw [if_neg hz]
    exact propext ⟨fun h => h.elim, fun h => hz h.1⟩
end
end Sm

namespace Sm
open PySem PySem.Spec PyProof.Rows L2
def sRaiseN (c : Str) (f : Ev) : Sv := fun r st => ofRs (f r st) r fun d st1 => match d with
  | .int n => .err c (some ("number", .int n)) r st1
  | _ => .bad
section
variable {X : Cx} {B : Bs} {Wx : WX} {e : Expr} {f : Ev} {fr : Bool} {x : Str} {p pos pos' : Pos} {r : Env} {st : Sto}
end
section
variable {f : Ev} {r : Env} {st : Sto} {N : Env → Sto → Prop} {R : D → Sto → Prop} {L : Bool → Env → Sto → Prop} {E : Str → Option (Str × D) → Env → Sto → Prop}
theorem w_raiseN {c : Str} : RtP (sRaiseN c f r st) N R L E = RsP (f r st) (fun d st1 => match d with | .int n => E c (some ("number", .int n)) r st1 | _ => False) (fun c a st => E c a r st) := by
  unfold sRaiseN
  rw [w_of]
  congr 1
  funext d st1
  cases d <;> rfl
end
end Sm

namespace Sm
open PySem PySem.Spec PyProof.Rows L2
def extK (f : Ev) (r : Env) (o : D) (st1 : Sto) : Rt := match o with
  | .ref n => match st1[n]? with
    | some (.lst _) => ofRs (f r st1) r fun d st2 => match st2[n]? with
      | some (.lst ds) => match der st2 d with
        | .lst es => if ds.length + es.length ≤ LIM then .nx r (st2.set n (.lst (ds ++ es))) else .bad
        | _ => .bad
      | _ => .bad
    | _ => .bad
  | _ => .bad
def sExtR (h f : Ev) : Sv := fun r st => ofRs (h r st) r (extK f r)
def sRevR (h : Ev) : Sv := fun r st => ofRs (h r st) r fun o st1 => match o with
  | .ref n => match st1[n]? with
    | some (.lst ds) => .nx r (st1.set n (.lst ds.reverse))
    | _ => .bad
  | _ => .bad
section
variable {X : Cx} {B : Bs} {k : Kd} {fr : Bool} {Wx : WX} {a b c : Expr} {f g h : Ev} {pos : Pos}
end
section
variable {N : Env → Sto → Prop} {R : D → Sto → Prop} {L : Bool → Env → Sto → Prop} {E : Str → Option (Str × D) → Env → Sto → Prop} {r : Env} {st : Sto} {h f : Ev}
theorem w_revR : RtP (sRevR h r st) N R L E = RsP (h r st) (fun o st1 => match o with
    | .ref n => match st1[n]? with
      | some (.lst ds) => N r (st1.set n (.lst ds.reverse))
      | _ => False
    | _ => False) (fun c a st => E c a r st) := by
  unfold sRevR
  rw [w_of]
  congr 1; funext o st1
  cases o <;> try rfl
  rename_i n
  simp only
  cases st1[n]? with
  | none => rfl
  | some so => cases so <;> rfl
theorem w_extR : RtP (sExtR h f r st) N R L E = RsP (h r st) (fun o st1 => match o with
    | .ref n => match st1[n]? with
      | some (.lst _) => RsP (f r st1) (fun d st2 => match st2[n]? with
        | some (.lst ds) => derP st2 d fun d' => match d' with
          | .lst es => ds.length + es.length ≤ LIM ∧ N r (st2.set n (.lst (ds ++ es)))
          | _ => False
        | _ => False) (fun c a st => E c a r st)
      | _ => False
    | _ => False) (fun c a st => E c a r st) := by
  unfold sExtR
  rw [w_of]
  congr 1; funext o st1
  unfold extK
  cases o <;> try rfl
  rename_i n
  simp only
  cases st1[n]? with
  | none => rfl
  | some so =>
    cases so <;> try rfl
    simp only
    rw [w_of]
    congr 1; funext d st2
    cases st2[n]? with
    | none => rfl
    | some so =>
      cases so <;> try rfl
      rename_i ds
      simp only
      unfold derP
      cases der st2 d <;> try rfl
      rename_i es
      by_cases z : ds.length + es.length ≤ LIM <;> simp [z, RtP]
end
end Sm

namespace Sm
open PySem PySem.Spec PyProof.Rows L2
def remK (f : Ev) (r : Env) (o : D) (st1 : Sto) : Rt := match o with
  | .ref n => match st1[n]? with
    | some (.lst _) => ofRs (f r st1) r fun d st2 => match st2[n]? with
      | some (.lst ds) => if shp 60 d && shp 60 (.lst ds) then (match ds.findIdx? fun z => eqv z d with | some j => .nx r (st2.set n (.lst (ds.eraseIdx j))) | none => .bad) else .bad
      | _ => .bad
    | _ => .bad
  | _ => .bad
def sRemR (h f : Ev) : Sv := fun r st => ofRs (h r st) r (remK f r)
section
variable {X : Cx} {B : Bs} {k : Kd} {fr : Bool} {Wx : WX} {a b c : Expr} {f g h : Ev} {pos : Pos}
end
section
variable {N : Env → Sto → Prop} {R : D → Sto → Prop} {L : Bool → Env → Sto → Prop} {E : Str → Option (Str × D) → Env → Sto → Prop} {r : Env} {st : Sto} {h f : Ev}
theorem w_remR : RtP (sRemR h f r st) N R L E = RsP (h r st) (fun o st1 => match o with
    | .ref n => match st1[n]? with
      | some (.lst _) => RsP (f r st1) (fun d st2 => match st2[n]? with
        | some (.lst ds) => (shp 60 d = true ∧ shp 60 (.lst ds) = true) ∧ ∃ j, ds.findIdx? (fun z => eqv z d) = some j ∧ N r (st2.set n (.lst (ds.eraseIdx j)))
        | _ => False) (fun c a st => E c a r st)
      | _ => False
    | _ => False) (fun c a st => E c a r st) := by
  unfold sRemR
  rw [w_of]
  congr 1; funext o st1
  unfold remK
  cases o <;> try rfl
  rename_i n
  simp only
  cases st1[n]? with
  | none => rfl
  | some so =>
    cases so <;> try rfl
    simp only
    rw [w_of]
    congr 1; funext d st2
    cases st2[n]? with
    | none => rfl
    | some so =>
      cases so <;> try rfl
      rename_i ds
      simp only
      cases z1 : shp 60 d <;> cases z2 : shp 60 (.lst ds) <;> cases z3 : ds.findIdx? (fun z => eqv z d) <;> simp [RtP]
end
end Sm

namespace Sm
open PySem PySem.Spec PyProof.Rows L2
section
variable {X : Cx} {pins : List (Addr × Obj)} {σ : L2.St} {S a b z TI TO i1 i2 : Addr} {xs ys : List V}
end
def fListZip : List D → Sto → Rs
  | [.lst xs, .lst ys], st => .ok (.lst (zipd xs ys)) st
  | _, _ => .bad
def bListZip (f g : Ev) : Ev := fun r st => (evs [f, g] r st).bind fListZip
section
variable {X : Cx} {B : Bs} {Wx : WX} {a b : Expr} {f g : Ev}
variable {r : Env} {st : Sto} {Q : D → Sto → Prop} {E' : Str → Option (Str × D) → Sto → Prop}
theorem w_listZip : RsP (bListZip f g r st) Q E' = RsP (f r st) (fun d st1 => RsP (g r st1) (fun d2 st2 => match d, d2 with | .lst xs, .lst ys => Q (.lst (zipd xs ys)) st2 | _, _ => False) E') E' := by
  unfold bListZip
  simp only [evs]
  cases f r st <;> try rfl
  rename_i d st1
  simp only [RsP, Rs.bindL]
  cases g r st1 <;> try rfl
  rename_i d2 st2
  simp only [RsP, Rs.bindL, RsL.bindL, RsL.bind]
  cases d <;> try rfl
  cases d2 <;> rfl
end
end Sm

namespace Sm
open PySem PySem.Spec PyProof.Rows L2
def MG (m : Nat) : Prop := m = 7 ∨ m = 31 ∨ m = 127 ∨ m = 511 ∨ m = 2047
def orF (m : Nat) : Nat → Nat → Nat → Nat × Nat
  | 0, x, acc => (x, acc)
  | k + 1, x, acc => orF m k ((x * 5 + 1) % (m + 1)) (acc ||| 2 ^ x)
theorem orF_bit {m j : Nat} : ∀ (k i acc : Nat), (orF m k (lcgN m i) acc).2.testBit j = true → acc.testBit j = true ∨ ∃ b, b < i + k ∧ lcgN m b = j
  | 0, _, _, h => .inl h
  | k + 1, i, acc, h => by
    have h : (orF m k (lcgN m (i + 1)) (acc ||| 2 ^ lcgN m i)).2.testBit j = true := h
    rcases orF_bit k (i + 1) _ h with h | ⟨b, hb, e⟩
    · rw [Nat.testBit_or, Bool.or_eq_true] at h
      rcases h with h | h
      · exact .inl h
      · rw [Nat.testBit_two_pow] at h
        exact .inr ⟨i, by omega, of_decide_eq_true h⟩
    · exact .inr ⟨b, by omega, e⟩
theorem orF_end {m : Nat} : ∀ (k i acc : Nat), (orF m k (lcgN m i) acc).1 = lcgN m (i + k)
  | 0, _, _ => rfl
  | k + 1, i, acc => by
    have := orF_end (m := m) k (i + 1) (acc ||| 2 ^ lcgN m i)
    rw [show i + (k + 1) = i + 1 + k by omega]
    exact this
theorem mg_or {m : Nat} (h : MG m) : orF m (m + 1) 0 0 = (0, 2 ^ (m + 1) - 1) := by
  rcases h with e | e | e | e | e <;> subst e <;> decide +kernel
theorem mg_all {m : Nat} (h : MG m) {j : Nat} (hj : j ≤ m) : ∃ b, b ≤ m ∧ lcgN m b = j := by
  have e := mg_or h
  have hb : (orF m (m + 1) (lcgN m 0) 0).2.testBit j = true := by
    show (orF m (m + 1) 0 0).2.testBit j = true
    rw [e]
    show (2 ^ (m + 1) - 1).testBit j = true
    rw [Nat.testBit_two_pow_sub_one]
    exact decide_eq_true (by omega)
  rcases orF_bit (m + 1) 0 0 hb with h | ⟨b, hb, e⟩
  · simp at h
  · exact ⟨b, by omega, e⟩
theorem mg_round {m : Nat} (h : MG m) : lcgN m (m + 1) = 0 := by
  have e := orF_end (m := m) (m + 1) 0 0
  rw [Nat.zero_add] at e
  rw [← e]
  show (orF m (m + 1) 0 0).1 = 0
  rw [mg_or h]
theorem mg_mod {m : Nat} (h : MG m) : ∀ k, lcgN m (m + 1 + k) = lcgN m k
  | 0 => mg_round h
  | k + 1 => by
    show (lcgN m (m + 1 + k) * 5 + 1) % (m + 1) = _
    rw [mg_mod h k]; rfl
theorem mg_run {m : Nat} (hm : MG m) (h : Int) {j : Nat} (hj : j ≤ m) : ∃ n, n ≤ m + 12 ∧ runI m (SetTable.bits h) n = j := by
  obtain ⟨a, ha, ea⟩ := mg_all hm (runI_le m (SetTable.bits h) 12)
  obtain ⟨c, hc, ec⟩ := mg_all hm hj
  obtain ⟨k, hk, e⟩ : ∃ k, k ≤ m ∧ lcgI m (runI m (SetTable.bits h) 12) k = j := by
    rw [← ea]
    by_cases q : a ≤ c
    · exact ⟨c - a, by omega, by rw [lcgN_add, show a + (c - a) = c by omega, ec]⟩
    · exact ⟨c + (m + 1) - a, by omega, by rw [lcgN_add, show a + (c + (m + 1) - a) = m + 1 + c by omega, mg_mod hm, ec]⟩
  exact ⟨12 + k, by omega, by rw [runI_tail (bits_lt h)]; exact e⟩
theorem mg_meets {m : Nat} (hm : MG m) (h : Int) {j : Nat} (hj : j ≤ m) : ∃ k, k < 10 * SetTable.turns m ∧ way m h k = j := by
  obtain ⟨n, hn, e⟩ := mg_run hm h hj
  obtain ⟨k, hk, e2⟩ := run_nth m (SetTable.bits h) n
  refine ⟨k, by unfold SetTable.turns; omega, ?_⟩
  show (nth m (runAt m (SetTable.bits h % (m + 1)) (SetTable.bits h)) k).j = j
  rw [e2]
  exact e
theorem wy_le {m : Nat} {h : Int} {k : Nat} : way m h k ≤ m := by
  have hi : SetTable.bits h % (m + 1) ≤ m := Nat.le_of_lt_succ (Nat.mod_lt _ (Nat.succ_pos _))
  have r := runEnd_bd hi
  have q := nth_in (m := m) k (runAt m (SetTable.bits h % (m + 1)) (SetTable.bits h)) (by
    show SetTable.bits h % (m + 1) + (SetTable.runEnd m (SetTable.bits h % (m + 1)) - SetTable.bits h % (m + 1)) ≤ m
    omega)
  show (nth m (runAt m (SetTable.bits h % (m + 1)) (SetTable.bits h)) k).j ≤ m
  omega
structure TabG (t : SetTable) (hs : List Int) : Prop where
  ris : Ris t.place.toList
  dm : t.dummies = #[]
  sz : t.place.size = hs.length
  mok : MG t.mask
  bd : ∀ x ∈ t.place.toList, x ≤ t.mask
  on : ∀ (i : Nat) (h : Int) (j : Nat), hs[i]? = some h → t.place.toList[i]? = some j → ∃ k, way t.mask h k = j ∧ ∀ k', k' < k → way t.mask h k' ∈ t.place.toList
theorem mg_odd {m : Nat} (h : MG m) : m % 2 = 1 := by
  rcases h with e | e | e | e | e <;> subst e <;> rfl
section
variable {t : SetTable} {hs : List Int} {h : Int} {K : Nat}
theorem TabG.len (T : TabG t hs) : t.place.toList.length = hs.length := by rw [Array.length_toList]; exact T.sz
theorem TabG.first (T : TabG t hs) (hl : hs.length ≤ t.mask) (h : Int) : ∃ K, K < 10 * SetTable.turns t.mask ∧ way t.mask h K ∉ t.place.toList ∧ ∀ k, k < K → way t.mask h k ∈ t.place.toList := by
  obtain ⟨j, hj, hn⟩ := st_missing t.place.toList (t.mask + 1) (by rw [T.len]; omega)
  obtain ⟨k, hk, e⟩ := mg_meets T.mok h (Nat.le_of_lt_succ hj)
  obtain ⟨K, h1, h2, h3⟩ := st_least (p := fun k => way t.mask h k ∉ t.place.toList) k (by rw [e]; exact hn)
  exact ⟨K, by omega, h2, fun k' hk' => Classical.not_not.mp (h3 k' hk')⟩
theorem TabG.before (T : TabG t hs) {i j : Nat} (hK : way t.mask h K ∉ t.place.toList) (hi : hs[i]? = some h) (hj : t.place.toList[i]? = some j) : ∃ k, k < K ∧ way t.mask h k = j := by
  obtain ⟨k, e, hb⟩ := T.on i h j hi hj
  refine ⟨k, Nat.lt_of_not_le fun c => hK ?_, e⟩
  rcases Nat.lt_or_eq_of_le c with c | c
  · exact hb K c
  · rw [c, e]; exact List.mem_of_getElem? hj
theorem TabG.put (T : TabG t hs) (hK : way t.mask h K ∉ t.place.toList) (hb : ∀ k, k < K → way t.mask h k ∈ t.place.toList) {p : Nat} (hp : SetTable.below t.place (way t.mask h K) = p) :
    (t.put (way t.mask h K)).2 = p ∧ p ≤ hs.length ∧ TabG (t.put (way t.mask h K)).1 (hs.take p ++ h :: hs.drop p) ∧
    (t.put (way t.mask h K)).1.mask = t.mask ∧ (t.put (way t.mask h K)).1.led = t.led ∧ (t.put (way t.mask h K)).1.plain = t.plain ∧ (t.put (way t.mask h K)).1.fill = hs.length + 1 := by
  have hjm : way t.mask h K ≤ t.mask := wy_le
  obtain ⟨j, hj⟩ : ∃ j, j = way t.mask h K := ⟨_, rfl⟩
  rw [← hj] at hK hjm hp ⊢
  have c1 := (below_cut T.ris j).1
  rw [hp] at c1
  have hpp := put_place t j
  rw [hp] at hpp
  have pl : p ≤ t.place.toList.length := by rw [Array.length_toList]; exact c1
  have ph : p ≤ hs.length := by rw [← T.len]; exact pl
  have hsize : (t.put j).1.place.size = hs.length + 1 := by rw [← Array.length_toList, hpp, len_ins _ pl, T.len]
  have up : ∀ {x : Nat}, x ∈ t.place.toList → x ∈ (t.put j).1.place.toList := fun {x} hx => by rw [hpp]; exact mem_ins.2 (.inr hx)
  refine ⟨hp, ph, ⟨ris_insert T.ris fun e => hK (List.mem_of_getElem? (by rw [Array.getElem?_toList]; exact e)), put_dm T.dm j, by rw [len_ins _ ph]; exact hsize, T.mok, fun x hx => ?_, fun i h' j' h1 h2 => ?_⟩, rfl, rfl, rfl, ?_⟩
  · rw [hpp] at hx
    rcases mem_ins.1 hx with z | z
    · rw [z]; exact hjm
    · exact T.bd x z
  · rw [tins_get hs ph] at h1
    rw [hpp, tins_get _ pl] at h2
    have old : ∀ i, hs[i]? = some h' → t.place.toList[i]? = some j' → ∃ k, way t.mask h' k = j' ∧ ∀ k', k' < k → way t.mask h' k' ∈ (t.put j).1.place.toList := fun i a b => by
      obtain ⟨k, e, z⟩ := T.on i h' j' a b
      exact ⟨k, e, fun k' hk' => up (z k' hk')⟩
    show ∃ k, way t.mask h' k = j' ∧ ∀ k', k' < k → way t.mask h' k' ∈ (t.put j).1.place.toList
    by_cases c : i < p
    · rw [if_pos c] at h1 h2
      exact old i h1 h2
    · rw [if_neg c] at h1 h2
      by_cases d : i = p
      · rw [if_pos d] at h1 h2
        cases h1
        cases h2
        exact ⟨K, hj.symm, fun k' hk' => up (hb k' hk')⟩
      · rw [if_neg d] at h1 h2
        exact old _ h1 h2
  · show (t.put j).1.place.size + (t.put j).1.dummies.size = _
    rw [hsize, put_dm T.dm j]; rfl
end
end Sm

namespace Sm
open PySem PySem.Spec PyProof.Rows L2
section
variable {P : Program} {w : World} {A : Around} {E : Value → Shared → Prop} {s : Shared}
structure SG (w : World) (h : Heap) (S : Addr) (M : ML) (rs : Array (Int × Value)) (vn : Nat) (tb : SetTable) : Prop where
  ob : ∃ o, h.get? S = some o ∧ o.ExactSet ∧ o.data = .set rs vn tb
  rows : rs.toList = M.map (rowN w)
  tab : TabG tb (hsN w M)
  nd : (M.map (·.2)).Nodup
  mem : ∀ p ∈ M, NI h p.2 p.1
  plain : tb.plain = true
  led : w.params.followText "set-order" = true ∨ tb.led = true
  room : M.length * 5 < tb.mask * 3
  few : M.length < 1229
variable {S : Addr} {M : ML} {rs : Array (Int × Value)} {vn : Nat} {tb : SetTable}
theorem SG.size (R : SG w s.heap S M rs vn tb) : rs.size = M.length := rows_len R.rows
theorem SG.fits (R : SG w s.heap S M rs vn tb) : tb.fits rs.size = true := by
  have h1 := R.tab.sz
  rw [hsN_len] at h1
  have h2 := R.size
  have h3 := R.room
  exact fits_of (by omega) R.tab.dm (by omega)
theorem SG.gw (R : SG w s.heap S M rs vn tb) : ¬ tb.gaveWay = true := by
  unfold SetTable.gaveWay
  rw [mg_odd R.tab.mok]
  decide
theorem SG.keep {h h' : Heap} (R : SG w h S M rs vn tb) (kS : ∀ o, h.get? S = some o → h'.get? S = some o) (km : ∀ p ∈ M, NI h' p.2 p.1) : SG w h' S M rs vn tb :=
  let ⟨o, ho, r⟩ := R.ob
  ⟨⟨o, kS o ho, r⟩, R.rows, R.tab, R.nd, km, R.plain, R.led, R.room, R.few⟩
theorem SG.fresh {h : Heap} (ho : h.get? S = some (bare w)) : SG w h S [] #[] 0 (.fresh 0 0 (!w.params.followText "set-order")) :=
  ⟨⟨_, ho, ⟨rfl, rfl, rfl⟩, rfl⟩, rfl, ⟨List.Pairwise.nil, rfl, rfl, .inl rfl, fun x hx => (by cases hx), fun i h j hi => (by simp [hsN] at hi)⟩, List.nodup_nil, fun p hp => (by cases hp), rfl, by
    show _ ∨ (!w.params.followText "set-order") = true
    cases w.params.followText "set-order"
    · exact .inr rfl
    · exact .inl rfl, by show 0 * 5 < 7 * 3; decide, by show 0 < 1229; decide⟩
end
end Sm

namespace Sm
open PySem PySem.Spec PyProof.Rows L2
open Classical in
noncomputable def setLenN (d : D) (st : Sto) : Rs := match sqOf d with
  | some ds => if (∀ d ∈ ds, ∃ k, tkOf d = some k ∧ noTx k = true) ∧ (onceD ds).length < 1229 then .ok (.int ((onceD ds).length : Nat)) st else .bad
  | none => .bad
noncomputable def bSetLenN (f : Ev) : Ev := fun r st => (f r st).bind fun d st1 => setLenN (der st1 d) st1
section
variable {X : Cx} {B : Bs} {Wx : WX} {a : Expr} {f : Ev} {r : Env} {st : Sto} {Q : D → Sto → Prop} {E' : Str → Option (Str × D) → Sto → Prop} {pos : Pos}
theorem w_setLenN : RsP (bSetLenN f r st) Q E' = RsP (f r st) (fun d st1 => derP st1 d fun d' => RsP (setLenN d' st1) Q E') E' := by
  unfold bSetLenN
  rw [w_bind]; rfl
theorem f_setLenP {ps : List (Int × Int)} : RsP (setLenN (.lst (ps.map dP)) st) Q E' = ((once kP ps).length < 1229 ∧ Q (.int ((once kP ps).length : Nat)) st) := by
  unfold setLenN
  simp only [sqOf, onceP, List.length_map]
  have h : ∀ d ∈ ps.map dP, ∃ k, tkOf d = some k ∧ noTx k = true := fun d hd => by
    obtain ⟨w, _, rfl⟩ := List.mem_map.mp hd
    exact tk_dP
  by_cases hz : (once kP ps).length < 1229
  · rw [if_pos ⟨h, hz⟩]
    exact propext ⟨fun x => ⟨hz, x⟩, fun x => x.2⟩
  · rw [if_neg fun x => hz x.2]
    exact propext ⟨fun x => x.elim, fun x => hz x.1⟩
end
end Sm

namespace K14
open PySem L2 Sm
noncomputable def m__law_pot : Fn := mkF false (sSq (sOwn 1 (bCall (drB fList) [(bSl (drSl opSl) (bVar 0) none (some (bC (.int 12))))]))
    (sSq (sFor (itEnum (bSl (drSl opSl) (bVar 0) (some (bC (.int 12))) (some (bC (.int 63))))) (tgU [(tgN 2), (tgN 3)]) (sPut 1 (bBin opMod (bVar 2) (bC (.int 12))) (bBin (drOp opAdd) (bBin opIx (bPeek 1) (bBin opMod (bVar 2) (bC (.int 12)))) (bVar 3))))
    (sFix 1 (sRet (bRef (bLst [(bVar 1), (bC (.int 0)), (bC (.int 0))]))))))
noncomputable def m__law_blend : Fn := mkF false (sSq (sIf (bBin icGe (bVar 0) (bBin opPow (bC (.int 10)) (bC (.int 18)))) (sRet (bVar 0)) sSkip)
    (sSq (sSet 2 (bBin opMod (bBin (drOp opAdd) (bBin (drOp opAdd) (bBin opMul (bBin opMod (bVar 0) (bC (.int 998244353))) (bC (.int 40692))) (bBin opMul (bVar 1) (bC (.int 69621)))) (bC (.int 1009))) (bC (.int 2147483399))))
    (sSq (sSet 3 (bBin opMod (bBin (drOp opAdd) (bBin (drOp opAdd) (bBin opMul (bVar 2) (bVar 2)) (bBin opMul (bVar 1) (bC (.int 48271)))) (bBin opMod (bVar 0) (bC (.int 131071)))) (bC (.int 2147483647))))
    (sSq (sSet 4 (bBin opMod (bBin (drOp opAdd) (bBin (drOp opAdd) (bBin opMul (bVar 3) (bVar 3)) (bBin opMul (bVar 2) (bC (.int 17)))) (bC (.int 3))) (bC (.int 2147483629))))
    (sRet (bBin (drOp opAdd) (bBin opMul (bBin (drOp opAdd) (bBin opMul (bVar 2) (bC (.int 2147483647))) (bVar 3)) (bC (.int 2147483629))) (bVar 4)))))))
noncomputable def m__law_pick : Fn := mkF false (sSq (sIf (bBin icLt (bBin opIx (bVar 0) (bC (.int 2))) (bVar 1)) (sSq (sSet 2 (bBin opIx (bVar 0) (bC (.int 1))))
    (sSq (sSet 3 (bBin opMul (bC (.int 11)) (bVar 2)))
    (sSq (sIf (bBin icLt (bVar 2) (bCall (drB fLen) [(bBin opIx (bVar 0) (bC (.int 0)))])) (sSet 3 (bBin opIx (bBin opIx (bVar 0) (bC (.int 0))) (bVar 2))) (sIf (bBin (drOp opNe) (bBin opIx (bVar 0) (bC (.int 0))) (bLst [])) (sSet 3 (bBin opMod (bBin opIx (bBin opIx (bVar 0) (bC (.int 0))) (bBin opMod (bBin (drOp opAdd) (bBin opMul (bVar 2) (bC (.int 7))) (bC (.int 1))) (bCall (drB fLen) [(bBin opIx (bVar 0) (bC (.int 0)))]))) (bBin (drOp opAdd) (bBin opPow (bC (.int 10)) (bC (.int 17))) (bBin opMul (bC (.int 3)) (bVar 2))))) sSkip))
    (sSq (sPutR (bVar 0) (bC (.int 1)) (bBin (drOp opAdd) (bVar 2) (bC (.int 1))))
    (sPutR (bVar 0) (bC (.int 2)) (bCall m__law_blend [(bVar 3), (bVar 2)])))))) sSkip)
    (sSq (sSet 4 (bBin opMod (bBin opIx (bVar 0) (bC (.int 2))) (bVar 1)))
    (sSq (sPutR (bVar 0) (bC (.int 2)) (bBin opFdiv (bBin opIx (bVar 0) (bC (.int 2))) (bVar 1)))
    (sRet (bVar 4)))))
noncomputable def m__law_wish : Fn := mkF false (sSq (sOwn 4 (bLst []))
    (sSq (sFor (itR1 (bVar 1)) (tgN 5) (sSq (sSet 6 (bBin (drOp opAdd) (bVar 2) (bCall m__law_pick [(bVar 0), (bVar 3)])))
    (sSq (sSet 7 (bBin (drOp opAdd) (bVar 2) (bCall m__law_pick [(bVar 0), (bVar 3)])))
    (sApp 4 (bTup [(bCall fMin2 [(bVar 6), (bVar 7)]), (bCall fMax2 [(bVar 6), (bVar 7)])])))))
    (sRet (bCall (drB fTuple) [(bPeek 4)]))))
noncomputable def m__law_nudged : Fn := mkF false (sSq (sSet 2 (bCall m__law_pick [(bVar 0), (bCall (drB fLen) [(bVar 1)])]))
    (sSq (sTo (tgU [(tgN 3), (tgN 4)]) (bBin opIx (bVar 1) (bVar 2)))
    (sSq (sSet 5 (bLst [(bTup [(bCall fMax2 [(bC (.int 0)), (bBin opSub (bVar 3) (bC (.int 1)))]), (bVar 4)]), (bTup [(bVar 3), (bCall fMin2 [(bC (.int 9)), (bBin (drOp opAdd) (bVar 4) (bC (.int 1)))])]), (bTup [(bCall fMin2 [(bBin (drOp opAdd) (bVar 3) (bC (.int 1))), (bVar 4)]), (bVar 4)]), (bTup [(bVar 3), (bCall fMax2 [(bVar 3), (bBin opSub (bVar 4) (bC (.int 1)))])])]))
    (sRet (bBin (drOp opAdd) (bBin (drOp opAdd) (bSl (drSl opSl) (bVar 1) none (some (bVar 2))) (bTup [(bBin opIx (bVar 5) (bCall m__law_pick [(bVar 0), (bC (.int 4))]))])) (bSl (drSl opSl) (bVar 1) (some (bBin (drOp opAdd) (bVar 2) (bC (.int 1)))) none))))))
noncomputable def m__law_wishes : Fn := mkF true (sSq (sSet 3 (bCall fMin2 [(bBin opIx (bLst [(bC (.int 2)), (bC (.int 3)), (bC (.int 4)), (bC (.int 10))]) (bCall m__law_pick [(bVar 0), (bC (.int 4))])), (bBin opIx (bLst [(bC (.int 10)), (bC (.int 10)), (bC (.int 10)), (bC (.int 4))]) (bVar 1))]))
    (sSq (sSet 4 (bCall m__law_pick [(bVar 0), (bBin opSub (bC (.int 11)) (bVar 3))]))
    (sSq (sOwn 5 (bLst []))
    (sSq (sFor (itR1 (bCall m__law_pick [(bVar 0), (bBin (drOp opAdd) (bVar 2) (bC (.int 1)))])) (tgN 6) (sSq (sSet 7 (bCall m__law_pick [(bVar 0), (bC (.int 6))]))
    (sSq (sSet 8 (bCall m__law_wish [(bVar 0), (bVar 1), (bVar 4), (bVar 3)]))
    (sSq (sIf (bAnd (bBin (drOp opEq) (bVar 7) (bC (.int 0))) (bBin (drOp opNe) (bPeek 5) (bLst []))) (sSet 8 (bBin opIx (bPeek 5) (bCall m__law_pick [(bVar 0), (bCall (drB fLen) [(bPeek 5)])]))) sSkip)
    (sSq (sIf (bAnd (bBin (drOp opEq) (bVar 7) (bC (.int 1))) (bBin (drOp opNe) (bPeek 5) (bLst []))) (sSet 8 (bCall m__law_nudged [(bVar 0), (bBin opIx (bPeek 5) (bCall m__law_pick [(bVar 0), (bCall (drB fLen) [(bPeek 5)])]))])) sSkip)
    (sApp 5 (bVar 8)))))))
    (sRetOwn 5)))))
noncomputable def m__law_ring : Fn := mkF true (sSq (sSet 1 (bCall m__law_pick [(bVar 0), (bC (.int 4))]))
    (sSq (sSet 2 (bLst [(bTup [(bTup [(bVar 1), (bBin (drOp opAdd) (bVar 1) (bC (.int 3)))]), (bTup [(bC (.int 0)), (bC (.int 1))])]), (bTup [(bTup [(bBin (drOp opAdd) (bVar 1) (bC (.int 2))), (bBin (drOp opAdd) (bVar 1) (bC (.int 5)))]), (bTup [(bC (.int 0)), (bC (.int 3))])]), (bTup [(bTup [(bBin (drOp opAdd) (bVar 1) (bC (.int 3))), (bBin (drOp opAdd) (bVar 1) (bC (.int 5)))]), (bTup [(bC (.int 2)), (bC (.int 5))])]), (bTup [(bTup [(bVar 1), (bBin (drOp opAdd) (bVar 1) (bC (.int 4)))]), (bTup [(bC (.int 4)), (bC (.int 5))])])]))
    (sRet (bBin (drOp opCat) (bVar 2) (bLst [(bTup [(bTup [(bVar 1), (bBin (drOp opAdd) (bVar 1) (bC (.int 1)))]), (bTup [(bC (.int 1)), (bC (.int 5))])]), (bTup [(bTup [(bVar 1), (bBin (drOp opAdd) (bVar 1) (bC (.int 2)))]), (bTup [(bC (.int 2)), (bC (.int 4))])])])))))
noncomputable def m__law_letters : Fn := mkF false (sSq (sSet 1 (bLst [(bTup [])]))
    (sSq (sFor (itSeq (bVar 0)) (tgU [(tgN 2), (tgN 3)]) (sSq (sOwn 4 (bLst []))
    (sSq (sFor (itSeq (bVar 1)) (tgN 5) (sExt 4 (bLc (itR2 (bVar 2) (bBin (drOp opAdd) (bVar 3) (bC (.int 1)))) (tgN 6) (bC (.bl true)) (bBin (drOp opAdd) (bVar 5) (bTup [(bVar 6)])) [6])))
    (sFix 4 (sSet 1 (bVar 4))))))
    (sRet (bVar 1))))
noncomputable def m__law_union : Fn := mkF true (sSq (sOwn 1 bDctN)
    (sSq (sFor (itSeq (bVar 0)) (tgN 2) (sFor (itSeq (bCall m__law_letters [(bVar 2)])) (tgN 3) (sNPutD 1 (bVar 3) (bC (.bl true)))))
    (sRetOwn 1)))
noncomputable def m_need_kin : Fn := mkF false (sIf (bBin (drOp opNe) (bLc (itSeq (bVar 0)) (tgN 1) (bBin (drOp opNe) (bCall (drB fLen) [(bVar 1)]) (bCall (drB fLen) [(bBin opIx (bVar 0) (bC (.int 0)))])) (bVar 1) [1]) (bLst [])) (sRaise "NoKin") sSkip)
noncomputable def m_each_once : Fn := mkF true (sSq (sOwn 1 (bLst []))
    (sSq (sFor (itSeq (bCall (drB fSort) [(bVar 0)])) (tgN 2) (sIf (bOr (bBin (drOp opEq) (bPeek 1) (bLst [])) (bBin (drOp opNe) (bBin opIx (bPeek 1) (bNeg (bC (.int 1)))) (bVar 2))) (sApp 1 (bVar 2)) sSkip))
    (sRetOwn 1)))
noncomputable def m_covers : Fn := mkF false (sSq (sEx (bCall m_need_kin [(bLst [(bVar 0), (bVar 1)])]))
    (sRet (bCall (drB fAll) [(bLc (itZip (bVar 0) (bVar 1)) (tgU [(tgN 2), (tgN 3)]) (bC (.bl true)) (bAnd (bBin icLe (bBin opIx (bVar 2) (bC (.int 0))) (bBin opIx (bVar 3) (bC (.int 0)))) (bBin icLe (bBin opIx (bVar 3) (bC (.int 1))) (bBin opIx (bVar 2) (bC (.int 1))))) [2, 3])])))
noncomputable def m_roof_of : Fn := mkF true (sSq (sEx (bCall m_need_kin [(bVar 0)]))
    (sSq (sSet 1 (bCall m_each_once [(bVar 0)]))
    (sRet (bLc (itSeq (bVar 1)) (tgN 2) (bNot (bCall (drB fAny) [(bLc (itSeq (bVar 1)) (tgN 3) (bC (.bl true)) (bAnd (bBin (drOp opNe) (bVar 3) (bVar 2)) (bCall m_covers [(bVar 3), (bVar 2)])) [3])])) (bVar 2) [2]))))
noncomputable def m_is_in : Fn := mkF false (sRet (bChain icLe icLe (bBin opIx (bVar 1) (bC (.int 0))) (bVar 0) (bBin opIx (bVar 1) (bC (.int 1)))))
@[irreducible] noncomputable def m_first_left (n : Nat) : Fn := Nat.rec (motive := fun _ => Fn) (fun _ _ => .bad) (fun _ self => mkF false (sSq (sIf (bBin (drOp opEq) (bVar 2) (bCall (drB fLen) [(bVar 1)])) (sRet (bIf (bBin (drOp opEq) (bVar 0) (bLst [])) (bTup []) (bC .non))) sSkip)
    (sSq (sFor (itR2 (bBin opIx (bBin opIx (bVar 1) (bVar 2)) (bC (.int 0))) (bBin (drOp opAdd) (bBin opIx (bBin opIx (bVar 1) (bVar 2)) (bC (.int 1))) (bC (.int 1)))) (tgN 3) (sSq (sSet 4 (bCall self [(bLc (itSeq (bVar 0)) (tgN 5) (bCall m_is_in [(bVar 3), (bBin opIx (bVar 5) (bVar 2))]) (bVar 5) [5]), (bVar 1), (bBin (drOp opAdd) (bVar 2) (bC (.int 1)))]))
    (sIf (bBin (opIs true) (bVar 4) (bC .non)) (sRet (bBin (drOp opAdd) (bTup [(bVar 3)]) (bVar 4))) sSkip)))
    (sRet (bC .non))))) n
theorem z_first_left : m_first_left 0 = fun _ _ => .bad := by delta m_first_left; rfl
theorem e_first_left {n : Nat} : m_first_left (n + 1) = mkF false (sSq (sIf (bBin (drOp opEq) (bVar 2) (bCall (drB fLen) [(bVar 1)])) (sRet (bIf (bBin (drOp opEq) (bVar 0) (bLst [])) (bTup []) (bC .non))) sSkip)
    (sSq (sFor (itR2 (bBin opIx (bBin opIx (bVar 1) (bVar 2)) (bC (.int 0))) (bBin (drOp opAdd) (bBin opIx (bBin opIx (bVar 1) (bVar 2)) (bC (.int 1))) (bC (.int 1)))) (tgN 3) (sSq (sSet 4 (bCall (m_first_left n) [(bLc (itSeq (bVar 0)) (tgN 5) (bCall m_is_in [(bVar 3), (bBin opIx (bVar 5) (bVar 2))]) (bVar 5) [5]), (bVar 1), (bBin (drOp opAdd) (bVar 2) (bC (.int 1)))]))
    (sIf (bBin (opIs true) (bVar 4) (bC .non)) (sRet (bBin (drOp opAdd) (bTup [(bVar 3)]) (bVar 4))) sSkip)))
    (sRet (bC .non)))) := by delta m_first_left; rfl
noncomputable def m_first_lack : Fn := mkF false (sSq (sSet 2 (bLc (itSeq (bVar 0)) (tgN 3) (bC (.bl true)) (bCall (m_first_left 8) [(bVar 1), (bVar 3), (bC (.int 0))]) [3]))
    (sSq (sSet 2 (bLc (itSeq (bVar 2)) (tgN 4) (bBin (opIs true) (bVar 4) (bC .non)) (bVar 4) [4]))
    (sRet (bIf (bBin (drOp opNe) (bVar 2) (bLst [])) (bCall (drB (fBest false)) [(bVar 2)]) (bC .non)))))
noncomputable def m_has_letter : Fn := mkF false (sSq (sEx (bCall m_need_kin [(bLst [(bVar 0), (bVar 1)])]))
    (sRet (bCall (drB fAll) [(bLc (itZip (bVar 1) (bVar 0)) (tgU [(tgN 2), (tgN 3)]) (bC (.bl true)) (bCall m_is_in [(bVar 2), (bVar 3)]) [2, 3])])))
@[irreducible] noncomputable def m_searched (n : Nat) : Fn := Nat.rec (motive := fun _ => Fn) (fun _ _ => .bad) (fun _ self => mkF false (sSq (sSet 3 (bCall m_first_lack [(bVar 0), (bVar 1)]))
    (sSq (sIf (bBin (opIs false) (bVar 3) (bC .non)) (sRet (bTup [(bC (.str "some")), (bVar 1)])) sSkip)
    (sSq (sIf (bBin (drOp opEq) (bVar 2) (bC (.int 0))) (sRet (bTup [(bC (.str "tree")), (bTup [(bC (.str "left")), (bVar 3)])])) sSkip)
    (sSq (sSet 4 (bRef (bLst [])))
    (sSq (sFor (itSeq (bVar 0)) (tgN 5) (sIf (bCall m_has_letter [(bVar 5), (bVar 3)]) (sSq (sTo (tgU [(tgN 6), (tgN 7)]) (bCall self [(bVar 0), (bBin (drOp opAdd) (bVar 1) (bLst [(bVar 5)])), (bBin opSub (bVar 2) (bC (.int 1)))]))
    (sSq (sIf (bBin (drOp opEq) (bVar 6) (bC (.str "some"))) (sRet (bTup [(bVar 6), (bVar 7)])) sSkip)
    (sAppR (bVar 4) (bVar 7)))) sSkip))
    (sRet (bTup [(bC (.str "tree")), (bTup [(bC (.str "meet")), (bVar 3), (bVar 4)])])))))))) n
theorem z_searched : m_searched 0 = fun _ _ => .bad := by delta m_searched; rfl
theorem e_searched {n : Nat} : m_searched (n + 1) = mkF false (sSq (sSet 3 (bCall m_first_lack [(bVar 0), (bVar 1)]))
    (sSq (sIf (bBin (opIs false) (bVar 3) (bC .non)) (sRet (bTup [(bC (.str "some")), (bVar 1)])) sSkip)
    (sSq (sIf (bBin (drOp opEq) (bVar 2) (bC (.int 0))) (sRet (bTup [(bC (.str "tree")), (bTup [(bC (.str "left")), (bVar 3)])])) sSkip)
    (sSq (sSet 4 (bRef (bLst [])))
    (sSq (sFor (itSeq (bVar 0)) (tgN 5) (sIf (bCall m_has_letter [(bVar 5), (bVar 3)]) (sSq (sTo (tgU [(tgN 6), (tgN 7)]) (bCall (m_searched n) [(bVar 0), (bBin (drOp opAdd) (bVar 1) (bLst [(bVar 5)])), (bBin opSub (bVar 2) (bC (.int 1)))]))
    (sSq (sIf (bBin (drOp opEq) (bVar 6) (bC (.str "some"))) (sRet (bTup [(bVar 6), (bVar 7)])) sSkip)
    (sAppR (bVar 4) (bVar 7)))) sSkip))
    (sRet (bTup [(bC (.str "tree")), (bTup [(bC (.str "meet")), (bVar 3), (bVar 4)])]))))))) := by delta m_searched; rfl
noncomputable def m_fewest_of : Fn := mkF false (sSq (sSet 1 (bCall m_roof_of [(bVar 0)]))
    (sSq (sSet 2 (bC (.int 0)))
    (sSq (sSet 3 (bC .non))
    (sSq (sTo (tgU [(tgN 4), (tgN 5)]) (bCall (m_searched 8) [(bVar 1), (bLst []), (bVar 2)]))
    (sSq (sWhile (bBin (drOp opEq) (bVar 4) (bC (.str "tree"))) (sSq (sSet 3 (bVar 5))
    (sSq (sSet 2 (bBin (drOp opAdd) (bVar 2) (bC (.int 1))))
    (sTo (tgU [(tgN 4), (tgN 5)]) (bCall (m_searched 8) [(bVar 1), (bLst []), (bVar 2)])))))
    (sRet (bTup [(bVar 2), (bRef (bCall (drB fSort) [(bVar 5)])), (bVar 3)])))))))
noncomputable def m__law_apart : Fn := mkF false (sSq (sFor (itEnum (bVar 0)) (tgU [(tgN 1), (tgN 2)]) (sAppR (bVar 2) (bTup [(bC (.str "left")), (bVar 1)])))
    (sRet (bBin (drOp opEq) (bLc (itSeq (bVar 0)) (tgN 2) (bC (.bl true)) (bBin opIx (bVar 2) (bNeg (bC (.int 1)))) [2]) (bLc (itR1 (bCall (drB fLen) [(bVar 0)])) (tgN 1) (bC (.bl true)) (bTup [(bC (.str "left")), (bVar 1)]) [1]))))
noncomputable def m__law_choices : Fn := mkF false (sSq (sSet 1 (bLst [(bLst [])]))
    (sSq (sFor (itSeq (bVar 0)) (tgN 2) (sSet 1 (bBin (drOp opAdd) (bVar 1) (bLc (itSeq (bVar 1)) (tgN 3) (bC (.bl true)) (bBin (drOp opAdd) (bVar 3) (bLst [(bVar 2)])) [3]))))
    (sRet (bVar 1))))
noncomputable def m__law_has : Fn := mkF false (sRet (bBin (drOp opEq) (bLc (itZip (bVar 1) (bVar 0)) (tgU [(tgN 2), (tgN 3)]) (bOr (bBin icLt (bVar 2) (bBin opIx (bVar 3) (bC (.int 0)))) (bBin icGt (bVar 2) (bBin opIx (bVar 3) (bC (.int 1))))) (bC (.int 1)) [2, 3]) (bLst [])))
noncomputable def m__law_has_all : Fn := mkF false (sSq (sFor (itSeq (bVar 1)) (tgN 2) (sIf (bBin (drOp opEq) (bLc (itSeq (bVar 0)) (tgN 3) (bCall m__law_has [(bVar 3), (bVar 2)]) (bC (.int 1)) [3]) (bLst [])) (sRet (bC (.bl false))) sSkip))
    (sRet (bC (.bl true))))
noncomputable def m__law_covers : Fn := mkF false (sSq (sSet 2 (bCall (drB fTuple) [(bLc (itSeq (bVar 1)) (tgN 4) (bC (.bl true)) (bBin opIx (bVar 4) (bC (.int 0))) [4])]))
    (sSq (sSet 3 (bCall (drB fTuple) [(bLc (itSeq (bVar 1)) (tgN 4) (bC (.bl true)) (bBin opIx (bVar 4) (bC (.int 1))) [4])]))
    (sRet (bAnd (bCall m__law_has [(bVar 0), (bVar 2)]) (bCall m__law_has [(bVar 0), (bVar 3)])))))
noncomputable def m__law_roof : Fn := mkF true (sSq (sOwn 1 (bLst []))
    (sSq (sFor (itSeq (bCall (drB fSort) [(bVar 0)])) (tgN 2) (sSq (sSet 3 (bLc (itSeq (bVar 0)) (tgN 4) (bAnd (bBin (drOp opNe) (bVar 4) (bVar 2)) (bCall m__law_covers [(bVar 4), (bVar 2)])) (bVar 4) [4]))
    (sIf (bAnd (bBin (drOp opEq) (bVar 3) (bLst [])) (bBin (drOp (opIn true)) (bVar 2) (bPeek 1))) (sApp 1 (bVar 2)) sSkip)))
    (sRetOwn 1)))
@[irreducible] noncomputable def m__law_is_made (n : Nat) : Fn := Nat.rec (motive := fun _ => Fn) (fun _ _ => .bad) (fun _ self => mkF false (sSq (sIf (bOr (bNot (bIsiD "tuple" (bVar 0))) (bBin (drOp (opIn true)) (bSl (drSl opSl) (bVar 0) none (some (bC (.int 1)))) (bLst [(bTup [(bC (.str "left"))]), (bTup [(bC (.str "meet"))])]))) (sRet (bC (.bl false))) sSkip)
    (sSq (sIf (bOr (bBin (drOp opNe) (bCall (drB fLen) [(bVar 0)]) (bBin opIx (bLst [(bC (.int 2)), (bC (.int 3))]) (bCall fIntA [(bBin (drOp opEq) (bBin opIx (bVar 0) (bC (.int 0))) (bC (.str "meet")))]))) (bNot (bIsiD "tuple" (bBin opIx (bVar 0) (bC (.int 1)))))) (sRet (bC (.bl false))) sSkip)
    (sSq (sIf (bOr (bBin (drOp opNe) (bCall (drB fLen) [(bBin opIx (bVar 0) (bC (.int 1)))]) (bVar 1)) (bBin (drOp opNe) (bLc (itSeq (bBin opIx (bVar 0) (bC (.int 1)))) (tgN 2) (bOr (bNot (bIsiD "int" (bVar 2))) (bIsiD "bool" (bVar 2))) (bC (.int 1)) [2]) (bLst []))) (sRet (bC (.bl false))) sSkip)
    (sSq (sIf (bBin (drOp opEq) (bBin opIx (bVar 0) (bC (.int 0))) (bC (.str "left"))) (sRet (bC (.bl true))) sSkip)
    (sRet (bAnd (bIsiD "list" (bBin opIx (bVar 0) (bC (.int 2)))) (bBin (drOp opEq) (bLc (itSeq (bBin opIx (bVar 0) (bC (.int 2)))) (tgN 3) (bNot (bCall self [(bVar 3), (bVar 1)])) (bC (.int 1)) [3]) (bLst []))))))))) n
theorem z__law_is_made : m__law_is_made 0 = fun _ _ => .bad := by delta m__law_is_made; rfl
theorem e__law_is_made {n : Nat} : m__law_is_made (n + 1) = mkF false (sSq (sIf (bOr (bNot (bIsiD "tuple" (bVar 0))) (bBin (drOp (opIn true)) (bSl (drSl opSl) (bVar 0) none (some (bC (.int 1)))) (bLst [(bTup [(bC (.str "left"))]), (bTup [(bC (.str "meet"))])]))) (sRet (bC (.bl false))) sSkip)
    (sSq (sIf (bOr (bBin (drOp opNe) (bCall (drB fLen) [(bVar 0)]) (bBin opIx (bLst [(bC (.int 2)), (bC (.int 3))]) (bCall fIntA [(bBin (drOp opEq) (bBin opIx (bVar 0) (bC (.int 0))) (bC (.str "meet")))]))) (bNot (bIsiD "tuple" (bBin opIx (bVar 0) (bC (.int 1)))))) (sRet (bC (.bl false))) sSkip)
    (sSq (sIf (bOr (bBin (drOp opNe) (bCall (drB fLen) [(bBin opIx (bVar 0) (bC (.int 1)))]) (bVar 1)) (bBin (drOp opNe) (bLc (itSeq (bBin opIx (bVar 0) (bC (.int 1)))) (tgN 2) (bOr (bNot (bIsiD "int" (bVar 2))) (bIsiD "bool" (bVar 2))) (bC (.int 1)) [2]) (bLst []))) (sRet (bC (.bl false))) sSkip)
    (sSq (sIf (bBin (drOp opEq) (bBin opIx (bVar 0) (bC (.int 0))) (bC (.str "left"))) (sRet (bC (.bl true))) sSkip)
    (sRet (bAnd (bIsiD "list" (bBin opIx (bVar 0) (bC (.int 2)))) (bBin (drOp opEq) (bLc (itSeq (bBin opIx (bVar 0) (bC (.int 2)))) (tgN 3) (bNot (bCall (m__law_is_made n) [(bVar 3), (bVar 1)])) (bC (.int 1)) [3]) (bLst [])))))))) := by delta m__law_is_made; rfl
noncomputable def m__law_lacks : Fn := mkF false (sSq (sIf (bBin (drOp opEq) (bLc (itSeq (bVar 0)) (tgN 3) (bCall m__law_has [(bVar 3), (bVar 2)]) (bC (.int 1)) [3]) (bLst [])) (sRet (bC (.bl false))) sSkip)
    (sRet (bBin (drOp opEq) (bLc (itSeq (bVar 1)) (tgN 3) (bCall m__law_has [(bVar 3), (bVar 2)]) (bC (.int 1)) [3]) (bLst []))))
@[irreducible] noncomputable def m__law_is_shown (n : Nat) : Fn := Nat.rec (motive := fun _ => Fn) (fun _ _ => .bad) (fun _ self => mkF false (sSq (sIf (bNot (bCall m__law_lacks [(bVar 0), (bVar 1), (bBin opIx (bVar 3) (bC (.int 1)))])) (sRet (bC (.bl false))) sSkip)
    (sSq (sIf (bBin (drOp opEq) (bBin opIx (bVar 3) (bC (.int 0))) (bC (.str "left"))) (sRet (bBin (drOp opEq) (bVar 2) (bC (.int 0)))) sSkip)
    (sSq (sSet 4 (bLc (itSeq (bVar 0)) (tgN 5) (bCall m__law_has [(bVar 5), (bBin opIx (bVar 3) (bC (.int 1)))]) (bVar 5) [5]))
    (sSq (sIf (bOr (bBin icLt (bVar 2) (bC (.int 1))) (bBin (drOp opNe) (bCall (drB fLen) [(bBin opIx (bVar 3) (bC (.int 2)))]) (bCall (drB fLen) [(bVar 4)]))) (sRet (bC (.bl false))) sSkip)
    (sSq (sFor (itZip (bVar 4) (bBin opIx (bVar 3) (bC (.int 2)))) (tgU [(tgN 5), (tgN 6)]) (sIf (bNot (bCall self [(bVar 0), (bBin (drOp opAdd) (bVar 1) (bLst [(bVar 5)])), (bBin opSub (bVar 2) (bC (.int 1))), (bVar 6)])) (sRet (bC (.bl false))) sSkip))
    (sRet (bC (.bl true))))))))) n
theorem z__law_is_shown : m__law_is_shown 0 = fun _ _ => .bad := by delta m__law_is_shown; rfl
theorem e__law_is_shown {n : Nat} : m__law_is_shown (n + 1) = mkF false (sSq (sIf (bNot (bCall m__law_lacks [(bVar 0), (bVar 1), (bBin opIx (bVar 3) (bC (.int 1)))])) (sRet (bC (.bl false))) sSkip)
    (sSq (sIf (bBin (drOp opEq) (bBin opIx (bVar 3) (bC (.int 0))) (bC (.str "left"))) (sRet (bBin (drOp opEq) (bVar 2) (bC (.int 0)))) sSkip)
    (sSq (sSet 4 (bLc (itSeq (bVar 0)) (tgN 5) (bCall m__law_has [(bVar 5), (bBin opIx (bVar 3) (bC (.int 1)))]) (bVar 5) [5]))
    (sSq (sIf (bOr (bBin icLt (bVar 2) (bC (.int 1))) (bBin (drOp opNe) (bCall (drB fLen) [(bBin opIx (bVar 3) (bC (.int 2)))]) (bCall (drB fLen) [(bVar 4)]))) (sRet (bC (.bl false))) sSkip)
    (sSq (sFor (itZip (bVar 4) (bBin opIx (bVar 3) (bC (.int 2)))) (tgU [(tgN 5), (tgN 6)]) (sIf (bNot (bCall (m__law_is_shown n) [(bVar 0), (bBin (drOp opAdd) (bVar 1) (bLst [(bVar 5)])), (bBin opSub (bVar 2) (bC (.int 1))), (bVar 6)])) (sRet (bC (.bl false))) sSkip))
    (sRet (bC (.bl true)))))))) := by delta m__law_is_shown; rfl
noncomputable def m__law_right : Fn := mkF false (sSq (sIf (bOr (bNot (bIsiD "tuple" (bVar 3))) (bOr (bBin (drOp opNe) (bCall (drB fLen) [(bVar 3)]) (bC (.int 3))) (bBin (drOp opNe) (bCall (drB fReprD) [(bBin opIx (bVar 3) (bC (.int 0)))]) (bCall (drB fReprD) [(bVar 1)])))) (sRet (bC (.bl false))) sSkip)
    (sSq (sSet 4 (bCall m__law_roof [(bVar 0)]))
    (sSq (sIf (bOr (bNot (bIsiD "list" (bBin opIx (bVar 3) (bC (.int 1))))) (bOr (bBin (drOp opNe) (bCall (drB fLen) [(bBin opIx (bVar 3) (bC (.int 1)))]) (bVar 1)) (bBin (drOp opNe) (bBin opIx (bVar 3) (bC (.int 1))) (bSortSetN (bBin opIx (bVar 3) (bC (.int 1))))))) (sRet (bC (.bl false))) sSkip)
    (sSq (sSet 5 (bLc (itSeq (bVar 4)) (tgN 6) (bC (.bl true)) (bCall (drB fReprD) [(bVar 6)]) [6]))
    (sSq (sIf (bOr (bBin (drOp opNe) (bLc (itSeq (bBin opIx (bVar 3) (bC (.int 1)))) (tgN 6) (bBin (drOp (opIn true)) (bCall (drB fReprD) [(bVar 6)]) (bVar 5)) (bC (.int 1)) [6]) (bLst [])) (bNot (bCall m__law_has_all [(bBin opIx (bVar 3) (bC (.int 1))), (bVar 2)]))) (sRet (bC (.bl false))) sSkip)
    (sRet (bAnd (bCall (m__law_is_made 9) [(bBin opIx (bVar 3) (bC (.int 2))), (bCall (drB fLen) [(bBin opIx (bVar 0) (bC (.int 0)))])]) (bCall (m__law_is_shown 9) [(bVar 4), (bLst []), (bBin opSub (bVar 1) (bC (.int 1))), (bBin opIx (bVar 3) (bC (.int 2)))]))))))))
@[irreducible] noncomputable def m__law_lists (n : Nat) : Fn := Nat.rec (motive := fun _ => Fn) (fun _ _ => .bad) (fun _ self => mkF false (sSq (sIf (bBin (drOp opEq) (bBin opIx (bVar 0) (bC (.int 0))) (bC (.str "left"))) (sRet (bLst [])) sSkip)
    (sSq (sSet 1 (bLst [(bBin opIx (bVar 0) (bC (.int 2)))]))
    (sSq (sFor (itSeq (bCall (drB fList) [(bBin opIx (bVar 0) (bC (.int 2)))])) (tgN 2) (sSet 1 (bBin (drOp opAdd) (bVar 1) (bCall self [(bVar 2)]))))
    (sRet (bVar 1)))))) n
theorem z__law_lists : m__law_lists 0 = fun _ _ => .bad := by delta m__law_lists; rfl
theorem e__law_lists {n : Nat} : m__law_lists (n + 1) = mkF false (sSq (sIf (bBin (drOp opEq) (bBin opIx (bVar 0) (bC (.int 0))) (bC (.str "left"))) (sRet (bLst [])) sSkip)
    (sSq (sSet 1 (bLst [(bBin opIx (bVar 0) (bC (.int 2)))]))
    (sSq (sFor (itSeq (bCall (drB fList) [(bBin opIx (bVar 0) (bC (.int 2)))])) (tgN 2) (sSet 1 (bBin (drOp opAdd) (bVar 1) (bCall (m__law_lists n) [(bVar 2)]))))
    (sRet (bVar 1))))) := by delta m__law_lists; rfl
noncomputable def m_law : Fn := mkF false (sSq (sSet 1 (bCall m__law_pot [(bVar 0)]))
    (sSq (sFor (itR1 (bC (.int 2))) (tgN 2) (sSq (sSet 3 (bCall m__law_pick [(bVar 1), (bC (.int 3))]))
    (sSq (sSet 4 (bBin (drOp opAdd) (bC (.int 1)) (bCall m__law_pick [(bVar 1), (bC (.int 3))])))
    (sSq (sSet 5 (bBin (drOp opAdd) (bCall m__law_wishes [(bVar 1), (bVar 4), (bC (.int 5))]) (bLst [(bCall m__law_wish [(bVar 1), (bVar 4), (bCall m__law_pick [(bVar 1), (bC (.int 5))]), (bBin opIx (bLst [(bC (.int 6)), (bC (.int 6)), (bC (.int 6)), (bC (.int 4))]) (bVar 4))])])))
    (sSq (sIf (bBin (drOp opEq) (bVar 3) (bC (.int 0))) (sSet 5 (bCall m__law_ring [(bVar 1)])) sSkip)
    (sSq (sSet 6 (bCall (drB fSortM) [(bCall m__law_union [(bVar 5)])]))
    (sSq (sSet 7 (bCall (drB (fBest false)) [(bLc (itSeq (bCall m__law_choices [(bCall m__law_roof [(bVar 5)])])) (tgN 11) (bCall m__law_has_all [(bVar 11), (bVar 6)]) (bCall (drB fLen) [(bVar 11)]) [11])]))
    (sFor (itR1 (bC (.int 2))) (tgN 8) (sSq (sSet 9 (bCall (drB fList) [(bVar 5)]))
    (sSq (sSet 10 (bCall m_fewest_of [(bVar 9)]))
    (sSq (sIf (bOr (bBin (drOp opNe) (bVar 9) (bVar 5)) (bNot (bCall m__law_right [(bVar 5), (bVar 7), (bVar 6), (bVar 10)]))) (sRet (bC (.bl false))) sSkip)
    (sSq (sIf (bNot (bCall m__law_apart [(bBin (drOp opAdd) (bLst [(bBin opIx (bVar 10) (bC (.int 1)))]) (bCall (m__law_lists 9) [(bBin opIx (bVar 10) (bC (.int 2)))]))])) (sRet (bC (.bl false))) sSkip)
    (sSq (sIf (bBin (drOp opNe) (bVar 9) (bVar 5)) (sRet (bC (.bl false))) sSkip)
    (sSq (sClrR (bBin opIx (bVar 10) (bC (.int 1))))
    (sIf (bBin (drOp opEq) (bBin opIx (bBin opIx (bVar 10) (bC (.int 2))) (bC (.int 0))) (bC (.str "meet"))) (sClrR (bBin opIx (bBin opIx (bVar 10) (bC (.int 2))) (bC (.int 2)))) sSkip)))))))))))))))
    (sRet (bC (.bl true)))))
end K14

namespace K14
open PySem L2 Sm
local macro_rules
  | `(tactic| simp! [$ts,*] $[$loc]?) => `(tactic| try simp (implicitDefEqProofs := false) only [↓w_ok, ↓w_err, ↓w_bad, ↓wl_ok, ↓w_bind, ↓w_bindL, ↓wl_bind, ↓wl_bindL, ↓w_nx, ↓w_rt, ↓w_bk, ↓w_ct, ↓w_er, ↓w_bd, ↓w_sq, ↓w_of, ↓w_sIf, ↓w_and, ↓w_or, ↓w_bIf, ↓w_mk, ↓w_call, ↓w_tup, ↓w_lst, ↓wl_cons, ↓wl_nil, ↓w_bin, ↓w_not, ↓w_neg, ↓w_chain, ↓w_c, ↓w_set, ↓w_own, ↓w_ex, ↓w_ret, ↓w_retN, ↓w_skip, ↓w_raise, ↓w_to, ↓w_putR, ↓w_ref, ↓w_for, ↓w_lc, ↓wi_seq, ↓wi_r1, ↓wi_r2, ↓wi_enum, ↓m_var, ↓m_peek, ↓m_retOwn, ↓m_fix, ↓m_app, ↓m_ext, ↓m_putL, ↓m_put, ↓m_putR, ↓m_ixR, ↓env_set, ↓env_0, ↓env_s, ↓env_n, ↓env_wp, ↓t_n, ↓t_u, ↓t_l, ↓t_0, ↓t_s, ↓bX_bl, ↓o_add, ↓o_addT, ↓o_addL, ↓o_addS, ↓o_cat, ↓o_sub, ↓o_mul, ↓o_mod, ↓o_fdiv, ↓o_pow, ↓o_eq, ↓o_ne, ↓o_ic, ↓o_isN, ↓o_ixL, ↓o_ixT, ↓f_lenL, ↓f_lenT, ↓f_tupL, ↓f_tupT, ↓f_listL, ↓f_listT, ↓f_min2, ↓f_max2, ↓f_reprB, ↓w_sl, ↓w_slA, ↓w_slB, ↓w_slC, ↓o_slL, ↓o_slT, ↓o_slF, ↓o_slLL, ↓o_slLF, ↓wi_zip, ↓wi_ok, ↓src_lst, ↓src_ref, ↓zip_tt, ↓zip_ll, ↓zip_rl, ↓zip_lr, ↓m_remM, ↓w_way, ↓wi_zipX, ↓zipX_lt, ↓zipX_tt, ↓zipX_ll, ↓w_isi, ↓o_inL, ↓o_inT, ↓dr_eq, ↓dr_ne, ↓dp_ref, ↓dp_lst, ↓dp_tup, ↓dp_frg, ↓dp_int, ↓dp_bl, ↓dp_str, ↓dp_non, ↓dp_dW, ↓dp_dP, ↓dp_dT, ↓dp_dWs, ↓dp_dTs, ↓dr_in, ↓dr_add, ↓dr_cat, ↓dr_b1, ↓dr_sl, ↓w_isiD, ↓f_sort, ↓w_rev, ↓w_appR, ↓w_refA, ↓w_listR1, ↓o_cmpD, ↓dr_cmpD, ↓w_revA, ↓o_repT, ↓f_reprD, ↓w_dct0, ↓w_dct1, ↓dr_dget, ↓o_dget, ↓dr_inK, ↓o_inK, ↓o_getD, ↓w_dget2, ↓m_putD, ↓wi_keys, ↓f_listK, ↓f_sortK, ↓m_pop, ↓m_pop0, ↓m_insL, ↓m_ins, ↓m_refP, ↓w_clrR, ↓dp_dct, ↓w_chain3, ↓w_join, ↓w_fJoin, ↓w_split, ↓o_inS, ↓dr_inS, ↓wi_str, ↓w_fmt, ↓w_jsN, ↓w_jsC, ↓f_strI, ↓f_intI, ↓f_intB, ↓f_intS, ↓f_lenS, ↓o_ixS, ↓m_try, ↓m_tryAs, ↓w_isX, ↓w_xnum, ↓w_exc, ↓w_setLen, ↓f_setLen, ↓w_popR, ↓w_popR1, ↓wi_enumT, ↓f_sortT, ↓w_excN, ↓w_seek, ↓f_count, ↓f_index, ↓o_times, ↓w_sortSet, ↓f_sortSet, ↓o_slS, ↓m_extD, ↓o_nget, ↓dr_nget, ↓o_inN, ↓dr_inN, ↓w_dctN, ↓m_nput, ↓o_rep, ↓f_sortN, ↓wi_zipN, ↓w_sortSetN, ↓f_sortSetL, ↓f_sortSetT, ↓w_fld, ↓m_fld, ↓m_fldN, ↓w_meth, ↓w_make, ↓m_lock, ↓w_lock, ↓w_listVals, ↓f_listN, ↓wi_keysR, ↓wi_keysRN, ↓m_putKR, ↓m_putNR, ↓w_popDK, ↓w_popDN, ↓w_dctS, ↓o_repT2, ↓dr_dE, ↓o_dE, ↓m_never, ↓f_lenD, ↓w_sortSetI, ↓f_sortSetI, ↓w_raiseN, ↓w_revR, ↓w_extR, ↓w_remR, ↓w_listZip, ↓w_setLenN, ↓f_setLenP, Option.bind_some, Option.bind_none, Option.some.injEq, exists_eq_left', List.map_cons, List.map_nil, if_true, if_false, reduceIte, reduceCtorEq, Nat.reduceEqDiff, List.length_cons, List.length_nil, atI_0, decide_eq_true_eq, decide_eq_false_iff_not, true_and, and_true, false_and, and_false, not_true, not_false_iff, false_implies, true_implies, der_ref, der_lst, der_tup, der_frg, der_int, der_bl, der_str, der_non, der_dW, der_dP, der_dT, der_dWs, der_dTs, der_dct, isDK_d, kOf_int, kOf_str, kD_int, forall_const, not_true_eq_false, not_false_eq_true, exists_eq_left, exists_eq_right, Bool.not_eq_true', Bool.not_eq_false', List.mem_cons, List.not_mem_nil, or_false, false_or, Nat.reduceAdd, Nat.zero_add, List.set_cons_zero, List.set_cons_succ, all_shW, all_shT, all_shP, all_shI, $ts,*] $[$loc]?)
  | `(tactic| simp! [] $[$loc]?) => `(tactic| try simp (implicitDefEqProofs := false) only [↓w_ok, ↓w_err, ↓w_bad, ↓wl_ok, ↓w_bind, ↓w_bindL, ↓wl_bind, ↓wl_bindL, ↓w_nx, ↓w_rt, ↓w_bk, ↓w_ct, ↓w_er, ↓w_bd, ↓w_sq, ↓w_of, ↓w_sIf, ↓w_and, ↓w_or, ↓w_bIf, ↓w_mk, ↓w_call, ↓w_tup, ↓w_lst, ↓wl_cons, ↓wl_nil, ↓w_bin, ↓w_not, ↓w_neg, ↓w_chain, ↓w_c, ↓w_set, ↓w_own, ↓w_ex, ↓w_ret, ↓w_retN, ↓w_skip, ↓w_raise, ↓w_to, ↓w_putR, ↓w_ref, ↓w_for, ↓w_lc, ↓wi_seq, ↓wi_r1, ↓wi_r2, ↓wi_enum, ↓m_var, ↓m_peek, ↓m_retOwn, ↓m_fix, ↓m_app, ↓m_ext, ↓m_putL, ↓m_put, ↓m_putR, ↓m_ixR, ↓env_set, ↓env_0, ↓env_s, ↓env_n, ↓env_wp, ↓t_n, ↓t_u, ↓t_l, ↓t_0, ↓t_s, ↓bX_bl, ↓o_add, ↓o_addT, ↓o_addL, ↓o_addS, ↓o_cat, ↓o_sub, ↓o_mul, ↓o_mod, ↓o_fdiv, ↓o_pow, ↓o_eq, ↓o_ne, ↓o_ic, ↓o_isN, ↓o_ixL, ↓o_ixT, ↓f_lenL, ↓f_lenT, ↓f_tupL, ↓f_tupT, ↓f_listL, ↓f_listT, ↓f_min2, ↓f_max2, ↓f_reprB, ↓w_sl, ↓w_slA, ↓w_slB, ↓w_slC, ↓o_slL, ↓o_slT, ↓o_slF, ↓o_slLL, ↓o_slLF, ↓wi_zip, ↓wi_ok, ↓src_lst, ↓src_ref, ↓zip_tt, ↓zip_ll, ↓zip_rl, ↓zip_lr, ↓m_remM, ↓w_way, ↓wi_zipX, ↓zipX_lt, ↓zipX_tt, ↓zipX_ll, ↓w_isi, ↓o_inL, ↓o_inT, ↓dr_eq, ↓dr_ne, ↓dp_ref, ↓dp_lst, ↓dp_tup, ↓dp_frg, ↓dp_int, ↓dp_bl, ↓dp_str, ↓dp_non, ↓dp_dW, ↓dp_dP, ↓dp_dT, ↓dp_dWs, ↓dp_dTs, ↓dr_in, ↓dr_add, ↓dr_cat, ↓dr_b1, ↓dr_sl, ↓w_isiD, ↓f_sort, ↓w_rev, ↓w_appR, ↓w_refA, ↓w_listR1, ↓o_cmpD, ↓dr_cmpD, ↓w_revA, ↓o_repT, ↓f_reprD, ↓w_dct0, ↓w_dct1, ↓dr_dget, ↓o_dget, ↓dr_inK, ↓o_inK, ↓o_getD, ↓w_dget2, ↓m_putD, ↓wi_keys, ↓f_listK, ↓f_sortK, ↓m_pop, ↓m_pop0, ↓m_insL, ↓m_ins, ↓m_refP, ↓w_clrR, ↓dp_dct, ↓w_chain3, ↓w_join, ↓w_fJoin, ↓w_split, ↓o_inS, ↓dr_inS, ↓wi_str, ↓w_fmt, ↓w_jsN, ↓w_jsC, ↓f_strI, ↓f_intI, ↓f_intB, ↓f_intS, ↓f_lenS, ↓o_ixS, ↓m_try, ↓m_tryAs, ↓w_isX, ↓w_xnum, ↓w_exc, ↓w_setLen, ↓f_setLen, ↓w_popR, ↓w_popR1, ↓wi_enumT, ↓f_sortT, ↓w_excN, ↓w_seek, ↓f_count, ↓f_index, ↓o_times, ↓w_sortSet, ↓f_sortSet, ↓o_slS, ↓m_extD, ↓o_nget, ↓dr_nget, ↓o_inN, ↓dr_inN, ↓w_dctN, ↓m_nput, ↓o_rep, ↓f_sortN, ↓wi_zipN, ↓w_sortSetN, ↓f_sortSetL, ↓f_sortSetT, ↓w_fld, ↓m_fld, ↓m_fldN, ↓w_meth, ↓w_make, ↓m_lock, ↓w_lock, ↓w_listVals, ↓f_listN, ↓wi_keysR, ↓wi_keysRN, ↓m_putKR, ↓m_putNR, ↓w_popDK, ↓w_popDN, ↓w_dctS, ↓o_repT2, ↓dr_dE, ↓o_dE, ↓m_never, ↓f_lenD, ↓w_sortSetI, ↓f_sortSetI, ↓w_raiseN, ↓w_revR, ↓w_extR, ↓w_remR, ↓w_listZip, ↓w_setLenN, ↓f_setLenP, Option.bind_some, Option.bind_none, Option.some.injEq, exists_eq_left', List.map_cons, List.map_nil, if_true, if_false, reduceIte, reduceCtorEq, Nat.reduceEqDiff, List.length_cons, List.length_nil, atI_0, decide_eq_true_eq, decide_eq_false_iff_not, true_and, and_true, false_and, and_false, not_true, not_false_iff, false_implies, true_implies, der_ref, der_lst, der_tup, der_frg, der_int, der_bl, der_str, der_non, der_dW, der_dP, der_dT, der_dWs, der_dTs, der_dct, isDK_d, kOf_int, kOf_str, kD_int, forall_const, not_true_eq_false, not_false_eq_true, exists_eq_left, exists_eq_right, Bool.not_eq_true', Bool.not_eq_false', List.mem_cons, List.not_mem_nil, or_false, false_or, Nat.reduceAdd, Nat.zero_add, List.set_cons_zero, List.set_cons_succ, all_shW, all_shT, all_shP, all_shI] $[$loc]?)
theorem env_ne {r : Sm.Env} {i k : Nat} {v : Option (Bool × D)} (h : k ≠ i) : (r.set i v) k = r k := by
  show (if k = i then _ else r k) = _
  rw [if_neg h]
section
variable {r : Sm.Env} {st : Sto} {N : Sm.Env → Sto → Prop} {R : D → Sto → Prop} {L : Bool → Sm.Env → Sto → Prop} {E : Str → Option (Str × D) → Sm.Env → Sto → Prop} {c : Ev} {A B g : Sv}
end
theorem blend_spec {i j : Int} {st : Sto} {Q : D → Sto → Prop} {E} (h : ∀ k, Q (.int k) st) : RsP (m__law_blend [.int i, .int j] st) Q E := by
  unfold m__law_blend
  simp! [M64]
  generalize e1 : (i % 998244353 * 40692 + j * 69621 + 1009) % 2147483399 = one
  generalize e2 : (one * one + j * 48271 + i % 131071) % 2147483647 = two
  generalize e3 : (two * two + one * 17 + 3) % 2147483629 = three
  have h1 : 0 ≤ one ∧ one < 2147483399 := by omega
  have h2 : 0 ≤ two ∧ two < 2147483647 := by omega
  have h3 : 0 ≤ three ∧ three < 2147483629 := by omega
  repeat' (first | apply And.intro | intro _)
  all_goals first | exact h _ | omega
def Pot (n : Nat) (st : Sto) : Prop := ∃ (cells : List Int) (a c : Int), st[n]? = some (.lst [.lst (cells.map D.int), .int a, .int c]) ∧ 0 ≤ a
def Oth (n : Nat) (st st' : Sto) : Prop := st'.length = st.length ∧ ∀ m, m ≠ n → st'[m]? = st[m]?
theorem Oth.refl (n : Nat) (st : Sto) : Oth n st st := ⟨rfl, fun _ _ => rfl⟩
theorem Oth.trans {n : Nat} {a b c : Sto} (x : Oth n a b) (y : Oth n b c) : Oth n a c := ⟨y.1.trans x.1, fun m h => (y.2 m h).trans (x.2 m h)⟩
theorem Oth.set {n : Nat} {st st' : Sto} {o : SO} (x : Oth n st st') : Oth n st (st'.set n o) := ⟨by rw [List.length_set]; exact x.1, fun m h => by rw [List.getElem?_set_ne (fun e => h e.symm)]; exact x.2 m h⟩
theorem set_get {n : Nat} {st : Sto} {o o' : SO} (h : st[n]? = some o) : (st.set n o')[n]? = some o' := by
  rw [List.getElem?_set_self (List.getElem?_eq_some_iff.mp h).1]
theorem ixN_1 : ixN 3 1 = some 1 := by decide
theorem ixN_2 : ixN 3 2 = some 2 := by decide
theorem atI_1 {α : Type} {a b : α} {xs : List α} : atI (a :: b :: xs) 1 = some b := by rw [atI_s (by decide), Int.sub_self, atI_0]
theorem atI_2 {α : Type} {a b c : α} {xs : List α} : atI (a :: b :: c :: xs) 2 = some c := by rw [atI_s (by decide)]; exact atI_1
theorem pick_spec {n : Nat} {u : Int} {st : Sto} {Q : D → Sto → Prop} {E} (hp : Pot n st) (h0 : 0 < u) (h1 : u < D40) (h : ∀ k st', 0 ≤ k → k < u → Pot n st' → Oth n st st' → Q (.int k) st') : RsP (m__law_pick [.ref n, .int u] st) Q E := by
  obtain ⟨cells, a, c, hst, ha⟩ := hp
  unfold m__law_pick
  have fin : ∀ (cells : List Int) (a c : Int) (st1 : Sto), st1[n]? = some (.lst [.lst (cells.map D.int), .int a, .int c]) → 0 ≤ a → Oth n st st1 → Q (.int (c % u)) (st1.set n (.lst [.lst (cells.map D.int), .int a, .int (c / u)])) := fun cells a c st1 e z o =>
    h _ _ (Int.emod_nonneg _ (by omega)) (Int.emod_lt_of_pos _ h0) ⟨cells, a, c / u, set_get e, z⟩ o.set
  have st2 : ∀ (x : D), ((st.set n (.lst [.lst (cells.map D.int), .int (a + 1), .int c])).set n (.lst [.lst (cells.map D.int), .int (a + 1), x]))[n]? = some (.lst [.lst (cells.map D.int), .int (a + 1), x]) := fun x => set_get (set_get hst)
  have tail : ∀ x : Int, RsP (m__law_blend [.int x, .int a] (st.set n (.lst [.lst (cells.map D.int), .int (a + 1), .int c]))) (fun d st1 =>
      match st1[n]? with
      | some (SO.lst ds) => ∃ n_2, ixN ds.length 2 = some n_2 ∧ match (List.set st1 n (SO.lst (ds.set n_2 d)))[n]? with
        | some (SO.lst xs) => ∃ d_1, atI xs 2 = some d_1 ∧ RsP (opMod d_1 (D.int u) (List.set st1 n (SO.lst (ds.set n_2 d)))) (fun d st1 => match st1[n]? with
          | some (SO.lst xs) => ∃ d_2, atI xs 2 = some d_2 ∧ RsP (opFdiv d_2 (D.int u) st1) (fun d_3 st1 => match st1[n]? with
            | some (SO.lst ds) => ∃ n_3, ixN ds.length 2 = some n_3 ∧ Q d (List.set st1 n (SO.lst (ds.set n_3 d_3)))
            | x => False) fun c a st => E c a st
          | x => False) fun c a st => E c a st
        | x => False
      | x => False) fun c a st => E c a st := fun x => by
    refine blend_spec fun k => ?_
    simp! [hst, set_get hst, st2, ixN_2, atI_2]
    refine ⟨h0, ⟨h0, h1⟩, fin cells (a + 1) k _ (st2 _) (by omega) ((Oth.refl n st).set.set)⟩
  simp! [hst, set_get hst, ixN_1, ixN_2, atI_1, atI_2, ↓eqv_nil, ↓shp_lst, ↓shp_int, List.all_map, List.length_map, M64]
  refine ⟨fun hc => ⟨by omega, fun hl => ?_, fun hl => ⟨?_, ?_, fun he => ?_, fun he => ?_⟩⟩, fun hc => ⟨h0, ⟨h0, h1⟩, fin cells a c st hst ha (Oth.refl n st)⟩⟩
  · obtain ⟨x, e, _⟩ := atI_in ha hl
    simp! [atI_map, e, Option.map_some]
    exact tail x
  · simp [shp_int]
  · simp
  · have hn : 0 < (cells.length : Int) := by
      cases cells with
      | nil => simp at he
      | cons x xs => simp only [List.length_cons]; omega
    obtain ⟨x, e, _⟩ := atI_in (xs := cells) (Int.emod_nonneg (a * 7 + 1) (by omega)) (Int.emod_lt_of_pos (a * 7 + 1) hn)
    refine ⟨by omega, hn, ?_⟩
    simp! [atI_map, e, Option.map_some, hst, set_get hst, ixN_1]
    refine ⟨by decide, by omega, ?_, tail _⟩
    have : (10 : Int) ^ Int.toNat 17 = 100000000000000000 := by decide
    omega
  · exact tail _
theorem Pot.lt {n : Nat} {st : Sto} (h : Pot n st) : n < st.length := by
  obtain ⟨c, a, b, e, _⟩ := h
  exact (List.getElem?_eq_some_iff.mp e).1
theorem Pot.push {n : Nat} {st : Sto} {l : List SO} (h : Pot n st) : Pot n (st ++ l) := by
  have hl := h.lt
  obtain ⟨c, a, b, e, z⟩ := h
  exact ⟨c, a, b, by rw [List.getElem?_append_left hl]; exact e, z⟩
theorem Pot.set {n m : Nat} {st : Sto} {o : SO} (h : Pot n st) (ne : m ≠ n) : Pot n (st.set m o) := by
  obtain ⟨c, a, b, e, z⟩ := h
  exact ⟨c, a, b, by rw [List.getElem?_set_ne ne]; exact e, z⟩
theorem push_at {st : Sto} {o : SO} : (st ++ [o])[st.length]? = some o := by simp
theorem Pot.pre {n : Nat} {st st' : Sto} (h : Pot n st) (x : Pre st st') : Pot n st' := by
  obtain ⟨l, rfl⟩ := x
  exact h.push
theorem numd_map {α : Type} {enc : α → D} : ∀ (k : Nat) (xs : List α), numd k (xs.map enc) = (xs.zipIdx k).map fun q => .tup [.int (q.2 : Int), enc q.1]
  | _, [] => rfl
  | k, x :: xs => by simp [numd, numd_map (k + 1) xs]
theorem pot_spec {ns : List Int} {Q : D → Sto → Prop} {E} (h : ∀ st, Pot 0 st → st.length = 1 → Q (.ref 0) st) : RsP (m__law_pot [.frg (ns.map D.int)] []) Q E := by
  unfold m__law_pot
  simp! [cut_map, fList]
  rw [show (cut ns (some 12) (some 63)).map D.int = (cut ns (some 12) (some 63)).map D.int from rfl, numd_map]
  refine for_rule (fun _ _ r st => st = [] ∧ ∃ cells : List Int, r 1 = some (true, .lst (cells.map D.int)) ∧ cells.length = (cut ns none (some 12)).length) ⟨rfl, cut ns none (some 12), by simp! [], rfl⟩ ?_ ?_
  · rintro done ⟨a, k⟩ rest r st e ⟨rfl, cells, hr, hl⟩
    have hlen : cells.length = 12 := by
      have : 0 < (cut ns (some 12) (some 63)).length := by
        have : ((cut ns (some 12) (some 63)).zipIdx 0).length ≠ 0 := by rw [e]; simp
        simp at this
        cases z : (cut ns (some 12) (some 63)).length with
        | zero => exact absurd (List.length_eq_zero_iff.mp z) this
        | succ n => omega
      rw [hl]
      simp [cut, HT.sIx] at *
      omega
    have hk : ((k : Int) % 12) < cells.length ∧ 0 ≤ (k : Int) % 12 := by omega
    obtain ⟨x, ex, _⟩ := atI_in (xs := cells) hk.2 hk.1
    simp! [hr, atI_map, ex, Option.map_some, List.length_map, ixN_in hk.2 hk.1]
    refine ⟨by decide, by decide, cells.set ((k : Int) % 12).toNat (x + a), by rw [List.map_set], by rw [List.length_set]; exact hl⟩
  · rintro r st ⟨rfl, cells, hr, hl⟩
    simp! [hr]
    exact h _ ⟨cells, 0, 0, rfl, by omega⟩ rfl
theorem wish_spec {n : Nat} {f low top : Int} {st : Sto} {Q : D → Sto → Prop} {E} (hp : Pot n st) (hf0 : 0 ≤ f) (hf : f ≤ 1000) (h0 : 0 ≤ low) (h1 : 0 < top) (h2 : low + top ≤ 10)
    (h : ∀ w st', WOk f.toNat w → Pot n st' → Oth n st st' → Q (dW w) st') : RsP (m__law_wish [.ref n, .int f, .int low, .int top] st) Q E := by
  unfold m__law_wish
  simp! [rangeD_map, B62]
  refine ⟨by omega, ?_⟩
  refine for_rule (fun done _ r s => Pot n s ∧ Oth n st s ∧ r 0 = some (false, .ref n) ∧ r 2 = some (false, .int low) ∧ r 3 = some (false, .int top) ∧ ∃ w : List (Int × Int), r 4 = some (true, .lst (w.map dP)) ∧ WOk done.length w) ⟨hp, Oth.refl _ _, by simp! [], by simp! [], by simp! [], [], by simp! [], rfl, by simp⟩ ?_ ?_
  · rintro done a rest r s e ⟨hp, ho, r0, r2, r3, w, r4, hw⟩
    have hl : (done.length : Int) < f := by
      have := congrArg List.length e
      simp at this
      omega
    simp! [r0, r2, r3, r4]
    refine pick_spec hp h1 (by simp only [D40]; omega) fun k s1 k0 k1 hp1 ho1 => ?_
    simp! [r0, r2, r3, r4]
    refine pick_spec hp1 h1 (by simp only [D40]; omega) fun k2 s2 k20 k21 hp2 ho2 => ?_
    simp! [r0, r2, r3, r4, List.length_map, LIM]
    refine ⟨by rw [hw.1]; omega, hp2, (ho.trans ho1).trans ho2, w ++ [(min (low + k) (low + k2), max (low + k) (low + k2))], by simp [dP], by simp [hw.1], ?_⟩
    intro p hp
    rcases List.mem_append.mp hp with z | z
    · exact hw.2 p z
    · rw [List.mem_singleton.mp z]
      simp only
      omega
  · rintro r s ⟨hp, ho, r0, r2, r3, w, r4, hw⟩
    simp! [r4]
    exact h w s ⟨by rw [hw.1]; simp, hw.2⟩ hp ho
theorem at4 {a b c d : Int × Int} {k : Int} (h0 : 0 ≤ k) (h1 : k < 4) (P : Int × Int → Prop) (ha : P a) (hb : P b) (hc : P c) (hd : P d) : ∃ p, atI [dP a, dP b, dP c, dP d] k = some (dP p) ∧ P p := by
  have : k = 0 ∨ k = 1 ∨ k = 2 ∨ k = 3 := by omega
  rcases this with rfl | rfl | rfl | rfl
  · exact ⟨a, rfl, ha⟩
  · exact ⟨b, rfl, hb⟩
  · exact ⟨c, rfl, hc⟩
  · exact ⟨d, rfl, hd⟩
theorem ati4 {a b c d : Int} {k : Int} (h0 : 0 ≤ k) (h1 : k < 4) (P : Int → Prop) (ha : P a) (hb : P b) (hc : P c) (hd : P d) : ∃ p, atI [D.int a, D.int b, D.int c, D.int d] k = some (D.int p) ∧ P p := by
  have : k = 0 ∨ k = 1 ∨ k = 2 ∨ k = 3 := by omega
  rcases this with rfl | rfl | rfl | rfl
  · exact ⟨a, rfl, ha⟩
  · exact ⟨b, rfl, hb⟩
  · exact ⟨c, rfl, hc⟩
  · exact ⟨d, rfl, hd⟩
theorem nudged_spec {n : Nat} {f : Nat} {w : List (Int × Int)} {st : Sto} {Q : D → Sto → Prop} {E} (hp : Pot n st) (hw : WOk f w) (h0 : 1 ≤ f) (h1 : f ≤ 1000)
    (h : ∀ w st', WOk f w → Pot n st' → Oth n st st' → Q (dW w) st') : RsP (m__law_nudged [.ref n, dW w] st) Q E := by
  unfold m__law_nudged dW
  simp! [List.length_map]
  refine pick_spec hp (by rw [hw.1]; omega) (by rw [hw.1]; simp only [D40]; omega) fun k st1 k0 k1 hp1 ho1 => ?_
  rw [hw.1] at k1
  obtain ⟨⟨lo, hi⟩, e, hb⟩ := hw.at k0 k1
  simp only at hb
  simp! [List.length_map, atI_map, e, Option.map_some, dP]
  refine pick_spec hp1 (by decide) (by decide) fun k2 st2 k20 k21 hp2 ho2 => ?_
  obtain ⟨q, e2, hq⟩ := at4 (a := (max 0 (lo - 1), hi)) (b := (lo, min 9 (hi + 1))) (c := (min (lo + 1) hi, hi)) (d := (lo, max lo (hi - 1))) k20 k21 (fun p => 0 ≤ p.1 ∧ p.1 ≤ p.2 ∧ p.2 ≤ 9) (by simp only; omega) (by simp only; omega) (by simp only; omega) (by simp only; omega)
  simp only [dP] at e2
  simp! [e2, cut_map, List.length_map, List.length_append, LIM]
  have l1 := cut_len (xs := w) (lo := none) (hi := some k)
  have l2 := cut_len (xs := w) (lo := some (k + 1)) (hi := none)
  rw [hw.1] at l1 l2
  refine ⟨by omega, by omega, ?_⟩
  have hh := h (cut w none (some k) ++ [q] ++ cut w (some (k + 1)) none) st2 ⟨?_, ?_⟩ hp2 (ho1.trans ho2)
  · simpa only [dW, dP, List.map_append, List.map_cons, List.map_nil] using hh
  · rw [cut_to k0 (by rw [hw.1]; omega), cut_from (by omega) (by rw [hw.1]; omega)]
    simp only [List.length_append, List.length_take, List.length_drop, List.length_cons, List.length_nil, hw.1]
    omega
  · intro p hp
    simp only [List.mem_append, List.mem_singleton] at hp
    rcases hp with (z | z) | z
    · exact hw.2 p (cut_mem z)
    · rw [z]; exact hq
    · exact hw.2 p (cut_mem z)
theorem wishes_spec {n : Nat} {f m : Int} {st : Sto} {Q : D → Sto → Prop} {E} (hp : Pot n st) (hf0 : 1 ≤ f) (hf : f ≤ 3) (hm0 : 0 ≤ m) (hm : m ≤ 1000)
    (h : ∀ (ws : List (List (Int × Int))) st', (ws.length : Int) ≤ m → (∀ w ∈ ws, WOk f.toNat w) → Pot n st' → Oth n st st' → Q (dWs ws) st') : RsP (m__law_wishes [.ref n, .int f, .int m] st) Q E := by
  unfold m__law_wishes
  simp! []
  refine pick_spec hp (by decide) (by decide) fun k st1 k0 k1 hp1 ho1 => ?_
  obtain ⟨a, ea, ha⟩ := ati4 (a := 2) (b := 3) (c := 4) (d := 10) k0 k1 (fun a => 1 ≤ a ∧ a ≤ 10) (by decide) (by decide) (by decide) (by decide)
  obtain ⟨b, eb, hb⟩ := ati4 (a := 10) (b := 10) (c := 10) (d := 4) (k := f) (by omega) (by omega) (fun a => 1 ≤ a ∧ a ≤ 10) (by decide) (by decide) (by decide) (by decide)
  simp! [ea, eb]
  generalize et : min a b = t
  have ht : 1 ≤ t ∧ t ≤ 10 := by omega
  refine pick_spec hp1 (by omega) (by simp only [D40]; omega) fun low st2 l0 l1 hp2 ho2 => ?_
  simp! []
  refine pick_spec hp2 (by omega) (by simp only [D40]; omega) fun c st3 c0 c1 hp3 ho3 => ?_
  simp! [rangeD_map, B62]
  refine ⟨by omega, ?_⟩
  refine for_rule (fun done _ r s => Pot n s ∧ Oth n st s ∧ r 0 = some (false, .ref n) ∧ r 1 = some (false, .int f) ∧ r 3 = some (false, .int t) ∧ r 4 = some (false, .int low) ∧ ∃ ws : List (List (Int × Int)), r 5 = some (true, .lst (ws.map dW)) ∧ ws.length = done.length ∧ ∀ w ∈ ws, WOk f.toNat w) ⟨hp3, (ho1.trans ho2).trans ho3, by simp! [], by simp! [], by simp! [], by simp! [], [], by simp! [], rfl, by simp⟩ ?_ ?_
  · rintro done a rest r s e ⟨hp, ho, r0, r1, r3, r4, ws, r5, hl, hw⟩
    have hd : (done.length : Int) < c := by
      have := congrArg List.length e
      simp at this
      omega
    simp! [r0, r1, r3, r4, r5]
    refine pick_spec hp (by decide) (by decide) fun way s1 w0 w1 hp1 ho1 => ?_
    simp! [r0, r1, r3, r4, r5]
    refine wish_spec hp1 (by omega) (by omega) (by omega) (by omega) (by omega) fun w s2 hwo hp2 ho2 => ?_
    have fin : ∀ (v : List (Int × Int)) (s' : Sto), WOk f.toNat v → Pot n s' → Oth n s s' → (List.map dW ws).length < LIM ∧ Pot n s' ∧ Oth n st s' ∧ ∃ ws_1 : List (List (Int × Int)), (true, D.lst (List.map dW ws ++ [dW v])) = (true, D.lst (List.map dW ws_1)) ∧ ws_1.length = (done ++ [a]).length ∧ ∀ w ∈ ws_1, WOk f.toNat w := fun v s' hv hp' ho' =>
      ⟨by rw [List.length_map, hl]; simp only [LIM]; omega, hp', ho.trans ho', ws ++ [v], by simp, by simp [hl], fun x hx => by
        rcases List.mem_append.mp hx with z | z
        · exact hw x z
        · rw [List.mem_singleton.mp z]; exact hv⟩
    have o2 := ho1.trans ho2
    have ne : ws.isEmpty = false → 1 ≤ ws.length := fun z => by
      cases ws with
      | nil => simp at z
      | cons x xs => simp
    have dr : ∀ (s3 : Sto) (Q' : D → Sto → Prop) (E'), ws.isEmpty = false → Pot n s3 → (∀ v s4, WOk f.toNat v → Pot n s4 → Oth n s3 s4 → Q' (dW v) s4) → RsP (m__law_pick [.ref n, .int (ws.map dW).length] s3) (fun d st => RsP (opIx (.lst (ws.map dW)) d st) Q' E') E' := fun s3 Q' E' hz hp' hq => by
      have := ne hz
      rw [List.length_map]
      refine pick_spec hp' (by omega) (by simp only [D40]; omega) fun j s4 j0 j1 hp4 ho4 => ?_
      obtain ⟨v, ev, mv⟩ := atI_in j0 j1
      simp! [atI_map, ev, Option.map_some]
      exact hq v s4 (hw v mv) hp4 ho4
    simp! [r0, r1, r3, r4, r5, ↓eqv_int, ↓eqv_nil, ↓shp_int, ↓shp_lst, List.all_map, List.isEmpty_map]
    have sh : ws.all (shp 59 ∘ dW) = true := by simp [shp_dW]
    refine ⟨fun _ => ⟨sh, by simp, fun z => dr _ _ _ z hp2 fun v3 s3 hv3 hp3 ho3 => ⟨fun _ => ⟨sh, by simp, fun z => dr _ _ _ z hp3 fun v4 s4 hv4 hp4 ho4 => nudged_spec hp4 hv4 (by omega) (by omega) fun v5 s5 hv5 hp5 ho5 => fin v5 s5 hv5 hp5 (((o2.trans ho3).trans ho4).trans ho5), fun z => fin v3 s3 hv3 hp3 (o2.trans ho3)⟩, fun _ => fin v3 s3 hv3 hp3 (o2.trans ho3)⟩, fun z => ⟨fun _ => ⟨sh, by simp, fun z => dr _ _ _ z hp2 fun v4 s4 hv4 hp4 ho4 => nudged_spec hp4 hv4 (by omega) (by omega) fun v5 s5 hv5 hp5 ho5 => fin v5 s5 hv5 hp5 (((o2).trans ho4).trans ho5), fun z => fin w s2 hwo hp2 (o2)⟩, fun _ => fin w s2 hwo hp2 (o2)⟩⟩, fun _ => ⟨fun _ => ⟨sh, by simp, fun z => dr _ _ _ z hp2 fun v4 s4 hv4 hp4 ho4 => nudged_spec hp4 hv4 (by omega) (by omega) fun v5 s5 hv5 hp5 ho5 => fin v5 s5 hv5 hp5 (((o2).trans ho4).trans ho5), fun z => fin w s2 hwo hp2 (o2)⟩, fun _ => fin w s2 hwo hp2 (o2)⟩⟩
  · rintro r s ⟨hp, ho, r0, r1, r3, r4, ws, r5, hl, hw⟩
    simp! [r5]
    exact h ws s (by rw [hl]; simp; omega) hw hp ho
theorem kin_spec {xs : List (List D)} {L : Nat} {st : Sto} {Q : D → Sto → Prop} {E} (hl : xs.length ≤ LIM) (hx : ∀ x ∈ xs, x.length = L) (h : Q .non st) : RsP (m_need_kin [.lst (xs.map D.tup)] st) Q E := by
  unfold m_need_kin
  simp! []
  refine lc_pure (fun _ => false) D.tup ?_ hl ?_
  · intro a ha
    cases xs with
    | nil => cases ha
    | cons b xs =>
      simp! [↓eqv_int, ↓shp_int]
      simp [hx a ha, hx b (by simp)]
  · simp! [↓eqv_nil, ↓shp_lst]
    simp [h]
theorem covers_spec {a b : List (Int × Int)} {st : Sto} {Q : D → Sto → Prop} {E} (hl : b.length = a.length) (hw : a.length ≤ 1000) (h : Q (.bl (covL a b)) st) : RsP (m_covers [dW a, dW b] st) Q E := by
  unfold m_covers dW
  simp! []
  refine kin_spec (xs := [a.map dP, b.map dP]) (L := a.length) (by simp [LIM]) (by simp [hl]) ?_
  simp! [zipd_map]
  refine lc_pure (fun _ => true) (fun q => .bl (decide (q.1.1 ≤ q.2.1) && decide (q.2.2 ≤ q.1.2))) ?_ (by simp [LIM]; omega) ?_
  · rintro ⟨⟨x, y⟩, c, d⟩ ha
    simp! [dP, atI_1]
    refine ⟨fun z => ?_, fun z => ?_⟩
    · simp [z]
    · simp [z]
  · rw [filt_t]
    simp! [f_all]
    exact h
theorem is_in_spec {n a b : Int} {st : Sto} {Q : D → Sto → Prop} {E} (h : Q (.bl (decide (a ≤ n) && decide (n ≤ b))) st) : RsP (m_is_in [.int n, dP (a, b)] st) Q E := by
  unfold m_is_in dP
  simp! [atI_1]
  refine ⟨fun z => ?_, fun z => ?_⟩
  · simpa [z] using h
  · simpa [z] using h
theorem has_letter_spec {w : List (Int × Int)} {l : List Int} {st : Sto} {Q : D → Sto → Prop} {E} (hl : l.length = w.length) (hw : w.length ≤ 1000) (h : Q (.bl (hasL w l)) st) : RsP (m_has_letter [dW w, dT l] st) Q E := by
  unfold m_has_letter dW dT
  simp! []
  refine kin_spec (xs := [w.map dP, l.map D.int]) (L := w.length) (by simp [LIM]) (by simp [hl]) ?_
  simp! [zipd_map]
  refine lc_pure (fun _ => true) (fun q => .bl (decide (q.2.1 ≤ q.1) && decide (q.1 ≤ q.2.2))) ?_ (by simp [LIM]; omega) ?_
  · rintro ⟨n, a, b⟩ ha
    simp! []
    refine is_in_spec ?_
    simp
  · rw [filt_t]
    simp! [f_all]
    exact h
theorem first_left_end {f n : Nat} {ws : List Wi} {w : Wi} {d : D} {st : Sto} {Q : D → Sto → Prop} {E} (hd : LA st d (ws.map dW)) (hw : WOk f w) (h : Q (dO (leftF ws w f)) st) : RsP (m_first_left (n + 1) [d, dW w, .int (f : Int)] st) Q E := by
  rw [leftF_end (by rw [hw.1]; omega)] at h
  rw [e_first_left]
  have sh : shp 60 (.lst (ws.map dW)) = true := shp_dWs
  have fin : (shp 60 (D.lst (ws.map dW)) = true ∧ shp 60 (D.lst []) = true ∧ ((ws.map dW).isEmpty = true → Q (D.tup []) st) ∧ ((ws.map dW).isEmpty = false → Q D.non st)) := by
    refine ⟨sh, by simp [shp_lst], fun z => ?_, fun z => ?_⟩
    · rw [List.isEmpty_map] at z
      rw [if_pos z] at h
      exact h
    · rw [List.isEmpty_map] at z
      rw [z] at h
      exact h
  rcases hd with rfl | ⟨m, rfl, hm⟩
  · simp only [dW]
    simp! [List.length_map, ↓eqv_int, ↓shp_int, ↓eqv_nil, hw.1, decide_true]
    exact fin
  · simp only [dW]
    simp! [List.length_map, ↓eqv_int, ↓shp_int, ↓eqv_nil, hw.1, decide_true, hm]
    exact fin
theorem first_left_spec {f : Nat} (hf : f ≤ 1000) : ∀ (n i : Nat) (ws : List Wi) (w : Wi) (d : D) (st : Sto) (Q : D → Sto → Prop) (E), f ≤ i + n → i ≤ f → LA st d (ws.map dW) → ws.length ≤ 1000 → (∀ o ∈ ws, WOk f o) → WOk f w → Q (dO (leftF ws w i)) st → RsP (m_first_left (n + 1) [d, dW w, .int (i : Int)] st) Q E := by
  intro n
  induction n with
  | zero =>
    intro i ws w d st Q E hi hi2 hd hl hs hw h
    have e : i = f := by omega
    subst e
    exact first_left_end hd hw h
  | succ n ih =>
    intro i ws w d st Q E hi hi2 hd hl hs hw h
    by_cases e : i = f
    · subst e
      exact first_left_end hd hw h
    · rw [e_first_left]
      obtain ⟨⟨a, b⟩, hp⟩ : ∃ p, w[i]? = some p := ⟨w[i]'(by rw [hw.1]; omega), by simp [hw.1]⟩
      have hpb := hw.2 _ (List.mem_of_getElem? hp)
      simp only at hpb
      rw [leftF_step hp fun o ho => by rw [(hs o ho).1]; omega] at h
      have ne : ((i : Int) = (w.length : Int)) = False := by rw [hw.1]; simp; omega
      have ew : D.tup (w.map dP) = dW w := rfl
      simp only [dW]
      simp! [List.length_map, ↓eqv_int, ↓shp_int, ne, decide_false, atI_map, atI_nat' hp, Option.map_some, dP, atI_1, rangeD_map, B62, rng_range]
      refine ⟨by omega, ?_⟩
      refine for_rule (fun done _ r s => s = st ∧ r 0 = some (false, d) ∧ r 1 = some (false, dW w) ∧ r 2 = some (false, .int (i : Int)) ∧ ∀ n ∈ done, leftF (ws.filter (inAt i n)) w (i + 1) = none) ⟨rfl, by simp! [], by simp! [dW, dP], by simp! [], by simp⟩ ?_ ?_
      · rintro done m rest r s e1 ⟨rfl, r0, r1, r2, hno⟩
        have mid : ∀ (gs : Gd) (Q' : D → Sto → Prop) (E') (r' : Sm.Env), r' 2 = some (false, .int (i : Int)) → r' 3 = some (false, .int m) → okG gs s → Q' (.lst ((ws.filter (inAt i m)).map dW)) s → RsP (lcL (tgN 5) (bCall m_is_in [bVar 3, bBin opIx (bVar 5) (bVar 2)]) (bVar 5) gs r' (ws.map dW) [] s) Q' E' := by
          intro gs Q' E' r' q2 q3 hg hq
          refine lc_pure (enc := dW) (xs := ws) (inAt i m) dW ?_ (by simp only [LIM]; omega) hq hg
          intro o ho
          obtain ⟨⟨x, y⟩, hq⟩ : ∃ p, o[i]? = some p := ⟨o[i]'(by rw [(hs o ho).1]; omega), by simp [(hs o ho).1]⟩
          have ew2 : D.tup (o.map dP) = dW o := rfl
          simp only [dW]
          simp! [q2, q3, atI_map, atI_nat' hq, Option.map_some]
          refine ⟨is_in_spec ⟨?_, rfl⟩, fun _ => trivial⟩
          unfold inAt
          rw [hq]
        have tail : ∀ (Q' : D → Sto → Prop) (E'), (∀ x, leftF (ws.filter (inAt i m)) w (i + 1) = x → Q' (dO x) s) → RsP (m_first_left (n + 1) [.lst ((ws.filter (inAt i m)).map dW), dW w, .int ((i : Int) + 1)] s) Q' E' := fun Q' E' hq =>
          ih (i + 1) _ w _ s Q' E' (by omega) (by omega) (.inl rfl) (Nat.le_trans (List.length_filter_le ..) hl) (fun o ho => hs o (List.mem_filter.mp ho).1) hw (hq _ rfl)
        have fin : ∀ x, leftF (ws.filter (inAt i m)) w (i + 1) = x → (∀ l, x = some l → l.length + 1 ≤ LIM → Q (dT (m :: l)) s) := by
          rintro x hx l rfl _
          have : (rng (a, b)).findSome? (fun n => (leftF (ws.filter (inAt i n)) w (i + 1)).map fun l => n :: l) = some (m :: l) := by
            rw [e1, List.findSome?_append, List.findSome?_eq_none_iff.mpr fun y hy => by rw [hno y hy]; rfl]
            simp [hx]
          rw [this] at h
          exact h
        have len : ∀ l, leftF (ws.filter (inAt i m)) w (i + 1) = some l → l.length ≤ 1000 := by
          intro l hl
          have := mem_lets_len (List.mem_of_find?_eq_some hl)
          rw [List.length_drop, hw.1] at this
          omega
        have done' : leftF (ws.filter (inAt i m)) w (i + 1) = none → ∀ y ∈ done ++ [m], leftF (ws.filter (inAt i y)) w (i + 1) = none := by
          intro z y hy
          rcases List.mem_append.mp hy with hy | hy
          · exact hno y hy
          · rw [List.mem_singleton.mp hy]; exact z
        have last : ∀ x, leftF (ws.filter (inAt i m)) w (i + 1) = x → ((true ^^ isN (dO x)) = true → derP s (dO x) fun b' => RsP (opAdd (.tup [.int m]) b' s) (fun d st1 => Q d st1) fun c a st => E c a st) ∧ ((true ^^ isN (dO x)) = false → ∀ y ∈ done ++ [m], leftF (ws.filter (inAt i y)) w (i + 1) = none) := by
          intro x hx
          cases x with
          | none =>
            refine ⟨fun z => (by simp [dO, isN] at z), fun _ => done' hx⟩
          | some l =>
            have := len l hx
            refine ⟨fun _ => ?_, fun z => (by simp [dO, dT, isN] at z)⟩
            simp only [dO, dT]
            simp! [List.length_map, LIM]
            refine ⟨by omega, ?_⟩
            exact fin _ hx l rfl (by simp only [LIM]; omega)
        rcases hd with rfl | ⟨q, rfl, hq⟩
        · simp! [r0, r1, r2]
          refine mid [] _ _ _ (by simp! [r2]) (by simp! []) (okG_nil.mpr trivial) ?_
          refine tail _ _ fun x hx => ?_
          exact ⟨(last x hx).1, fun z => ⟨rfl, (last x hx).2 z⟩⟩
        · simp! [r0, r1, r2, hq]
          refine mid _ _ _ _ (by simp! [r2]) (by simp! []) (by intro g hg; rw [List.mem_singleton.mp hg]; exact hq) ?_
          refine tail _ _ fun x hx => ?_
          exact ⟨(last x hx).1, fun z => ⟨rfl, (last x hx).2 z⟩⟩
      · rintro r s ⟨rfl, r0, r1, r2, hno⟩
        rw [List.findSome?_eq_none_iff.mpr fun y hy => by rw [hno y hy]; rfl] at h
        simp! []
        exact h
theorem left_some {ws : List Wi} {w : Wi} {l : List Int} (h : leftL ws w = some l) : l ∈ lets w ∧ hadL ws l = false := by
  have h1 := List.mem_of_find?_eq_some h
  have h2 := List.find?_some h
  exact ⟨h1, by simpa using h2⟩
theorem each_once_spec {ws : List Wi} {st : Sto} {Q : D → Sto → Prop} {E} (hw : ∀ w ∈ ws, w ≠ []) (hl : ws.length ≤ 1000) (h : Q (dWs (once kW ws)) st) : RsP (m_each_once [dWs ws] st) Q E := by
  unfold m_each_once dWs
  simp! []
  refine ⟨sortW_ok hw (by simp only [LIM]; omega), ?_⟩
  rw [sortW]
  refine for_rule (fun done _ r s => s = st ∧ ∃ acc, r 1 = some (true, .lst (acc.map dW)) ∧ Onc kW acc done ∧ acc.length ≤ done.length) ⟨rfl, [], by simp! [], Onc.nil, Nat.le_refl _⟩ ?_ ?_
  · rintro done a rest r s e ⟨rfl, acc, r1, ho, hle⟩
    have hs := (srt_split e).1
    have hd : done.length < 1000 := by
      have := congrArg List.length e
      rw [srt_len] at this
      simp at this
      omega
    have skip : acc.getLast? = some a → ∃ acc', (true, D.lst (acc.map dW)) = (true, .lst (List.map dW acc')) ∧ Onc kW acc' (done ++ [a]) ∧ acc'.length ≤ (done ++ [a]).length := fun z => ⟨acc, rfl, ho.skip z, by simp; omega⟩
    have add : acc.getLast? ≠ some a → ∃ acc', (true, D.lst (acc.map dW ++ [dW a])) = (true, .lst (List.map dW acc')) ∧ Onc kW acc' (done ++ [a]) ∧ acc'.length ≤ (done ++ [a]).length := fun z => ⟨acc ++ [a], by simp, ho.add okW hs z, by simp; omega⟩
    have sh : shp 60 (.lst (acc.map dW)) = true := shp_dWs
    have len : acc.length < LIM := by simp only [LIM]; omega
    simp! [r1, ↓eqv_nil, sh, ↓shp_lst, List.isEmpty_map, List.length_map, atI_getLast, List.getLast?_map, List.all_nil, Option.some.injEq]
    refine ⟨fun z => ⟨len, add ?_⟩, fun z => ?_⟩
    · rw [List.isEmpty_iff.mp z]; simp
    · obtain ⟨b, hb⟩ : ∃ b, acc.getLast? = some b := by
        cases y : acc.getLast? with
        | none => rw [List.getLast?_eq_none_iff.mp y] at z; cases z
        | some b => exact ⟨b, rfl⟩
      refine ⟨dW b, by rw [hb]; rfl, shp_dW, shp_dW, fun z => ⟨len, add ?_⟩, fun z => ?_⟩
      · rw [hb]
        intro e
        cases e
        rw [der_dW, eqv_dW] at z
        simp at z
      · rw [der_dW, eqv_dW] at z
        have : b = a := by simpa using z
        exact skip (this ▸ hb)
  · rintro r s ⟨rfl, acc, r1, ho, _⟩
    simp! [r1]
    rw [ho.fin okW]
    exact h
theorem roof_of_spec {f : Nat} {ws : List Wi} {st : Sto} {Q : D → Sto → Prop} {E} (hf : 1 ≤ f) (hf3 : f ≤ 1000) (hw : ∀ w ∈ ws, WOk f w) (hl : ws.length ≤ 1000) (h : Q (dWs (roofW kW ws)) st) : RsP (m_roof_of [dWs ws] st) Q E := by
  have ne : ∀ w ∈ ws, w ≠ [] := fun w h e => by
    have := (hw w h).1
    rw [e] at this
    simp at this
    omega
  unfold m_roof_of
  simp! []
  rw [show dWs ws = .lst ((ws.map fun w => w.map dP).map D.tup) by simp [dWs, dW, Function.comp_def]]
  refine kin_spec (L := f) (by rw [List.length_map]; simp only [LIM]; omega) (fun x hx => ?_) ?_
  · obtain ⟨w, h, rfl⟩ := List.mem_map.mp hx
    rw [List.length_map]
    exact (hw w h).1
  rw [show D.lst ((ws.map fun w => w.map dP).map D.tup) = dWs ws by simp [dWs, dW, Function.comp_def]]
  simp! []
  refine each_once_spec ne hl ?_
  have ol : (once kW ws).length ≤ 1000 := by
    have h1 : (once kW ws).length ≤ (srt kW ws).length := once_len
    rw [srt_len] at h1
    omega
  simp only [dWs]
  simp! []
  refine lc_pure (enc := dW) (xs := once kW ws) (fun w => !(once kW ws).any fun o => decide (o ≠ w) && covL o w) dW ?_ (by simp only [LIM]; omega) h
  intro w hm
  have hwo := hw w (mem_once.mp hm)
  simp! []
  refine ⟨lc_pure (enc := dW) (xs := once kW ws) (fun _ => true) (fun o => .bl (decide (o ≠ w) && covL o w)) ?_ (by simp only [LIM]; omega) ?_, fun _ => trivial⟩
  · intro o hm'
    have hoo := hw o (mem_once.mp hm')
    simp! [↓eqv_dW, ↓shp_dW]
    refine ⟨fun z => covers_spec (by rw [hwo.1, hoo.1]) (by rw [hoo.1]; omega) ⟨?_, rfl⟩, fun z => ?_⟩
    · have : o ≠ w := by simpa using z
      simp [this]
    · have : o = w := by simpa using z
      simp [this]
  · rw [filt_t]
    simp! [f_any]
theorem left_facts {f : Nat} {ws ch : List Wi} (hs : ∀ w ∈ ws, WOk f w) : (ws.filterMap (leftL ch) = [] → covAll ws ch) ∧ ∀ l ∈ ws.filterMap (leftL ch), l.length = f ∧ lackL ws ch l = true := by
  constructor
  · intro h w hw
    rw [List.filterMap_eq_nil_iff] at h
    exact leftL_none.mp (h w hw)
  · intro l hl
    obtain ⟨w, hw, e⟩ := List.mem_filterMap.mp hl
    have h1 := left_some e
    have h2 := mem_lets.mp h1.1
    refine ⟨by rw [h2.1, (hs w hw).1], ?_⟩
    unfold lackL
    rw [h1.2, hadL_iff.mpr ⟨w, hw, h2.2⟩]
    rfl
theorem opt_list (ws ch : List Wi) : ((ws.map (leftL ch)).filter (·.isSome)).map dO = (ws.filterMap (leftL ch)).map dT := by
  induction ws with
  | nil => rfl
  | cons w ws ih =>
    rw [List.map_cons, List.filterMap_cons]
    cases h : leftL ch w with
    | none => simpa using ih
    | some l => simpa [dO] using ih
theorem first_lack_spec {f : Nat} {ws ch : List Wi} {st : Sto} {Q : D → Sto → Prop} {E} (hf : f ≤ 3) (hl : ws.length ≤ 1000) (hs : ∀ o ∈ ws, WOk f o) (hcl : ch.length ≤ 1000) (hc : ∀ o ∈ ch, WOk f o) (h0 : covAll ws ch → Q .non st) (h1 : ∀ l, l.length = f → lackL ws ch l = true → Q (dT l) st) : RsP (m_first_lack [dWs ws, dWs ch] st) Q E := by
  have lf := left_facts (ch := ch) hs
  unfold m_first_lack
  simp only [dWs]
  simp! []
  refine lc_pure (enc := dW) (xs := ws) (fun _ => true) (fun w => dO (leftL ch w)) ?_ (by simp only [LIM]; omega) ?_
  · intro w hw
    simp! []
    refine first_left_spec (f := f) (by omega) 7 0 ch w _ _ _ _ (by omega) (by omega) (.inl rfl) hcl hc (hs w hw) ?_
    rw [leftF_0]
    exact ⟨rfl, rfl⟩
  rw [filt_t, show (ws.map fun w => dO (leftL ch w)) = (ws.map (leftL ch)).map dO by simp]
  simp! []
  refine lc_pure (enc := dO) (xs := ws.map (leftL ch)) (·.isSome) dO ?_ (by rw [List.length_map]; simp only [LIM]; omega) ?_
  · intro o ho
    simp! [dO_none, Bool.true_xor]
    cases o <;> simp
  rw [opt_list]
  have fl : (ws.filterMap (leftL ch)).length ≤ ws.length := List.length_filterMap_le ..
  simp! [↓eqv_nil, ↓shp_lst, List.isEmpty_map, List.all_nil]
  refine ⟨fun z => ?_, fun z => ?_⟩
  · refine minT_spec (fun e => by rw [e] at z; simp at z) fun m hm _ => ?_
    exact h1 m (lf.2 m hm).1 (lf.2 m hm).2
  · exact h0 (lf.1 (by simpa using z))
end K14

namespace K14
open PySem L2 Sm
local macro_rules
  | `(tactic| simp! [$ts,*] $[$loc]?) => `(tactic| try simp (implicitDefEqProofs := false) only [↓w_ok, ↓w_err, ↓w_bad, ↓wl_ok, ↓w_bind, ↓w_bindL, ↓wl_bind, ↓wl_bindL, ↓w_nx, ↓w_rt, ↓w_bk, ↓w_ct, ↓w_er, ↓w_bd, ↓w_sq, ↓w_of, ↓w_sIf, ↓w_and, ↓w_or, ↓w_bIf, ↓w_mk, ↓w_call, ↓w_tup, ↓w_lst, ↓wl_cons, ↓wl_nil, ↓w_bin, ↓w_not, ↓w_neg, ↓w_chain, ↓w_c, ↓w_set, ↓w_own, ↓w_ex, ↓w_ret, ↓w_retN, ↓w_skip, ↓w_raise, ↓w_to, ↓w_putR, ↓w_ref, ↓w_for, ↓w_lc, ↓wi_seq, ↓wi_r1, ↓wi_r2, ↓wi_enum, ↓m_var, ↓m_peek, ↓m_retOwn, ↓m_fix, ↓m_app, ↓m_ext, ↓m_putL, ↓m_put, ↓m_putR, ↓m_ixR, ↓env_set, ↓env_0, ↓env_s, ↓env_n, ↓env_wp, ↓t_n, ↓t_u, ↓t_l, ↓t_0, ↓t_s, ↓bX_bl, ↓o_add, ↓o_addT, ↓o_addL, ↓o_addS, ↓o_cat, ↓o_sub, ↓o_mul, ↓o_mod, ↓o_fdiv, ↓o_pow, ↓o_eq, ↓o_ne, ↓o_ic, ↓o_isN, ↓o_ixL, ↓o_ixT, ↓f_lenL, ↓f_lenT, ↓f_tupL, ↓f_tupT, ↓f_listL, ↓f_listT, ↓f_min2, ↓f_max2, ↓f_reprB, ↓w_sl, ↓w_slA, ↓w_slB, ↓w_slC, ↓o_slL, ↓o_slT, ↓o_slF, ↓o_slLL, ↓o_slLF, ↓wi_zip, ↓wi_ok, ↓src_lst, ↓src_ref, ↓zip_tt, ↓zip_ll, ↓zip_rl, ↓zip_lr, ↓m_remM, ↓w_way, ↓wi_zipX, ↓zipX_lt, ↓zipX_tt, ↓zipX_ll, ↓w_isi, ↓o_inL, ↓o_inT, ↓dr_eq, ↓dr_ne, ↓dp_ref, ↓dp_lst, ↓dp_tup, ↓dp_frg, ↓dp_int, ↓dp_bl, ↓dp_str, ↓dp_non, ↓dp_dW, ↓dp_dP, ↓dp_dT, ↓dp_dWs, ↓dp_dTs, ↓dr_in, ↓dr_add, ↓dr_cat, ↓dr_b1, ↓dr_sl, ↓w_isiD, ↓f_sort, ↓w_rev, ↓w_appR, ↓w_refA, ↓w_listR1, ↓o_cmpD, ↓dr_cmpD, ↓w_revA, ↓o_repT, ↓f_reprD, ↓w_dct0, ↓w_dct1, ↓dr_dget, ↓o_dget, ↓dr_inK, ↓o_inK, ↓o_getD, ↓w_dget2, ↓m_putD, ↓wi_keys, ↓f_listK, ↓f_sortK, ↓m_pop, ↓m_pop0, ↓m_insL, ↓m_ins, ↓m_refP, ↓w_clrR, ↓dp_dct, ↓w_chain3, ↓w_join, ↓w_fJoin, ↓w_split, ↓o_inS, ↓dr_inS, ↓wi_str, ↓w_fmt, ↓w_jsN, ↓w_jsC, ↓f_strI, ↓f_intI, ↓f_intB, ↓f_intS, ↓f_lenS, ↓o_ixS, ↓m_try, ↓m_tryAs, ↓w_isX, ↓w_xnum, ↓w_exc, ↓w_setLen, ↓f_setLen, ↓w_popR, ↓w_popR1, ↓wi_enumT, ↓f_sortT, ↓w_excN, ↓w_seek, ↓f_count, ↓f_index, ↓o_times, ↓w_sortSet, ↓f_sortSet, ↓o_slS, ↓m_extD, ↓o_nget, ↓dr_nget, ↓o_inN, ↓dr_inN, ↓w_dctN, ↓m_nput, ↓o_rep, ↓f_sortN, ↓wi_zipN, ↓w_sortSetN, ↓f_sortSetL, ↓f_sortSetT, ↓w_fld, ↓m_fld, ↓m_fldN, ↓w_meth, ↓w_make, ↓m_lock, ↓w_lock, ↓w_listVals, ↓f_listN, ↓wi_keysR, ↓wi_keysRN, ↓m_putKR, ↓m_putNR, ↓w_popDK, ↓w_popDN, ↓w_dctS, ↓o_repT2, ↓dr_dE, ↓o_dE, ↓m_never, ↓f_lenD, ↓w_sortSetI, ↓f_sortSetI, ↓w_raiseN, ↓w_revR, ↓w_extR, ↓w_remR, ↓w_listZip, ↓w_setLenN, ↓f_setLenP, Option.bind_some, Option.bind_none, Option.some.injEq, exists_eq_left', List.map_cons, List.map_nil, if_true, if_false, reduceIte, reduceCtorEq, Nat.reduceEqDiff, List.length_cons, List.length_nil, atI_0, decide_eq_true_eq, decide_eq_false_iff_not, true_and, and_true, false_and, and_false, not_true, not_false_iff, false_implies, true_implies, der_ref, der_lst, der_tup, der_frg, der_int, der_bl, der_str, der_non, der_dW, der_dP, der_dT, der_dWs, der_dTs, der_dct, isDK_d, kOf_int, kOf_str, kD_int, forall_const, not_true_eq_false, not_false_eq_true, exists_eq_left, exists_eq_right, Bool.not_eq_true', Bool.not_eq_false', List.mem_cons, List.not_mem_nil, or_false, false_or, Nat.reduceAdd, Nat.zero_add, List.set_cons_zero, List.set_cons_succ, all_shW, all_shT, all_shP, all_shI, $ts,*] $[$loc]?)
  | `(tactic| simp! [] $[$loc]?) => `(tactic| try simp (implicitDefEqProofs := false) only [↓w_ok, ↓w_err, ↓w_bad, ↓wl_ok, ↓w_bind, ↓w_bindL, ↓wl_bind, ↓wl_bindL, ↓w_nx, ↓w_rt, ↓w_bk, ↓w_ct, ↓w_er, ↓w_bd, ↓w_sq, ↓w_of, ↓w_sIf, ↓w_and, ↓w_or, ↓w_bIf, ↓w_mk, ↓w_call, ↓w_tup, ↓w_lst, ↓wl_cons, ↓wl_nil, ↓w_bin, ↓w_not, ↓w_neg, ↓w_chain, ↓w_c, ↓w_set, ↓w_own, ↓w_ex, ↓w_ret, ↓w_retN, ↓w_skip, ↓w_raise, ↓w_to, ↓w_putR, ↓w_ref, ↓w_for, ↓w_lc, ↓wi_seq, ↓wi_r1, ↓wi_r2, ↓wi_enum, ↓m_var, ↓m_peek, ↓m_retOwn, ↓m_fix, ↓m_app, ↓m_ext, ↓m_putL, ↓m_put, ↓m_putR, ↓m_ixR, ↓env_set, ↓env_0, ↓env_s, ↓env_n, ↓env_wp, ↓t_n, ↓t_u, ↓t_l, ↓t_0, ↓t_s, ↓bX_bl, ↓o_add, ↓o_addT, ↓o_addL, ↓o_addS, ↓o_cat, ↓o_sub, ↓o_mul, ↓o_mod, ↓o_fdiv, ↓o_pow, ↓o_eq, ↓o_ne, ↓o_ic, ↓o_isN, ↓o_ixL, ↓o_ixT, ↓f_lenL, ↓f_lenT, ↓f_tupL, ↓f_tupT, ↓f_listL, ↓f_listT, ↓f_min2, ↓f_max2, ↓f_reprB, ↓w_sl, ↓w_slA, ↓w_slB, ↓w_slC, ↓o_slL, ↓o_slT, ↓o_slF, ↓o_slLL, ↓o_slLF, ↓wi_zip, ↓wi_ok, ↓src_lst, ↓src_ref, ↓zip_tt, ↓zip_ll, ↓zip_rl, ↓zip_lr, ↓m_remM, ↓w_way, ↓wi_zipX, ↓zipX_lt, ↓zipX_tt, ↓zipX_ll, ↓w_isi, ↓o_inL, ↓o_inT, ↓dr_eq, ↓dr_ne, ↓dp_ref, ↓dp_lst, ↓dp_tup, ↓dp_frg, ↓dp_int, ↓dp_bl, ↓dp_str, ↓dp_non, ↓dp_dW, ↓dp_dP, ↓dp_dT, ↓dp_dWs, ↓dp_dTs, ↓dr_in, ↓dr_add, ↓dr_cat, ↓dr_b1, ↓dr_sl, ↓w_isiD, ↓f_sort, ↓w_rev, ↓w_appR, ↓w_refA, ↓w_listR1, ↓o_cmpD, ↓dr_cmpD, ↓w_revA, ↓o_repT, ↓f_reprD, ↓w_dct0, ↓w_dct1, ↓dr_dget, ↓o_dget, ↓dr_inK, ↓o_inK, ↓o_getD, ↓w_dget2, ↓m_putD, ↓wi_keys, ↓f_listK, ↓f_sortK, ↓m_pop, ↓m_pop0, ↓m_insL, ↓m_ins, ↓m_refP, ↓w_clrR, ↓dp_dct, ↓w_chain3, ↓w_join, ↓w_fJoin, ↓w_split, ↓o_inS, ↓dr_inS, ↓wi_str, ↓w_fmt, ↓w_jsN, ↓w_jsC, ↓f_strI, ↓f_intI, ↓f_intB, ↓f_intS, ↓f_lenS, ↓o_ixS, ↓m_try, ↓m_tryAs, ↓w_isX, ↓w_xnum, ↓w_exc, ↓w_setLen, ↓f_setLen, ↓w_popR, ↓w_popR1, ↓wi_enumT, ↓f_sortT, ↓w_excN, ↓w_seek, ↓f_count, ↓f_index, ↓o_times, ↓w_sortSet, ↓f_sortSet, ↓o_slS, ↓m_extD, ↓o_nget, ↓dr_nget, ↓o_inN, ↓dr_inN, ↓w_dctN, ↓m_nput, ↓o_rep, ↓f_sortN, ↓wi_zipN, ↓w_sortSetN, ↓f_sortSetL, ↓f_sortSetT, ↓w_fld, ↓m_fld, ↓m_fldN, ↓w_meth, ↓w_make, ↓m_lock, ↓w_lock, ↓w_listVals, ↓f_listN, ↓wi_keysR, ↓wi_keysRN, ↓m_putKR, ↓m_putNR, ↓w_popDK, ↓w_popDN, ↓w_dctS, ↓o_repT2, ↓dr_dE, ↓o_dE, ↓m_never, ↓f_lenD, ↓w_sortSetI, ↓f_sortSetI, ↓w_raiseN, ↓w_revR, ↓w_extR, ↓w_remR, ↓w_listZip, ↓w_setLenN, ↓f_setLenP, Option.bind_some, Option.bind_none, Option.some.injEq, exists_eq_left', List.map_cons, List.map_nil, if_true, if_false, reduceIte, reduceCtorEq, Nat.reduceEqDiff, List.length_cons, List.length_nil, atI_0, decide_eq_true_eq, decide_eq_false_iff_not, true_and, and_true, false_and, and_false, not_true, not_false_iff, false_implies, true_implies, der_ref, der_lst, der_tup, der_frg, der_int, der_bl, der_str, der_non, der_dW, der_dP, der_dT, der_dWs, der_dTs, der_dct, isDK_d, kOf_int, kOf_str, kD_int, forall_const, not_true_eq_false, not_false_eq_true, exists_eq_left, exists_eq_right, Bool.not_eq_true', Bool.not_eq_false', List.mem_cons, List.not_mem_nil, or_false, false_or, Nat.reduceAdd, Nat.zero_add, List.set_cons_zero, List.set_cons_succ, all_shW, all_shT, all_shP, all_shI] $[$loc]?)
inductive Rf where
  | left (l : List Int) | meet (l : List Int) (n : Nat) (ts : List Rf)
def dR : Rf → D
  | .left l => .tup [.str "left", dT l]
  | .meet l n _ => .tup [.str "meet", dT l, .ref n]
mutual
def unR : Rf → Ft
  | .left l => .left l
  | .meet l _ ts => .meet l (unRs ts)
def unRs : List Rf → List Ft
  | [] => []
  | t :: ts => unR t :: unRs ts
end
mutual
def clR : Rf → List Nat
  | .left _ => []
  | .meet _ n ts => n :: clRs ts
def clRs : List Rf → List Nat
  | [] => []
  | t :: ts => clR t ++ clRs ts
end
mutual
def atR (s : Sto) : Rf → Prop
  | .left _ => True
  | .meet _ n ts => s[n]? = some (.lst (ts.map dR)) ∧ atRs s ts
def atRs (s : Sto) : List Rf → Prop
  | [] => True
  | t :: ts => atR s t ∧ atRs s ts
end
mutual
theorem atR_keep {s s' : Sto} : ∀ t : Rf, atR s t → (∀ c ∈ clR t, s'[c]? = s[c]?) → atR s' t
  | .left l, _, _ => by simp [atR]
  | .meet l n ts, h, k => by
    simp only [atR] at h ⊢
    simp only [clR, List.mem_cons] at k
    exact ⟨(k n (.inl rfl)).trans h.1, atRs_keep ts h.2 fun c hc => k c (.inr hc)⟩
theorem atRs_keep {s s' : Sto} : ∀ ts : List Rf, atRs s ts → (∀ c ∈ clRs ts, s'[c]? = s[c]?) → atRs s' ts
  | [], _, _ => by simp [atRs]
  | t :: ts, h, k => by
    simp only [atRs] at h ⊢
    simp only [clRs, List.mem_append] at k
    exact ⟨atR_keep t h.1 fun c hc => k c (.inl hc), atRs_keep ts h.2 fun c hc => k c (.inr hc)⟩
end
theorem unRs_map : ∀ ts : List Rf, unRs ts = ts.map unR
  | [] => by simp [unRs]
  | t :: ts => by simp [unRs, unRs_map ts]
theorem clRs_snoc {t : Rf} : ∀ {ts : List Rf}, clRs (ts ++ [t]) = clRs ts ++ clR t
  | [] => by simp [clRs]
  | u :: ts => by simp [clRs, clRs_snoc (ts := ts)]
theorem atRs_snoc {s : Sto} {t : Rf} : ∀ {ts : List Rf}, atRs s (ts ++ [t]) ↔ atRs s ts ∧ atR s t
  | [] => by simp [atRs]
  | u :: ts => by simp [atRs, atRs_snoc (ts := ts), and_assoc]
theorem atRs_mem {s : Sto} {t : Rf} : ∀ {ts : List Rf}, atRs s ts → t ∈ ts → atR s t
  | u :: ts, h, hm => by
    simp only [atRs] at h
    rcases List.mem_cons.mp hm with rfl | hm
    · exact h.1
    · exact atRs_mem h.2 hm
def Lo (s s' : Sto) : Prop := s.length ≤ s'.length ∧ ∀ n, n < s.length → s'[n]? = s[n]?
theorem Lo.refl {s : Sto} : Lo s s := ⟨Nat.le_refl _, fun _ _ => rfl⟩
theorem Lo.trans {s s1 s2 : Sto} (a : Lo s s1) (b : Lo s1 s2) : Lo s s2 := ⟨Nat.le_trans a.1 b.1, fun n h => (b.2 n (Nat.lt_of_lt_of_le h a.1)).trans (a.2 n h)⟩
theorem Lo.push {s : Sto} {o : SO} : Lo s (s ++ [o]) := ⟨by rw [List.length_append]; omega, fun n h => List.getElem?_append_left h⟩
structure Tre (b : Nat) (s : Sto) (t : Rf) : Prop where
  at_ : atR s t
  nd : (clR t).Nodup
  lo : ∀ c ∈ clR t, b ≤ c ∧ c < s.length
theorem Tre.grow {b : Nat} {s s' : Sto} {t : Rf} (h : Tre b s t) (l : Lo s s') : Tre b s' t :=
  ⟨atR_keep t h.at_ fun c hc => l.2 c (h.lo c hc).2, h.nd, fun c hc => ⟨(h.lo c hc).1, Nat.lt_of_lt_of_le (h.lo c hc).2 l.1⟩⟩
theorem sFew : (PyData.strOk "some" = true ∧ PyData.strOk "tree" = true ∧ PyData.strOk "left" = true ∧ PyData.strOk "meet" = true) ∧ (("tree" : Str) == "some") = false ∧ (("some" : Str) == "some") = true ∧ (("tree" : Str) == "tree") = true ∧ (("some" : Str) == "tree") = false ∧ (("meet" : Str) == "left") = false ∧ (("left" : Str) == "left") = true ∧ (("left" : Str) == "meet") = false ∧ (("meet" : Str) == "meet") = true := by decide +kernel
theorem searched_spec {f : Nat} {ws : List Wi} (hf : f ≤ 3) (hl : ws.length ≤ 900) (hs : ∀ o ∈ ws, WOk f o) : ∀ (n m : Nat) (c : Int) (ch : List Wi) (st : Sto) (Q : D → Sto → Prop) (E), n ≤ m → c = (n : Int) → ch.length + n ≤ 1000 → (∀ o ∈ ch, WOk f o) → ch.Nodup →
    (∀ ks st', Lo st st' → Found ws n ch ks → Q (.tup [.str "some", dWs ks]) st') → (∀ t st', Lo st st' → Tre st.length st' t → isS ws n ch (unR t) = true → ltr f n (unR t) → Q (.tup [.str "tree", dR t]) st') → RsP (m_searched (m + 1) [dWs ws, dWs ch, .int c] st) Q E := by
  intro n
  induction n with
  | zero =>
    intro m c ch st Q E hm hc hcl hco nd h1 h2
    subst hc
    rw [e_searched]
    simp! []
    refine first_lack_spec hf (by omega) hs (by omega) hco (fun z => ?_) (fun l hl' hk => ?_)
    · simp! [isN, Bool.false_xor]
      exact h1 ch st .refl ⟨⟨[], by simp, by simp, by simp⟩, nd, z⟩
    · have hn : isN (dT l) = false := by simp [dT, isN]
      simp! [hn, Bool.false_xor, Bool.false_eq_true, ↓eqv_int, ↓shp_int]
      have := h2 (.left l) st .refl ⟨by simp [atR], by simp [clR], by simp [clR]⟩ (by simp only [unR]; exact hk) (by simp only [unR]; exact hl')
      simp only [dR] at this
      exact ⟨fun _ => this, fun z => absurd rfl z⟩
  | succ n ih =>
    intro m c ch st Q E hm hc hcl hco nd h1 h2
    obtain ⟨m, rfl⟩ : ∃ m', m = m' + 1 := ⟨m - 1, by omega⟩
    rw [e_searched]
    simp! []
    refine first_lack_spec hf (by omega) hs (by omega) hco (fun z => ?_) (fun l hl' hk => ?_)
    · simp! [isN, Bool.false_xor]
      exact h1 ch st .refl ⟨⟨[], by simp, by simp, by simp⟩, nd, z⟩
    · have hn : isN (dT l) = false := by simp [dT, isN]
      have c0 : (c = 0) = False := by simp; omega
      simp! [hn, Bool.false_xor, Bool.false_eq_true, ↓eqv_int, ↓shp_int, c0]
      simp only [dWs]
      simp! []
      refine for_rule (fun done _ r s => (r 0 = some (false, .lst (ws.map dW)) ∧ r 1 = some (false, .lst (ch.map dW)) ∧ r 2 = some (false, .int c) ∧ r 3 = some (false, dT l) ∧ r 4 = some (false, .ref st.length)) ∧ (Lo st s ∧ st.length < s.length) ∧ ∃ ts : List Rf, s[st.length]? = some (.lst (ts.map dR)) ∧ (atRs s ts ∧ (clRs ts).Nodup ∧ ∀ c ∈ clRs ts, st.length < c ∧ c < s.length) ∧ ts.length = (done.filter fun o => hasL o l).length ∧ (∀ q ∈ (done.filter fun o => hasL o l).zip ts, isS ws n (ch ++ [q.1]) (unR q.2) = true) ∧ ∀ t ∈ ts, ltr f n (unR t))
        ⟨⟨by simp! [], by simp! [], by simp! [], by simp! [], by simp! []⟩, ⟨.push, by rw [List.length_append, List.length_singleton]; omega⟩, [], by simp, ⟨by simp [atRs], by simp [clRs], by simp [clRs]⟩, by simp, by simp, by simp⟩ ?_ ?_
      · rintro done o rest r s e ⟨⟨r0, r1, r2, r3, r4⟩, ⟨lo, ll⟩, ts, hc, ⟨ha, hnd, hb⟩, hlen, hall, hltr⟩
        have hmo : o ∈ ws := by rw [e]; simp
        have ho := hs o hmo
        have hdl : done.length < 900 := by
          have := congrArg List.length e
          simp at this
          omega
        have hfl : (done.filter fun o => hasL o l).length ≤ done.length := List.length_filter_le ..
        simp! [r0, r1, r2, r3, r4]
        refine has_letter_spec (by rw [hl', ho.1]) (by rw [ho.1]; omega) ⟨fun z => ?_, fun z => ?_⟩
        · have nm : o ∉ ch := fun hm' => by
            unfold lackL at hk
            rw [Bool.and_eq_true, Bool.not_eq_true', ] at hk
            rw [hadL_iff.mpr ⟨o, hm', z⟩] at hk
            cases hk.2
          simp! [r0, r1, r2, r3, r4, map_snoc, List.length_map]
          refine ⟨by simp only [List.length_cons, List.length_nil, LIM]; omega, ?_⟩
          refine ih m (c - 1) (ch ++ [o]) _ _ _ (by omega) (by omega) (by rw [List.length_append, List.length_singleton]; omega) (fun v hv => (List.mem_append.mp hv).elim (hco v) fun z => List.mem_singleton.mp z ▸ ho) (List.nodup_append.mpr ⟨nd, by simp, fun a ha b hb => by rw [List.mem_singleton.mp hb]; exact fun e => nm (e ▸ ha)⟩) (fun ks s' lo' hk' => ?_) (fun t s' lo' ht3 ht hlt => ?_)
          · simp! [r0, r1, r2, r3, r4, ↓eqv_str, shp_str, sFew]
            refine h1 ks s' (lo.trans lo') ?_
            obtain ⟨ex, e1, e2, e3⟩ := hk'.ext
            exact ⟨⟨o :: ex, by rw [e1]; simp, by simp; omega, fun k hk2 => by
              rcases List.mem_cons.mp hk2 with rfl | z
              · exact hmo
              · exact e3 k z⟩, hk'.nd, hk'.cov⟩
          · have hc' : s'[st.length]? = some (.lst (ts.map dR)) := (lo'.2 _ ll).trans hc
            simp! [r0, r1, r2, r3, r4, ↓eqv_str, shp_str, sFew, Bool.false_eq_true, hc', List.length_map]
            refine ⟨by simp only [LIM]; omega, ?_⟩
            have ef : ((done ++ [o]).filter fun o => hasL o l) = (done.filter fun o => hasL o l) ++ [o] := by rw [List.filter_append]; simp [z]
            obtain ⟨s2, e2⟩ : ∃ s2, s2 = s'.set st.length (.lst (ts.map dR ++ [dR t])) := ⟨_, rfl⟩
            rw [← e2]
            have k2 : ∀ c, c ≠ st.length → s2[c]? = s'[c]? := fun c h => by rw [e2, List.getElem?_set_ne (Ne.symm h)]
            have l2 : s2.length = s'.length := by rw [e2, List.length_set]
            have hl1 := lo'.1
            refine ⟨⟨⟨by rw [l2]; exact (lo.trans lo').1, fun k hk => (k2 k (by omega)).trans ((lo.trans lo').2 k hk)⟩, by rw [l2]; omega⟩, ts ++ [t], ?_, ⟨?_, ?_, fun c hc2 => ?_⟩, by rw [ef, List.length_append, List.length_append, hlen]; rfl, fun q hq => ?_, fun t' ht' => ?_⟩
            · rw [e2, List.getElem?_set_self (by omega), List.map_append]; rfl
            · refine atRs_snoc.mpr ⟨atRs_keep ts ha fun c hc2 => ?_, atR_keep t ht3.at_ fun c hc2 => ?_⟩
              · have := hb c hc2
                exact (k2 c (by omega)).trans (lo'.2 c this.2)
              · have := ht3.lo c hc2
                exact k2 c (by omega)
            · rw [clRs_snoc, List.nodup_append]
              refine ⟨hnd, ht3.nd, fun a ha2 b hb2 e => ?_⟩
              have h1 := hb a ha2
              have h2 := ht3.lo b hb2
              omega
            · rw [clRs_snoc] at hc2
              rcases List.mem_append.mp hc2 with z | z
              · have := hb c z; omega
              · have := ht3.lo c z; omega
            · rw [ef, List.zip_append hlen.symm] at hq
              rcases List.mem_append.mp hq with z | z
              · exact hall q z
              · simp at z
                rw [z]
                exact ht
            · rcases List.mem_append.mp ht' with z | z
              · exact hltr t' z
              · rw [List.mem_singleton.mp z]; exact hlt
        · have ef : ((done ++ [o]).filter fun o => hasL o l) = (done.filter fun o => hasL o l) := by rw [List.filter_append]; simp [z]
          rw [ef]
          exact ⟨⟨lo, ll⟩, ts, hc, ⟨ha, hnd, hb⟩, hlen, hall, hltr⟩
      · rintro r s ⟨⟨r0, r1, r2, r3, r4⟩, ⟨lo, ll⟩, ts, hc, ⟨ha, hnd, hb⟩, hlen, hall, hltr⟩
        simp! [r0, r1, r2, r3, r4]
        have := h2 (.meet l st.length ts) s lo ⟨by simp only [atR]; exact ⟨hc, ha⟩, by
          simp only [clR, List.nodup_cons]
          exact ⟨fun z => by have := hb _ z; omega, hnd⟩, fun c hc2 => by
          simp only [clR, List.mem_cons] at hc2
          rcases hc2 with rfl | z
          · omega
          · have := hb c z; omega⟩ (by
          simp only [unR]
          unfold isS
          rw [hk, Bool.true_and, Bool.and_eq_true, unRs_map]
          refine ⟨by simpa using hlen, List.all_eq_true.mpr fun q hq => ?_⟩
          rw [List.zip_map_right] at hq
          obtain ⟨q', hq', rfl⟩ := List.mem_map.mp hq
          exact hall q' hq') (by
          simp only [unR, ltr]
          refine ⟨hl', fun t ht => ?_⟩
          rw [unRs_map] at ht
          obtain ⟨t', ht', rfl⟩ := List.mem_map.mp ht
          exact hltr t' ht')
        simp only [dR] at this
        exact this
def dOR : Option Rf → D
  | none => .non
  | some t => dR t
theorem fewest_of_spec {f : Nat} {ws : List Wi} {st : Sto} {Q : D → Sto → Prop} (hf0 : 1 ≤ f) (hf : f ≤ 3) (hl : ws.length ≤ 7) (hs : ∀ o ∈ ws, WOk f o)
    (h : ∀ k ks t n1 st', Lo st st' → Few f (roofW kW ws) k ks (t.map unR) → (∀ u, t = some u → Tre st.length st' u ∧ n1 ∉ clR u) → st'[n1]? = some (.lst ((srt kW ks).map dW)) → st.length ≤ n1 → Q (.tup [.int (k : Int), .ref n1, dOR t]) st') : RsP (m_fewest_of [dWs ws] st) Q (fun _ _ _ => False) := by
  have hwr : ∀ w ∈ roofW kW ws, WOk f w := fun w h => hs w (mem_roofE.mp h).1
  have hlr := roofW_len (ws := ws)
  have hln : ∀ w ∈ roofW kW ws, w.length = f := fun w h => (hwr w h).1
  have hself : covAll (roofW kW ws) (roofW kW ws) := fun w hw => (allHad_iff (hln w hw)).mpr fun l hl s => hadL_iff.mpr ⟨w, hw, s⟩
  unfold m_fewest_of
  simp! []
  refine roof_of_spec hf0 (by omega) hs (by omega) ?_
  generalize roofW kW ws = rs at hwr hlr hln hself h
  have loop : ∀ (r : Sm.Env) (s0 : Sto), Lo st s0 → r 1 = some (false, dWs rs) → r 2 = some (false, .int 0) → r 3 = some (false, .non) → ((r 4 = some (false, .str "some") ∧ ∃ ks, r 5 = some (false, dWs ks) ∧ Found rs 0 [] ks) ∨ (r 4 = some (false, .str "tree") ∧ ∃ t, r 5 = some (false, dR t) ∧ Tre st.length s0 t ∧ isS rs 0 [] (unR t) = true ∧ ltr f 0 (unR t))) →
      RtP (sWhile (bBin (drOp opEq) (bVar 4) (bC (.str "tree"))) (sSq (sSet 3 (bVar 5)) (sSq (sSet 2 (bBin (drOp opAdd) (bVar 2) (bC (.int 1)))) (sTo (tgU [(tgN 4), (tgN 5)]) (bCall (m_searched 8) [(bVar 1), (bLst []), (bVar 2)])))) r s0)
        (fun r2 st2 => RtP (sRet (bTup [(bVar 2), (bRef (bCall (drB fSort) [(bVar 5)])), (bVar 3)]) r2 st2) (fun _ _ => False) Q (fun _ _ _ => False) (fun _ _ _ _ => False)) Q (fun _ _ _ => False) (fun _ _ _ _ => False) := by
    intro r s0 lo0 r1 r2 r3 r45
    refine while_rule (fun m r s => Lo st s ∧ ∃ (k : Nat) (tp : Option Rf), k + m = rs.length + 1 ∧ r 1 = some (false, dWs rs) ∧ r 2 = some (false, .int (k : Int)) ∧ r 3 = some (false, dOR tp) ∧ (match tp with | none => k = 0 | some t => 1 ≤ k ∧ isS rs (k - 1) [] (unR t) = true ∧ ltr f (k - 1) (unR t)) ∧ (∀ u, tp = some u → Tre st.length s u) ∧
      ((r 4 = some (false, .str "some") ∧ ∃ ks, r 5 = some (false, dWs ks) ∧ Found rs k [] ks) ∨ (r 4 = some (false, .str "tree") ∧ ∃ t, r 5 = some (false, dR t) ∧ Tre st.length s t ∧ isS rs k [] (unR t) = true ∧ ltr f k (unR t))))
      (rs.length + 1) ⟨lo0, 0, none, by omega, r1, r2, r3, rfl, fun u e => (nomatch e), r45⟩ ?_
    rintro m r s ⟨lo, k, tp, hm, r1, r2, r3, htp, hat, r45⟩
    rcases r45 with ⟨r4, ks, r5, hk⟩ | ⟨r4, t, r5, hta, ht, hlt⟩
    · simp! [r1, r2, r3, r4, r5, ↓eqv_str, shp_str, sFew, Bool.false_eq_true]
      have hsub : ∀ o ∈ ks, o ∈ rs := by
        obtain ⟨ex, e1, _, e3⟩ := hk.ext
        intro o ho
        rw [e1] at ho
        exact e3 o (by simpa using ho)
      have hlen : ks.length ≤ k := by
        obtain ⟨ex, e1, e2, _⟩ := hk.ext
        rw [e1]; simpa using e2
      have hnl : ks.length ≤ 1000 := by
        have : ks.length ≤ rs.length := (List.Nodup.length_le_of_subset hk.nd hsub)
        omega
      have hneq : k ≤ ks.length := by
        cases tp with
        | none => simp only at htp; omega
        | some t =>
          simp only at htp
          refine Classical.byContradiction fun n => ?_
          exact shown_sound hln (k - 1) [] (unR t) htp.2.1 htp.2.2 ks hsub (by omega) (by simpa using hk.cov)
      simp only [dWs]
      simp! [r1, r2, r3, r4, r5]
      refine ⟨sortW_ok (fun w h e => by have := (hwr w (hsub w h)).1; rw [e] at this; simp at this; omega) (by simp only [LIM]; omega), ?_⟩
      rw [sortW]
      refine h k ks tp s.length _ (lo.trans .push) ⟨by omega, hsub, hk.nd, hk.cov, ?_⟩ (fun u eu => ⟨(hat u eu).grow .push, fun z => by have := (hat u eu).lo _ z; omega⟩) push_at lo.1
      cases tp with
      | none => exact htp
      | some t => exact htp
    · have hkr : k < rs.length := by
        refine Classical.byContradiction fun n => ?_
        exact shown_sound hln k [] (unR t) ht hlt rs (fun _ h => h) (by omega) (by simpa using hself)
      simp! [r1, r2, r3, r4, r5, ↓eqv_str, shp_str, sFew]
      refine searched_spec hf (by omega) hwr (k + 1) 7 ((k : Int) + 1) [] _ _ _ (by omega) (by omega) (by simp; omega) (by simp) (by simp) (fun ks s' lo' hk => ?_) (fun t' s' lo' hta' ht' hlt' => ?_)
      · simp! [r1, r2, r3, r4, r5]
        exact ⟨m - 1, by omega, lo.trans lo', k + 1, some t, by omega, by simp, rfl, ⟨by omega, by simpa using ht, by simpa using hlt⟩, fun u e => by cases e; exact hta.grow lo', .inl ⟨ks, rfl, hk⟩⟩
      · simp! [r1, r2, r3, r4, r5]
        exact ⟨m - 1, by omega, lo.trans lo', k + 1, some t, by omega, by simp, rfl, ⟨by omega, by simpa using ht, by simpa using hlt⟩, fun u e => by cases e; exact hta.grow lo', .inr ⟨t', rfl, ⟨hta'.at_, hta'.nd, fun c hc => by have := hta'.lo c hc; have := lo.1; omega⟩, ht', hlt'⟩⟩
  simp! []
  refine searched_spec hf (by omega) hwr 0 7 0 [] _ _ _ (by omega) (by omega) (by simp) (by simp) (by simp) (fun ks s' lo' hk => ?_) (fun t s' lo' hta ht hlt => ?_)
  · have F := loop ((((((argEnv [dWs ws]).set 1 (some (false, dWs rs))).set 2 (some (false, .int 0))).set 3 (some (false, .non))).set 4 (some (false, .str "some"))).set 5 (some (false, dWs ks))) s' lo' (by simp! []) (by simp! []) (by simp! []) (.inl ⟨by simp! [], ks, by simp! [], hk⟩)
    simp! [] at F ⊢
    exact F
  · have F := loop ((((((argEnv [dWs ws]).set 1 (some (false, dWs rs))).set 2 (some (false, .int 0))).set 3 (some (false, .non))).set 4 (some (false, .str "tree"))).set 5 (some (false, dR t))) s' lo' (by simp! []) (by simp! []) (by simp! []) (.inr ⟨by simp! [], t, by simp! [], hta, ht, hlt⟩)
    simp! [] at F ⊢
    exact F
theorem law_letters_spec {w : List (Int × Int)} {st : Sto} {Q : D → Sto → Prop} {E} (hw : w.length ≤ 3) (hb : ∀ p ∈ w, (0 ≤ p.1 ∧ p.2 ≤ 9) ∧ p.1 ≤ 9 ∧ 0 ≤ p.2) (h : Q (dTs (lets w)) st) : RsP (m__law_letters [dW w] st) Q E := by
  unfold m__law_letters dW
  simp! []
  refine for_rule (fun done _ r s => s = st ∧ r 1 = some (false, .lst ((done.foldl stepL [[]]).map dT)) ∧ (done.foldl stepL [[]]).length ≤ 10 ^ done.length ∧ ∀ l ∈ done.foldl stepL [[]], l.length = done.length) ⟨rfl, by simp! []; simp [dT], by simp, by simp⟩ ?_ ?_
  · rintro done p rest r s e ⟨rfl, r1, hl, hll⟩
    have hp := hb p (by rw [e]; simp)
    have hd : done.length ≤ 2 := by
      have := congrArg List.length e
      simp at this
      omega
    have hl2 : (done.foldl stepL [[]]).length ≤ 100 := Nat.le_trans hl (Nat.le_trans (Nat.pow_le_pow_right (by decide) hd) (by decide))
    have ef : (done ++ [p]).foldl stepL [[]] = stepL (done.foldl stepL [[]]) p := by simp
    have hr := rng_len hp.1.1 hp.1.2
    simp! [r1, dP, ef]
    generalize done.foldl stepL [[]] = fd at hl hl2 hll r1 ⊢
    refine for_rule (fun dn _ r' s' => s' = s ∧ r' 2 = some (false, .int p.1) ∧ r' 3 = some (false, .int p.2) ∧ r' 4 = some (true, .lst ((stepL dn p).map dT))) ⟨rfl, by simp! [], by simp! [], by simp! []; simp [stepL]⟩ ?_ ?_
    · rintro dn l rs r' s' e' ⟨rfl, r2, r3, r4⟩
      have hm : l ∈ fd := by rw [e']; simp
      have hdn : dn.length < fd.length := by rw [e']; simp
      have h0 : (stepL dn p).length ≤ 1000 := by
        rw [stepL_len]
        have := Nat.mul_le_mul (Nat.le_trans (Nat.le_of_lt hdn) hl2) hr
        omega
      have hr' := hr
      rw [rng_length] at hr'
      simp! [r2, r3, r4, B62, rangeD_map]
      refine ⟨by omega, ?_⟩
      refine lc_pure (fun _ => true) (fun n => dT (l ++ [n])) ?_ ?_ ?_
      · intro n hn
        simp! [dT, LIM]
        rw [List.length_map, hll l hm]
        refine ⟨by omega, by simp⟩
      · rw [List.length_map, List.length_range]
        simp only [LIM]
        omega
      · rw [filt_t]
        simp! []
        refine ⟨?_, ?_⟩
        · simp only [List.length_map, List.length_range, LIM]
          omega
        · simp [stepL, Sm.rng, Function.comp_def]
    · rintro r' s' ⟨rfl, r2, r3, r4⟩
      simp! [r4]
      refine ⟨?_, ?_⟩
      · rw [stepL_len, List.length_append, List.length_singleton, Nat.pow_succ]
        exact Nat.mul_le_mul hl hr
      · intro x hx
        unfold stepL at hx
        rw [List.mem_flatMap] at hx
        obtain ⟨y, hy, hx⟩ := hx
        rw [List.mem_map] at hx
        obtain ⟨z, _, rfl⟩ := hx
        simp [hll y hy]
  · rintro r s ⟨rfl, r1, hl, _⟩
    simp! [r1]
    rw [letters_eq]
    exact h
theorem law_has_spec {w : List (Int × Int)} {l : List Int} {st : Sto} {Q : D → Sto → Prop} {E} (hw : w.length ≤ 1000) (h : Q (.bl (hasL w l)) st) : RsP (m__law_has [dW w, dT l] st) Q E := by
  unfold m__law_has dW dT
  simp! [zipd_map]
  refine lc_pure (fun q => decide (q.1 < q.2.1) || decide (q.1 > q.2.2)) (fun q => .int 1) ?_ (by simp [LIM]; omega) ?_
  · rintro ⟨n, a, b⟩ ha
    simp! [dP, atI_1]
    simp only [decide_eq_true_eq, decide_eq_false_iff_not, D.bl.injEq, and_true, implies_true]
    refine ⟨fun z => ?_, fun z => ?_⟩
    · simp [z]
    · simp [z]
  · simp! [↓eqv_nil]
    refine ⟨?_, by simp [shp_lst], ?_⟩
    · simp [shp_lst, shp_int]
    · have : (List.map (fun q => D.int 1) (List.filter (fun q => decide (q.1 < q.2.1) || decide (q.1 > q.2.2)) (l.zip w))).isEmpty = hasL w l := by
        rw [List.isEmpty_map, Bool.eq_iff_iff]
        simp only [List.isEmpty_iff, List.filter_eq_nil_iff, hasL, List.all_eq_true]
        refine forall_congr' fun q => forall_congr' fun _ => ?_
        simp
      rw [this]
      exact h
theorem law_covers_spec {a b : List (Int × Int)} {st : Sto} {Q : D → Sto → Prop} {E} (hw : a.length ≤ 1000) (hb : b.length ≤ 1000) (hv : ∀ p ∈ b, p.1 ≤ p.2) (h : Q (.bl (covL a b)) st) : RsP (m__law_covers [dW a, dW b] st) Q E := by
  unfold m__law_covers
  simp! []
  simp only [dW]
  simp! []
  refine lc_pure (fun _ => true) (fun q => .int q.1) ?_ (by simp only [LIM]; omega) ?_
  · rintro ⟨x, y⟩ ha
    simp! [dP]
  · rw [filt_t]
    simp! []
    refine lc_pure (fun _ => true) (fun q => .int q.2) ?_ (by simp only [LIM]; omega) ?_
    · rintro ⟨x, y⟩ ha
      simp! [dP, atI_1]
    · rw [filt_t]
      simp! []
      have e1 : D.tup (b.map fun q => .int q.1) = dT (b.map (·.1)) := by simp [dT]
      have e2 : D.tup (b.map fun q => .int q.2) = dT (b.map (·.2)) := by simp [dT]
      rw [e1, e2]
      refine law_has_spec (w := a) hw ?_
      simp! []
      have key : covL a b = (hasL a (b.map (·.1)) && hasL a (b.map (·.2))) := by
        clear h hw hb e1 e2
        induction b generalizing a with
        | nil => simp [covL, hasL]
        | cons q b ih =>
          cases a with
          | nil => simp [covL, hasL]
          | cons p a =>
            have := ih (a := a) fun p hp => hv p (List.mem_cons_of_mem _ hp)
            have hq := hv q (List.mem_cons_self ..)
            simp only [covL, hasL, List.zip_cons_cons, List.map_cons, List.all_cons] at *
            rw [this, Bool.eq_iff_iff]
            simp only [Bool.and_eq_true, decide_eq_true_eq]
            constructor
            · rintro ⟨⟨h1, h2⟩, h3, h4⟩; exact ⟨⟨⟨h1, by omega⟩, h3⟩, ⟨by omega, h2⟩, h4⟩
            · rintro ⟨⟨⟨h1, _⟩, h3⟩, ⟨_, h2⟩, h4⟩; exact ⟨⟨h1, h2⟩, h3, h4⟩
      refine ⟨fun z => ?_, fun z => ?_⟩
      · refine law_has_spec (w := a) hw ?_
        rw [key, z, Bool.true_and] at h
        exact h
      · rw [key, z, Bool.false_and] at h
        exact h
theorem law_roof_spec {f : Nat} {ws : List Wi} {st : Sto} {Q : D → Sto → Prop} {E} (hf : 1 ≤ f) (hf3 : f ≤ 1000) (hw : ∀ w ∈ ws, WOk f w) (hl : ws.length ≤ 1000) (h : Q (dWs (roofW kW ws)) st) : RsP (m__law_roof [dWs ws] st) Q E := by
  have ne : ∀ w ∈ ws, w ≠ [] := fun w h e => by
    have := (hw w h).1
    rw [e] at this
    simp at this
    omega
  unfold m__law_roof
  simp only [dWs]
  simp! []
  refine ⟨sortW_ok ne (by simp only [LIM]; omega), ?_⟩
  rw [sortW]
  refine for_rule (fun done _ r s => s = st ∧ r 0 = some (false, .lst (ws.map dW)) ∧ ∃ acc, r 1 = some (true, .lst (acc.map dW)) ∧ acc.Pairwise (ltE kW) ∧ (∀ x, x ∈ acc ↔ x ∈ done ∧ ∀ o ∈ ws, o ≠ x → covL o x = false) ∧ acc.length ≤ done.length) ⟨rfl, by simp! [], [], by simp! [], .nil, by simp, Nat.le_refl _⟩ ?_ ?_
  · rintro done a rest r s e ⟨rfl, r0, acc, r1, hp, hm, hle⟩
    have hs := (srt_split e).2
    have ha : WOk f a := hw a (mem_srt.mp (by rw [e]; simp))
    have hd : done.length < 1000 := by
      have := congrArg List.length e
      rw [srt_len] at this
      simp at this
      omega
    simp! [r0, r1]
    refine lc_pure (enc := dW) (xs := ws) (fun o => decide (o ≠ a) && covL o a) dW ?_ (by simp only [LIM]; omega) ?_
    · intro o ho
      have hoo := hw o ho
      simp! [↓eqv_dW, ↓shp_dW, r0, r1]
      refine ⟨⟨fun z => law_covers_spec (by rw [hoo.1]; omega) (by rw [ha.1]; omega) (fun p hp => (ha.2 p hp).2.1) ⟨?_, rfl⟩, fun z => ?_⟩, fun _ => trivial⟩
      · have : o ≠ a := by simpa using z
        simp [this]
      · have : o = a := by simpa using z
        simp [this]
    · have sh : shp 60 (.lst (acc.map dW)) = true := shp_dWs
      have sh2 : ∀ l : List Wi, shp 60 (.lst (l.map dW)) = true := fun l => shp_dWs
      have len : acc.length < LIM := by simp only [LIM]; omega
      have key : (ws.filter fun o => decide (o ≠ a) && covL o a).isEmpty = true ↔ ∀ o ∈ ws, o ≠ a → covL o a = false := by
        rw [List.isEmpty_iff, List.filter_eq_nil_iff]
        refine forall_congr' fun o => forall_congr' fun _ => ?_
        simp
      simp! [r0, r1, ↓eqv_nil, sh, sh2, ↓shp_lst, ↓shp_dW, List.isEmpty_map, List.length_map, any_dW, List.all_nil, Bool.true_xor]
      refine ⟨fun z => ⟨fun y => ⟨len, acc ++ [a], by simp, ?_, fun x => ?_, by simp; omega⟩, fun y => ?_⟩, fun z => ?_⟩
      · exact rise_add hp (fun x hx => hs x ((hm x).mp hx).1) (by simpa using y)
      · rw [List.mem_append, List.mem_append, List.mem_singleton, hm]
        constructor
        · rintro (⟨h1, h2⟩ | rfl)
          · exact ⟨.inl h1, h2⟩
          · exact ⟨.inr rfl, key.mp z⟩
        · rintro ⟨h1 | h1, h2⟩
          · exact .inl ⟨h1, h2⟩
          · exact .inr h1
      · refine ⟨acc, rfl, hp, fun x => ?_, by simp; omega⟩
        have y' : a ∈ acc := by simpa using y
        rw [List.mem_append, List.mem_singleton, hm]
        constructor
        · rintro ⟨h1, h2⟩; exact ⟨.inl h1, h2⟩
        · rintro ⟨h1 | rfl, h2⟩
          · exact ⟨h1, h2⟩
          · exact (hm x).mp y'
      · refine ⟨acc, rfl, hp, fun x => ?_, by simp; omega⟩
        rw [List.mem_append, List.mem_singleton, hm]
        constructor
        · rintro ⟨h1, h2⟩; exact ⟨.inl h1, h2⟩
        · rintro ⟨h1 | rfl, h2⟩
          · exact ⟨h1, h2⟩
          · exact absurd (key.mpr h2) (by rw [z]; simp)
  · rintro r s ⟨rfl, r0, acc, r1, hp, hm, _⟩
    simp! [r1]
    have : acc = roofW kW ws := roofE_eq okW hp fun x => by rw [hm, mem_srt]
    rw [this]
    exact h
theorem fl_any {α : Type} {p : α → Bool} {xs : List α} : (xs.filter p).isEmpty = !xs.any p := by
  induction xs with
  | nil => rfl
  | cons x xs ih =>
    rw [List.filter_cons, List.any_cons]
    cases p x with
    | true => rfl
    | false => simpa using ih
theorem law_lacks_spec {ws ch : List Wi} {l : List Int} {st : Sto} {Q : D → Sto → Prop} {E} (hl : ws.length ≤ 1000) (hw : ∀ o ∈ ws, o.length ≤ 1000) (hcl : ch.length ≤ 1000) (hc : ∀ o ∈ ch, o.length ≤ 1000) (h : Q (.bl (lackL ws ch l)) st) : RsP (m__law_lacks [dWs ws, dWs ch, dT l] st) Q E := by
  have s1 : ∀ xs : List Wi, shp 60 (.lst (xs.map fun _ => D.int 1)) = true := fun xs => by rw [shp_lst, List.all_map]; simp [shp_int]
  unfold m__law_lacks
  simp only [dWs]
  simp! []
  refine lc_pure (enc := dW) (xs := ws) (fun o => hasL o l) (fun _ => .int 1) ?_ (by simp only [LIM]; omega) ?_
  · intro o ho
    simp! []
    exact ⟨law_has_spec (hw o ho) ⟨rfl, rfl⟩, fun _ => trivial⟩
  simp! [↓eqv_nil, s1, ↓shp_lst, List.all_nil, List.isEmpty_map, fl_any]
  unfold lackL hadL at h
  refine ⟨fun z => ?_, fun z => ?_⟩
  · have z' : (ws.any fun o => hasL o l) = false := by simpa using z
    rw [z', Bool.false_and] at h
    exact h
  · have z' : (ws.any fun o => hasL o l) = true := by simpa using z
    rw [z', Bool.true_and] at h
    refine lc_pure (enc := dW) (xs := ch) (fun o => hasL o l) (fun _ => .int 1) ?_ (by simp only [LIM]; omega) ?_
    · intro o ho
      simp! []
      exact ⟨law_has_spec (hc o ho) ⟨rfl, rfl⟩, fun _ => trivial⟩
    simp! [↓eqv_nil, s1, ↓shp_lst, List.all_nil, List.isEmpty_map, fl_any]
    exact h
theorem zip_snd {α β : Type} {xs : List α} {ys : List β} (h : ys.length = xs.length) {y : β} (hy : y ∈ ys) : ∃ x, (x, y) ∈ xs.zip ys := by
  obtain ⟨i, hi, rfl⟩ := List.getElem_of_mem hy
  exact ⟨xs[i]'(by omega), List.mem_iff_getElem.mpr ⟨i, by rw [List.length_zip]; omega, by simp⟩⟩
section
variable {f : Nat} {ws : List Wi}
theorem shown_left {n : Nat} {ch : List Wi} {t : Ft} (h : isS ws n ch t = true) : (n = 0 ∧ ∃ l, t = .left l ∧ lackL ws ch l = true) ∨ ∃ k l ts, n = k + 1 ∧ t = .meet l ts ∧ lackL ws ch l = true ∧ ts.length = (ws.filter fun o => hasL o l).length ∧ ∀ q ∈ (ws.filter fun o => hasL o l).zip ts, isS ws k (ch ++ [q.1]) q.2 = true := by
  cases n with
  | zero =>
    cases t with
    | left l => exact .inl ⟨rfl, l, rfl, h⟩
    | meet l ts => exact Bool.noConfusion (show false = true from h)
  | succ k =>
    cases t with
    | left l => exact Bool.noConfusion (show false = true from h)
    | meet l ts =>
      unfold isS at h
      rw [Bool.and_eq_true, Bool.and_eq_true, decide_eq_true_eq, List.all_eq_true] at h
      exact .inr ⟨k, l, ts, rfl, rfl, h⟩
theorem okG1 {s : Sto} {n : Nat} {o : SO} (h : s[n]? = some o) : okG [(n, o)] s := by
  intro g hg
  rw [List.mem_singleton.mp hg]
  exact h
theorem law_shown_R (hf : f ≤ 3) (hl : ws.length ≤ 900) (hs : ∀ o ∈ ws, WOk f o) : ∀ (m n : Nat) (t : Rf) (c : Int) (ch : List Wi) (st : Sto) (Q : D → Sto → Prop) (E), n < m → c = (n : Int) → ch.length + n ≤ 900 → (∀ o ∈ ch, WOk f o) → atR st t → isS ws n ch (unR t) = true → Q (.bl true) st → RsP (m__law_is_shown m [dWs ws, dWs ch, .int c, dR t] st) Q E := by
  have sm : ∀ {xs : List Wi}, (∀ o ∈ xs, WOk f o) → ∀ o ∈ xs, o.length ≤ 1000 := fun h o ho => by rw [(h o ho).1]; omega
  intro m
  induction m with
  | zero => intro n t c ch st Q E h; omega
  | succ m ih =>
    intro n t c ch st Q E hm hc hcl hco ha hi hq
    rw [e__law_is_shown]
    cases t with
    | left l =>
      rcases shown_left hi with ⟨rfl, l', e, hk⟩ | ⟨k, l', ts, rfl, e, hk⟩
      · simp only [unR] at e
        cases e
        simp only [dR]
        simp! [atI_1]
        refine law_lacks_spec (by omega) (sm hs) (by omega) (sm hco) ?_
        rw [hk]
        simp! [↓eqv_str, shp_str, sFew, ↓eqv_int, ↓shp_int]
        subst hc
        simpa using hq
      · simp only [unR] at e
        cases e
    | meet l nn ts =>
      rcases shown_left hi with ⟨rfl, l', e, hk⟩ | ⟨k, l', ts', rfl, e, hk, hlen, hall⟩
      · simp only [unR] at e
        cases e
      simp only [unR] at e
      cases e
      simp only [atR] at ha
      obtain ⟨hc1, hat⟩ := ha
      simp only [dR]
      simp! [atI_1]
      refine law_lacks_spec (by omega) (sm hs) (by omega) (sm hco) ?_
      rw [hk]
      simp only [dWs]
      simp! [↓eqv_str, shp_str, sFew, ↓eqv_int, ↓shp_int, Bool.false_eq_true]
      refine lc_pure (enc := dW) (xs := ws) (fun o => hasL o l) dW ?_ (by simp only [LIM]; omega) ?_
      · intro o ho
        simp! [atI_1]
        exact ⟨law_has_spec (sm hs o ho) ⟨rfl, rfl⟩, fun _ => trivial⟩
      · have hfl : (ws.filter fun o => hasL o l).length ≤ ws.length := List.length_filter_le ..
        have hfw : ∀ o ∈ ws.filter fun o => hasL o l, WOk f o := fun o ho => hs o (List.mem_filter.mp ho).1
        rw [unRs_map] at hlen hall
        rw [List.length_map] at hlen
        generalize ws.filter (fun o => hasL o l) = there at hlen hall hfl hfw
        have c1 : ¬ c < 1 := by omega
        have e1 : ((ts.map dR).length : Int) = ((there.map dW).length : Int) := by rw [List.length_map, List.length_map, hlen]
        simp! [atI_2, hc1, e1, ↓eqv_int, ↓shp_int, c1]
        rw [zipd_map]
        refine for_rule (enc := fun q : Wi × Rf => .tup [dW q.1, dR q.2]) (fun done _ r s => st = s ∧ r 0 = some (false, .lst (ws.map dW)) ∧ r 1 = some (false, .lst (ch.map dW)) ∧ r 2 = some (false, .int c)) ⟨rfl, by simp! [], by simp! [], by simp! []⟩ ?_ ?_ (fun _ _ _ s h => by rw [← h.1]; exact okG1 hc1)
        · rintro done ⟨o, t'⟩ rest r s e ⟨rfl, r0, r1, r2⟩
          have hq2 : (o, t') ∈ there.zip ts := by rw [e]; simp
          have hm' := List.of_mem_zip hq2
          simp! [r0, r1, r2, map_snoc, List.length_map]
          refine ⟨by simp only [List.length_cons, List.length_nil, LIM]; omega, ?_⟩
          refine ih k t' (c - 1) (ch ++ [o]) _ _ _ (by omega) (by omega) (by rw [List.length_append, List.length_singleton]; omega) (fun v hv => (List.mem_append.mp hv).elim (hco v) fun z => List.mem_singleton.mp z ▸ hfw o hm'.1) (atRs_mem hat hm'.2) ?_ ?_
          · refine hall (o, unR t') ?_
            rw [List.zip_map_right]
            exact List.mem_map.mpr ⟨(o, t'), hq2, rfl⟩
          · simp! [r0, r1, r2]
        · rintro r s ⟨rfl, _⟩
          simp! []
          exact hq
theorem mdx : (eqv (.tup [.str "left"]) (.tup [.str "left"]) = true ∧ eqv (.tup [.str "left"]) (.tup [.str "meet"]) = false ∧ eqv (.tup [.str "meet"]) (.tup [.str "left"]) = false ∧ eqv (.tup [.str "meet"]) (.tup [.str "meet"]) = true) ∧ (eqv (.str "left") (.str "meet") = false ∧ eqv (.str "meet") (.str "meet") = true ∧ eqv (.str "left") (.str "left") = true ∧ eqv (.str "meet") (.str "left") = false) ∧ (shp 60 (.tup [.str "left"]) = true ∧ shp 60 (.tup [.str "meet"]) = true ∧ shp 60 (.str "left") = true ∧ shp 60 (.str "meet") = true ∧ shp 60 (.lst [.tup [.str "left"], .tup [.str "meet"]]) = true) := by decide +kernel
theorem law_made_R (hf : f ≤ 3) (hl : ws.length ≤ 900) : ∀ (m n : Nat) (t : Rf) (ch : List Wi) (st : Sto) (Q : D → Sto → Prop) (E), n < m → atR st t → isS ws n ch (unR t) = true → ltr f n (unR t) → Q (.bl true) st → RsP (m__law_is_made m [dR t, .int (f : Int)] st) Q E := by
  obtain ⟨⟨a1, a2, a3, a4⟩, ⟨b1, b2, b3, b4⟩, d1, d2, d3, d4, d5⟩ := mdx
  have e22 : (((2 : Nat) : Int) = (2 : Int)) = True := eq_true rfl
  have e33 : (((3 : Nat) : Int) = (3 : Int)) = True := eq_true rfl
  have sh00 : shp 60 (.lst []) = true := by decide +kernel
  have ez : eqv (.lst []) (.lst []) = true := by decide +kernel
  have letter : ∀ (l : List Int) (r : Sm.Env) (st : Sto) (Q : D → Sto → Prop) (E), l.length = f → Q (.lst []) st → RsP (lcL (tgN 2) (bOr (bNot (bIsiD "int" (bVar 2))) (bIsiD "bool" (bVar 2))) (bC (.int 1)) [] r (l.map D.int) [] st) Q E := fun l r st Q E hl2 hq => by
    refine lc_pure (enc := D.int) (fun _ => false) (fun _ => .int 1) (fun x hx => ⟨_, rfl, ?_, fun z => Bool.noConfusion z⟩) (by simp only [LIM]; omega) ?_
    · simp! []
      simp [tyN, isTN]
    · rw [List.filter_eq_nil_iff.mpr (by simp)]
      exact hq
  intro m
  induction m with
  | zero => intro n t ch st Q E h; omega
  | succ m ih =>
    intro n t ch st Q E hm ha hi hlt hq
    rw [e__law_is_made]
    cases t with
    | left l =>
      rcases shown_left hi with ⟨rfl, l', e, hk⟩ | ⟨k, l', ts, rfl, e, hk⟩
      · have hl2 : l.length = f := by simpa only [unR, ltr] using hlt
        have dt : dT l = .tup (l.map D.int) := rfl
        simp only [dR, dt]
        have c1 : cut [D.str "left", .tup (l.map D.int)] none (some 1) = [D.str "left"] := rfl
        have t1 : tyN (.tup [D.str "left", .tup (l.map D.int)]) = some "tuple" := rfl
        have t2 : tyN (.tup (l.map D.int)) = some "tuple" := rfl
        have i1 : isTN "tuple" "tuple" = true := by decide
        have lc : (([D.str "left", .tup (l.map D.int)].length : Nat) : Int) = 2 := rfl
        have at23 : atI [D.int 2, D.int 3] 0 = some (.int 2) := rfl
        simp! [t1, t2, i1, c1, a1, a2, b1, b3, d1, d2, d3, d4, d5, atI_1, at23, lc, e22, e33, ↓eqv_int, ↓shp_int, List.any_cons, List.any_nil, List.length_map, hl2, Bool.true_or, Bool.or_true, Bool.true_xor, Bool.not_true, Bool.not_false, Bool.false_eq_true, Bool.true_eq_false]
        refine letter l _ st _ _ hl2 ?_
        simp! [sh00, ez, Bool.true_eq_false]
        exact hq
      · simp only [unR] at e
        cases e
    | meet l nn ts =>
      rcases shown_left hi with ⟨rfl, l', e, hk⟩ | ⟨k, l', ts', rfl, e, hk, hlen, hall⟩
      · simp only [unR] at e
        cases e
      simp only [unR] at e
      cases e
      have hlt2 : l.length = f ∧ ∀ t ∈ unRs ts, ltr f k t := by simpa only [unR, ltr] using hlt
      obtain ⟨hl2, hlts⟩ := hlt2
      simp only [atR] at ha
      obtain ⟨hc1, hat⟩ := ha
      rw [unRs_map] at hlen hall hlts
      rw [List.length_map] at hlen
      have dt : dT l = .tup (l.map D.int) := rfl
      simp only [dR, dt]
      have c1 : cut [D.str "meet", .tup (l.map D.int), .ref nn] none (some 1) = [D.str "meet"] := rfl
      have t1 : tyN (.tup [D.str "meet", .tup (l.map D.int), .ref nn]) = some "tuple" := rfl
      have t2 : tyN (.tup (l.map D.int)) = some "tuple" := rfl
      have t3 : ∀ ds : List D, tyN (.lst ds) = some "list" := fun _ => rfl
      have i1 : isTN "tuple" "tuple" = true := by decide
      have i2 : isTN "list" "list" = true := by decide
      have lc : (([D.str "meet", .tup (l.map D.int), .ref nn].length : Nat) : Int) = 3 := rfl
      have at23 : atI [D.int 2, D.int 3] 1 = some (.int 3) := rfl
      simp! [t1, t2, i1, c1, a3, a4, b2, b4, d1, d2, d3, d4, d5, atI_1, at23, lc, e22, e33, ↓eqv_int, ↓shp_int, List.any_cons, List.any_nil, List.length_map, hl2, Bool.true_or, Bool.or_true, Bool.true_xor, Bool.not_true, Bool.not_false, Bool.false_eq_true, Bool.true_eq_false]
      refine letter l _ st _ _ hl2 ?_
      simp! [sh00, ez, Bool.true_eq_false, b4, d3, d4, atI_2, hc1, t3, i2]
      refine lc_pure (enc := dR) (fun _ => false) (fun _ => .int 1) (fun u hu => ⟨_, rfl, ?_, fun z => Bool.noConfusion z⟩) ?_ ?_ (okG1 hc1)
      · obtain ⟨o, hz⟩ := zip_snd hlen hu
        simp! []
        refine ih k u (ch ++ [o]) st _ _ (by omega) (atRs_mem hat hu) ?_ (hlts _ (List.mem_map.mpr ⟨u, hu, rfl⟩)) ?_
        · refine hall (o, unR u) ?_
          rw [List.zip_map_right]
          exact List.mem_map.mpr ⟨(o, u), hz, rfl⟩
        · simp! [Bool.not_true]
      · have := List.length_filter_le (fun o => hasL o l) ws
        simp only [LIM]; omega
      · rw [List.filter_eq_nil_iff.mpr (by simp)]
        simp! [sh00, ez]
        exact hq
theorem clRs_app : ∀ xs ys : List Rf, clRs (xs ++ ys) = clRs xs ++ clRs ys
  | [], ys => by simp [clRs]
  | x :: xs, ys => by simp [clRs, clRs_app xs ys]
theorem cls_len {X : Nat} : ∀ {ts : List Rf}, (∀ u ∈ ts, (clR u).length + 1 ≤ X) → (clRs ts).length + ts.length ≤ ts.length * X
  | [], _ => by simp [clRs]
  | u :: ts, h => by
    have h1 := h u List.mem_cons_self
    have h2 := cls_len (ts := ts) fun v hv => h v (List.mem_cons_of_mem _ hv)
    simp only [clRs, List.length_append, List.length_cons, Nat.add_mul]
    omega
theorem cl_len (hl : ws.length ≤ 7) : ∀ (n : Nat) (t : Rf) (ch : List Wi), isS ws n ch (unR t) = true → (clR t).length + 1 ≤ 8 ^ n := by
  intro n
  induction n with
  | zero =>
    intro t ch hi
    cases t with
    | left l => simp [clR]
    | meet l nn ts =>
      rcases shown_left hi with ⟨_, l', e, _⟩ | ⟨k, _, _, e, _⟩
      · simp only [unR] at e; cases e
      · omega
  | succ n ih =>
    intro t ch hi
    cases t with
    | left l =>
      have : 0 < 8 ^ (n + 1) := Nat.pow_pos (by decide)
      simp only [clR, List.length_nil]; omega
    | meet l nn ts =>
      rcases shown_left hi with ⟨e, _⟩ | ⟨k, l', ts', ek, e, hk, hlen, hall⟩
      · omega
      simp only [unR] at e
      cases e
      obtain rfl : n = k := by omega
      rw [unRs_map] at hlen hall
      rw [List.length_map] at hlen
      have h1 := cls_len (X := 8 ^ n) (ts := ts) fun u hu => by
        obtain ⟨o, hz⟩ := zip_snd hlen hu
        refine ih u (ch ++ [o]) (hall (o, unR u) ?_)
        rw [List.zip_map_right]
        exact List.mem_map.mpr ⟨(o, u), hz, rfl⟩
      have fl := List.length_filter_le (fun o => hasL o l) ws
      have h2 : ts.length * 8 ^ n ≤ 7 * 8 ^ n := Nat.mul_le_mul_right _ (by omega)
      have h3 : 0 < 8 ^ n := Nat.pow_pos (by decide)
      simp only [clR, List.length_cons, Nat.pow_succ]
      by_cases z : ts.length = 0
      · have : ts = [] := List.eq_nil_of_length_eq_zero z
        subst this
        simp only [clRs, List.length_nil]
        omega
      · omega
theorem law_lists_R : ∀ (m n : Nat) (t : Rf) (ch : List Wi) (st : Sto) (Q : D → Sto → Prop) (E), n < m → atR st t → (clR t).length ≤ 900000 → isS ws n ch (unR t) = true → Q (.lst ((clR t).map D.ref)) st → RsP (m__law_lists m [dR t] st) Q E := by
  obtain ⟨⟨a1, a2, a3, a4⟩, ⟨b1, b2, b3, b4⟩, d1, d2, d3, d4, d5⟩ := mdx
  intro m
  induction m with
  | zero => intro n t ch st Q E h; omega
  | succ m ih =>
    intro n t ch st Q E hm ha hcl hi hq
    rw [e__law_lists]
    cases t with
    | left l =>
      simp only [dR]
      simp! [b3, d3, Bool.true_eq_false]
      simp only [clR, List.map_nil] at hq
      exact hq
    | meet l nn ts =>
      rcases shown_left hi with ⟨rfl, l', e, hk⟩ | ⟨k, l', ts', rfl, e, hk, hlen, hall⟩
      · simp only [unR] at e
        cases e
      simp only [unR] at e
      cases e
      simp only [atR] at ha
      obtain ⟨hc1, hat⟩ := ha
      rw [unRs_map] at hlen hall
      rw [List.length_map] at hlen
      simp only [clR] at hcl hq
      rw [List.length_cons] at hcl
      simp only [dR]
      simp! [b4, d3, d4, atI_2, hc1, Bool.false_eq_true]
      refine for_rule (enc := dR) (fun dn rest r s => st = s ∧ ts = dn ++ rest ∧ r 1 = some (false, .lst ((nn :: clRs dn).map D.ref))) ⟨rfl, rfl, by simp! []; simp [clRs]⟩ ?_ ?_
      · rintro dn u rest r s e ⟨rfl, _, r1⟩
        have hu : u ∈ ts := by rw [e]; simp
        obtain ⟨o, hz⟩ := zip_snd hlen hu
        have ec : clRs ts = clRs dn ++ (clR u ++ clRs rest) := by
          rw [e, clRs_app]
          simp [clRs]
        have l1 := congrArg List.length ec
        rw [List.length_append, List.length_append] at l1
        refine ⟨_, rfl, ?_⟩
        simp! [r1]
        refine ih k u (ch ++ [o]) st _ _ (by omega) (atRs_mem hat hu) (by omega) ?_ ?_
        · refine hall (o, unR u) ?_
          rw [List.zip_map_right]
          exact List.mem_map.mpr ⟨(o, u), hz, rfl⟩
        · simp! [List.length_map]
          refine ⟨by simp only [LIM]; omega, by rw [e]; simp, ?_⟩
          rw [clRs_snoc]
          simp
      · rintro r s ⟨rfl, _, r1⟩
        simp! [r1]
        exact hq
end
def nkT (l : List Int) : NestedKey := .tup (l.map .num)
theorem nks_T : ∀ l : List Int, nksOf (l.map D.int) = some (l.map .num)
  | [] => by simp [nksOf]
  | x :: l => by
    have e : nkOf (.int x) = some (.num x) := by simp [nkOf]
    simp only [List.map_cons, nksOf, e, nks_T l]
theorem dep_T : ∀ l : List Int, NestedKey.depthAll (l.map .num) ≤ 1
  | [] => by simp [NestedKey.depthAll]
  | x :: l => by
    have := dep_T l
    simp only [List.map_cons, NestedKey.depthAll, NestedKey.depth]
    omega
theorem ntx_T : ∀ l : List Int, noTxs (l.map .num) = true
  | [] => rfl
  | x :: l => by
    simp only [List.map_cons, noTxs, noTx, ntx_T l, Bool.and_self]
theorem ne_T : NE dT nkT := ⟨fun l => by
  have e : nkOf (.tup (l.map D.int)) = some (nkT l) := by simp [nkOf, nks_T, nkT]
  show (nkOf (.tup (l.map D.int))).bind _ = _
  rw [e]
  have := dep_T l
  have z : (nkT l).depth ≤ 8 := by
    unfold nkT NestedKey.depth
    omega
  simp [z], fun x y h => dT_inj x y h⟩
theorem onceT {ls : List (List Int)} : onceD (ls.map dT) = (once kT ls).map dT := onceD_enc al_dT (fun _ => nb_dT) dT_inj
section
variable {st : Sto} {Q : D → Sto → Prop} {E : Str → Option (Str × D) → Sto → Prop}
theorem f_sortMT {ls : List (List Int)} {ds : List D} (hn : ls.Nodup) (hw : ∀ l ∈ ls, l ≠ []) (hl : ls.length ≤ LIM) (h : Q (.lst ((once kT ls).map dT)) st) : RsP (fSortM [.dct (.non :: ls.map dT) ds] st) Q E := by
  unfold fSortM
  have c : (∀ d ∈ ls.map dT, ∃ k, tkOf d = some k ∧ noTx k = true) ∧ (ls.map dT).Nodup ∧ PySem.W.AllAlike (pys (ls.map dT)) ∧ PySem.W.Sortable (pys (ls.map dT)) := ⟨fun d hd => by
    obtain ⟨w, _, rfl⟩ := List.mem_map.mp hd
    exact ⟨nkT w, ne_T.tk w, ntx_T w⟩, List.pairwise_map.mpr (hn.imp fun h e => h (dT_inj _ _ e)), (sortT_ok hw hl).2⟩
  simp only [if_pos c]
  rw [onceT]
  exact h
end
theorem lets_len3 {f : Nat} {w : Wi} (hw : WOk f w) (hf : f ≤ 3) : (lets w).length ≤ 1000 := by
  have key : ∀ w : Wi, (∀ p ∈ w, 0 ≤ p.1 ∧ p.1 ≤ p.2 ∧ p.2 ≤ 9) → (lets w).length ≤ 10 ^ w.length := fun w => by
    induction w with
    | nil => intro _; simp [lets]
    | cons p w ih =>
      intro hp
      have h1 := ih fun q hq => hp q (List.mem_cons_of_mem _ hq)
      have h2 := hp p List.mem_cons_self
      simp only [lets]
      have e : ∀ ns : List Int, (ns.flatMap fun n => (lets w).map fun l => n :: l).length = ns.length * (lets w).length := fun ns => by
        induction ns with
        | nil => simp
        | cons n ns ih => rw [List.flatMap_cons, List.length_append, ih, List.length_map, List.length_cons, Nat.add_mul]; omega
      rw [e, List.length_cons, Nat.pow_succ, Nat.mul_comm]
      refine Nat.mul_le_mul h1 ?_
      unfold Sm.rng
      rw [List.length_map, List.length_range]
      omega
  have h1 := key w hw.2
  rw [hw.1] at h1
  have h2 : 10 ^ f ≤ 10 ^ 3 := Nat.pow_le_pow_right (by decide) hf
  omega
section
variable {f : Nat} {ws : List Wi} {st : Sto} {Q : D → Sto → Prop} {E : Str → Option (Str × D) → Sto → Prop}
theorem union_spec (hf : f ≤ 3) (hw : ∀ w ∈ ws, WOk f w) (hl : ws.length ≤ 20)
    (hq : ∀ K : List (List Int), K.Nodup → (∀ l, l ∈ K ↔ ∃ w ∈ ws, l ∈ lets w) → K.length ≤ 20000 → Q (.dct (.non :: K.map dT) (K.map fun _ => .bl true)) st) : RsP (m__law_union [.lst (ws.map dW)] st) Q E := by
  unfold m__law_union
  simp! []
  refine for_rule (enc := dW) (fun dn rest r s => st = s ∧ ∃ K : List (List Int), r 1 = some (true, .dct (.non :: K.map dT) (K.map fun _ => .bl true)) ∧ K.Nodup ∧ (∀ l, l ∈ K ↔ ∃ w ∈ dn, l ∈ lets w) ∧ K.length ≤ 1000 * dn.length) ⟨rfl, [], rfl, List.nodup_nil, by simp, by simp⟩ ?_ ?_
  · rintro dn w rest r s e ⟨rfl, K, r1, nd, hk, hkl⟩
    have hw2 := hw w (by rw [e]; simp)
    have ll := lets_len3 hw2 hf
    have dl : dn.length < 20 := by
      have := congrArg List.length e
      rw [List.length_append, List.length_cons] at this
      omega
    refine ⟨_, rfl, ?_⟩
    simp! []
    refine law_letters_spec (by rw [hw2.1]; exact hf) (fun p hp => by have := hw2.2 p hp; omega) ?_
    simp only [dTs]
    simp! []
    refine for_rule (enc := dT) (fun dl rest2 r s => st = s ∧ ∃ K2 : List (List Int), r 1 = some (true, .dct (.non :: K2.map dT) (K2.map fun _ => .bl true)) ∧ K2.Nodup ∧ (∀ l, l ∈ K2 ↔ l ∈ K ∨ l ∈ dl) ∧ K2.length ≤ K.length + dl.length) ⟨rfl, K, by simp! []; exact r1, nd, by simp, by simp⟩ ?_ ?_
    · rintro dl2 l rest2 r s e2 ⟨rfl, K2, r1, nd2, hk2, hkl2⟩
      have dl3 : dl2.length < (lets w).length := by rw [e2, List.length_append, List.length_cons]; omega
      refine ⟨_, rfl, ?_⟩
      simp! [r1]
      refine ⟨nkT l, ne_T.tk l, by rw [List.length_map]; simp only [LIM]; omega, ?_⟩
      by_cases z : l ∈ K2
      · rw [ne_T.putK_old z, ne_T.putV_old z]
        refine ⟨K2, by congr 3; simp, nd2, fun x => ?_, by rw [List.length_append]; omega⟩
        rw [hk2, List.mem_append, List.mem_singleton, ← or_assoc]
        constructor
        · exact .inl
        · rintro (h | rfl)
          · exact h
          · exact (hk2 x).mp z
      · rw [ne_T.putK_new z, ne_T.putV_new z]
        refine ⟨K2 ++ [l], by simp, List.nodup_append.mpr ⟨nd2, by simp, fun a ha b hb e => z (by rw [← List.mem_singleton.mp hb, ← e]; exact ha)⟩, fun x => ?_, by simp only [List.length_append, List.length_cons, List.length_nil]; omega⟩
        rw [List.mem_append, List.mem_append, hk2, List.mem_singleton, or_assoc]
    · rintro r s ⟨rfl, K2, r1, nd2, hk2, hkl2⟩
      refine ⟨rfl, K2, r1, nd2, fun x => ?_, by rw [List.length_append, List.length_singleton]; omega⟩
      rw [hk2, hk]
      simp only [List.mem_append, List.mem_singleton]
      constructor
      · rintro (⟨v, hv, h⟩ | h)
        · exact ⟨v, .inl hv, h⟩
        · exact ⟨w, .inr rfl, h⟩
      · rintro ⟨v, hv | rfl, h⟩
        · exact .inl ⟨v, hv, h⟩
        · exact .inr h
  · rintro r s ⟨rfl, K, r1, nd, hk, hkl⟩
    simp! [r1]
    exact hq K nd hk (by omega)
def chF (ws : List Wi) : List (List Wi) := ws.foldl (fun F w => F ++ F.map (· ++ [w])) [[]]
theorem snoc_ind {α : Type} {P : List α → Prop} (h0 : P []) (h1 : ∀ xs x, P xs → P (xs ++ [x])) (xs : List α) : P xs := by
  have : ∀ ys : List α, P ys.reverse := fun ys => by
    induction ys with
    | nil => exact h0
    | cons y ys ih => rw [List.reverse_cons]; exact h1 _ y ih
  have := this xs.reverse
  rwa [List.reverse_reverse] at this
theorem chF_snoc {w : Wi} : chF (ws ++ [w]) = chF ws ++ (chF ws).map (· ++ [w]) := by unfold chF; rw [List.foldl_append]; rfl
theorem chF_len : (chF ws).length = 2 ^ ws.length := by
  induction ws using snoc_ind with
  | h0 => rfl
  | h1 ws w ih => rw [chF_snoc, List.length_append, List.length_map, ih, List.length_append, List.length_singleton, Nat.pow_succ]; omega
theorem chF_sub {ks : List Wi} : ∀ {ws : List Wi}, ks ∈ chF ws → ∀ w ∈ ks, w ∈ ws := fun {ws} => by
  induction ws using snoc_ind generalizing ks with
  | h0 => intro h w hw; rw [show chF [] = [[]] from rfl, List.mem_singleton] at h; rw [h] at hw; exact nomatch hw
  | h1 ws v ih =>
    intro h w hw
    rw [chF_snoc, List.mem_append, List.mem_map] at h
    rcases h with h | ⟨k, hk, rfl⟩
    · exact List.mem_append_left _ (ih h w hw)
    · rcases List.mem_append.mp hw with z | z
      · exact List.mem_append_left _ (ih hk w z)
      · exact List.mem_append_right _ z
theorem chF_len2 {ks : List Wi} : ∀ {ws : List Wi}, ks ∈ chF ws → ks.length ≤ ws.length := fun {ws} => by
  induction ws using snoc_ind generalizing ks with
  | h0 => intro h; rw [show chF [] = [[]] from rfl, List.mem_singleton] at h; rw [h]; simp
  | h1 ws v ih =>
    intro h
    rw [chF_snoc, List.mem_append, List.mem_map] at h
    rw [List.length_append, List.length_singleton]
    rcases h with h | ⟨k, hk, rfl⟩
    · have := ih h; omega
    · have := ih hk; rw [List.length_append, List.length_singleton]; omega
theorem chF_filter {p : Wi → Bool} : ws.filter p ∈ chF ws := by
  induction ws using snoc_ind with
  | h0 => exact List.mem_singleton.mpr rfl
  | h1 ws v ih =>
    rw [chF_snoc, List.filter_append, List.mem_append]
    by_cases z : p v = true
    · rw [List.filter_cons_of_pos z, List.filter_nil]
      exact .inr (List.mem_map.mpr ⟨_, ih, rfl⟩)
    · rw [List.filter_cons_of_neg z, List.filter_nil, List.append_nil]
      exact .inl ih
theorem choices_spec (hl : ws.length ≤ 10) (hq : Q (.lst ((chF ws).map dWs)) st) : RsP (m__law_choices [.lst (ws.map dW)] st) Q E := by
  unfold m__law_choices
  simp! []
  refine for_rule (enc := dW) (fun dn rest r s => st = s ∧ ws = dn ++ rest ∧ r 1 = some (false, .lst ((chF dn).map dWs))) ⟨rfl, rfl, by simp! []; rfl⟩ ?_ ?_
  · rintro dn w rest r s e ⟨rfl, _, r1⟩
    have dl : dn.length ≤ 10 := by
      have := congrArg List.length e
      rw [List.length_append, List.length_cons] at this
      omega
    have cl : (chF dn).length ≤ 1024 := by
      rw [chF_len]
      exact Nat.le_trans (Nat.pow_le_pow_right (by decide) dl) (by decide)
    refine ⟨_, rfl, ?_⟩
    simp! [r1]
    refine lc_pure (enc := dWs) (fun _ => true) (fun ks => dWs (ks ++ [w])) (fun ks hk => ⟨_, rfl, ?_, fun _ => ?_⟩) (by simp only [LIM]; omega) ?_
    · simp! []
    · have := chF_len2 hk
      simp only [dWs]
      simp! [List.length_map, List.length_cons, List.length_nil]
      refine ⟨by simp only [LIM]; omega, by simp⟩
    · rw [filt_t]
      simp! [List.length_map]
      refine ⟨by simp only [LIM]; omega, by rw [e]; simp, ?_⟩
      rw [chF_snoc, List.map_append, List.map_map]
      rfl
  · rintro r s ⟨rfl, _, r1⟩
    simp! [r1]
    exact hq
theorem has_all_core {ks : List Wi} {Ls : List (List Int)} (hk : ∀ w ∈ ks, w.length ≤ 1000) (hl : ks.length ≤ 1000) {x : D} (hx : x = .lst (ks.map dW) ∨ ∃ n, x = .ref n ∧ st[n]? = some (.lst (ks.map dW))) (hq : Q (.bl (Ls.all fun l => hadL ks l)) st) : RsP (m__law_has_all [x, .lst (Ls.map dT)] st) Q E := by
  have s1 : ∀ xs : List Wi, shp 60 (.lst (xs.map fun _ => D.int 1)) = true := fun xs => by rw [shp_lst, List.all_map]; simp [shp_int]
  have s0 : shp 60 (.lst []) = true := by decide +kernel
  have look : ∀ (gs : Gd) (r : Sm.Env) (l : List Int) (Q2 : D → Sto → Prop) (E2), r 2 = some (false, dT l) → okG gs st → Q2 (.lst ((ks.filter fun o => hasL o l).map fun _ => .int 1)) st → RsP (lcL (tgN 3) (bCall m__law_has [(bVar 3), (bVar 2)]) (bC (.int 1)) gs r (ks.map dW) [] st) Q2 E2 := fun gs r l Q2 E2 r2 hg q2 => by
    refine lc_pure (enc := dW) (xs := ks) (fun o => hasL o l) (fun _ => .int 1) (fun o ho => ⟨_, rfl, ?_, fun _ => ?_⟩) (by simp only [LIM]; omega) q2 hg
    · simp! [r2]
      exact law_has_spec (hk o ho) ⟨rfl, rfl⟩
    · simp! []
  unfold m__law_has_all
  simp! []
  refine for_rule (enc := dT) (fun dn rest r s => st = s ∧ r 0 = some (false, x) ∧ ∀ l ∈ dn, hadL ks l = true) ⟨rfl, by simp! [], by simp⟩ ?_ ?_
  · rintro dn l rest r s e ⟨rfl, r0, hd⟩
    refine ⟨_, rfl, ?_⟩
    have fin : RsP (lcL (tgN 3) (bCall m__law_has [(bVar 3), (bVar 2)]) (bC (.int 1)) [] (wp [3] (r.set 2 (some (false, dT l)))) (ks.map dW) [] st) (fun _ _ => True) E → True := fun _ => trivial
    have hne : ((ks.filter fun o => hasL o l).map fun _ => D.int 1).isEmpty = !hadL ks l := by
      rw [List.isEmpty_map, fl_any]; rfl
    have hall : hadL ks l = false → (Ls.all fun l => hadL ks l) = false := fun z => by
      rw [e, List.all_append, List.all_cons, z]; simp
    have tail : ∀ b : Bool, b = hadL ks l → ((!b) = true → Q (.bl false) st) ∧ ((!b) = false → st = st ∧ r 0 = some (false, x) ∧ ∀ l' ∈ dn ++ [l], hadL ks l' = true) := fun b eb => by
      subst eb
      refine ⟨fun z => ?_, fun z => ⟨rfl, r0, fun l' hl' => ?_⟩⟩
      · have z : hadL ks l = false := by simpa using z
        rw [hall z] at hq
        exact hq
      · rcases List.mem_append.mp hl' with h | h
        · exact hd l' h
        · rw [List.mem_singleton.mp h]; simpa using z
    have tl := tail _ rfl
    rcases hx with rfl | ⟨n, rfl, hn⟩
    · simp! [r0]
      refine look _ _ l _ _ (by simp! []) (okG_nil.mpr trivial) ?_
      simp! [↓eqv_nil, s1, s0, ↓shp_lst, List.all_nil, hne]
      exact ⟨fun z => tl.1 (by rw [z]; rfl), fun z => (tl.2 (by rw [z]; rfl)).2.2⟩
    · simp! [r0, hn]
      refine look _ _ l _ _ (by simp! []) (okG1 hn) ?_
      simp! [↓eqv_nil, s1, s0, ↓shp_lst, List.all_nil, hne]
      exact ⟨fun z => tl.1 (by rw [z]; rfl), fun z => (tl.2 (by rw [z]; rfl)).2.2⟩
  · rintro r s ⟨rfl, r0, hd⟩
    simp! []
    rw [List.all_eq_true.mpr hd] at hq
    exact hq
end
theorem numd_mapQ {α : Type} {enc : α → D} : ∀ (k : Nat) (xs : List α), numd k (xs.map enc) = (xs.zipIdx k).map fun q => .tup [.int (q.2 : Int), enc q.1]
  | _, [] => rfl
  | k, x :: xs => by simp [numd, numd_mapQ (k + 1) xs]
theorem eqv_same {d : D} (h : nb d = true) : eqv d d = true := py_refl d h
def mkd (k : Nat) : D := .tup [.str "left", .int (k : Int)]
theorem mkd_shp {k : Nat} : shp 59 (mkd k) = true := by
  unfold mkd
  rw [shp_tup]
  simp only [List.all_cons, List.all_nil, shp_int, Bool.and_true]
  decide +kernel
theorem mkd_nb {k : Nat} : nb (mkd k) = true := by
  simp [mkd, nb, nbs]
section
variable {st : Sto} {Q : D → Sto → Prop} {E : Str → Option (Str × D) → Sto → Prop} {f : Nat} {ws : List Wi}
theorem zip_fst {ns : List Nat} {dn : List (Nat × Nat)} {q : Nat × Nat} {rest : List (Nat × Nat)} (e : ns.zipIdx = dn ++ q :: rest) : ns = dn.map Prod.fst ++ q.1 :: rest.map Prod.fst := by
  have h : ns.zipIdx.map Prod.fst = ns := by simp
  rw [e, List.map_append, List.map_cons] at h
  exact h.symm
theorem apart_spec {ns : List Nat} (nd : ns.Nodup) (hl : ns.length ≤ 900000) (hc : ∀ n ∈ ns, ∃ ds, st[n]? = some (.lst ds) ∧ ds.length < 1000)
    (hq : ∀ st', st'.length = st.length → (∀ c, c ∉ ns → st'[c]? = st[c]?) → (∀ n ∈ ns, ∃ ds, st'[n]? = some (.lst ds)) → Q (.bl true) st') : RsP (m__law_apart [.lst (ns.map D.ref)] st) Q E := by
  unfold m__law_apart
  simp! [numd_mapQ]
  refine for_rule (enc := fun q : Nat × Nat => .tup [.int (q.2 : Int), .ref q.1]) (fun dn rest r s1 => r 0 = some (false, .lst (ns.map D.ref)) ∧ s1.length = st.length ∧ (∀ c, c ∉ dn.map Prod.fst → s1[c]? = st[c]?) ∧ ∀ q ∈ dn, ∃ ds, s1[q.1]? = some (.lst (ds ++ [mkd q.2])))
    ⟨by simp! [], rfl, fun _ _ => rfl, fun q hq => nomatch hq⟩ ?_ ?_
  · rintro dn ⟨n, k⟩ rest r s1 e ⟨r0, h1, h2, h3⟩
    have ef := zip_fst e
    have nd2 := nd
    rw [ef] at nd2
    have nn : n ∉ dn.map Prod.fst := fun z => (List.nodup_append.mp nd2).2.2 n z n List.mem_cons_self rfl
    have hn : n ∈ ns := by rw [ef]; simp
    obtain ⟨ds, hd, hdl⟩ := hc n hn
    have hs : s1[n]? = some (.lst ds) := (h2 n nn).trans hd
    have hlt : n < s1.length := (List.getElem?_eq_some_iff.mp hs).1
    refine ⟨_, rfl, ?_⟩
    simp! [hs]
    refine ⟨by simp only [LIM]; omega, r0, by rw [List.length_set, h1], fun c hc2 => ?_, fun q hq2 => ?_⟩
    · rw [List.map_append, List.mem_append] at hc2
      rw [List.getElem?_set_ne (fun z => hc2 (.inr (by simp [z])))]
      exact h2 c fun z => hc2 (.inl z)
    · rcases List.mem_append.mp hq2 with z | z
      · have : q.1 ≠ n := fun z2 => nn (z2 ▸ List.mem_map.mpr ⟨q, z, rfl⟩)
        rw [List.getElem?_set_ne (Ne.symm this)]
        exact h3 q z
      · rw [List.mem_singleton.mp z]
        exact ⟨ds, by rw [List.getElem?_set_self hlt]; rfl⟩
  · rintro r s1 ⟨r0, h1, h2, h3⟩
    have ef : ns.zipIdx.map Prod.fst = ns := by simp
    have es : ns.zipIdx.map Prod.snd = List.range ns.length := by rw [List.range_eq_range']; simp
    have e0 : ns.map D.ref = ns.zipIdx.map fun q => D.ref q.1 := by
      rw [show ns.map D.ref = (ns.zipIdx.map Prod.fst).map D.ref by rw [ef], List.map_map]
      rfl
    have zl : ns.zipIdx.length = ns.length := by simp
    simp! [r0]
    rw [e0]
    refine lc_pure (enc := fun q : Nat × Nat => D.ref q.1) (fun _ => true) (fun q => mkd q.2) (fun q hq2 => ⟨_, rfl, ?_, fun _ => ?_⟩) (by rw [zl]; simp only [LIM]; omega) ?_
    · simp! []
    · obtain ⟨ds, hd⟩ := h3 q hq2
      have ea : atI (ds ++ [mkd q.2]) (-1) = some (mkd q.2) := by rw [atI_getLast]; simp
      simp! [hd, ea]
    · rw [filt_t]
      simp! [r0, List.length_map, rangeD_map, B62]
      refine ⟨by omega, ?_⟩
      refine lc_pure (enc := D.int) (fun _ => true) (fun k => .tup [.str "left", .int k]) (fun k hk => ⟨_, rfl, ?_, fun _ => ?_⟩) (by rw [List.length_map, List.length_range]; simp only [LIM]; omega) ?_
      · simp! []
      · simp! []
      · rw [filt_t]
        have eR : (((List.range (ns.zipIdx.length : Int).toNat).map fun (i : Nat) => (0 : Int) + (i : Int)).map fun k => D.tup [.str "left", .int k]) = ns.zipIdx.map fun q => mkd q.2 := by
          rw [Int.toNat_natCast, zl, ← es, List.map_map, List.map_map]
          refine List.map_congr_left fun q _ => ?_
          simp [mkd]
        rw [eR]
        have sh : shp 60 (.lst (ns.zipIdx.map fun q => mkd q.2)) = true := by
          rw [shp_lst, List.all_map]
          exact List.all_eq_true.mpr fun _ _ => mkd_shp
        have nbL : nb (.lst (ns.zipIdx.map fun q => mkd q.2)) = true := by
          rw [nb_lst, List.all_map]
          exact List.all_eq_true.mpr fun _ _ => mkd_nb
        simp! [sh, eqv_same nbL]
        refine hq s1 h1 (fun c hc2 => h2 c (by rw [ef]; exact hc2)) fun n hn => ?_
        rw [← ef] at hn
        obtain ⟨q, hq2, rfl⟩ := List.mem_map.mp hn
        obtain ⟨ds, hd⟩ := h3 q hq2
        exact ⟨_, hd⟩
theorem wts_le {c : Nat} : ∀ {xs : List D}, (∀ x ∈ xs, wt x ≤ c) → wts xs ≤ (c + 2) * xs.length
  | [], _ => by simp [wts]
  | x :: xs, h => by
    have ih := wts_le (xs := xs) fun y hy => h y (List.mem_cons_of_mem _ hy)
    have hx := h x List.mem_cons_self
    simp only [wts, List.length_cons, Nat.mul_succ]
    omega
theorem wt_i {i : Int} (h : 0 ≤ i ∧ i ≤ 1000) : wt (.int i) = 90 := by
  have e : (1000 : Int) < I400 := by unfold I400; decide +kernel
  simp only [wt]
  rw [if_pos (by omega)]
theorem wt_w {w : Wi} (hw : WOk f w) (hf : f ≤ 3) : wt (dW w) < 16777216 := by
  have := wts_le (c := 188) (xs := w.map dP) fun x hx => by
    obtain ⟨p, hp, rfl⟩ := List.mem_map.mp hx
    have h := hw.2 p hp
    unfold dP
    simp only [wt, wts]
    have e1 := wt_i (i := p.1) (by omega)
    have e2 := wt_i (i := p.2) (by omega)
    simp only [wt] at e1 e2
    rw [e1, e2]
    omega
  rw [List.length_map, hw.1] at this
  have e : wt (dW w) = wts (w.map dP) + 4 := rfl
  rw [e]
  have : (188 + 2) * f ≤ (188 + 2) * 3 := Nat.mul_le_mul_left _ hf
  omega
theorem shw_s {d : D} (h : wt d < 16777216) : shp 60 (.str (shw d)) = true := by rw [shp_str]; exact shw_ok h
theorem eqv_sS {x : Str} : eqv (.str x) (.str x) = true := by simp [eqv_str]
theorem right_spec {k : Nat} {kI : Int} {n1 : Nat} {t : Rf} {ks : List Wi} {Ls : List (List Int)} (hf0 : 1 ≤ f) (hf : f ≤ 3) (hw : ∀ w ∈ ws, WOk f w) (hl : ws.length ≤ 7) (wne : ws ≠ []) (hk : 1 ≤ k ∧ k ≤ 7) (hkI : kI = (k : Int)) (hn1 : st[n1]? = some (.lst (ks.map dW))) (hlen : ks.length = k) (hpw : ks.Pairwise (ltE kW)) (hsub : ∀ w ∈ ks, w ∈ roofW kW ws) (hall : ∀ l ∈ Ls, hadL ks l = true)
    (hat : atR st t) (hi : isS (roofW kW ws) (k - 1) [] (unR t) = true) (hlt : ltr f (k - 1) (unR t)) (hq : Q (.bl true) st) : RsP (m__law_right [.lst (ws.map dW), .int kI, .lst (Ls.map dT), .tup [.int kI, .ref n1, dR t]] st) Q E := by
  have hwr : ∀ w ∈ roofW kW ws, WOk f w := fun w h => hw w (mem_roofE.mp h).1
  have hlr := roofW_len (ws := ws)
  have hwk : ∀ w ∈ ks, WOk f w := fun w h => hwr w (hsub w h)
  have s0 : shp 60 (.lst []) = true := by decide +kernel
  have ez : eqv (.lst []) (.lst []) = true := by decide +kernel
  have t1 : ∀ xs : List D, tyN (.tup xs) = some "tuple" := fun _ => rfl
  have t3 : ∀ ds : List D, tyN (.lst ds) = some "list" := fun _ => rfl
  have i1 : isTN "tuple" "tuple" = true := by decide
  have i2 : isTN "list" "list" = true := by decide
  have wk := wt_i (i := kI) (by omega)
  have wk2 : wt (.int kI) < 16777216 := by rw [wk]; decide
  have e33 : (([D.int kI, .ref n1, dR t].length : Nat) : Int) = 3 := rfl
  have kne : ∀ w ∈ ks, w ≠ [] := fun w h e => by have := (hwk w h).1; rw [e] at this; simp at this; omega
  have eo : once kW ks = ks := (once_eq okW hpw fun _ => Iff.rfl).symm
  have ok := setW_ok kne (by simp only [LIM]; omega) (by rw [eo]; omega)
  have shK : shp 60 (.lst (ks.map dW)) = true := shp_dWs
  have nbK : nb (.lst (ks.map dW)) = true := nb_dWs (p := ks)
  unfold m__law_right
  rw [w_mk]
  obtain ⟨r0, er0⟩ : ∃ r0, r0 = argEnv [.lst (ws.map dW), .int kI, .lst (Ls.map dT), .tup [.int kI, .ref n1, dR t]] := ⟨_, rfl⟩
  have c0 : r0 0 = some (false, .lst (ws.map dW)) := by rw [er0]; rfl
  have c1 : r0 1 = some (false, .int kI) := by rw [er0]; rfl
  have c2 : r0 2 = some (false, .lst (Ls.map dT)) := by rw [er0]; rfl
  have c3 : r0 3 = some (false, .tup [.int kI, .ref n1, dR t]) := by rw [er0]; rfl
  rw [← er0]
  clear er0
  refine t_seq (fun r s => st = s ∧ r0 = r) ?_ ?_
  · simp! [c1, c3, t1, i1, e33, ↓eqv_int, ↓shp_int, wk2, shw_s wk2, eqv_sS, atI_0]
    exact ⟨fun h => h rfl, fun _ => trivial⟩
  rintro r s ⟨rfl, rfl⟩
  refine t_seq (fun r s => st = s ∧ r = r0.set 4 (some (false, .lst ((roofW kW ws).map dW)))) ?_ ?_
  · simp! [c0]
    refine law_roof_spec hf0 (by omega) hw (by omega) ?_
    simp! []
    rfl
  rintro r s ⟨rfl, rfl⟩
  generalize er : r0.set 4 (some (false, .lst ((roofW kW ws).map dW))) = r1
  have d0 : r1 0 = some (false, .lst (ws.map dW)) := by rw [← er]; exact c0
  have d1 : r1 1 = some (false, .int kI) := by rw [← er]; exact c1
  have d2 : r1 2 = some (false, .lst (Ls.map dT)) := by rw [← er]; exact c2
  have d3 : r1 3 = some (false, .tup [.int kI, .ref n1, dR t]) := by rw [← er]; exact c3
  have d4 : r1 4 = some (false, .lst ((roofW kW ws).map dW)) := by rw [← er]; rfl
  clear er c0 c1 c2 c3
  have lk : ((ks.length : Nat) : Int) = kI := by rw [hlen, hkI]
  refine t_seq (fun r s => st = s ∧ r1 = r) ?_ ?_
  · simp! [w_sortSetN, f_sortSetL, d1, d3, atI_1, hn1, t3, i2, List.length_map, lk, ↓eqv_int, ↓shp_int]
    refine ⟨ok, shK, ?_⟩
    rw [onceW, eo]
    exact ⟨shK, fun z => by rw [eqv_same nbK] at z; exact Bool.noConfusion z, fun _ => trivial⟩
  rintro r s ⟨rfl, rfl⟩
  have shR : shp 60 (.lst ((roofW kW ws).map fun w => .str (shw (dW w)))) = true := by
    rw [shp_lst, List.all_map, List.all_eq_true]
    intro w hw2
    show shp 59 (.str (shw (dW w))) = true
    rw [shp_str]
    exact shw_ok (wt_w (hwr w hw2) hf)
  refine t_seq (fun r s => st = s ∧ r = r1.set 5 (some (false, .lst ((roofW kW ws).map fun w => .str (shw (dW w)))))) ?_ ?_
  · simp! [d4]
    refine lc_pure (enc := dW) (fun _ => true) (fun w => .str (shw (dW w))) (fun w hw2 => ⟨_, rfl, ?_, fun _ => ?_⟩) (by simp only [LIM]; omega) ?_
    · simp! []
    · simp! []
      exact ⟨shp_dW, wt_w (hwr w hw2) hf⟩
    · rw [filt_t]
      exact ⟨rfl, rfl⟩
  rintro r s ⟨rfl, rfl⟩
  refine t_seq (fun r s => st = s ∧ r = r1.set 5 (some (false, .lst ((roofW kW ws).map fun w => .str (shw (dW w)))))) ?_ ?_
  · simp! [d3, d2, atI_1, hn1]
    refine lc_pure (enc := dW) (fun _ => false) (fun _ => .int 1) (fun w hw2 => ⟨_, rfl, ?_, fun z => Bool.noConfusion z⟩) (by simp only [LIM]; omega) ?_ (okG1 hn1)
    · have hr := hsub w hw2
      have hany : (((roofW kW ws).map fun w => D.str (shw (dW w))).any fun z => eqv z (.str (shw (dW w)))) = true := by
        rw [List.any_map]
        exact List.any_eq_true.mpr ⟨w, hr, eqv_sS⟩
      have sw := shw_s (wt_w (hwk w hw2) hf)
      have s40 : shp 40 (dW w) = true := shp_dW
      have ww := wt_w (hwk w hw2) hf
      simp! [s40, ww, shR, sw, hany]
      simp
    · rw [List.filter_eq_nil_iff.mpr (by simp)]
      simp! [s0, ez, List.map_nil]
      exact has_all_core (fun w h => by rw [(hwk w h).1]; omega) (by omega) (.inr ⟨n1, rfl, hn1⟩) (by rw [List.all_eq_true.mpr hall]; exact ⟨fun z => Bool.noConfusion z, fun _ => rfl⟩)
  rintro r s ⟨rfl, rfl⟩
  obtain ⟨w0, ew0, hw0⟩ : ∃ w0, atI (ws.map dW) 0 = some (dW w0) ∧ WOk f w0 := by
    cases ws with
    | nil => exact absurd rfl wne
    | cons w ws => exact ⟨w, by rw [List.map_cons, atI_0], hw w List.mem_cons_self⟩
  have lw : ((w0.map dP).length : Int) = (f : Int) := by rw [List.length_map, hw0.1]
  have dw : dW w0 = .tup (w0.map dP) := rfl
  rw [dw] at ew0
  generalize hff : (f : Int) = fI at lw
  simp! [d0, d1, d3, d4, atI_2, ew0, lw]
  rw [← hff]
  refine law_made_R hf (by omega) 9 (k - 1) t [] st _ _ (by omega) hat hi hlt ?_
  simp! []
  exact law_shown_R (ws := roofW kW ws) hf (by omega) hwr 9 (k - 1) t (kI - 1) [] st _ _ (by omega) (by omega) (by simp only [List.length_nil]; omega) (by simp) hat hi hq
end
theorem Pot.stayQ {s s' : Sto} (pt : Pot 0 s) (e : s'[0]? = s[0]?) : Pot 0 s' := by
  obtain ⟨c1, c2, c3, c4, c5⟩ := pt
  exact ⟨c1, c2, c3, e.trans c4, c5⟩
def rgW (a : Int) : List Wi := [[(a, a + 3), (0, 1)], [(a + 2, a + 5), (0, 3)], [(a + 3, a + 5), (2, 5)], [(a, a + 4), (4, 5)], [(a, a + 1), (1, 5)], [(a, a + 2), (2, 4)]]
theorem rgW_ok {a : Int} (h0 : 0 ≤ a) (h1 : a < 4) : ∀ w ∈ rgW a, WOk 2 w := by
  intro w hw
  unfold rgW at hw
  simp only [List.mem_cons, List.not_mem_nil, or_false] at hw
  rcases hw with rfl | rfl | rfl | rfl | rfl | rfl <;> refine ⟨rfl, fun p hp => ?_⟩ <;> simp only [List.mem_cons, List.not_mem_nil, or_false] at hp <;> rcases hp with rfl | rfl <;> simp only <;> omega
section
variable {s st : Sto} {Q : D → Sto → Prop} {E : Str → Option (Str × D) → Sto → Prop} {f : Nat} {ws : List Wi}
theorem ring_spec (hp : Pot 0 s) (hq : ∀ a s', (0 ≤ a ∧ a < 4) → Pot 0 s' → Q (.lst ((rgW a).map dW)) s') : RsP (m__law_ring [.ref 0] s) Q E := by
  unfold m__law_ring
  simp! []
  refine pick_spec hp (by decide) (by decide) fun a s1 a0 a1 hp1 _ => ?_
  simp! []
  refine ⟨by simp [LIM], ?_⟩
  exact hq a s1 ⟨a0, a1⟩ hp1
structure Let (f : Nat) (ws : List Wi) (Ls : List (List Int)) : Prop where
  ok : ∀ w ∈ ws, WOk f w
  mem : ∀ l, l ∈ Ls ↔ ∃ w ∈ ws, l ∈ lets w
theorem cov_all (hL : Let f ws Ls) {ks : List Wi} : covAll (roofW kW ws) ks ↔ (Ls.all fun l => hadL ks l) = true := by
  have hwr : ∀ w ∈ roofW kW ws, WOk f w := fun w h => hL.ok w (mem_roofE.mp h).1
  rw [List.all_eq_true]
  constructor
  · intro hc l hl
    obtain ⟨w, hw, hlw⟩ := (hL.mem l).mp hl
    obtain ⟨h1, h2⟩ := mem_lets.mp hlw
    have h3 : hadL (roofW kW ws) l = true := by
      rw [hadL_roof hL.ok (h1.trans (hL.ok w hw).1)]
      exact hadL_iff.mpr ⟨w, hw, h2⟩
    obtain ⟨v, hv, h4⟩ := hadL_iff.mp h3
    exact (allHad_iff (hwr v hv).1).mp (hc v hv) l (h1.trans (hL.ok w hw).1) h4
  · intro hp w hw
    exact List.all_eq_true.mpr fun l hl => hp l ((hL.mem l).mpr ⟨w, (mem_roofE.mp hw).1, hl⟩)
theorem low_in {w : Wi} (hw : ∀ p ∈ w, p.1 ≤ p.2) : w.map (·.1) ∈ lets w := by
  refine mem_lets.mpr ⟨by rw [List.length_map], ?_⟩
  unfold hasL
  rw [List.all_eq_true]
  intro q hq
  rw [List.zip_map_left] at hq
  obtain ⟨p, hp, rfl⟩ := List.mem_map.mp hq
  have h1 : p.1 = p.2 := by
    obtain ⟨i, hi, e⟩ := List.getElem_of_mem hp
    rw [← e]
    simp
  have := hw p.2 (List.of_mem_zip hp).2
  simp [h1, this]
theorem few_least (hL : Let f ws Ls) (wne : ws ≠ []) {kI : Int} {k : Nat} {ks : List Wi} {t : Option Ft} (hf : Few f (roofW kW ws) k ks t)
    (h1 : ∃ cs ∈ chF (roofW kW ws), (Ls.all fun l => hadL cs l) = true ∧ kI = (cs.length : Int)) (h2 : ∀ cs ∈ chF (roofW kW ws), (Ls.all fun l => hadL cs l) = true → kI ≤ (cs.length : Int)) : kI = (k : Int) ∧ 1 ≤ k ∧ ∃ u, t = some u ∧ isS (roofW kW ws) (k - 1) [] u = true ∧ ltr f (k - 1) u := by
  have hwr : ∀ w ∈ roofW kW ws, WOk f w := fun w h => hL.ok w (mem_roofE.mp h).1
  have a1 : (k : Int) ≤ kI := by
    obtain ⟨cs, hc, hp, e⟩ := h1
    have := hf.least (fun w hw => (hwr w hw).1) (fun o ho => chF_sub hc o ho) ((cov_all hL).mpr hp)
    omega
  have a2 : kI ≤ (k : Int) := by
    have hsub : ∀ w ∈ ks, w ∈ (roofW kW ws).filter fun w => decide (w ∈ ks) := fun w hw => List.mem_filter.mpr ⟨hf.sub w hw, decide_eq_true hw⟩
    have hc : covAll (roofW kW ws) ((roofW kW ws).filter fun w => decide (w ∈ ks)) := covAll_mono hsub hf.cov
    have h3 := h2 _ chF_filter ((cov_all hL).mp hc)
    have nd : (roofW kW ws).Nodup := by
      unfold roofW
      exact (once_pw.imp fun h => h.2 : (once kW ws).Nodup).filter _
    have nd2 : ((roofW kW ws).filter fun w => decide (w ∈ ks)).Nodup := nd.filter _
    have h4 := List.Nodup.length_le_of_subset nd2 (l₂ := ks) fun w hw => of_decide_eq_true (List.mem_filter.mp hw).2
    have := hf.len
    omega
  have k1 : 1 ≤ k := by
    refine Classical.byContradiction fun n => ?_
    have hk0 : ks = [] := List.eq_nil_of_length_eq_zero (by have := hf.len; omega)
    have hp := (cov_all hL).mp hf.cov
    obtain ⟨w, hw⟩ := List.exists_mem_of_ne_nil ws wne
    have hl := (hL.mem _).mpr ⟨w, hw, low_in fun p hp => ((hL.ok w hw).2 p hp).2.1⟩
    have := List.all_eq_true.mp hp _ hl
    rw [hk0] at this
    exact Bool.noConfusion (show false = true from this)
  refine ⟨by omega, k1, ?_⟩
  cases t with
  | none => have := hf.tr; simp only at this; omega
  | some u => exact ⟨u, rfl, hf.tr.2⟩
theorem cells_len (hl : ws.length ≤ 7) : ∀ (n : Nat) (t : Rf) (ch : List Wi), atR st t → isS ws n ch (unR t) = true → ∀ c ∈ clR t, ∃ ds, st[c]? = some (.lst ds) ∧ ds.length < 1000 := by
  intro n
  induction n with
  | zero =>
    intro t ch ha hi c hc
    cases t with
    | left l => simp [clR] at hc
    | meet l nn ts =>
      rcases shown_left hi with ⟨_, l', e, _⟩ | ⟨k, _, _, e, _⟩
      · simp only [unR] at e; cases e
      · omega
  | succ n ih =>
    intro t ch ha hi c hc
    cases t with
    | left l => simp [clR] at hc
    | meet l nn ts =>
      rcases shown_left hi with ⟨e, _⟩ | ⟨k, l', ts', ek, e, hk, hlen, hall⟩
      · omega
      simp only [unR] at e
      cases e
      obtain rfl : n = k := by omega
      rw [unRs_map] at hlen hall
      rw [List.length_map] at hlen
      have fl := List.length_filter_le (fun o => hasL o l) ws
      simp only [atR] at ha
      simp only [clR, List.mem_cons] at hc
      rcases hc with rfl | hc
      · exact ⟨_, ha.1, by rw [List.length_map]; omega⟩
      · have key : ∀ us : List Rf, (∀ u ∈ us, u ∈ ts) → c ∈ clRs us → ∃ u ∈ us, c ∈ clR u := fun us => by
          induction us with
          | nil => intro _ h; simp [clRs] at h
          | cons u us ih2 =>
            intro hs h
            simp only [clRs, List.mem_append] at h
            rcases h with h | h
            · exact ⟨u, List.mem_cons_self, h⟩
            · obtain ⟨v, hv, h⟩ := ih2 (fun x hx => hs x (List.mem_cons_of_mem _ hx)) h
              exact ⟨v, List.mem_cons_of_mem _ hv, h⟩
        obtain ⟨u, hu, hcu⟩ := key ts (fun _ h => h) hc
        obtain ⟨o, hz⟩ := zip_snd hlen hu
        refine ih u (ch ++ [o]) (atRs_mem ha.2 hu) (hall (o, unR u) ?_) c hcu
        rw [List.zip_map_right]
        exact List.mem_map.mpr ⟨(o, u), hz, rfl⟩
end
theorem t_ifX' {r : Sm.Env} {st : Sto} {N : Sm.Env → Sto → Prop} {R : D → Sto → Prop} {L : Bool → Sm.Env → Sto → Prop} {E : Str → Option (Str × D) → Sm.Env → Sto → Prop} {A : Sv} {X : Ev} {P : Sto → Prop} (h : RsP (X r st) (fun d s => d = .bl true ∧ P s) (fun _ _ _ => False)) (q : ∀ s, P s → N r s) : RtP (sIf (bNot X) A sSkip r st) N R L E := by
  rw [w_sIf, w_not]
  refine w_mono h (fun d s e => ?_) (fun _ _ _ e => e.elim)
  obtain ⟨rfl, e⟩ := e
  exact ⟨fun z => Bool.noConfusion (show false = true from z), fun _ => by rw [w_skip]; exact q s e⟩
noncomputable def bodyF : Sv := sSq (sSet 9 (bCall (drB fList) [(bVar 5)]))
    (sSq (sSet 10 (bCall m_fewest_of [(bVar 9)]))
    (sSq (sIf (bOr (bBin (drOp opNe) (bVar 9) (bVar 5)) (bNot (bCall m__law_right [(bVar 5), (bVar 7), (bVar 6), (bVar 10)]))) (sRet (bC (.bl false))) sSkip)
    (sSq (sIf (bNot (bCall m__law_apart [(bBin (drOp opAdd) (bLst [(bBin opIx (bVar 10) (bC (.int 1)))]) (bCall (m__law_lists 9) [(bBin opIx (bVar 10) (bC (.int 2)))]))])) (sRet (bC (.bl false))) sSkip)
    (sSq (sIf (bBin (drOp opNe) (bVar 9) (bVar 5)) (sRet (bC (.bl false))) sSkip)
    (sSq (sClrR (bBin opIx (bVar 10) (bC (.int 1))))
    (sIf (bBin (drOp opEq) (bBin opIx (bBin opIx (bVar 10) (bC (.int 2))) (bC (.int 0))) (bC (.str "meet"))) (sClrR (bBin opIx (bBin opIx (bVar 10) (bC (.int 2))) (bC (.int 2)))) sSkip))))))
def Oc (ns : List Nat) (s s' : Sto) : Prop := s'.length = s.length ∧ (∀ c, c ∉ ns → s'[c]? = s[c]?) ∧ ∀ n ∈ ns, ∃ ds, s'[n]? = some (.lst ds)
structure Nm14 (f : Nat) (ws : List Wi) (Ls : List (List Int)) (kI : Int) : Prop where
  ff : 1 ≤ f ∧ f ≤ 3
  L : Let f ws Ls
  ne : ws ≠ []
  len : ws.length ≤ 6
  h1 : ∃ cs ∈ chF (roofW kW ws), (Ls.all fun l => hadL cs l) = true ∧ kI = (cs.length : Int)
  h2 : ∀ cs ∈ chF (roofW kW ws), (Ls.all fun l => hadL cs l) = true → kI ≤ (cs.length : Int)
theorem bodyF_spec {f : Nat} {ws : List Wi} {Ls : List (List Int)} {kI : Int} {r : Sm.Env} {s : Sto} {Q : D → Sto → Prop} {N : Sm.Env → Sto → Prop} {L : Bool → Sm.Env → Sto → Prop} (nm : Nm14 f ws Ls kI) (pt : Pot 0 s) (c5 : r 5 = some (false, .lst (ws.map dW))) (c6 : r 6 = some (false, .lst (Ls.map dT))) (c7 : r 7 = some (false, .int kI))
    (q : ∀ r' s', (∀ i, i < 9 → r' i = r i) → Pot 0 s' → N r' s') : RtP (bodyF r s) N Q L (fun _ _ _ _ => False) := by
  obtain ⟨⟨hf0, hf⟩, hL, wne, wl, h1, h2⟩ := nm
  have hwr : ∀ w ∈ roofW kW ws, WOk f w := fun w h => hL.ok w (mem_roofE.mp h).1
  have hlr := roofW_len (ws := ws)
  have shW : shp 60 (.lst (ws.map dW)) = true := shp_dWs
  have nbW : nb (.lst (ws.map dW)) = true := nb_dWs (p := ws)
  have p0 : 0 < s.length := (List.getElem?_eq_some_iff.mp pt.choose_spec.choose_spec.choose_spec.1).1
  unfold bodyF
  refine t_seq (fun r' s' => s = s' ∧ r' = r.set 9 (some (false, .lst (ws.map dW)))) ?_ ?_
  · simp! [c5]
  rintro r' s' ⟨rfl, rfl⟩
  refine t_seq (fun r' s' => ∃ (k : Nat) (ks : List Wi) (u : Rf) (n1 : Nat), (kI = (k : Int) ∧ 1 ≤ k ∧ k ≤ 6) ∧ Lo s s' ∧ Few f (roofW kW ws) k ks (some (unR u)) ∧ (Tre s.length s' u ∧ n1 ∉ clR u) ∧ s'[n1]? = some (.lst ((srt kW ks).map dW)) ∧ s.length ≤ n1 ∧ r' = (r.set 9 (some (false, .lst (ws.map dW)))).set 10 (some (false, .tup [.int kI, .ref n1, dR u]))) ?_ ?_
  · simp! []
    refine fewest_of_spec (f := f) (ws := ws) hf0 hf (by omega) hL.ok fun k ks t n1 s' lo few ht hn1 hn2 => ?_
    obtain ⟨e1, e2, u, e3, _, _⟩ := few_least hL wne few h1 h2
    have kl : k ≤ ws.length := by
      have h3 := few.len
      have h4 := List.Nodup.length_le_of_subset few.nd few.sub
      omega
    rcases t with _ | v
    · simp at e3
    · simp! []
      exact ⟨k, ks, v, n1, ⟨e1, e2, by omega⟩, lo, few, ht v rfl, hn1, hn2, by rw [e1]; rfl⟩
  rintro r' s1 ⟨k, ks, u, n1, ⟨ek, k1, k6⟩, lo, few, ⟨tre, nn⟩, hn1, hn2, rfl⟩
  generalize er : (r.set 9 (some (false, .lst (ws.map dW)))).set 10 (some (false, .tup [.int kI, .ref n1, dR u])) = r1
  have c5 : r1 5 = some (false, .lst (ws.map dW)) := by rw [← er]; exact c5
  have c6 : r1 6 = some (false, .lst (Ls.map dT)) := by rw [← er]; exact c6
  have c7 : r1 7 = some (false, .int kI) := by rw [← er]; exact c7
  have c9 : r1 9 = some (false, .lst (ws.map dW)) := by rw [← er]; rfl
  have c10 : r1 10 = some (false, .tup [.int kI, .ref n1, dR u]) := by rw [← er]; rfl
  have re : ∀ i, i < 9 → r1 i = r i := fun i hi => by rw [← er, env_ne (by omega), env_ne (by omega)]
  clear er
  have tr := few.tr
  simp only at tr
  have hlen : (srt kW ks).length = k := by rw [srt_len]; exact few.len
  have hnd : (srt kW ks).Nodup := (srt_perm _).nodup_iff.mpr few.nd
  have hpw : (srt kW ks).Pairwise (ltE kW) := (srt_pw ks).and hnd
  have hsub : ∀ w ∈ srt kW ks, w ∈ roofW kW ws := fun w hw => few.sub w (mem_srt.mp hw)
  have hall : ∀ l ∈ Ls, hadL (srt kW ks) l = true := fun l hl => by
    have := List.all_eq_true.mp ((cov_all hL).mp few.cov) l hl
    obtain ⟨w, hw, h3⟩ := hadL_iff.mp this
    exact hadL_iff.mpr ⟨w, mem_srt.mpr hw, h3⟩
  have pt1 : Pot 0 s1 := pt.stayQ (lo.2 0 p0)
  refine t_seq (fun r' s' => s1 = s' ∧ r1 = r') ?_ ?_
  · simp! [c5, c6, c7, c9, c10, shW, eqv_same nbW]
    exact right_spec hf0 hf hL.ok (by omega) wne ⟨k1, by omega⟩ ek hn1 hlen hpw hsub hall tre.at_ tr.2.1 tr.2.2 (by simp)
  rintro r' s' ⟨rfl, rfl⟩
  have cl := cl_len (ws := roofW kW ws) (by omega) (k - 1) u [] tr.2.1
  have cl2 : 8 ^ (k - 1) ≤ 8 ^ 5 := Nat.pow_le_pow_right (by decide) (by omega)
  have cl3 : (clR u).length ≤ 40000 := by omega
  refine t_seq (fun r' s' => r1 = r' ∧ Oc (n1 :: clR u) s1 s') ?_ ?_
  · refine t_ifX' (P := fun s' => Oc (n1 :: clR u) s1 s') ?_ fun s' h => ⟨rfl, h⟩
    simp! [c10, atI_1, atI_2]
    refine law_lists_R (ws := roofW kW ws) 9 (k - 1) u [] s1 _ _ (by omega) tre.at_ (by omega) tr.2.1 ?_
    simp! [List.length_map]
    refine ⟨by simp only [List.length_cons, List.length_nil, LIM]; omega, ?_⟩
    rw [show [D.ref n1] ++ (clR u).map D.ref = (n1 :: clR u).map D.ref from rfl]
    refine apart_spec (List.nodup_cons.mpr ⟨nn, tre.nd⟩) (by rw [List.length_cons]; omega) (fun n hn => ?_) fun s' g1 g2 g3 => ⟨rfl, g1, g2, g3⟩
    rcases List.mem_cons.mp hn with rfl | hn
    · exact ⟨_, hn1, by rw [List.length_map]; omega⟩
    · exact cells_len (ws := roofW kW ws) (by omega) (k - 1) u [] tre.at_ tr.2.1 n hn
  rintro r' s2 ⟨rfl, g1, g2, g3⟩
  have z2 : s2[0]? = s1[0]? := g2 0 fun h => by
    rcases List.mem_cons.mp h with h | h
    · omega
    · have := tre.lo 0 h; omega
  have pt2 := pt1.stayQ z2
  refine t_seq (fun r' s' => s2 = s' ∧ r1 = r') ?_ ?_
  · simp! [c5, c9, shW, eqv_same nbW]
  rintro r' s' ⟨rfl, rfl⟩
  obtain ⟨d1, e1⟩ := g3 n1 List.mem_cons_self
  refine t_seq (fun r' s' => r1 = r' ∧ Pot 0 s' ∧ ∀ n ∈ clR u, ∃ ds, s'[n]? = some (.lst ds)) ?_ ?_
  · simp! [c10, atI_1, e1]
    refine ⟨pt2.stayQ (List.getElem?_set_ne (by omega)), fun n hn => ?_⟩
    rw [List.getElem?_set_ne (by rintro rfl; exact nn hn)]
    exact g3 n (List.mem_cons_of_mem _ hn)
  rintro r' s3 ⟨rfl, pt3, g4⟩
  obtain ⟨_, ⟨b1, b2, b3, b4⟩, d1, d2, d3, d4, d5⟩ := mdx
  cases u with
  | left l =>
    simp! [c10, atI_2, dR, b1, d3, d4, Bool.false_eq_true]
    exact q r1 s3 re pt3
  | meet l nn2 ts =>
    obtain ⟨d7, e7⟩ := g4 nn2 (by simp [clR])
    have l7 := tre.lo nn2 (by simp [clR])
    simp! [c10, atI_2, dR, b2, d3, d4, e7]
    exact q r1 _ re (pt3.stayQ (List.getElem?_set_ne (by omega)))
theorem law_true : ∀ ns : List Int, ns.length ≤ 63 → ∃ st, m_law [.frg (ns.map D.int)] [] = .ok (.bl true) st := by
  intro ns _
  suffices h : RsP (m_law [.frg (ns.map D.int)] []) (fun d _ => d = .bl true) (fun _ _ _ => False) by
    cases z : m_law [.frg (ns.map D.int)] [] with
    | ok d st => rw [z] at h; exact ⟨st, by rw [show d = .bl true from h]⟩
    | err c a st => rw [z] at h; exact h.elim
    | bad => rw [z] at h; exact h.elim
  unfold m_law
  rw [w_mk]
  refine t_seq (fun r s => r 1 = some (false, .ref 0) ∧ Pot 0 s) ?_ ?_
  · simp! []
    refine pot_spec fun st hp hl => ?_
    simp! []
    exact hp
  rintro r s ⟨r1, hp⟩
  refine t_seq (fun _ _ => True) ?_ ?_
  · simp! [rangeD_map, B62]
    refine ⟨by decide, ?_⟩
    refine for_rule (enc := D.int) (fun _ _ r s => Pot 0 s ∧ r 1 = some (false, .ref 0)) ⟨hp, r1⟩ ?_ ?_
    · clear hp r1
      rintro dn a rest r s _ ⟨hp, r1⟩
      refine ⟨_, rfl, ?_⟩
      have r1 := (show (r.set 2 (some (false, D.int a))) 1 = _ from env_ne (by omega)).trans r1
      generalize r.set 2 (some (false, D.int a)) = r at r1
      refine t_seq (fun r s => Pot 0 s ∧ r 1 = some (false, .ref 0) ∧ ∃ way : Int, r 3 = some (false, .int way)) ?_ ?_
      · simp! [r1]
        refine pick_spec hp (by decide) (by decide) fun k s1 k0 k1 hp1 _ => ?_
        simp! [r1]
        exact ⟨hp1, k, rfl⟩
      clear hp r1
      rintro r s ⟨hp, r1, way, r3⟩
      refine t_seq (fun r s => Pot 0 s ∧ r 1 = some (false, .ref 0) ∧ r 3 = some (false, .int way) ∧ ∃ fi : Int, (1 ≤ fi ∧ fi ≤ 3) ∧ r 4 = some (false, .int fi)) ?_ ?_
      · simp! [r1]
        refine pick_spec hp (by decide) (by decide) fun k s1 k0 k1 hp1 _ => ?_
        simp! [r1, r3]
        exact ⟨hp1, 1 + k, by omega, rfl⟩
      clear hp r1 r3
      rintro r s ⟨hp, r1, r3, fi, hfi, r4⟩
      refine t_seq (fun r s => Pot 0 s ∧ r 1 = some (false, .ref 0) ∧ r 3 = some (false, .int way) ∧ ∃ (f : Nat) (ws : List Wi), (1 ≤ f ∧ f ≤ 3) ∧ (∀ w ∈ ws, WOk f w) ∧ ws ≠ [] ∧ ws.length ≤ 6 ∧ r 5 = some (false, .lst (ws.map dW))) ?_ ?_
      · simp! [r1, r4]
        refine wishes_spec hp (by omega) (by omega) (by decide) (by decide) fun ws0 s2 hws0 hw0 hp2 _ => ?_
        simp! [r1]
        refine pick_spec hp2 (by decide) (by decide) fun low s3 l0 l1 hp3 _ => ?_
        obtain ⟨tp, etp, htp⟩ := ati4 (a := 6) (b := 6) (c := 6) (d := 4) (k := fi) (by omega) (by omega) (fun a => 1 ≤ a ∧ a ≤ 6) (by decide) (by decide) (by decide) (by decide)
        simp! [r1, r4, etp]
        refine wish_spec hp3 (by omega) (by omega) (by omega) (by omega) (by omega) fun w1 s4 hw1 hp4 _ => ?_
        simp only [dWs]
        simp! [r1, r3, map_snoc, List.length_map]
        refine ⟨by simp only [List.length_cons, List.length_nil, LIM]; omega, hp4, fi.toNat, ws0 ++ [w1], by omega, fun v hv => (List.mem_append.mp hv).elim (hw0 v) fun z => List.mem_singleton.mp z ▸ hw1, by simp, by rw [List.length_append, List.length_singleton]; omega, rfl⟩
      clear hp r1 r3 r4 hfi
      rintro r s ⟨hp, r1, r3, f0, ws0, hf0, hw0, wne0, wl0, r5⟩
      refine t_seq (fun r s => Pot 0 s ∧ r 1 = some (false, .ref 0) ∧ ∃ (f : Nat) (ws : List Wi), (1 ≤ f ∧ f ≤ 3) ∧ (∀ w ∈ ws, WOk f w) ∧ ws ≠ [] ∧ ws.length ≤ 6 ∧ r 5 = some (false, .lst (ws.map dW))) ?_ ?_
      · simp! [r1, r3, eqv_int, shp_int]
        refine ⟨fun _ => ?_, fun _ => ⟨hp, f0, ws0, hf0, hw0, wne0, wl0, r5⟩⟩
        refine ring_spec hp fun a s' ha hp2 => ?_
        simp! [r1]
        exact ⟨hp2, 2, rgW a, by omega, rgW_ok ha.1 ha.2, by simp [rgW], by simp [rgW], rfl⟩
      clear hp r1 r3 r5 hf0 hw0 wne0 wl0
      rintro r s ⟨hp, r1, f, ws, hf, hw, wne, wl, r5⟩
      have hwr : ∀ w ∈ roofW kW ws, WOk f w := fun w h => hw w (mem_roofE.mp h).1
      have hlr := roofW_len (ws := ws)
      refine t_seq (fun r s => Pot 0 s ∧ r 1 = some (false, .ref 0) ∧ r 5 = some (false, .lst (ws.map dW)) ∧ ∃ Ls : List (List Int), Let f ws Ls ∧ r 6 = some (false, .lst (Ls.map dT))) ?_ ?_
      · simp! [r5]
        refine union_spec hf.2 hw (by omega) fun K nd hk hkl => ?_
        simp! []
        refine f_sortMT nd (fun l hl e => ?_) (by simp only [LIM]; omega) ?_
        · obtain ⟨w, hw2, hl2⟩ := (hk l).mp hl
          have h3 := (mem_lets.mp hl2).1
          rw [e, (hw w hw2).1] at h3
          simp at h3
          omega
        · simp! [r1, r5]
          exact ⟨hp, once kT K, ⟨hw, fun l => by rw [mem_once]; exact hk l⟩, rfl⟩
      clear hp r1 r5
      rintro r s ⟨hp, r1, r5, Ls, hL, r6⟩
      refine t_seq (fun r s => Pot 0 s ∧ r 1 = some (false, .ref 0) ∧ r 5 = some (false, .lst (ws.map dW)) ∧ r 6 = some (false, .lst (Ls.map dT)) ∧ ∃ kI : Int, Nm14 f ws Ls kI ∧ r 7 = some (false, .int kI)) ?_ ?_
      · simp! [r5]
        refine law_roof_spec hf.1 (by omega) hw (by omega) ?_
        simp only [dWs]
        simp! []
        refine choices_spec (by omega) ?_
        have cl : (chF (roofW kW ws)).length ≤ 64 := by
          rw [chF_len]
          exact Nat.le_trans (Nat.pow_le_pow_right (by decide) (show (roofW kW ws).length ≤ 6 by omega)) (by decide)
        simp! []
        refine lc_pure (enc := dWs) (fun cs => Ls.all fun l => hadL cs l) (fun cs => .int (cs.length : Int)) (fun cs hc => ⟨_, rfl, ?_, fun _ => ?_⟩) (by simp only [LIM]; omega) ?_
        · have h5 := chF_len2 hc
          simp! [r6]
          exact has_all_core (fun w h => by rw [(hwr w (chF_sub hc w h)).1]; omega) (by omega) (.inl rfl) ⟨rfl, rfl⟩
        · simp only [dWs]
          simp! [List.length_map]
        · have em : ((chF (roofW kW ws)).filter fun cs => Ls.all fun l => hadL cs l).map (fun cs => D.int (cs.length : Int)) = (((chF (roofW kW ws)).filter fun cs => Ls.all fun l => hadL cs l).map fun cs => (cs.length : Int)).map D.int := by rw [List.map_map]; rfl
          rw [em]
          simp! []
          refine minI_spec ?_ fun m hm hmin => ?_
          · have hself : covAll (roofW kW ws) (roofW kW ws) := fun w hw2 => (allHad_iff (hwr w hw2).1).mpr fun l hl s => hadL_iff.mpr ⟨w, hw2, s⟩
            have hin : roofW kW ws ∈ chF (roofW kW ws) := by
              have := chF_filter (ws := roofW kW ws) (p := fun _ => true)
              rwa [filt_t] at this
            intro e
            have : ((roofW kW ws).length : Int) ∈ ((chF (roofW kW ws)).filter fun cs => Ls.all fun l => hadL cs l).map fun cs => (cs.length : Int) := List.mem_map.mpr ⟨_, List.mem_filter.mpr ⟨hin, (cov_all hL).mp hself⟩, rfl⟩
            rw [e] at this
            exact nomatch this
          · simp! [r1, r5, r6]
            obtain ⟨cs, hc, rfl⟩ := List.mem_map.mp hm
            have hc2 := List.mem_filter.mp hc
            exact ⟨hp, _, ⟨hf, hL, wne, wl, ⟨cs, hc2.1, hc2.2, rfl⟩, fun cs2 h3 h4 => hmin _ (List.mem_map.mpr ⟨cs2, List.mem_filter.mpr ⟨h3, h4⟩, rfl⟩)⟩, rfl⟩
      clear hp r1 r5 r6
      rintro r s ⟨hp, r1, r5, r6, kI, nm, r7⟩
      simp! [rangeD_map, B62]
      refine ⟨by decide, ?_⟩
      refine for_rule (enc := D.int) (fun _ _ r s => Pot 0 s ∧ r 1 = some (false, .ref 0) ∧ r 5 = some (false, .lst (ws.map dW)) ∧ r 6 = some (false, .lst (Ls.map dT)) ∧ r 7 = some (false, .int kI)) ⟨hp, r1, r5, r6, r7⟩ ?_ ?_
      · clear hp r1 r5 r6 r7
        rintro dn2 a2 rest2 r s _ ⟨hp, r1, r5, r6, r7⟩
        refine ⟨_, rfl, ?_⟩
        have e : ∀ i, i < 8 → (r.set 8 (some (false, D.int a2))) i = r i := fun i hi => env_ne (by omega)
        refine bodyF_spec nm hp ((e 5 (by omega)).trans r5) ((e 6 (by omega)).trans r6) ((e 7 (by omega)).trans r7) fun r' s' re hp' => ?_
        exact ⟨hp', (re 1 (by omega)).trans ((e 1 (by omega)).trans r1), (re 5 (by omega)).trans ((e 5 (by omega)).trans r5), (re 6 (by omega)).trans ((e 6 (by omega)).trans r6), (re 7 (by omega)).trans ((e 7 (by omega)).trans r7)⟩
      · rintro r s ⟨hp, r1, _⟩
        exact ⟨hp, r1⟩
    · rintro r s _
      trivial
  rintro r s _
  simp! []
end K14

namespace K14
open PySem L2 Sm
def topS (i : Nat) : Stmt := PySem.Challenge.pw_roofpost_k14_the_fewest_told.main.body.getD i (.Pass ⟨0, 0, 0, 0⟩)
set_option genInjectivity false in
set_option genSizeOf false in
structure Tx (K : PySem.W.Frag) (mg : Str → Option Value) where
  a__law_pot : Addr
  d__law_pot : FuncData
  u__law_pot : Fun K "_law_pot" "_law_pot" (topS 18) a__law_pot d__law_pot
  g__law_pot : mg "_law_pot" = some (.ref a__law_pot)
  b__law_pot : Binds K d__law_pot ["script"] []
  a__law_blend : Addr
  d__law_blend : FuncData
  u__law_blend : Fun K "_law_blend" "_law_blend" (topS 17) a__law_blend d__law_blend
  g__law_blend : mg "_law_blend" = some (.ref a__law_blend)
  b__law_blend : Binds K d__law_blend ["cell", "at"] []
  a__law_pick : Addr
  d__law_pick : FuncData
  u__law_pick : Fun K "_law_pick" "_law_pick" (topS 19) a__law_pick d__law_pick
  g__law_pick : mg "_law_pick" = some (.ref a__law_pick)
  b__law_pick : Binds K d__law_pick ["pot", "upto"] []
  a__law_wish : Addr
  d__law_wish : FuncData
  u__law_wish : Fun K "_law_wish" "_law_wish" (topS 20) a__law_wish d__law_wish
  g__law_wish : mg "_law_wish" = some (.ref a__law_wish)
  b__law_wish : Binds K d__law_wish ["pot", "fields", "low", "top"] []
  a__law_nudged : Addr
  d__law_nudged : FuncData
  u__law_nudged : Fun K "_law_nudged" "_law_nudged" (topS 22) a__law_nudged d__law_nudged
  g__law_nudged : mg "_law_nudged" = some (.ref a__law_nudged)
  b__law_nudged : Binds K d__law_nudged ["pot", "wish"] []
  a__law_wishes : Addr
  d__law_wishes : FuncData
  u__law_wishes : Fun K "_law_wishes" "_law_wishes" (topS 21) a__law_wishes d__law_wishes
  g__law_wishes : mg "_law_wishes" = some (.ref a__law_wishes)
  b__law_wishes : Binds K d__law_wishes ["pot", "fields", "most"] []
  a__law_ring : Addr
  d__law_ring : FuncData
  u__law_ring : Fun K "_law_ring" "_law_ring" (topS 36) a__law_ring d__law_ring
  g__law_ring : mg "_law_ring" = some (.ref a__law_ring)
  b__law_ring : Binds K d__law_ring ["pot"] []
  a__law_letters : Addr
  d__law_letters : FuncData
  u__law_letters : Fun K "_law_letters" "_law_letters" (topS 24) a__law_letters d__law_letters
  g__law_letters : mg "_law_letters" = some (.ref a__law_letters)
  b__law_letters : Binds K d__law_letters ["wish"] []
  a__law_union : Addr
  d__law_union : FuncData
  u__law_union : Fun K "_law_union" "_law_union" (topS 27) a__law_union d__law_union
  g__law_union : mg "_law_union" = some (.ref a__law_union)
  b__law_union : Binds K d__law_union ["wishes"] []
  a_need_kin : Addr
  d_need_kin : FuncData
  u_need_kin : Fun K "need_kin" "need_kin" (topS 4) a_need_kin d_need_kin
  g_need_kin : mg "need_kin" = some (.ref a_need_kin)
  b_need_kin : Binds K d_need_kin ["things"] []
  a_each_once : Addr
  d_each_once : FuncData
  u_each_once : Fun K "each_once" "each_once" (topS 8) a_each_once d_each_once
  g_each_once : mg "each_once" = some (.ref a_each_once)
  b_each_once : Binds K d_each_once ["wishes"] []
  a_covers : Addr
  d_covers : FuncData
  u_covers : Fun K "covers" "covers" (topS 7) a_covers d_covers
  g_covers : mg "covers" = some (.ref a_covers)
  b_covers : Binds K d_covers ["one", "other"] []
  a_roof_of : Addr
  d_roof_of : FuncData
  u_roof_of : Fun K "roof_of" "roof_of" (topS 9) a_roof_of d_roof_of
  g_roof_of : mg "roof_of" = some (.ref a_roof_of)
  b_roof_of : Binds K d_roof_of ["wishes"] []
  a_is_in : Addr
  d_is_in : FuncData
  u_is_in : Fun K "is_in" "is_in" (topS 5) a_is_in d_is_in
  g_is_in : mg "is_in" = some (.ref a_is_in)
  b_is_in : Binds K d_is_in ["number", "pair"] []
  a_first_left : Addr
  d_first_left : FuncData
  u_first_left : Fun K "first_left" "first_left" (topS 11) a_first_left d_first_left
  g_first_left : mg "first_left" = some (.ref a_first_left)
  b_first_left : Binds K d_first_left ["wishes", "wish", "field"] []
  a_first_lack : Addr
  d_first_lack : FuncData
  u_first_lack : Fun K "first_lack" "first_lack" (topS 13) a_first_lack d_first_lack
  g_first_lack : mg "first_lack" = some (.ref a_first_lack)
  b_first_lack : Binds K d_first_lack ["wishes", "chosen"] []
  a_has_letter : Addr
  d_has_letter : FuncData
  u_has_letter : Fun K "has_letter" "has_letter" (topS 6) a_has_letter d_has_letter
  g_has_letter : mg "has_letter" = some (.ref a_has_letter)
  b_has_letter : Binds K d_has_letter ["wish", "letter"] []
  a_searched : Addr
  d_searched : FuncData
  u_searched : Fun K "searched" "searched" (topS 14) a_searched d_searched
  g_searched : mg "searched" = some (.ref a_searched)
  b_searched : Binds K d_searched ["wishes", "chosen", "choices"] []
  a_fewest_of : Addr
  d_fewest_of : FuncData
  u_fewest_of : Fun K "fewest_of" "fewest_of" (topS 15) a_fewest_of d_fewest_of
  g_fewest_of : mg "fewest_of" = some (.ref a_fewest_of)
  b_fewest_of : Binds K d_fewest_of ["wishes"] []
  a__law_apart : Addr
  d__law_apart : FuncData
  u__law_apart : Fun K "_law_apart" "_law_apart" (topS 35) a__law_apart d__law_apart
  g__law_apart : mg "_law_apart" = some (.ref a__law_apart)
  b__law_apart : Binds K d__law_apart ["lists"] []
  a__law_choices : Addr
  d__law_choices : FuncData
  u__law_choices : Fun K "_law_choices" "_law_choices" (topS 31) a__law_choices d__law_choices
  g__law_choices : mg "_law_choices" = some (.ref a__law_choices)
  b__law_choices : Binds K d__law_choices ["top"] []
  a__law_has : Addr
  d__law_has : FuncData
  u__law_has : Fun K "_law_has" "_law_has" (topS 23) a__law_has d__law_has
  g__law_has : mg "_law_has" = some (.ref a__law_has)
  b__law_has : Binds K d__law_has ["wish", "letter"] []
  a__law_has_all : Addr
  d__law_has_all : FuncData
  u__law_has_all : Fun K "_law_has_all" "_law_has_all" (topS 32) a__law_has_all d__law_has_all
  g__law_has_all : mg "_law_has_all" = some (.ref a__law_has_all)
  b__law_has_all : Binds K d__law_has_all ["some", "letters"] []
  a__law_covers : Addr
  d__law_covers : FuncData
  u__law_covers : Fun K "_law_covers" "_law_covers" (topS 25) a__law_covers d__law_covers
  g__law_covers : mg "_law_covers" = some (.ref a__law_covers)
  b__law_covers : Binds K d__law_covers ["one", "other"] []
  a__law_roof : Addr
  d__law_roof : FuncData
  u__law_roof : Fun K "_law_roof" "_law_roof" (topS 26) a__law_roof d__law_roof
  g__law_roof : mg "_law_roof" = some (.ref a__law_roof)
  b__law_roof : Binds K d__law_roof ["wishes"] []
  a__law_is_made : Addr
  d__law_is_made : FuncData
  u__law_is_made : Fun K "_law_is_made" "_law_is_made" (topS 30) a__law_is_made d__law_is_made
  g__law_is_made : mg "_law_is_made" = some (.ref a__law_is_made)
  b__law_is_made : Binds K d__law_is_made ["tree", "fields"] []
  a__law_lacks : Addr
  d__law_lacks : FuncData
  u__law_lacks : Fun K "_law_lacks" "_law_lacks" (topS 28) a__law_lacks d__law_lacks
  g__law_lacks : mg "_law_lacks" = some (.ref a__law_lacks)
  b__law_lacks : Binds K d__law_lacks ["wishes", "some", "letter"] []
  a__law_is_shown : Addr
  d__law_is_shown : FuncData
  u__law_is_shown : Fun K "_law_is_shown" "_law_is_shown" (topS 29) a__law_is_shown d__law_is_shown
  g__law_is_shown : mg "_law_is_shown" = some (.ref a__law_is_shown)
  b__law_is_shown : Binds K d__law_is_shown ["wishes", "some", "choices", "tree"] []
  a__law_right : Addr
  d__law_right : FuncData
  u__law_right : Fun K "_law_right" "_law_right" (topS 33) a__law_right d__law_right
  g__law_right : mg "_law_right" = some (.ref a__law_right)
  b__law_right : Binds K d__law_right ["wishes", "number", "letters", "found"] []
  a__law_lists : Addr
  d__law_lists : FuncData
  u__law_lists : Fun K "_law_lists" "_law_lists" (topS 34) a__law_lists d__law_lists
  g__law_lists : mg "_law_lists" = some (.ref a__law_lists)
  b__law_lists : Binds K d__law_lists ["tree"] []
  a_law : Addr
  d_law : FuncData
  u_law : Fun K "law" "law" (topS 37) a_law d_law
  g_law : mg "law" = some (.ref a_law)
  b_law : Binds K d_law ["script"] []
  z_all : mg "all" = none
  z_any : mg "any" = none
  z_bool : mg "bool" = none
  z_enumerate : mg "enumerate" = none
  z_int : mg "int" = none
  z_isinstance : mg "isinstance" = none
  z_len : mg "len" = none
  z_list : mg "list" = none
  z_max : mg "max" = none
  z_min : mg "min" = none
  z_range : mg "range" = none
  z_repr : mg "repr" = none
  z_set : mg "set" = none
  z_sorted : mg "sorted" = none
  z_tuple : mg "tuple" = none
  z_zip : mg "zip" = none
  e_NoKin : Addr
  g_NoKin : mg "NoKin" = some (.ref e_NoKin)
  x_NoKin : PySem.W.excIn K e_NoKin [.type "ValueError", .type "Exception", .type "BaseException", .type "object"] "ValueError.__new__" = true
  k_NoKin : PySem.W.keepIn K (.ref e_NoKin) = true
  s_NoKin : PySem.W.subIn K (.ref e_NoKin) (.type "BaseException") = some true
  t_NoKin : PySem.W.typeIn K (.ref e_NoKin) = some (.type "type")
section
variable {P : Program} {w : World} {K : PySem.W.Frag} {mg : Str → Option Value} {base : Heap}
theorem sc__law_pot : FnScope ["script", "cells", "k", "cell"] ["script"] (defScope (topS 18)) := ⟨rfl, rfl, rfl, by decide +kernel, rfl, by decide +kernel, by decide +kernel⟩
theorem ok__law_pot (T : Tx K mg) : FnG P w K mg base 1 T.a__law_pot T.d__law_pot ["script"] (spF ⟨K, mg, P, w⟩ 1 false m__law_pot) := by
  have sc := sc__law_pot
  refine fjG_of T.u__law_pot sc rfl ?_
  intro cdv A outer s H E B hr hgd hL tk
  exact jss_cons (js_own (i := 1) sc.nd (by rfl) (.inl rfl) hL (je_ty jb_list.der (by rfl) T.z_list (by decide +kernel) (ja_bo ((je_slAD (((je_var (i := 0) (by rfl) (.inl (by rfl)))).bo) jo_none (jo_some ((je_int).bo))).bo) (ja_nil))))
    (jss_cons (js_for (passes_of (by rfl)) (by rfl) (ji_enum (by rfl) T.z_enumerate (ja_sh (je_slAD (((je_var (i := 0) (by rfl) (.inl (by rfl)))).bo) (jo_some ((je_int).bo)) (jo_some ((je_int).bo))) (ja_nil))) (jg_tup (by rfl) (jgs_cons (jg_name (i := 2) sc.nd (by rfl) (.inl (by rfl)) hL) (jgs_cons (jg_name (i := 3) sc.nd (by rfl) (.inl (by rfl)) hL) jgs_nil))) (jss_one (js_put (i := 1) (by rfl) (.inl (by rfl)) (je_addD ((je_ix ((je_peek (i := 1) (by rfl) (.inl (by rfl)))) ((je_mod (((je_var (i := 2) (by rfl) (.inl (by rfl)))).bo) ((je_int).bo)).bo)).bo) (((je_var (i := 3) (by rfl) (.inl (by rfl)))).bo)) ((je_mod (((je_var (i := 2) (by rfl) (.inl (by rfl)))).bo) ((je_int).bo)).bo))))
    (jss_one (js_fix (i := 1) (js_ret (je_ref (je_lst (ja_sh ((je_var (i := 1) (by rfl) (.inl (by rfl)))) (ja_sh (je_int) (ja_sh (je_int) (ja_nil))))))))))
theorem sc__law_blend : FnScope ["cell", "at", "one", "two", "three"] ["cell", "at"] (defScope (topS 17)) := ⟨rfl, rfl, rfl, by decide +kernel, rfl, by decide +kernel, by decide +kernel⟩
theorem ok__law_blend (T : Tx K mg) : FnG P w K mg base 1 T.a__law_blend T.d__law_blend ["cell", "at"] (spF ⟨K, mg, P, w⟩ 2 false m__law_blend) := by
  have sc := sc__law_blend
  refine fjG_of T.u__law_blend sc rfl ?_
  intro cdv A outer s H E B hr hgd hL tk
  exact jss_cons (js_if (jc_ige.jt (((je_var (i := 0) (by rfl) (.inl (by rfl)))).bo) ((je_pow ((je_int).bo) ((je_int).bo)).bo) (nomark _)) (jss_one (js_ret ((je_var (i := 0) (by rfl) (.inl (by rfl)))))) (jss_nil))
    (jss_cons (js_set (i := 2) sc.nd (by rfl) (.inl rfl) hL (je_mod ((je_addD ((je_addD ((je_mul ((je_mod (((je_var (i := 0) (by rfl) (.inl (by rfl)))).bo) ((je_int).bo)).bo) ((je_int).bo)).bo) ((je_mul (((je_var (i := 1) (by rfl) (.inl (by rfl)))).bo) ((je_int).bo)).bo)).bo) ((je_int).bo)).bo) ((je_int).bo)))
    (jss_cons (js_set (i := 3) sc.nd (by rfl) (.inl rfl) hL (je_mod ((je_addD ((je_addD ((je_mul (((je_var (i := 2) (by rfl) (.inl (by rfl)))).bo) (((je_var (i := 2) (by rfl) (.inl (by rfl)))).bo)).bo) ((je_mul (((je_var (i := 1) (by rfl) (.inl (by rfl)))).bo) ((je_int).bo)).bo)).bo) ((je_mod (((je_var (i := 0) (by rfl) (.inl (by rfl)))).bo) ((je_int).bo)).bo)).bo) ((je_int).bo)))
    (jss_cons (js_set (i := 4) sc.nd (by rfl) (.inl rfl) hL (je_mod ((je_addD ((je_addD ((je_mul (((je_var (i := 3) (by rfl) (.inl (by rfl)))).bo) (((je_var (i := 3) (by rfl) (.inl (by rfl)))).bo)).bo) ((je_mul (((je_var (i := 2) (by rfl) (.inl (by rfl)))).bo) ((je_int).bo)).bo)).bo) ((je_int).bo)).bo) ((je_int).bo)))
    (jss_one (js_ret (je_addD ((je_mul ((je_addD ((je_mul (((je_var (i := 2) (by rfl) (.inl (by rfl)))).bo) ((je_int).bo)).bo) (((je_var (i := 3) (by rfl) (.inl (by rfl)))).bo)).bo) ((je_int).bo)).bo) (((je_var (i := 4) (by rfl) (.inl (by rfl)))).bo)))))))
theorem sc__law_pick : FnScope ["pot", "upto", "at", "cell", "found"] ["pot", "upto"] (defScope (topS 19)) := ⟨rfl, rfl, rfl, by decide +kernel, rfl, by decide +kernel, by decide +kernel⟩
theorem ok__law_pick (T : Tx K mg) : FnG P w K mg base 2 T.a__law_pick T.d__law_pick ["pot", "upto"] (spF ⟨K, mg, P, w⟩ 2 false m__law_pick) := by
  have sc := sc__law_pick
  refine fjG_of T.u__law_pick sc rfl ?_
  intro cdv A outer s H E B hr hgd hL tk
  exact jss_cons (js_if (jc_ilt.jt ((je_ix (((je_var (i := 0) (by rfl) (.inl (by rfl)))).bo) ((je_int).bo)).bo) (((je_var (i := 1) (by rfl) (.inl (by rfl)))).bo) (nomark _)) (jss_cons (js_set (i := 2) sc.nd (by rfl) (.inl rfl) hL (je_ix (((je_var (i := 0) (by rfl) (.inl (by rfl)))).bo) ((je_int).bo)))
    (jss_cons (js_set (i := 3) sc.nd (by rfl) (.inl rfl) hL (je_mul ((je_int).bo) (((je_var (i := 2) (by rfl) (.inl (by rfl)))).bo)))
    (jss_cons (js_if (jc_ilt.jt (((je_var (i := 2) (by rfl) (.inl (by rfl)))).bo) ((je_bt jb_len.der (by rfl) T.z_len (by decide +kernel) (ja_bo ((je_ix (((je_var (i := 0) (by rfl) (.inl (by rfl)))).bo) ((je_int).bo)).bo) (ja_nil))).bo) (nomark _)) (jss_one (js_set (i := 3) sc.nd (by rfl) (.inl rfl) hL (je_ix ((je_ix (((je_var (i := 0) (by rfl) (.inl (by rfl)))).bo) ((je_int).bo)).bo) (((je_var (i := 2) (by rfl) (.inl (by rfl)))).bo)))) (jss_one (js_if ((jc_ne hr.units).der.jt ((je_ix (((je_var (i := 0) (by rfl) (.inl (by rfl)))).bo) ((je_int).bo)).bo) ((je_lst (ja_nil)).give.bo) (nomark _)) (jss_one (js_set (i := 3) sc.nd (by rfl) (.inl rfl) hL (je_mod ((je_ix ((je_ix (((je_var (i := 0) (by rfl) (.inl (by rfl)))).bo) ((je_int).bo)).bo) ((je_mod ((je_addD ((je_mul (((je_var (i := 2) (by rfl) (.inl (by rfl)))).bo) ((je_int).bo)).bo) ((je_int).bo)).bo) ((je_bt jb_len.der (by rfl) T.z_len (by decide +kernel) (ja_bo ((je_ix (((je_var (i := 0) (by rfl) (.inl (by rfl)))).bo) ((je_int).bo)).bo) (ja_nil))).bo)).bo)).bo) ((je_addD ((je_pow ((je_int).bo) ((je_int).bo)).bo) ((je_mul ((je_int).bo) (((je_var (i := 2) (by rfl) (.inl (by rfl)))).bo)).bo)).bo)))) (jss_nil))))
    (jss_cons (js_putR (je_addD (((je_var (i := 2) (by rfl) (.inl (by rfl)))).bo) ((je_int).bo)) ((je_var (i := 0) (by rfl) (.inl (by rfl)))) ((je_int).bo))
    (jss_one (js_putR (je_callG (fr := false) (n := 2) tk (ok__law_blend T) (hr.mono (by decide)) hgd (by rfl) T.g__law_blend T.u__law_blend.kp T.b__law_blend (ja_sh ((je_var (i := 3) (by rfl) (.inl (by rfl)))) (ja_sh ((je_var (i := 2) (by rfl) (.inl (by rfl)))) (ja_nil)))) ((je_var (i := 0) (by rfl) (.inl (by rfl)))) ((je_int).bo))))))) (jss_nil))
    (jss_cons (js_set (i := 4) sc.nd (by rfl) (.inl rfl) hL (je_mod ((je_ix (((je_var (i := 0) (by rfl) (.inl (by rfl)))).bo) ((je_int).bo)).bo) (((je_var (i := 1) (by rfl) (.inl (by rfl)))).bo)))
    (jss_cons (js_putR (je_fdiv ((je_ix (((je_var (i := 0) (by rfl) (.inl (by rfl)))).bo) ((je_int).bo)).bo) (((je_var (i := 1) (by rfl) (.inl (by rfl)))).bo)) ((je_var (i := 0) (by rfl) (.inl (by rfl)))) ((je_int).bo))
    (jss_one (js_ret ((je_var (i := 4) (by rfl) (.inl (by rfl))))))))
theorem sc__law_wish : FnScope ["pot", "fields", "low", "top", "pairs", "k", "one", "other"] ["pot", "fields", "low", "top"] (defScope (topS 20)) := ⟨rfl, rfl, rfl, by decide +kernel, rfl, by decide +kernel, by decide +kernel⟩
theorem ok__law_wish (T : Tx K mg) : FnG P w K mg base 3 T.a__law_wish T.d__law_wish ["pot", "fields", "low", "top"] (spF ⟨K, mg, P, w⟩ 4 false m__law_wish) := by
  have sc := sc__law_wish
  refine fjG_of T.u__law_wish sc rfl ?_
  intro cdv A outer s H E B hr hgd hL tk
  exact jss_cons (js_own (i := 4) sc.nd (by rfl) (.inl rfl) hL (je_lst (ja_nil)))
    (jss_cons (js_for (passes_of (by rfl)) (by rfl) (ji_range1 (by rfl) T.z_range (ja_bo (((je_var (i := 1) (by rfl) (.inl (by rfl)))).bo) (ja_nil))) (jg_name (i := 5) sc.nd (by rfl) (.inl (by rfl)) hL) (jss_cons (js_set (i := 6) sc.nd (by rfl) (.inl rfl) hL (je_addD (((je_var (i := 2) (by rfl) (.inl (by rfl)))).bo) ((je_callG (fr := false) (n := 2) tk (ok__law_pick T) (hr.mono (by decide)) hgd (by rfl) T.g__law_pick T.u__law_pick.kp T.b__law_pick (ja_sh ((je_var (i := 0) (by rfl) (.inl (by rfl)))) (ja_sh ((je_var (i := 3) (by rfl) (.inl (by rfl)))) (ja_nil)))).bo)))
    (jss_cons (js_set (i := 7) sc.nd (by rfl) (.inl rfl) hL (je_addD (((je_var (i := 2) (by rfl) (.inl (by rfl)))).bo) ((je_callG (fr := false) (n := 2) tk (ok__law_pick T) (hr.mono (by decide)) hgd (by rfl) T.g__law_pick T.u__law_pick.kp T.b__law_pick (ja_sh ((je_var (i := 0) (by rfl) (.inl (by rfl)))) (ja_sh ((je_var (i := 3) (by rfl) (.inl (by rfl)))) (ja_nil)))).bo)))
    (jss_one (js_app (i := 4) (by rfl) (.inl (by rfl)) (ja_sh (je_tup (ja_sh (je_bt (jb_min2 rfl) (by rfl) T.z_min (by decide +kernel) (ja_bo (((je_var (i := 6) (by rfl) (.inl (by rfl)))).bo) (ja_bo (((je_var (i := 7) (by rfl) (.inl (by rfl)))).bo) (ja_nil)))) (ja_sh (je_bt (jb_max2 rfl) (by rfl) T.z_max (by decide +kernel) (ja_bo (((je_var (i := 6) (by rfl) (.inl (by rfl)))).bo) (ja_bo (((je_var (i := 7) (by rfl) (.inl (by rfl)))).bo) (ja_nil)))) (ja_nil)))) (ja_nil)))))))
    (jss_one (js_ret (je_ty jb_tuple.der (by rfl) T.z_tuple (by decide +kernel) (ja_bo ((je_peek (i := 4) (by rfl) (.inl (by rfl)))) (ja_nil))))))
theorem sc__law_nudged : FnScope ["pot", "wish", "at", "low", "high", "pair"] ["pot", "wish"] (defScope (topS 22)) := ⟨rfl, rfl, rfl, by decide +kernel, rfl, by decide +kernel, by decide +kernel⟩
theorem ok__law_nudged (T : Tx K mg) : FnG P w K mg base 3 T.a__law_nudged T.d__law_nudged ["pot", "wish"] (spF ⟨K, mg, P, w⟩ 2 false m__law_nudged) := by
  have sc := sc__law_nudged
  refine fjG_of T.u__law_nudged sc rfl ?_
  intro cdv A outer s H E B hr hgd hL tk
  exact jss_cons (js_set (i := 2) sc.nd (by rfl) (.inl rfl) hL (je_callG (fr := false) (n := 2) tk (ok__law_pick T) (hr.mono (by decide)) hgd (by rfl) T.g__law_pick T.u__law_pick.kp T.b__law_pick (ja_sh ((je_var (i := 0) (by rfl) (.inl (by rfl)))) (ja_sh (je_bt jb_len.der (by rfl) T.z_len (by decide +kernel) (ja_bo (((je_var (i := 1) (by rfl) (.inl (by rfl)))).bo) (ja_nil))) (ja_nil)))))
    (jss_cons (js_to (jg_tup (by rfl) (jgs_cons (jg_name (i := 3) sc.nd (by rfl) (.inl (by rfl)) hL) (jgs_cons (jg_name (i := 4) sc.nd (by rfl) (.inl (by rfl)) hL) jgs_nil))) (je_ix (((je_var (i := 1) (by rfl) (.inl (by rfl)))).bo) (((je_var (i := 2) (by rfl) (.inl (by rfl)))).bo)))
    (jss_cons (js_set (i := 5) sc.nd (by rfl) (.inl rfl) hL ((je_lst (ja_sh (je_tup (ja_sh (je_bt (jb_max2 rfl) (by rfl) T.z_max (by decide +kernel) (ja_bo ((je_int).bo) (ja_bo ((je_sub (((je_var (i := 3) (by rfl) (.inl (by rfl)))).bo) ((je_int).bo)).bo) (ja_nil)))) (ja_sh ((je_var (i := 4) (by rfl) (.inl (by rfl)))) (ja_nil)))) (ja_sh (je_tup (ja_sh ((je_var (i := 3) (by rfl) (.inl (by rfl)))) (ja_sh (je_bt (jb_min2 rfl) (by rfl) T.z_min (by decide +kernel) (ja_bo ((je_int).bo) (ja_bo ((je_addD (((je_var (i := 4) (by rfl) (.inl (by rfl)))).bo) ((je_int).bo)).bo) (ja_nil)))) (ja_nil)))) (ja_sh (je_tup (ja_sh (je_bt (jb_min2 rfl) (by rfl) T.z_min (by decide +kernel) (ja_bo ((je_addD (((je_var (i := 3) (by rfl) (.inl (by rfl)))).bo) ((je_int).bo)).bo) (ja_bo (((je_var (i := 4) (by rfl) (.inl (by rfl)))).bo) (ja_nil)))) (ja_sh ((je_var (i := 4) (by rfl) (.inl (by rfl)))) (ja_nil)))) (ja_sh (je_tup (ja_sh ((je_var (i := 3) (by rfl) (.inl (by rfl)))) (ja_sh (je_bt (jb_max2 rfl) (by rfl) T.z_max (by decide +kernel) (ja_bo (((je_var (i := 3) (by rfl) (.inl (by rfl)))).bo) (ja_bo ((je_sub (((je_var (i := 4) (by rfl) (.inl (by rfl)))).bo) ((je_int).bo)).bo) (ja_nil)))) (ja_nil)))) (ja_nil)))))).give))
    (jss_one (js_ret (je_addD ((je_addD ((je_slAD (((je_var (i := 1) (by rfl) (.inl (by rfl)))).bo) jo_none (jo_some (((je_var (i := 2) (by rfl) (.inl (by rfl)))).bo))).bo) ((je_tup (ja_sh (je_ix (((je_var (i := 5) (by rfl) (.inl (by rfl)))).bo) ((je_callG (fr := false) (n := 2) tk (ok__law_pick T) (hr.mono (by decide)) hgd (by rfl) T.g__law_pick T.u__law_pick.kp T.b__law_pick (ja_sh ((je_var (i := 0) (by rfl) (.inl (by rfl)))) (ja_sh (je_int) (ja_nil)))).bo)) (ja_nil))).bo)).bo) ((je_slAD (((je_var (i := 1) (by rfl) (.inl (by rfl)))).bo) (jo_some ((je_addD (((je_var (i := 2) (by rfl) (.inl (by rfl)))).bo) ((je_int).bo)).bo)) jo_none).bo))))))
theorem sc__law_wishes : FnScope ["pot", "fields", "most", "top", "low", "found", "k", "way", "wish"] ["pot", "fields", "most"] (defScope (topS 21)) := ⟨rfl, rfl, rfl, by decide +kernel, rfl, by decide +kernel, by decide +kernel⟩
theorem ok__law_wishes (T : Tx K mg) : FnG P w K mg base 4 T.a__law_wishes T.d__law_wishes ["pot", "fields", "most"] (spF ⟨K, mg, P, w⟩ 3 true m__law_wishes) := by
  have sc := sc__law_wishes
  refine fjG_of T.u__law_wishes sc rfl ?_
  intro cdv A outer s H E B hr hgd hL tk
  exact jss_cons (js_set (i := 3) sc.nd (by rfl) (.inl rfl) hL (je_bt (jb_min2 rfl) (by rfl) T.z_min (by decide +kernel) (ja_bo ((je_ix ((je_lst (ja_sh (je_int) (ja_sh (je_int) (ja_sh (je_int) (ja_sh (je_int) (ja_nil)))))).give.bo) ((je_callG (fr := false) (n := 2) tk (ok__law_pick T) (hr.mono (by decide)) hgd (by rfl) T.g__law_pick T.u__law_pick.kp T.b__law_pick (ja_sh ((je_var (i := 0) (by rfl) (.inl (by rfl)))) (ja_sh (je_int) (ja_nil)))).bo)).bo) (ja_bo ((je_ix ((je_lst (ja_sh (je_int) (ja_sh (je_int) (ja_sh (je_int) (ja_sh (je_int) (ja_nil)))))).give.bo) (((je_var (i := 1) (by rfl) (.inl (by rfl)))).bo)).bo) (ja_nil)))))
    (jss_cons (js_set (i := 4) sc.nd (by rfl) (.inl rfl) hL (je_callG (fr := false) (n := 2) tk (ok__law_pick T) (hr.mono (by decide)) hgd (by rfl) T.g__law_pick T.u__law_pick.kp T.b__law_pick (ja_sh ((je_var (i := 0) (by rfl) (.inl (by rfl)))) (ja_sh (je_sub ((je_int).bo) (((je_var (i := 3) (by rfl) (.inl (by rfl)))).bo)) (ja_nil)))))
    (jss_cons (js_own (i := 5) sc.nd (by rfl) (.inl rfl) hL (je_lst (ja_nil)))
    (jss_cons (js_for (passes_of (by rfl)) (by rfl) (ji_range1 (by rfl) T.z_range (ja_bo ((je_callG (fr := false) (n := 2) tk (ok__law_pick T) (hr.mono (by decide)) hgd (by rfl) T.g__law_pick T.u__law_pick.kp T.b__law_pick (ja_sh ((je_var (i := 0) (by rfl) (.inl (by rfl)))) (ja_sh (je_addD (((je_var (i := 2) (by rfl) (.inl (by rfl)))).bo) ((je_int).bo)) (ja_nil)))).bo) (ja_nil))) (jg_name (i := 6) sc.nd (by rfl) (.inl (by rfl)) hL) (jss_cons (js_set (i := 7) sc.nd (by rfl) (.inl rfl) hL (je_callG (fr := false) (n := 2) tk (ok__law_pick T) (hr.mono (by decide)) hgd (by rfl) T.g__law_pick T.u__law_pick.kp T.b__law_pick (ja_sh ((je_var (i := 0) (by rfl) (.inl (by rfl)))) (ja_sh (je_int) (ja_nil)))))
    (jss_cons (js_set (i := 8) sc.nd (by rfl) (.inl rfl) hL (je_callG (fr := false) (n := 4) tk (ok__law_wish T) (hr.mono (by decide)) hgd (by rfl) T.g__law_wish T.u__law_wish.kp T.b__law_wish (ja_sh ((je_var (i := 0) (by rfl) (.inl (by rfl)))) (ja_sh ((je_var (i := 1) (by rfl) (.inl (by rfl)))) (ja_sh ((je_var (i := 4) (by rfl) (.inl (by rfl)))) (ja_sh ((je_var (i := 3) (by rfl) (.inl (by rfl)))) (ja_nil)))))))
    (jss_cons (js_if ((jw_and ((jc_eq hr.units).der.jt (((je_var (i := 7) (by rfl) (.inl (by rfl)))).bo) ((je_int).bo) (nomark _)) (jw_and1 ((jc_ne hr.units).der.jt ((je_peek (i := 5) (by rfl) (.inl (by rfl)))) ((je_lst (ja_nil)).give.bo) (nomark _)))).jt) (jss_one (js_set (i := 8) sc.nd (by rfl) (.inl rfl) hL (je_ix ((je_peek (i := 5) (by rfl) (.inl (by rfl)))) ((je_callG (fr := false) (n := 2) tk (ok__law_pick T) (hr.mono (by decide)) hgd (by rfl) T.g__law_pick T.u__law_pick.kp T.b__law_pick (ja_sh ((je_var (i := 0) (by rfl) (.inl (by rfl)))) (ja_sh (je_bt jb_len.der (by rfl) T.z_len (by decide +kernel) (ja_bo ((je_peek (i := 5) (by rfl) (.inl (by rfl)))) (ja_nil))) (ja_nil)))).bo)))) (jss_nil))
    (jss_cons (js_if ((jw_and ((jc_eq hr.units).der.jt (((je_var (i := 7) (by rfl) (.inl (by rfl)))).bo) ((je_int).bo) (nomark _)) (jw_and1 ((jc_ne hr.units).der.jt ((je_peek (i := 5) (by rfl) (.inl (by rfl)))) ((je_lst (ja_nil)).give.bo) (nomark _)))).jt) (jss_one (js_set (i := 8) sc.nd (by rfl) (.inl rfl) hL (je_callG (fr := false) (n := 2) tk (ok__law_nudged T) (hr.mono (by decide)) hgd (by rfl) T.g__law_nudged T.u__law_nudged.kp T.b__law_nudged (ja_sh ((je_var (i := 0) (by rfl) (.inl (by rfl)))) (ja_sh (je_ix ((je_peek (i := 5) (by rfl) (.inl (by rfl)))) ((je_callG (fr := false) (n := 2) tk (ok__law_pick T) (hr.mono (by decide)) hgd (by rfl) T.g__law_pick T.u__law_pick.kp T.b__law_pick (ja_sh ((je_var (i := 0) (by rfl) (.inl (by rfl)))) (ja_sh (je_bt jb_len.der (by rfl) T.z_len (by decide +kernel) (ja_bo ((je_peek (i := 5) (by rfl) (.inl (by rfl)))) (ja_nil))) (ja_nil)))).bo)) (ja_nil)))))) (jss_nil))
    (jss_one (js_app (i := 5) (by rfl) (.inl (by rfl)) (ja_sh ((je_var (i := 8) (by rfl) (.inl (by rfl)))) (ja_nil)))))))))
    (jss_one (js_retOwn (i := 5) (by rfl) (.inl (by rfl)))))))
theorem sc__law_ring : FnScope ["pot", "at", "ring"] ["pot"] (defScope (topS 36)) := ⟨rfl, rfl, rfl, by decide +kernel, rfl, by decide +kernel, by decide +kernel⟩
theorem ok__law_ring (T : Tx K mg) : FnG P w K mg base 3 T.a__law_ring T.d__law_ring ["pot"] (spF ⟨K, mg, P, w⟩ 1 true m__law_ring) := by
  have sc := sc__law_ring
  refine fjG_of T.u__law_ring sc rfl ?_
  intro cdv A outer s H E B hr hgd hL tk
  exact jss_cons (js_set (i := 1) sc.nd (by rfl) (.inl rfl) hL (je_callG (fr := false) (n := 2) tk (ok__law_pick T) (hr.mono (by decide)) hgd (by rfl) T.g__law_pick T.u__law_pick.kp T.b__law_pick (ja_sh ((je_var (i := 0) (by rfl) (.inl (by rfl)))) (ja_sh (je_int) (ja_nil)))))
    (jss_cons (js_set (i := 2) sc.nd (by rfl) (.inl rfl) hL ((je_lst (ja_sh (je_tup (ja_sh (je_tup (ja_sh ((je_var (i := 1) (by rfl) (.inl (by rfl)))) (ja_sh (je_addD (((je_var (i := 1) (by rfl) (.inl (by rfl)))).bo) ((je_int).bo)) (ja_nil)))) (ja_sh (je_tup (ja_sh (je_int) (ja_sh (je_int) (ja_nil)))) (ja_nil)))) (ja_sh (je_tup (ja_sh (je_tup (ja_sh (je_addD (((je_var (i := 1) (by rfl) (.inl (by rfl)))).bo) ((je_int).bo)) (ja_sh (je_addD (((je_var (i := 1) (by rfl) (.inl (by rfl)))).bo) ((je_int).bo)) (ja_nil)))) (ja_sh (je_tup (ja_sh (je_int) (ja_sh (je_int) (ja_nil)))) (ja_nil)))) (ja_sh (je_tup (ja_sh (je_tup (ja_sh (je_addD (((je_var (i := 1) (by rfl) (.inl (by rfl)))).bo) ((je_int).bo)) (ja_sh (je_addD (((je_var (i := 1) (by rfl) (.inl (by rfl)))).bo) ((je_int).bo)) (ja_nil)))) (ja_sh (je_tup (ja_sh (je_int) (ja_sh (je_int) (ja_nil)))) (ja_nil)))) (ja_sh (je_tup (ja_sh (je_tup (ja_sh ((je_var (i := 1) (by rfl) (.inl (by rfl)))) (ja_sh (je_addD (((je_var (i := 1) (by rfl) (.inl (by rfl)))).bo) ((je_int).bo)) (ja_nil)))) (ja_sh (je_tup (ja_sh (je_int) (ja_sh (je_int) (ja_nil)))) (ja_nil)))) (ja_nil)))))).give))
    (jss_one (js_ret (je_catD (((je_var (i := 2) (by rfl) (.inl (by rfl)))).bo) ((je_lst (ja_sh (je_tup (ja_sh (je_tup (ja_sh ((je_var (i := 1) (by rfl) (.inl (by rfl)))) (ja_sh (je_addD (((je_var (i := 1) (by rfl) (.inl (by rfl)))).bo) ((je_int).bo)) (ja_nil)))) (ja_sh (je_tup (ja_sh (je_int) (ja_sh (je_int) (ja_nil)))) (ja_nil)))) (ja_sh (je_tup (ja_sh (je_tup (ja_sh ((je_var (i := 1) (by rfl) (.inl (by rfl)))) (ja_sh (je_addD (((je_var (i := 1) (by rfl) (.inl (by rfl)))).bo) ((je_int).bo)) (ja_nil)))) (ja_sh (je_tup (ja_sh (je_int) (ja_sh (je_int) (ja_nil)))) (ja_nil)))) (ja_nil)))).give.bo)))))
theorem sc__law_letters : FnScope ["wish", "found", "low", "high", "longer", "letter", "number"] ["wish"] (defScope (topS 24)) := ⟨rfl, rfl, rfl, by decide +kernel, rfl, by decide +kernel, by decide +kernel⟩
theorem ok__law_letters (T : Tx K mg) : FnG P w K mg base 1 T.a__law_letters T.d__law_letters ["wish"] (spF ⟨K, mg, P, w⟩ 1 false m__law_letters) := by
  have sc := sc__law_letters
  refine fjG_of T.u__law_letters sc rfl ?_
  intro cdv A outer s H E B hr hgd hL tk
  exact jss_cons (js_set (i := 1) sc.nd (by rfl) (.inl rfl) hL ((je_lst (ja_sh (je_tup (ja_nil)) (ja_nil))).give))
    (jss_cons (js_for (passes_of (by rfl)) (by rfl) (ji_seq ((je_var (i := 0) (by rfl) (.inl (by rfl))))) (jg_tup (by rfl) (jgs_cons (jg_name (i := 2) sc.nd (by rfl) (.inl (by rfl)) hL) (jgs_cons (jg_name (i := 3) sc.nd (by rfl) (.inl (by rfl)) hL) jgs_nil))) (jss_cons (js_own (i := 4) sc.nd (by rfl) (.inl rfl) hL (je_lst (ja_nil)))
    (jss_cons (js_for (passes_of (by rfl)) (by rfl) (ji_seq ((je_var (i := 1) (by rfl) (.inl (by rfl))))) (jg_name (i := 5) sc.nd (by rfl) (.inr (by rfl)) hL) (jss_one (js_ext (i := 4) (by rfl) (.inl (by rfl)) (ja_bo ((je_lc (own := [("number", 6)]) rfl sc.nd (ji_range2 (by rfl) T.z_range (ja_bo (((je_var (i := 2) (by rfl) (.inl (by rfl)))).bo) (ja_bo ((je_addD (((je_var (i := 3) (by rfl) (.inl (by rfl)))).bo) ((je_int).bo)).bo) (ja_nil)))) (blkOk_by (N := ["wish", "found", "low", "high", "longer", "letter", "number"]) (sc := defScope (topS 24)) (by decide +kernel)) (by decide) (fun _ _ _ _ _ => (jg_name (i := 6) sc.nd (by rfl) (.inl (by rfl)) hL)) (fun _ _ _ _ _ => jp_nil) (fun _ _ _ _ _ => je_addD (((je_var (i := 5) (by rfl) (.inr (.inl (by rfl))))).bo) ((je_tup (ja_sh ((je_var (i := 6) (by rfl) (.inl (by rfl)))) (ja_nil))).bo))).give.bo) (ja_nil)))))
    (jss_one (js_fix (i := 4) (js_set (i := 1) sc.nd (by rfl) (.inl rfl) hL ((je_var (i := 4) (by rfl) (.inl (by rfl))))))))))
    (jss_one (js_ret ((je_var (i := 1) (by rfl) (.inl (by rfl)))))))
theorem sc__law_union : FnScope ["wishes", "found", "wish", "letter"] ["wishes"] (defScope (topS 27)) := ⟨rfl, rfl, rfl, by decide +kernel, rfl, by decide +kernel, by decide +kernel⟩
theorem ok__law_union (T : Tx K mg) : FnG P w K mg base 2 T.a__law_union T.d__law_union ["wishes"] (spF ⟨K, mg, P, w⟩ 1 true m__law_union) := by
  have sc := sc__law_union
  refine fjG_of T.u__law_union sc rfl ?_
  intro cdv A outer s H E B hr hgd hL tk
  exact jss_cons (js_own (i := 1) sc.nd (by rfl) (.inl rfl) hL (je_dctN))
    (jss_cons (js_for (passes_of (by rfl)) (by rfl) (ji_seq ((je_var (i := 0) (by rfl) (.inl (by rfl))))) (jg_name (i := 2) sc.nd (by rfl) (.inl (by rfl)) hL) (jss_one (js_for (passes_of (by rfl)) (by rfl) (ji_seq (je_callG (fr := false) (n := 1) tk (ok__law_letters T) (hr.mono (by decide)) hgd (by rfl) T.g__law_letters T.u__law_letters.kp T.b__law_letters (ja_sh ((je_var (i := 2) (by rfl) (.inl (by rfl)))) (ja_nil)))) (jg_name (i := 3) sc.nd (by rfl) (.inl (by rfl)) hL) (jss_one (js_nput (i := 1) hr.units (by rfl) (.inl (by rfl)) (je_bl) ((je_var (i := 3) (by rfl) (.inl (by rfl)))))))))
    (jss_one (js_retOwn (i := 1) (by rfl) (.inl (by rfl)))))
theorem sc_need_kin : FnScope ["things", "one"] ["things"] (defScope (topS 4)) := ⟨rfl, rfl, rfl, by decide +kernel, rfl, by decide +kernel, by decide +kernel⟩
theorem ok_need_kin (T : Tx K mg) : FnG P w K mg base 1 T.a_need_kin T.d_need_kin ["things"] (spF ⟨K, mg, P, w⟩ 1 false m_need_kin) := by
  have sc := sc_need_kin
  refine fjG_of T.u_need_kin sc rfl ?_
  intro cdv A outer s H E B hr hgd hL tk
  exact jss_one (js_if ((jc_ne hr.units).der.jt ((je_lc (own := [("one", 1)]) rfl sc.nd (ji_seq ((je_var (i := 0) (by rfl) (.inr (.inl (by rfl)))))) (blkOk_by (N := ["things", "one"]) (sc := defScope (topS 4)) (by decide +kernel)) (by decide) (fun _ _ _ _ _ => (jg_name (i := 1) sc.nd (by rfl) (.inl (by rfl)) hL)) (fun _ _ _ _ _ => jp_one ((jc_ne hr.units).der.jt ((je_bt jb_len.der (by rfl) T.z_len (by decide +kernel) (ja_bo (((je_var (i := 1) (by rfl) (.inl (by rfl)))).bo) (ja_nil))).bo) ((je_bt jb_len.der (by rfl) T.z_len (by decide +kernel) (ja_bo ((je_ix (((je_var (i := 0) (by rfl) (.inr (.inl (by rfl))))).bo) ((je_int).bo)).bo) (ja_nil))).bo) (nomark _))) (fun _ _ _ _ _ => (je_var (i := 1) (by rfl) (.inl (by rfl))))).give.bo) ((je_lst (ja_nil)).give.bo) (nomark _)) (jss_one (js_raise (by rfl) tk PySem.F.excBase_ValueError T.x_NoKin T.g_NoKin T.k_NoKin T.s_NoKin T.t_NoKin (by rfl))) (jss_nil))
theorem sc_each_once : FnScope ["wishes", "found", "wish"] ["wishes"] (defScope (topS 8)) := ⟨rfl, rfl, rfl, by decide +kernel, rfl, by decide +kernel, by decide +kernel⟩
theorem ok_each_once (T : Tx K mg) : FnG P w K mg base 1 T.a_each_once T.d_each_once ["wishes"] (spF ⟨K, mg, P, w⟩ 1 true m_each_once) := by
  have sc := sc_each_once
  refine fjG_of T.u_each_once sc rfl ?_
  intro cdv A outer s H E B hr hgd hL tk
  exact jss_cons (js_own (i := 1) sc.nd (by rfl) (.inl rfl) hL (je_lst (ja_nil)))
    (jss_cons (js_for (passes_of (by rfl)) (by rfl) (ji_seq ((je_bt (jb_sort hr.units).der (by rfl) T.z_sorted (by decide +kernel) (ja_bo (((je_var (i := 0) (by rfl) (.inl (by rfl)))).bo) (ja_nil))).give)) (jg_name (i := 2) sc.nd (by rfl) (.inl (by rfl)) hL) (jss_one (js_if ((jw_or ((jc_eq hr.units).der.jt ((je_peek (i := 1) (by rfl) (.inl (by rfl)))) ((je_lst (ja_nil)).give.bo) (nomark _)) (jw_or1 ((jc_ne hr.units).der.jt ((je_ix ((je_peek (i := 1) (by rfl) (.inl (by rfl)))) ((je_neg ((je_int).bo)).bo)).bo) (((je_var (i := 2) (by rfl) (.inl (by rfl)))).bo) (nomark _)))).jt) (jss_one (js_app (i := 1) (by rfl) (.inl (by rfl)) (ja_sh ((je_var (i := 2) (by rfl) (.inl (by rfl)))) (ja_nil)))) (jss_nil))))
    (jss_one (js_retOwn (i := 1) (by rfl) (.inl (by rfl)))))
theorem sc_covers : FnScope ["one", "other", "here", "there"] ["one", "other"] (defScope (topS 7)) := ⟨rfl, rfl, rfl, by decide +kernel, rfl, by decide +kernel, by decide +kernel⟩
theorem ok_covers (T : Tx K mg) : FnG P w K mg base 2 T.a_covers T.d_covers ["one", "other"] (spF ⟨K, mg, P, w⟩ 2 false m_covers) := by
  have sc := sc_covers
  refine fjG_of T.u_covers sc rfl ?_
  intro cdv A outer s H E B hr hgd hL tk
  exact jss_cons (js_ex (je_callG (fr := false) (n := 1) tk (ok_need_kin T) (hr.mono (by decide)) hgd (by rfl) T.g_need_kin T.u_need_kin.kp T.b_need_kin (ja_sh ((je_lst (ja_sh ((je_var (i := 0) (by rfl) (.inl (by rfl)))) (ja_sh ((je_var (i := 1) (by rfl) (.inl (by rfl)))) (ja_nil)))).give) (ja_nil))))
    (jss_one (js_ret (je_bt (jb_all rfl).der (by rfl) T.z_all (by decide +kernel) (ja_bo ((je_lc (own := [("here", 2), ("there", 3)]) rfl sc.nd (ji_zip (by rfl) T.z_zip (ja_sh ((je_var (i := 0) (by rfl) (.inl (by rfl)))) (ja_sh ((je_var (i := 1) (by rfl) (.inl (by rfl)))) (ja_nil)))) (blkOk_by (N := ["one", "other", "here", "there"]) (sc := defScope (topS 7)) (by decide +kernel)) (by decide) (fun _ _ _ _ _ => (jg_tup (by rfl) (jgs_cons (jg_name (i := 2) sc.nd (by rfl) (.inl (by rfl)) hL) (jgs_cons (jg_name (i := 3) sc.nd (by rfl) (.inl (by rfl)) hL) jgs_nil)))) (fun _ _ _ _ _ => jp_nil) (fun _ _ _ _ _ => je_and (jc_ile.je ((je_ix (((je_var (i := 2) (by rfl) (.inl (by rfl)))).bo) ((je_int).bo)).bo) ((je_ix (((je_var (i := 3) (by rfl) (.inl (by rfl)))).bo) ((je_int).bo)).bo) (nomark _)) (je_one (jc_ile.je ((je_ix (((je_var (i := 3) (by rfl) (.inl (by rfl)))).bo) ((je_int).bo)).bo) ((je_ix (((je_var (i := 2) (by rfl) (.inl (by rfl)))).bo) ((je_int).bo)).bo) (nomark _))))).give.bo) (ja_nil)))))
theorem sc_roof_of : FnScope ["wishes", "some", "wish", "other"] ["wishes"] (defScope (topS 9)) := ⟨rfl, rfl, rfl, by decide +kernel, rfl, by decide +kernel, by decide +kernel⟩
theorem ok_roof_of (T : Tx K mg) : FnG P w K mg base 3 T.a_roof_of T.d_roof_of ["wishes"] (spF ⟨K, mg, P, w⟩ 1 true m_roof_of) := by
  have sc := sc_roof_of
  refine fjG_of T.u_roof_of sc rfl ?_
  intro cdv A outer s H E B hr hgd hL tk
  exact jss_cons (js_ex (je_callG (fr := false) (n := 1) tk (ok_need_kin T) (hr.mono (by decide)) hgd (by rfl) T.g_need_kin T.u_need_kin.kp T.b_need_kin (ja_sh ((je_var (i := 0) (by rfl) (.inl (by rfl)))) (ja_nil))))
    (jss_cons (js_set (i := 1) sc.nd (by rfl) (.inr (by rfl)) hL ((je_callG (fr := true) (n := 1) tk (ok_each_once T) (hr.mono (by decide)) hgd (by rfl) T.g_each_once T.u_each_once.kp T.b_each_once (ja_sh ((je_var (i := 0) (by rfl) (.inl (by rfl)))) (ja_nil))).give))
    (jss_one (js_ret (je_lc (own := [("wish", 2)]) rfl sc.nd (ji_seq ((je_var (i := 1) (by rfl) (.inr (.inl (by rfl)))))) (blkOk_by (N := ["wishes", "some", "wish", "other"]) (sc := defScope (topS 9)) (by decide +kernel)) (by decide) (fun _ _ _ _ _ => (jg_name (i := 2) sc.nd (by rfl) (.inr (by rfl)) hL)) (fun _ _ _ _ _ => jp_one (jt_not ((je_bt (jb_any rfl).der (by rfl) T.z_any (by decide +kernel) (ja_bo ((je_lc (own := [("other", 3)]) rfl sc.nd (ji_seq ((je_var (i := 1) (by rfl) (.inr (.inl (by rfl)))))) (by refine blkOk_by ?_; simp only [L2.Cx.blk, L2.cxOf, PySem.compEnvC, Sm.relabel_eq, PyProof.Rows.envOfC]; decide +kernel) (by decide) (fun _ _ _ _ _ => (jg_name (i := 3) sc.nd (by rfl) (.inl (by rfl)) hL)) (fun _ _ _ _ _ => jp_nil) (fun _ _ _ _ _ => je_and ((jc_ne hr.units).der.je (((je_var (i := 3) (by rfl) (.inl (by rfl)))).bo) (((je_var (i := 2) (by rfl) (.inr (.inl (by rfl))))).bo) (nomark _)) (je_one (je_callG (fr := false) (n := 2) takes_nv (ok_covers T) (hr.mono (by decide)) hgd (by rfl) T.g_covers T.u_covers.kp T.b_covers (ja_sh ((je_var (i := 3) (by rfl) (.inl (by rfl)))) (ja_sh ((je_var (i := 2) (by rfl) (.inr (.inl (by rfl))))) (ja_nil))))))).give.bo) (ja_nil))).jt))) (fun _ _ _ _ _ => (je_var (i := 2) (by rfl) (.inr (.inl (by rfl)))))))))
theorem sc_is_in : FnScope ["number", "pair"] ["number", "pair"] (defScope (topS 5)) := ⟨rfl, rfl, rfl, by decide +kernel, rfl, by decide +kernel, by decide +kernel⟩
theorem ok_is_in (T : Tx K mg) : FnG P w K mg base 1 T.a_is_in T.d_is_in ["number", "pair"] (spF ⟨K, mg, P, w⟩ 2 false m_is_in) := by
  have sc := sc_is_in
  refine fjG_of T.u_is_in sc rfl ?_
  intro cdv A outer s H E B hr hgd hL tk
  exact jss_one (js_ret (je_chain jc_ile jc_ile ((je_ix (((je_var (i := 1) (by rfl) (.inl (by rfl)))).bo) ((je_int).bo)).bo) (((je_var (i := 0) (by rfl) (.inl (by rfl)))).bo) ((je_ix (((je_var (i := 1) (by rfl) (.inl (by rfl)))).bo) ((je_int).bo)).bo)))
theorem sc_first_left : FnScope ["wishes", "wish", "field", "number", "rest", "one"] ["wishes", "wish", "field"] (defScope (topS 11)) := ⟨rfl, rfl, rfl, by decide +kernel, rfl, by decide +kernel, by decide +kernel⟩
theorem ok_first_left (T : Tx K mg) : ∀ n : Nat, FnG P w K mg base (2 + n) T.a_first_left T.d_first_left ["wishes", "wish", "field"] (spF ⟨K, mg, P, w⟩ 3 false (m_first_left n))
  | 0 => by
    rw [z_first_left]
    exact fjG_bad
  | n + 1 => by
    have ih := ok_first_left T n
    have sc := sc_first_left
    rw [e_first_left]
    refine fjG_of T.u_first_left sc rfl ?_
    intro cdv A outer s H E B hr hgd hL tk
    exact jss_cons (js_if ((jc_eq hr.units).der.jt (((je_var (i := 2) (by rfl) (.inr (.inl (by rfl))))).bo) ((je_bt jb_len.der (by rfl) T.z_len (by decide +kernel) (ja_bo (((je_var (i := 1) (by rfl) (.inl (by rfl)))).bo) (ja_nil))).bo) (nomark _)) (jss_one (js_ret (je_if ((jc_eq hr.units).der.jt (((je_var (i := 0) (by rfl) (.inl (by rfl)))).bo) ((je_lst (ja_nil)).give.bo) (nomark _)) (je_tup (ja_nil)) (je_non)))) (jss_nil))
      (jss_cons (js_for (passes_of (by rfl)) (by rfl) (ji_range2 (by rfl) T.z_range (ja_bo ((je_ix ((je_ix (((je_var (i := 1) (by rfl) (.inl (by rfl)))).bo) (((je_var (i := 2) (by rfl) (.inr (.inl (by rfl))))).bo)).bo) ((je_int).bo)).bo) (ja_bo ((je_addD ((je_ix ((je_ix (((je_var (i := 1) (by rfl) (.inl (by rfl)))).bo) (((je_var (i := 2) (by rfl) (.inr (.inl (by rfl))))).bo)).bo) ((je_int).bo)).bo) ((je_int).bo)).bo) (ja_nil)))) (jg_name (i := 3) sc.nd (by rfl) (.inr (by rfl)) hL) (jss_cons (js_set (i := 4) sc.nd (by rfl) (.inl rfl) hL (je_callG (fr := false) (n := 3) tk ih (hr.mono (Nat.le_refl _)) hgd (by rfl) T.g_first_left T.u_first_left.kp T.b_first_left (ja_sh ((je_lc (own := [("one", 5)]) rfl sc.nd (ji_seq ((je_var (i := 0) (by rfl) (.inl (by rfl))))) (blkOk_by (N := ["wishes", "wish", "field", "number", "rest", "one"]) (sc := defScope (topS 11)) (by decide +kernel)) (by decide) (fun _ _ _ _ _ => (jg_name (i := 5) sc.nd (by rfl) (.inl (by rfl)) hL)) (fun _ _ _ _ _ => jp_one ((je_callG (fr := false) (n := 2) takes_nv (ok_is_in T) (hr.mono (Nat.le_trans (by decide) (Nat.le_add_right 2 n))) hgd (by rfl) T.g_is_in T.u_is_in.kp T.b_is_in (ja_sh ((je_var (i := 3) (by rfl) (.inr (.inl (by rfl))))) (ja_sh (je_ix (((je_var (i := 5) (by rfl) (.inl (by rfl)))).bo) (((je_var (i := 2) (by rfl) (.inr (.inl (by rfl))))).bo)) (ja_nil)))).jt)) (fun _ _ _ _ _ => (je_var (i := 5) (by rfl) (.inl (by rfl))))).give) (ja_sh ((je_var (i := 1) (by rfl) (.inl (by rfl)))) (ja_sh (je_addD (((je_var (i := 2) (by rfl) (.inr (.inl (by rfl))))).bo) ((je_int).bo)) (ja_nil))))))
      (jss_one (js_if (jc_isnot.jt (((je_var (i := 4) (by rfl) (.inl (by rfl)))).bo) ((je_non).bo) (nomark _)) (jss_one (js_ret (je_addD ((je_tup (ja_sh ((je_var (i := 3) (by rfl) (.inr (.inl (by rfl))))) (ja_nil))).bo) (((je_var (i := 4) (by rfl) (.inl (by rfl)))).bo)))) (jss_nil)))))
      (jss_one (js_ret (je_non))))
theorem sc_first_lack : FnScope ["wishes", "chosen", "found", "wish", "letter"] ["wishes", "chosen"] (defScope (topS 13)) := ⟨rfl, rfl, rfl, by decide +kernel, rfl, by decide +kernel, by decide +kernel⟩
theorem ok_first_lack (T : Tx K mg) : FnG P w K mg base 11 T.a_first_lack T.d_first_lack ["wishes", "chosen"] (spF ⟨K, mg, P, w⟩ 2 false m_first_lack) := by
  have sc := sc_first_lack
  refine fjG_of T.u_first_lack sc rfl ?_
  intro cdv A outer s H E B hr hgd hL tk
  exact jss_cons (js_setLc (i := 2) (own := [("wish", 3)]) rfl sc.nd rfl rfl hL (sw_true rfl rfl rfl (by decide +kernel)) (ji_seq ((je_var (i := 0) (by rfl) (.inl (by rfl))))) (blkOk_by (N := ["wishes", "chosen", "found", "wish", "letter"]) (sc := defScope (topS 13)) (by decide +kernel)) (by decide) (fun _ _ _ _ _ => (jg_name (i := 3) sc.nd (by rfl) (.inl (by rfl)) hL)) (fun _ _ _ _ _ => jp_nil) (fun _ _ _ _ _ => je_callG (fr := false) (n := 3) takes_nv (ok_first_left T 8) (hr.mono (by decide)) hgd (by rfl) T.g_first_left T.u_first_left.kp T.b_first_left (ja_sh ((je_var (i := 1) (by rfl) (.inr (.inl (by rfl))))) (ja_sh ((je_var (i := 3) (by rfl) (.inl (by rfl)))) (ja_sh (je_int) (ja_nil))))))
    (jss_cons (js_setLc (i := 2) (own := [("letter", 4)]) rfl sc.nd rfl rfl hL (sw_true rfl rfl rfl (by decide +kernel)) (ji_seq ((je_var (i := 2) (by rfl) (.inl (by rfl))))) (blkOk_by (N := ["wishes", "chosen", "found", "wish", "letter"]) (sc := defScope (topS 13)) (by decide +kernel)) (by decide) (fun _ _ _ _ _ => (jg_name (i := 4) sc.nd (by rfl) (.inl (by rfl)) hL)) (fun _ _ _ _ _ => jp_one (jc_isnot.jt (((je_var (i := 4) (by rfl) (.inl (by rfl)))).bo) ((je_non).bo) (nomark _))) (fun _ _ _ _ _ => (je_var (i := 4) (by rfl) (.inl (by rfl)))))
    (jss_one (js_ret (je_if ((jc_ne hr.units).der.jt (((je_var (i := 2) (by rfl) (.inl (by rfl)))).bo) ((je_lst (ja_nil)).give.bo) (nomark _)) (je_bt (jb_best_min rfl hr.units).der (by rfl) T.z_min (by decide +kernel) (ja_bo (((je_var (i := 2) (by rfl) (.inl (by rfl)))).bo) (ja_nil))) (je_non)))))
theorem sc_has_letter : FnScope ["wish", "letter", "number", "pair"] ["wish", "letter"] (defScope (topS 6)) := ⟨rfl, rfl, rfl, by decide +kernel, rfl, by decide +kernel, by decide +kernel⟩
theorem ok_has_letter (T : Tx K mg) : FnG P w K mg base 2 T.a_has_letter T.d_has_letter ["wish", "letter"] (spF ⟨K, mg, P, w⟩ 2 false m_has_letter) := by
  have sc := sc_has_letter
  refine fjG_of T.u_has_letter sc rfl ?_
  intro cdv A outer s H E B hr hgd hL tk
  exact jss_cons (js_ex (je_callG (fr := false) (n := 1) tk (ok_need_kin T) (hr.mono (by decide)) hgd (by rfl) T.g_need_kin T.u_need_kin.kp T.b_need_kin (ja_sh ((je_lst (ja_sh ((je_var (i := 0) (by rfl) (.inl (by rfl)))) (ja_sh ((je_var (i := 1) (by rfl) (.inl (by rfl)))) (ja_nil)))).give) (ja_nil))))
    (jss_one (js_ret (je_bt (jb_all rfl).der (by rfl) T.z_all (by decide +kernel) (ja_bo ((je_lc (own := [("number", 2), ("pair", 3)]) rfl sc.nd (ji_zip (by rfl) T.z_zip (ja_sh ((je_var (i := 1) (by rfl) (.inl (by rfl)))) (ja_sh ((je_var (i := 0) (by rfl) (.inl (by rfl)))) (ja_nil)))) (blkOk_by (N := ["wish", "letter", "number", "pair"]) (sc := defScope (topS 6)) (by decide +kernel)) (by decide) (fun _ _ _ _ _ => (jg_tup (by rfl) (jgs_cons (jg_name (i := 2) sc.nd (by rfl) (.inl (by rfl)) hL) (jgs_cons (jg_name (i := 3) sc.nd (by rfl) (.inl (by rfl)) hL) jgs_nil)))) (fun _ _ _ _ _ => jp_nil) (fun _ _ _ _ _ => je_callG (fr := false) (n := 2) takes_nv (ok_is_in T) (hr.mono (by decide)) hgd (by rfl) T.g_is_in T.u_is_in.kp T.b_is_in (ja_sh ((je_var (i := 2) (by rfl) (.inl (by rfl)))) (ja_sh ((je_var (i := 3) (by rfl) (.inl (by rfl)))) (ja_nil))))).give.bo) (ja_nil)))))
theorem sc_searched : FnScope ["wishes", "chosen", "choices", "letter", "trees", "one", "word", "thing"] ["wishes", "chosen", "choices"] (defScope (topS 14)) := ⟨rfl, rfl, rfl, by decide +kernel, rfl, by decide +kernel, by decide +kernel⟩
theorem ok_searched (T : Tx K mg) : ∀ n : Nat, FnG P w K mg base (12 + n) T.a_searched T.d_searched ["wishes", "chosen", "choices"] (spF ⟨K, mg, P, w⟩ 3 false (m_searched n))
  | 0 => by
    rw [z_searched]
    exact fjG_bad
  | n + 1 => by
    have ih := ok_searched T n
    have sc := sc_searched
    rw [e_searched]
    refine fjG_of T.u_searched sc rfl ?_
    intro cdv A outer s H E B hr hgd hL tk
    exact jss_cons (js_set (i := 3) sc.nd (by rfl) (.inl rfl) hL (je_callG (fr := false) (n := 2) tk (ok_first_lack T) (hr.mono (Nat.le_trans (by decide) (Nat.le_add_right 12 n))) hgd (by rfl) T.g_first_lack T.u_first_lack.kp T.b_first_lack (ja_sh ((je_var (i := 0) (by rfl) (.inl (by rfl)))) (ja_sh ((je_var (i := 1) (by rfl) (.inl (by rfl)))) (ja_nil)))))
      (jss_cons (js_if (jc_is.jt (((je_var (i := 3) (by rfl) (.inl (by rfl)))).bo) ((je_non).bo) (nomark _)) (jss_one (js_ret (je_tup (ja_sh (je_str) (ja_sh ((je_var (i := 1) (by rfl) (.inl (by rfl)))) (ja_nil)))))) (jss_nil))
      (jss_cons (js_if ((jc_eq hr.units).der.jt (((je_var (i := 2) (by rfl) (.inl (by rfl)))).bo) ((je_int).bo) (nomark _)) (jss_one (js_ret (je_tup (ja_sh (je_str) (ja_sh (je_tup (ja_sh (je_str) (ja_sh ((je_var (i := 3) (by rfl) (.inl (by rfl)))) (ja_nil)))) (ja_nil)))))) (jss_nil))
      (jss_cons (js_set (i := 4) sc.nd (by rfl) (.inl rfl) hL (je_ref (je_lst (ja_nil))))
      (jss_cons (js_for (passes_of (by rfl)) (by rfl) (ji_seq ((je_var (i := 0) (by rfl) (.inl (by rfl))))) (jg_name (i := 5) sc.nd (by rfl) (.inl (by rfl)) hL) (jss_one (js_if ((je_callG (fr := false) (n := 2) tk (ok_has_letter T) (hr.mono (Nat.le_trans (by decide) (Nat.le_add_right 12 n))) hgd (by rfl) T.g_has_letter T.u_has_letter.kp T.b_has_letter (ja_sh ((je_var (i := 5) (by rfl) (.inl (by rfl)))) (ja_sh ((je_var (i := 3) (by rfl) (.inl (by rfl)))) (ja_nil)))).jt) (jss_cons (js_to (jg_tup (by rfl) (jgs_cons (jg_name (i := 6) sc.nd (by rfl) (.inl (by rfl)) hL) (jgs_cons (jg_name (i := 7) sc.nd (by rfl) (.inl (by rfl)) hL) jgs_nil))) (je_callG (fr := false) (n := 3) tk ih (hr.mono (Nat.le_refl _)) hgd (by rfl) T.g_searched T.u_searched.kp T.b_searched (ja_sh ((je_var (i := 0) (by rfl) (.inl (by rfl)))) (ja_sh (je_addD (((je_var (i := 1) (by rfl) (.inl (by rfl)))).bo) ((je_lst (ja_sh ((je_var (i := 5) (by rfl) (.inl (by rfl)))) (ja_nil))).give.bo)) (ja_sh (je_sub (((je_var (i := 2) (by rfl) (.inl (by rfl)))).bo) ((je_int).bo)) (ja_nil))))))
      (jss_cons (js_if ((jc_eq hr.units).der.jt (((je_var (i := 6) (by rfl) (.inl (by rfl)))).bo) ((je_str).bo) (nomark _)) (jss_one (js_ret (je_tup (ja_sh ((je_var (i := 6) (by rfl) (.inl (by rfl)))) (ja_sh ((je_var (i := 7) (by rfl) (.inl (by rfl)))) (ja_nil)))))) (jss_nil))
      (jss_one (js_appR ((je_var (i := 4) (by rfl) (.inl (by rfl)))) (ja_sh ((je_var (i := 7) (by rfl) (.inl (by rfl)))) (ja_nil)))))) (jss_nil))))
      (jss_one (js_ret (je_tup (ja_sh (je_str) (ja_sh (je_tup (ja_sh (je_str) (ja_sh ((je_var (i := 3) (by rfl) (.inl (by rfl)))) (ja_sh ((je_var (i := 4) (by rfl) (.inl (by rfl)))) (ja_nil))))) (ja_nil))))))))))
theorem sc_fewest_of : FnScope ["wishes", "some", "number", "tree", "word", "thing"] ["wishes"] (defScope (topS 15)) := ⟨rfl, rfl, rfl, by decide +kernel, rfl, by decide +kernel, by decide +kernel⟩
theorem ok_fewest_of (T : Tx K mg) : FnG P w K mg base 21 T.a_fewest_of T.d_fewest_of ["wishes"] (spF ⟨K, mg, P, w⟩ 1 false m_fewest_of) := by
  have sc := sc_fewest_of
  refine fjG_of T.u_fewest_of sc rfl ?_
  intro cdv A outer s H E B hr hgd hL tk
  exact jss_cons (js_set (i := 1) sc.nd (by rfl) (.inl rfl) hL ((je_callG (fr := true) (n := 1) tk (ok_roof_of T) (hr.mono (by decide)) hgd (by rfl) T.g_roof_of T.u_roof_of.kp T.b_roof_of (ja_sh ((je_var (i := 0) (by rfl) (.inl (by rfl)))) (ja_nil))).give))
    (jss_cons (js_set (i := 2) sc.nd (by rfl) (.inl rfl) hL (je_int))
    (jss_cons (js_set (i := 3) sc.nd (by rfl) (.inl rfl) hL (je_non))
    (jss_cons (js_to (jg_tup (by rfl) (jgs_cons (jg_name (i := 4) sc.nd (by rfl) (.inl (by rfl)) hL) (jgs_cons (jg_name (i := 5) sc.nd (by rfl) (.inl (by rfl)) hL) jgs_nil))) (je_callG (fr := false) (n := 3) tk (ok_searched T 8) (hr.mono (by decide)) hgd (by rfl) T.g_searched T.u_searched.kp T.b_searched (ja_sh ((je_var (i := 1) (by rfl) (.inl (by rfl)))) (ja_sh ((je_lst (ja_nil)).give) (ja_sh ((je_var (i := 2) (by rfl) (.inl (by rfl)))) (ja_nil))))))
    (jss_cons (js_while (passes_of (by rfl)) ((jc_eq hr.units).der.jt (((je_var (i := 4) (by rfl) (.inl (by rfl)))).bo) ((je_str).bo) (nomark _)) (jss_cons (js_set (i := 3) sc.nd (by rfl) (.inl rfl) hL ((je_var (i := 5) (by rfl) (.inl (by rfl)))))
    (jss_cons (js_set (i := 2) sc.nd (by rfl) (.inl rfl) hL (je_addD (((je_var (i := 2) (by rfl) (.inl (by rfl)))).bo) ((je_int).bo)))
    (jss_one (js_to (jg_tup (by rfl) (jgs_cons (jg_name (i := 4) sc.nd (by rfl) (.inl (by rfl)) hL) (jgs_cons (jg_name (i := 5) sc.nd (by rfl) (.inl (by rfl)) hL) jgs_nil))) (je_callG (fr := false) (n := 3) tk (ok_searched T 8) (hr.mono (by decide)) hgd (by rfl) T.g_searched T.u_searched.kp T.b_searched (ja_sh ((je_var (i := 1) (by rfl) (.inl (by rfl)))) (ja_sh ((je_lst (ja_nil)).give) (ja_sh ((je_var (i := 2) (by rfl) (.inl (by rfl)))) (ja_nil))))))))))
    (jss_one (js_ret (je_tup (ja_sh ((je_var (i := 2) (by rfl) (.inl (by rfl)))) (ja_sh (je_ref (je_bt (jb_sort hr.units).der (by rfl) T.z_sorted (by decide +kernel) (ja_bo (((je_var (i := 5) (by rfl) (.inl (by rfl)))).bo) (ja_nil)))) (ja_sh ((je_var (i := 3) (by rfl) (.inl (by rfl)))) (ja_nil)))))))))))
theorem sc__law_apart : FnScope ["lists", "k", "some"] ["lists"] (defScope (topS 35)) := ⟨rfl, rfl, rfl, by decide +kernel, rfl, by decide +kernel, by decide +kernel⟩
theorem ok__law_apart (T : Tx K mg) : FnG P w K mg base 1 T.a__law_apart T.d__law_apart ["lists"] (spF ⟨K, mg, P, w⟩ 1 false m__law_apart) := by
  have sc := sc__law_apart
  refine fjG_of T.u__law_apart sc rfl ?_
  intro cdv A outer s H E B hr hgd hL tk
  exact jss_cons (js_for (passes_of (by rfl)) (by rfl) (ji_enum (by rfl) T.z_enumerate (ja_sh ((je_var (i := 0) (by rfl) (.inl (by rfl)))) (ja_nil))) (jg_tup (by rfl) (jgs_cons (jg_name (i := 1) sc.nd (by rfl) (.inl (by rfl)) hL) (jgs_cons (jg_name (i := 2) sc.nd (by rfl) (.inl (by rfl)) hL) jgs_nil))) (jss_one (js_appR ((je_var (i := 2) (by rfl) (.inl (by rfl)))) (ja_sh (je_tup (ja_sh (je_str) (ja_sh ((je_var (i := 1) (by rfl) (.inl (by rfl)))) (ja_nil)))) (ja_nil)))))
    (jss_one (js_ret ((jc_eq hr.units).der.je ((je_lc (own := [("some", 2)]) rfl sc.nd (ji_seq ((je_var (i := 0) (by rfl) (.inl (by rfl))))) (blkOk_by (N := ["lists", "k", "some"]) (sc := defScope (topS 35)) (by decide +kernel)) (by decide) (fun _ _ _ _ _ => (jg_name (i := 2) sc.nd (by rfl) (.inl (by rfl)) hL)) (fun _ _ _ _ _ => jp_nil) (fun _ _ _ _ _ => je_ix (((je_var (i := 2) (by rfl) (.inl (by rfl)))).bo) ((je_neg ((je_int).bo)).bo))).give.bo) ((je_lc (own := [("k", 1)]) rfl sc.nd (ji_range1 (by rfl) T.z_range (ja_bo ((je_bt jb_len.der (by rfl) T.z_len (by decide +kernel) (ja_bo (((je_var (i := 0) (by rfl) (.inl (by rfl)))).bo) (ja_nil))).bo) (ja_nil))) (blkOk_by (N := ["lists", "k", "some"]) (sc := defScope (topS 35)) (by decide +kernel)) (by decide) (fun _ _ _ _ _ => (jg_name (i := 1) sc.nd (by rfl) (.inl (by rfl)) hL)) (fun _ _ _ _ _ => jp_nil) (fun _ _ _ _ _ => je_tup (ja_sh (je_str) (ja_sh ((je_var (i := 1) (by rfl) (.inl (by rfl)))) (ja_nil))))).give.bo) (nomark _))))
theorem sc__law_choices : FnScope ["top", "found", "wish", "some"] ["top"] (defScope (topS 31)) := ⟨rfl, rfl, rfl, by decide +kernel, rfl, by decide +kernel, by decide +kernel⟩
theorem ok__law_choices (T : Tx K mg) : FnG P w K mg base 1 T.a__law_choices T.d__law_choices ["top"] (spF ⟨K, mg, P, w⟩ 1 false m__law_choices) := by
  have sc := sc__law_choices
  refine fjG_of T.u__law_choices sc rfl ?_
  intro cdv A outer s H E B hr hgd hL tk
  exact jss_cons (js_set (i := 1) sc.nd (by rfl) (.inl rfl) hL ((je_lst (ja_sh ((je_lst (ja_nil)).give) (ja_nil))).give))
    (jss_cons (js_for (passes_of (by rfl)) (by rfl) (ji_seq ((je_var (i := 0) (by rfl) (.inl (by rfl))))) (jg_name (i := 2) sc.nd (by rfl) (.inr (by rfl)) hL) (jss_one (js_set (i := 1) sc.nd (by rfl) (.inl rfl) hL (je_addD (((je_var (i := 1) (by rfl) (.inl (by rfl)))).bo) ((je_lc (own := [("some", 3)]) rfl sc.nd (ji_seq ((je_var (i := 1) (by rfl) (.inl (by rfl))))) (blkOk_by (N := ["top", "found", "wish", "some"]) (sc := defScope (topS 31)) (by decide +kernel)) (by decide) (fun _ _ _ _ _ => (jg_name (i := 3) sc.nd (by rfl) (.inl (by rfl)) hL)) (fun _ _ _ _ _ => jp_nil) (fun _ _ _ _ _ => je_addD (((je_var (i := 3) (by rfl) (.inl (by rfl)))).bo) ((je_lst (ja_sh ((je_var (i := 2) (by rfl) (.inr (.inl (by rfl))))) (ja_nil))).give.bo))).give.bo)))))
    (jss_one (js_ret ((je_var (i := 1) (by rfl) (.inl (by rfl)))))))
theorem sc__law_has : FnScope ["wish", "letter", "number", "pair"] ["wish", "letter"] (defScope (topS 23)) := ⟨rfl, rfl, rfl, by decide +kernel, rfl, by decide +kernel, by decide +kernel⟩
theorem ok__law_has (T : Tx K mg) : FnG P w K mg base 1 T.a__law_has T.d__law_has ["wish", "letter"] (spF ⟨K, mg, P, w⟩ 2 false m__law_has) := by
  have sc := sc__law_has
  refine fjG_of T.u__law_has sc rfl ?_
  intro cdv A outer s H E B hr hgd hL tk
  exact jss_one (js_ret ((jc_eq hr.units).der.je ((je_lc (own := [("number", 2), ("pair", 3)]) rfl sc.nd (ji_zip (by rfl) T.z_zip (ja_sh ((je_var (i := 1) (by rfl) (.inl (by rfl)))) (ja_sh ((je_var (i := 0) (by rfl) (.inl (by rfl)))) (ja_nil)))) (blkOk_by (N := ["wish", "letter", "number", "pair"]) (sc := defScope (topS 23)) (by decide +kernel)) (by decide) (fun _ _ _ _ _ => (jg_tup (by rfl) (jgs_cons (jg_name (i := 2) sc.nd (by rfl) (.inl (by rfl)) hL) (jgs_cons (jg_name (i := 3) sc.nd (by rfl) (.inl (by rfl)) hL) jgs_nil)))) (fun _ _ _ _ _ => jp_one ((jw_or (jc_ilt.jt (((je_var (i := 2) (by rfl) (.inl (by rfl)))).bo) ((je_ix (((je_var (i := 3) (by rfl) (.inl (by rfl)))).bo) ((je_int).bo)).bo) (nomark _)) (jw_or1 (jc_igt.jt (((je_var (i := 2) (by rfl) (.inl (by rfl)))).bo) ((je_ix (((je_var (i := 3) (by rfl) (.inl (by rfl)))).bo) ((je_int).bo)).bo) (nomark _)))).jt)) (fun _ _ _ _ _ => je_int)).give.bo) ((je_lst (ja_nil)).give.bo) (nomark _)))
theorem sc__law_has_all : FnScope ["some", "letters", "letter", "wish"] ["some", "letters"] (defScope (topS 32)) := ⟨rfl, rfl, rfl, by decide +kernel, rfl, by decide +kernel, by decide +kernel⟩
theorem ok__law_has_all (T : Tx K mg) : FnG P w K mg base 2 T.a__law_has_all T.d__law_has_all ["some", "letters"] (spF ⟨K, mg, P, w⟩ 2 false m__law_has_all) := by
  have sc := sc__law_has_all
  refine fjG_of T.u__law_has_all sc rfl ?_
  intro cdv A outer s H E B hr hgd hL tk
  exact jss_cons (js_for (passes_of (by rfl)) (by rfl) (ji_seq ((je_var (i := 1) (by rfl) (.inl (by rfl))))) (jg_name (i := 2) sc.nd (by rfl) (.inr (by rfl)) hL) (jss_one (js_if ((jc_eq hr.units).der.jt ((je_lc (own := [("wish", 3)]) rfl sc.nd (ji_seq ((je_var (i := 0) (by rfl) (.inl (by rfl))))) (blkOk_by (N := ["some", "letters", "letter", "wish"]) (sc := defScope (topS 32)) (by decide +kernel)) (by decide) (fun _ _ _ _ _ => (jg_name (i := 3) sc.nd (by rfl) (.inl (by rfl)) hL)) (fun _ _ _ _ _ => jp_one ((je_callG (fr := false) (n := 2) takes_nv (ok__law_has T) (hr.mono (by decide)) hgd (by rfl) T.g__law_has T.u__law_has.kp T.b__law_has (ja_sh ((je_var (i := 3) (by rfl) (.inl (by rfl)))) (ja_sh ((je_var (i := 2) (by rfl) (.inr (.inl (by rfl))))) (ja_nil)))).jt)) (fun _ _ _ _ _ => je_int)).give.bo) ((je_lst (ja_nil)).give.bo) (nomark _)) (jss_one (js_ret (je_bl))) (jss_nil))))
    (jss_one (js_ret (je_bl)))
theorem sc__law_covers : FnScope ["one", "other", "first", "last", "pair"] ["one", "other"] (defScope (topS 25)) := ⟨rfl, rfl, rfl, by decide +kernel, rfl, by decide +kernel, by decide +kernel⟩
theorem ok__law_covers (T : Tx K mg) : FnG P w K mg base 2 T.a__law_covers T.d__law_covers ["one", "other"] (spF ⟨K, mg, P, w⟩ 2 false m__law_covers) := by
  have sc := sc__law_covers
  refine fjG_of T.u__law_covers sc rfl ?_
  intro cdv A outer s H E B hr hgd hL tk
  exact jss_cons (js_set (i := 2) sc.nd (by rfl) (.inl rfl) hL (je_ty jb_tuple.der (by rfl) T.z_tuple (by decide +kernel) (ja_bo ((je_lc (own := [("pair", 4)]) rfl sc.nd (ji_seq ((je_var (i := 1) (by rfl) (.inl (by rfl))))) (blkOk_by (N := ["one", "other", "first", "last", "pair"]) (sc := defScope (topS 25)) (by decide +kernel)) (by decide) (fun _ _ _ _ _ => (jg_name (i := 4) sc.nd (by rfl) (.inl (by rfl)) hL)) (fun _ _ _ _ _ => jp_nil) (fun _ _ _ _ _ => je_ix (((je_var (i := 4) (by rfl) (.inl (by rfl)))).bo) ((je_int).bo))).give.bo) (ja_nil))))
    (jss_cons (js_set (i := 3) sc.nd (by rfl) (.inl rfl) hL (je_ty jb_tuple.der (by rfl) T.z_tuple (by decide +kernel) (ja_bo ((je_lc (own := [("pair", 4)]) rfl sc.nd (ji_seq ((je_var (i := 1) (by rfl) (.inl (by rfl))))) (blkOk_by (N := ["one", "other", "first", "last", "pair"]) (sc := defScope (topS 25)) (by decide +kernel)) (by decide) (fun _ _ _ _ _ => (jg_name (i := 4) sc.nd (by rfl) (.inl (by rfl)) hL)) (fun _ _ _ _ _ => jp_nil) (fun _ _ _ _ _ => je_ix (((je_var (i := 4) (by rfl) (.inl (by rfl)))).bo) ((je_int).bo))).give.bo) (ja_nil))))
    (jss_one (js_ret (je_and (je_callG (fr := false) (n := 2) tk (ok__law_has T) (hr.mono (by decide)) hgd (by rfl) T.g__law_has T.u__law_has.kp T.b__law_has (ja_sh ((je_var (i := 0) (by rfl) (.inl (by rfl)))) (ja_sh ((je_var (i := 2) (by rfl) (.inl (by rfl)))) (ja_nil)))) (je_one (je_callG (fr := false) (n := 2) tk (ok__law_has T) (hr.mono (by decide)) hgd (by rfl) T.g__law_has T.u__law_has.kp T.b__law_has (ja_sh ((je_var (i := 0) (by rfl) (.inl (by rfl)))) (ja_sh ((je_var (i := 3) (by rfl) (.inl (by rfl)))) (ja_nil)))))))))
theorem sc__law_roof : FnScope ["wishes", "found", "wish", "over", "one"] ["wishes"] (defScope (topS 26)) := ⟨rfl, rfl, rfl, by decide +kernel, rfl, by decide +kernel, by decide +kernel⟩
theorem ok__law_roof (T : Tx K mg) : FnG P w K mg base 3 T.a__law_roof T.d__law_roof ["wishes"] (spF ⟨K, mg, P, w⟩ 1 true m__law_roof) := by
  have sc := sc__law_roof
  refine fjG_of T.u__law_roof sc rfl ?_
  intro cdv A outer s H E B hr hgd hL tk
  exact jss_cons (js_own (i := 1) sc.nd (by rfl) (.inl rfl) hL (je_lst (ja_nil)))
    (jss_cons (js_for (passes_of (by rfl)) (by rfl) (ji_seq ((je_bt (jb_sort hr.units).der (by rfl) T.z_sorted (by decide +kernel) (ja_bo (((je_var (i := 0) (by rfl) (.inl (by rfl)))).bo) (ja_nil))).give)) (jg_name (i := 2) sc.nd (by rfl) (.inr (by rfl)) hL) (jss_cons (js_setLc (i := 3) (own := [("one", 4)]) rfl sc.nd rfl rfl hL (sw_true rfl rfl rfl (by decide +kernel)) (ji_seq ((je_var (i := 0) (by rfl) (.inl (by rfl))))) (blkOk_by (N := ["wishes", "found", "wish", "over", "one"]) (sc := defScope (topS 26)) (by decide +kernel)) (by decide) (fun _ _ _ _ _ => (jg_name (i := 4) sc.nd (by rfl) (.inl (by rfl)) hL)) (fun _ _ _ _ _ => jp_one ((jw_and ((jc_ne hr.units).der.jt (((je_var (i := 4) (by rfl) (.inl (by rfl)))).bo) (((je_var (i := 2) (by rfl) (.inr (.inl (by rfl))))).bo) (nomark _)) (jw_and1 ((je_callG (fr := false) (n := 2) takes_nv (ok__law_covers T) (hr.mono (by decide)) hgd (by rfl) T.g__law_covers T.u__law_covers.kp T.b__law_covers (ja_sh ((je_var (i := 4) (by rfl) (.inl (by rfl)))) (ja_sh ((je_var (i := 2) (by rfl) (.inr (.inl (by rfl))))) (ja_nil)))).jt))).jt)) (fun _ _ _ _ _ => (je_var (i := 4) (by rfl) (.inl (by rfl)))))
    (jss_one (js_if ((jw_and ((jc_eq hr.units).der.jt (((je_var (i := 3) (by rfl) (.inl (by rfl)))).bo) ((je_lst (ja_nil)).give.bo) (nomark _)) (jw_and1 ((jc_notin hr.units).der.jt (((je_var (i := 2) (by rfl) (.inr (.inl (by rfl))))).bo) ((je_peek (i := 1) (by rfl) (.inl (by rfl)))) rfl))).jt) (jss_one (js_app (i := 1) (by rfl) (.inl (by rfl)) (ja_sh ((je_var (i := 2) (by rfl) (.inr (.inl (by rfl))))) (ja_nil)))) (jss_nil)))))
    (jss_one (js_retOwn (i := 1) (by rfl) (.inl (by rfl)))))
theorem sc__law_is_made : FnScope ["tree", "fields", "one", "inner"] ["tree", "fields"] (defScope (topS 30)) := ⟨rfl, rfl, rfl, by decide +kernel, rfl, by decide +kernel, by decide +kernel⟩
theorem ok__law_is_made (T : Tx K mg) : ∀ n : Nat, FnG P w K mg base (1 + n) T.a__law_is_made T.d__law_is_made ["tree", "fields"] (spF ⟨K, mg, P, w⟩ 2 false (m__law_is_made n))
  | 0 => by
    rw [z__law_is_made]
    exact fjG_bad
  | n + 1 => by
    have ih := ok__law_is_made T n
    have sc := sc__law_is_made
    rw [e__law_is_made]
    refine fjG_of T.u__law_is_made sc rfl ?_
    intro cdv A outer s H E B hr hgd hL tk
    exact jss_cons (js_if ((jw_or (jt_not ((je_isiD (by rfl) T.z_isinstance (by rfl) T.z_tuple (by decide +kernel) (by decide) (((je_var (i := 0) (by rfl) (.inl (by rfl)))).bo)).jt)) (jw_or1 ((jc_notin hr.units).der.jt ((je_slAD (((je_var (i := 0) (by rfl) (.inl (by rfl)))).bo) jo_none (jo_some ((je_int).bo))).bo) ((je_lst (ja_sh (je_tup (ja_sh (je_str) (ja_nil))) (ja_sh (je_tup (ja_sh (je_str) (ja_nil))) (ja_nil)))).give.bo) rfl))).jt) (jss_one (js_ret (je_bl))) (jss_nil))
      (jss_cons (js_if ((jw_or ((jc_ne hr.units).der.jt ((je_bt jb_len.der (by rfl) T.z_len (by decide +kernel) (ja_bo (((je_var (i := 0) (by rfl) (.inl (by rfl)))).bo) (ja_nil))).bo) ((je_ix ((je_lst (ja_sh (je_int) (ja_sh (je_int) (ja_nil)))).give.bo) ((je_ty jb_int (by rfl) T.z_int (by decide +kernel) (ja_bo (((jc_eq hr.units).der.je ((je_ix (((je_var (i := 0) (by rfl) (.inl (by rfl)))).bo) ((je_int).bo)).bo) ((je_str).bo) (nomark _)).bo) (ja_nil))).bo)).bo) (nomark _)) (jw_or1 (jt_not ((je_isiD (by rfl) T.z_isinstance (by rfl) T.z_tuple (by decide +kernel) (by decide) ((je_ix (((je_var (i := 0) (by rfl) (.inl (by rfl)))).bo) ((je_int).bo)).bo)).jt)))).jt) (jss_one (js_ret (je_bl))) (jss_nil))
      (jss_cons (js_if ((jw_or ((jc_ne hr.units).der.jt ((je_bt jb_len.der (by rfl) T.z_len (by decide +kernel) (ja_bo ((je_ix (((je_var (i := 0) (by rfl) (.inl (by rfl)))).bo) ((je_int).bo)).bo) (ja_nil))).bo) (((je_var (i := 1) (by rfl) (.inr (.inl (by rfl))))).bo) (nomark _)) (jw_or1 ((jc_ne hr.units).der.jt ((je_lc (own := [("one", 2)]) rfl sc.nd (ji_seq (je_ix (((je_var (i := 0) (by rfl) (.inl (by rfl)))).bo) ((je_int).bo))) (blkOk_by (N := ["tree", "fields", "one", "inner"]) (sc := defScope (topS 30)) (by decide +kernel)) (by decide) (fun _ _ _ _ _ => (jg_name (i := 2) sc.nd (by rfl) (.inl (by rfl)) hL)) (fun _ _ _ _ _ => jp_one ((jw_or (jt_not ((je_isiD (by rfl) T.z_isinstance (by rfl) T.z_int (by decide +kernel) (by decide) (((je_var (i := 2) (by rfl) (.inl (by rfl)))).bo)).jt)) (jw_or1 ((je_isiD (by rfl) T.z_isinstance (by rfl) T.z_bool (by decide +kernel) (by decide) (((je_var (i := 2) (by rfl) (.inl (by rfl)))).bo)).jt))).jt)) (fun _ _ _ _ _ => je_int)).give.bo) ((je_lst (ja_nil)).give.bo) (nomark _)))).jt) (jss_one (js_ret (je_bl))) (jss_nil))
      (jss_cons (js_if ((jc_eq hr.units).der.jt ((je_ix (((je_var (i := 0) (by rfl) (.inl (by rfl)))).bo) ((je_int).bo)).bo) ((je_str).bo) (nomark _)) (jss_one (js_ret (je_bl))) (jss_nil))
      (jss_one (js_ret (je_and (je_isiD (by rfl) T.z_isinstance (by rfl) T.z_list (by decide +kernel) (by decide) ((je_ix (((je_var (i := 0) (by rfl) (.inl (by rfl)))).bo) ((je_int).bo)).bo)) (je_one ((jc_eq hr.units).der.je ((je_lc (own := [("inner", 3)]) rfl sc.nd (ji_seq (je_ix (((je_var (i := 0) (by rfl) (.inl (by rfl)))).bo) ((je_int).bo))) (blkOk_by (N := ["tree", "fields", "one", "inner"]) (sc := defScope (topS 30)) (by decide +kernel)) (by decide) (fun _ _ _ _ _ => (jg_name (i := 3) sc.nd (by rfl) (.inl (by rfl)) hL)) (fun _ _ _ _ _ => jp_one (jt_not ((je_callG (fr := false) (n := 2) takes_nv ih (hr.mono (Nat.le_refl _)) hgd (by rfl) T.g__law_is_made T.u__law_is_made.kp T.b__law_is_made (ja_sh ((je_var (i := 3) (by rfl) (.inl (by rfl)))) (ja_sh ((je_var (i := 1) (by rfl) (.inr (.inl (by rfl))))) (ja_nil)))).jt))) (fun _ _ _ _ _ => je_int)).give.bo) ((je_lst (ja_nil)).give.bo) (nomark _)))))))))
theorem sc__law_lacks : FnScope ["wishes", "some", "letter", "wish"] ["wishes", "some", "letter"] (defScope (topS 28)) := ⟨rfl, rfl, rfl, by decide +kernel, rfl, by decide +kernel, by decide +kernel⟩
theorem ok__law_lacks (T : Tx K mg) : FnG P w K mg base 2 T.a__law_lacks T.d__law_lacks ["wishes", "some", "letter"] (spF ⟨K, mg, P, w⟩ 3 false m__law_lacks) := by
  have sc := sc__law_lacks
  refine fjG_of T.u__law_lacks sc rfl ?_
  intro cdv A outer s H E B hr hgd hL tk
  exact jss_cons (js_if ((jc_eq hr.units).der.jt ((je_lc (own := [("wish", 3)]) rfl sc.nd (ji_seq ((je_var (i := 0) (by rfl) (.inl (by rfl))))) (blkOk_by (N := ["wishes", "some", "letter", "wish"]) (sc := defScope (topS 28)) (by decide +kernel)) (by decide) (fun _ _ _ _ _ => (jg_name (i := 3) sc.nd (by rfl) (.inl (by rfl)) hL)) (fun _ _ _ _ _ => jp_one ((je_callG (fr := false) (n := 2) takes_nv (ok__law_has T) (hr.mono (by decide)) hgd (by rfl) T.g__law_has T.u__law_has.kp T.b__law_has (ja_sh ((je_var (i := 3) (by rfl) (.inl (by rfl)))) (ja_sh ((je_var (i := 2) (by rfl) (.inr (.inl (by rfl))))) (ja_nil)))).jt)) (fun _ _ _ _ _ => je_int)).give.bo) ((je_lst (ja_nil)).give.bo) (nomark _)) (jss_one (js_ret (je_bl))) (jss_nil))
    (jss_one (js_ret ((jc_eq hr.units).der.je ((je_lc (own := [("wish", 3)]) rfl sc.nd (ji_seq ((je_var (i := 1) (by rfl) (.inl (by rfl))))) (blkOk_by (N := ["wishes", "some", "letter", "wish"]) (sc := defScope (topS 28)) (by decide +kernel)) (by decide) (fun _ _ _ _ _ => (jg_name (i := 3) sc.nd (by rfl) (.inl (by rfl)) hL)) (fun _ _ _ _ _ => jp_one ((je_callG (fr := false) (n := 2) takes_nv (ok__law_has T) (hr.mono (by decide)) hgd (by rfl) T.g__law_has T.u__law_has.kp T.b__law_has (ja_sh ((je_var (i := 3) (by rfl) (.inl (by rfl)))) (ja_sh ((je_var (i := 2) (by rfl) (.inr (.inl (by rfl))))) (ja_nil)))).jt)) (fun _ _ _ _ _ => je_int)).give.bo) ((je_lst (ja_nil)).give.bo) (nomark _))))
theorem sc__law_is_shown : FnScope ["wishes", "some", "choices", "tree", "there", "wish", "inner"] ["wishes", "some", "choices", "tree"] (defScope (topS 29)) := ⟨rfl, rfl, rfl, by decide +kernel, rfl, by decide +kernel, by decide +kernel⟩
theorem ok__law_is_shown (T : Tx K mg) : ∀ n : Nat, FnG P w K mg base (3 + n) T.a__law_is_shown T.d__law_is_shown ["wishes", "some", "choices", "tree"] (spF ⟨K, mg, P, w⟩ 4 false (m__law_is_shown n))
  | 0 => by
    rw [z__law_is_shown]
    exact fjG_bad
  | n + 1 => by
    have ih := ok__law_is_shown T n
    have sc := sc__law_is_shown
    rw [e__law_is_shown]
    refine fjG_of T.u__law_is_shown sc rfl ?_
    intro cdv A outer s H E B hr hgd hL tk
    exact jss_cons (js_if (jt_not ((je_callG (fr := false) (n := 3) tk (ok__law_lacks T) (hr.mono (Nat.le_trans (by decide) (Nat.le_add_right 3 n))) hgd (by rfl) T.g__law_lacks T.u__law_lacks.kp T.b__law_lacks (ja_sh ((je_var (i := 0) (by rfl) (.inl (by rfl)))) (ja_sh ((je_var (i := 1) (by rfl) (.inl (by rfl)))) (ja_sh (je_ix (((je_var (i := 3) (by rfl) (.inr (.inl (by rfl))))).bo) ((je_int).bo)) (ja_nil))))).jt)) (jss_one (js_ret (je_bl))) (jss_nil))
      (jss_cons (js_if ((jc_eq hr.units).der.jt ((je_ix (((je_var (i := 3) (by rfl) (.inr (.inl (by rfl))))).bo) ((je_int).bo)).bo) ((je_str).bo) (nomark _)) (jss_one (js_ret ((jc_eq hr.units).der.je (((je_var (i := 2) (by rfl) (.inl (by rfl)))).bo) ((je_int).bo) (nomark _)))) (jss_nil))
      (jss_cons (js_setLc (i := 4) (own := [("wish", 5)]) rfl sc.nd rfl rfl hL (sw_true rfl rfl rfl (by decide +kernel)) (ji_seq ((je_var (i := 0) (by rfl) (.inl (by rfl))))) (blkOk_by (N := ["wishes", "some", "choices", "tree", "there", "wish", "inner"]) (sc := defScope (topS 29)) (by decide +kernel)) (by decide) (fun _ _ _ _ _ => (jg_name (i := 5) sc.nd (by rfl) (.inl (by rfl)) hL)) (fun _ _ _ _ _ => jp_one ((je_callG (fr := false) (n := 2) takes_nv (ok__law_has T) (hr.mono (Nat.le_trans (by decide) (Nat.le_add_right 3 n))) hgd (by rfl) T.g__law_has T.u__law_has.kp T.b__law_has (ja_sh ((je_var (i := 5) (by rfl) (.inl (by rfl)))) (ja_sh (je_ix (((je_var (i := 3) (by rfl) (.inr (.inl (by rfl))))).bo) ((je_int).bo)) (ja_nil)))).jt)) (fun _ _ _ _ _ => (je_var (i := 5) (by rfl) (.inl (by rfl)))))
      (jss_cons (js_if ((jw_or (jc_ilt.jt (((je_var (i := 2) (by rfl) (.inl (by rfl)))).bo) ((je_int).bo) (nomark _)) (jw_or1 ((jc_ne hr.units).der.jt ((je_bt jb_len.der (by rfl) T.z_len (by decide +kernel) (ja_bo ((je_ix (((je_var (i := 3) (by rfl) (.inr (.inl (by rfl))))).bo) ((je_int).bo)).bo) (ja_nil))).bo) ((je_bt jb_len.der (by rfl) T.z_len (by decide +kernel) (ja_bo (((je_var (i := 4) (by rfl) (.inl (by rfl)))).bo) (ja_nil))).bo) (nomark _)))).jt) (jss_one (js_ret (je_bl))) (jss_nil))
      (jss_cons (js_for (passes_of (by rfl)) (by rfl) (ji_zip (by rfl) T.z_zip (ja_sh ((je_var (i := 4) (by rfl) (.inl (by rfl)))) (ja_sh (je_ix (((je_var (i := 3) (by rfl) (.inr (.inl (by rfl))))).bo) ((je_int).bo)) (ja_nil)))) (jg_tup (by rfl) (jgs_cons (jg_name (i := 5) sc.nd (by rfl) (.inl (by rfl)) hL) (jgs_cons (jg_name (i := 6) sc.nd (by rfl) (.inl (by rfl)) hL) jgs_nil))) (jss_one (js_if (jt_not ((je_callG (fr := false) (n := 4) tk ih (hr.mono (Nat.le_refl _)) hgd (by rfl) T.g__law_is_shown T.u__law_is_shown.kp T.b__law_is_shown (ja_sh ((je_var (i := 0) (by rfl) (.inl (by rfl)))) (ja_sh (je_addD (((je_var (i := 1) (by rfl) (.inl (by rfl)))).bo) ((je_lst (ja_sh ((je_var (i := 5) (by rfl) (.inl (by rfl)))) (ja_nil))).give.bo)) (ja_sh (je_sub (((je_var (i := 2) (by rfl) (.inl (by rfl)))).bo) ((je_int).bo)) (ja_sh ((je_var (i := 6) (by rfl) (.inl (by rfl)))) (ja_nil)))))).jt)) (jss_one (js_ret (je_bl))) (jss_nil))))
      (jss_one (js_ret (je_bl)))))))
theorem sc__law_right : FnScope ["wishes", "number", "letters", "found", "top", "shown", "wish"] ["wishes", "number", "letters", "found"] (defScope (topS 33)) := ⟨rfl, rfl, rfl, by decide +kernel, rfl, by decide +kernel, by decide +kernel⟩
theorem ok__law_right (T : Tx K mg) : FnG P w K mg base 13 T.a__law_right T.d__law_right ["wishes", "number", "letters", "found"] (spF ⟨K, mg, P, w⟩ 4 false m__law_right) := by
  have sc := sc__law_right
  refine fjG_of T.u__law_right sc rfl ?_
  intro cdv A outer s H E B hr hgd hL tk
  exact jss_cons (js_if ((jw_or (jt_not ((je_isiD (by rfl) T.z_isinstance (by rfl) T.z_tuple (by decide +kernel) (by decide) (((je_var (i := 3) (by rfl) (.inl (by rfl)))).bo)).jt)) (jw_or ((jc_ne hr.units).der.jt ((je_bt jb_len.der (by rfl) T.z_len (by decide +kernel) (ja_bo (((je_var (i := 3) (by rfl) (.inl (by rfl)))).bo) (ja_nil))).bo) ((je_int).bo) (nomark _)) (jw_or1 ((jc_ne hr.units).der.jt ((je_bt (jb_reprD hr.units hgd).der (by rfl) T.z_repr (by decide +kernel) (ja_bo ((je_ix (((je_var (i := 3) (by rfl) (.inl (by rfl)))).bo) ((je_int).bo)).bo) (ja_nil))).bo) ((je_bt (jb_reprD hr.units hgd).der (by rfl) T.z_repr (by decide +kernel) (ja_bo (((je_var (i := 1) (by rfl) (.inl (by rfl)))).bo) (ja_nil))).bo) (nomark _))))).jt) (jss_one (js_ret (je_bl))) (jss_nil))
    (jss_cons (js_set (i := 4) sc.nd (by rfl) (.inl rfl) hL ((je_callG (fr := true) (n := 1) tk (ok__law_roof T) (hr.mono (by decide)) hgd (by rfl) T.g__law_roof T.u__law_roof.kp T.b__law_roof (ja_sh ((je_var (i := 0) (by rfl) (.inl (by rfl)))) (ja_nil))).give))
    (jss_cons (js_if ((jw_or (jt_not ((je_isiD (by rfl) T.z_isinstance (by rfl) T.z_list (by decide +kernel) (by decide) ((je_ix (((je_var (i := 3) (by rfl) (.inl (by rfl)))).bo) ((je_int).bo)).bo)).jt)) (jw_or ((jc_ne hr.units).der.jt ((je_bt jb_len.der (by rfl) T.z_len (by decide +kernel) (ja_bo ((je_ix (((je_var (i := 3) (by rfl) (.inl (by rfl)))).bo) ((je_int).bo)).bo) (ja_nil))).bo) (((je_var (i := 1) (by rfl) (.inl (by rfl)))).bo) (nomark _)) (jw_or1 ((jc_ne hr.units).der.jt ((je_ix (((je_var (i := 3) (by rfl) (.inl (by rfl)))).bo) ((je_int).bo)).bo) ((je_sortSetN hr.units (by rfl) T.z_sorted (by rfl) T.z_set ((je_ix (((je_var (i := 3) (by rfl) (.inl (by rfl)))).bo) ((je_int).bo)).bo)).give.bo) (nomark _))))).jt) (jss_one (js_ret (je_bl))) (jss_nil))
    (jss_cons (js_set (i := 5) sc.nd (by rfl) (.inr (by rfl)) hL ((je_lc (own := [("wish", 6)]) rfl sc.nd (ji_seq ((je_var (i := 4) (by rfl) (.inl (by rfl))))) (blkOk_by (N := ["wishes", "number", "letters", "found", "top", "shown", "wish"]) (sc := defScope (topS 33)) (by decide +kernel)) (by decide) (fun _ _ _ _ _ => (jg_name (i := 6) sc.nd (by rfl) (.inl (by rfl)) hL)) (fun _ _ _ _ _ => jp_nil) (fun _ _ _ _ _ => je_bt (jb_reprD hr.units hgd).der (by rfl) T.z_repr (by decide +kernel) (ja_bo (((je_var (i := 6) (by rfl) (.inl (by rfl)))).bo) (ja_nil)))).give))
    (jss_cons (js_if ((jw_or ((jc_ne hr.units).der.jt ((je_lc (own := [("wish", 6)]) rfl sc.nd (ji_seq (je_ix (((je_var (i := 3) (by rfl) (.inl (by rfl)))).bo) ((je_int).bo))) (blkOk_by (N := ["wishes", "number", "letters", "found", "top", "shown", "wish"]) (sc := defScope (topS 33)) (by decide +kernel)) (by decide) (fun _ _ _ _ _ => (jg_name (i := 6) sc.nd (by rfl) (.inl (by rfl)) hL)) (fun _ _ _ _ _ => jp_one ((jc_notin hr.units).der.jt ((je_bt (jb_reprD hr.units hgd).der (by rfl) T.z_repr (by decide +kernel) (ja_bo (((je_var (i := 6) (by rfl) (.inl (by rfl)))).bo) (ja_nil))).bo) (((je_var (i := 5) (by rfl) (.inr (.inl (by rfl))))).bo) rfl)) (fun _ _ _ _ _ => je_int)).give.bo) ((je_lst (ja_nil)).give.bo) (nomark _)) (jw_or1 (jt_not ((je_callG (fr := false) (n := 2) tk (ok__law_has_all T) (hr.mono (by decide)) hgd (by rfl) T.g__law_has_all T.u__law_has_all.kp T.b__law_has_all (ja_sh (je_ix (((je_var (i := 3) (by rfl) (.inl (by rfl)))).bo) ((je_int).bo)) (ja_sh ((je_var (i := 2) (by rfl) (.inl (by rfl)))) (ja_nil)))).jt)))).jt) (jss_one (js_ret (je_bl))) (jss_nil))
    (jss_one (js_ret (je_and (je_callG (fr := false) (n := 2) tk (ok__law_is_made T 9) (hr.mono (by decide)) hgd (by rfl) T.g__law_is_made T.u__law_is_made.kp T.b__law_is_made (ja_sh (je_ix (((je_var (i := 3) (by rfl) (.inl (by rfl)))).bo) ((je_int).bo)) (ja_sh (je_bt jb_len.der (by rfl) T.z_len (by decide +kernel) (ja_bo ((je_ix (((je_var (i := 0) (by rfl) (.inl (by rfl)))).bo) ((je_int).bo)).bo) (ja_nil))) (ja_nil)))) (je_one (je_callG (fr := false) (n := 4) tk (ok__law_is_shown T 9) (hr.mono (by decide)) hgd (by rfl) T.g__law_is_shown T.u__law_is_shown.kp T.b__law_is_shown (ja_sh ((je_var (i := 4) (by rfl) (.inl (by rfl)))) (ja_sh ((je_lst (ja_nil)).give) (ja_sh (je_sub (((je_var (i := 1) (by rfl) (.inl (by rfl)))).bo) ((je_int).bo)) (ja_sh (je_ix (((je_var (i := 3) (by rfl) (.inl (by rfl)))).bo) ((je_int).bo)) (ja_nil))))))))))))))
theorem sc__law_lists : FnScope ["tree", "found", "inner"] ["tree"] (defScope (topS 34)) := ⟨rfl, rfl, rfl, by decide +kernel, rfl, by decide +kernel, by decide +kernel⟩
theorem ok__law_lists (T : Tx K mg) : ∀ n : Nat, FnG P w K mg base (1 + n) T.a__law_lists T.d__law_lists ["tree"] (spF ⟨K, mg, P, w⟩ 1 false (m__law_lists n))
  | 0 => by
    rw [z__law_lists]
    exact fjG_bad
  | n + 1 => by
    have ih := ok__law_lists T n
    have sc := sc__law_lists
    rw [e__law_lists]
    refine fjG_of T.u__law_lists sc rfl ?_
    intro cdv A outer s H E B hr hgd hL tk
    exact jss_cons (js_if ((jc_eq hr.units).der.jt ((je_ix (((je_var (i := 0) (by rfl) (.inl (by rfl)))).bo) ((je_int).bo)).bo) ((je_str).bo) (nomark _)) (jss_one (js_ret ((je_lst (ja_nil)).give))) (jss_nil))
      (jss_cons (js_set (i := 1) sc.nd (by rfl) (.inl rfl) hL ((je_lst (ja_sh (je_ix (((je_var (i := 0) (by rfl) (.inl (by rfl)))).bo) ((je_int).bo)) (ja_nil))).give))
      (jss_cons (js_for (passes_of (by rfl)) (by rfl) (ji_seq ((je_ty jb_list.der (by rfl) T.z_list (by decide +kernel) (ja_bo ((je_ix (((je_var (i := 0) (by rfl) (.inl (by rfl)))).bo) ((je_int).bo)).bo) (ja_nil))).give)) (jg_name (i := 2) sc.nd (by rfl) (.inl (by rfl)) hL) (jss_one (js_set (i := 1) sc.nd (by rfl) (.inl rfl) hL (je_addD (((je_var (i := 1) (by rfl) (.inl (by rfl)))).bo) ((je_callG (fr := false) (n := 1) tk ih (hr.mono (Nat.le_refl _)) hgd (by rfl) T.g__law_lists T.u__law_lists.kp T.b__law_lists (ja_sh ((je_var (i := 2) (by rfl) (.inl (by rfl)))) (ja_nil))).bo)))))
      (jss_one (js_ret ((je_var (i := 1) (by rfl) (.inl (by rfl))))))))
theorem sc_law : FnScope ["script", "pot", "turn", "way", "fields", "some", "letters", "number", "again", "handed", "found", "one"] ["script"] (defScope (topS 37)) := ⟨rfl, rfl, rfl, by decide +kernel, rfl, by decide +kernel, by decide +kernel⟩
theorem ok_law (T : Tx K mg) : FnG P w K mg base 22 T.a_law T.d_law ["script"] (spF ⟨K, mg, P, w⟩ 1 false m_law) := by
  have sc := sc_law
  refine fjG_of T.u_law sc rfl ?_
  intro cdv A outer s H E B hr hgd hL tk
  exact jss_cons (js_set (i := 1) sc.nd (by rfl) (.inl rfl) hL (je_callG (fr := false) (n := 1) tk (ok__law_pot T) (hr.mono (by decide)) hgd (by rfl) T.g__law_pot T.u__law_pot.kp T.b__law_pot (ja_sh ((je_var (i := 0) (by rfl) (.inl (by rfl)))) (ja_nil))))
    (jss_cons (js_for (passes_of (by rfl)) (by rfl) (ji_range1 (by rfl) T.z_range (ja_bo ((je_int).bo) (ja_nil))) (jg_name (i := 2) sc.nd (by rfl) (.inl (by rfl)) hL) (jss_cons (js_set (i := 3) sc.nd (by rfl) (.inl rfl) hL (je_callG (fr := false) (n := 2) tk (ok__law_pick T) (hr.mono (by decide)) hgd (by rfl) T.g__law_pick T.u__law_pick.kp T.b__law_pick (ja_sh ((je_var (i := 1) (by rfl) (.inl (by rfl)))) (ja_sh (je_int) (ja_nil)))))
    (jss_cons (js_set (i := 4) sc.nd (by rfl) (.inl rfl) hL (je_addD ((je_int).bo) ((je_callG (fr := false) (n := 2) tk (ok__law_pick T) (hr.mono (by decide)) hgd (by rfl) T.g__law_pick T.u__law_pick.kp T.b__law_pick (ja_sh ((je_var (i := 1) (by rfl) (.inl (by rfl)))) (ja_sh (je_int) (ja_nil)))).bo)))
    (jss_cons (js_set (i := 5) sc.nd (by rfl) (.inl rfl) hL (je_addD ((je_callG (fr := true) (n := 3) tk (ok__law_wishes T) (hr.mono (by decide)) hgd (by rfl) T.g__law_wishes T.u__law_wishes.kp T.b__law_wishes (ja_sh ((je_var (i := 1) (by rfl) (.inl (by rfl)))) (ja_sh ((je_var (i := 4) (by rfl) (.inl (by rfl)))) (ja_sh (je_int) (ja_nil))))).give.bo) ((je_lst (ja_sh (je_callG (fr := false) (n := 4) tk (ok__law_wish T) (hr.mono (by decide)) hgd (by rfl) T.g__law_wish T.u__law_wish.kp T.b__law_wish (ja_sh ((je_var (i := 1) (by rfl) (.inl (by rfl)))) (ja_sh ((je_var (i := 4) (by rfl) (.inl (by rfl)))) (ja_sh (je_callG (fr := false) (n := 2) tk (ok__law_pick T) (hr.mono (by decide)) hgd (by rfl) T.g__law_pick T.u__law_pick.kp T.b__law_pick (ja_sh ((je_var (i := 1) (by rfl) (.inl (by rfl)))) (ja_sh (je_int) (ja_nil)))) (ja_sh (je_ix ((je_lst (ja_sh (je_int) (ja_sh (je_int) (ja_sh (je_int) (ja_sh (je_int) (ja_nil)))))).give.bo) (((je_var (i := 4) (by rfl) (.inl (by rfl)))).bo)) (ja_nil)))))) (ja_nil))).give.bo)))
    (jss_cons (js_if ((jc_eq hr.units).der.jt (((je_var (i := 3) (by rfl) (.inl (by rfl)))).bo) ((je_int).bo) (nomark _)) (jss_one (js_set (i := 5) sc.nd (by rfl) (.inl rfl) hL ((je_callG (fr := true) (n := 1) tk (ok__law_ring T) (hr.mono (by decide)) hgd (by rfl) T.g__law_ring T.u__law_ring.kp T.b__law_ring (ja_sh ((je_var (i := 1) (by rfl) (.inl (by rfl)))) (ja_nil))).give))) (jss_nil))
    (jss_cons (js_set (i := 6) sc.nd (by rfl) (.inr (by rfl)) hL ((je_bt (jb_sortM rfl hr.units).der (by rfl) T.z_sorted (by decide +kernel) (ja_bo ((je_callG (fr := true) (n := 1) tk (ok__law_union T) (hr.mono (by decide)) hgd (by rfl) T.g__law_union T.u__law_union.kp T.b__law_union (ja_sh ((je_var (i := 5) (by rfl) (.inl (by rfl)))) (ja_nil))).give.bo) (ja_nil))).give))
    (jss_cons (js_set (i := 7) sc.nd (by rfl) (.inl rfl) hL (je_bt (jb_best_min rfl hr.units).der (by rfl) T.z_min (by decide +kernel) (ja_bo ((je_lc (own := [("one", 11)]) rfl sc.nd (ji_seq (je_callG (fr := false) (n := 1) tk (ok__law_choices T) (hr.mono (by decide)) hgd (by rfl) T.g__law_choices T.u__law_choices.kp T.b__law_choices (ja_sh ((je_callG (fr := true) (n := 1) tk (ok__law_roof T) (hr.mono (by decide)) hgd (by rfl) T.g__law_roof T.u__law_roof.kp T.b__law_roof (ja_sh ((je_var (i := 5) (by rfl) (.inl (by rfl)))) (ja_nil))).give) (ja_nil)))) (blkOk_by (N := ["script", "pot", "turn", "way", "fields", "some", "letters", "number", "again", "handed", "found", "one"]) (sc := defScope (topS 37)) (by decide +kernel)) (by decide) (fun _ _ _ _ _ => (jg_name (i := 11) sc.nd (by rfl) (.inl (by rfl)) hL)) (fun _ _ _ _ _ => jp_one ((je_callG (fr := false) (n := 2) takes_nv (ok__law_has_all T) (hr.mono (by decide)) hgd (by rfl) T.g__law_has_all T.u__law_has_all.kp T.b__law_has_all (ja_sh ((je_var (i := 11) (by rfl) (.inl (by rfl)))) (ja_sh ((je_var (i := 6) (by rfl) (.inr (.inl (by rfl))))) (ja_nil)))).jt)) (fun _ _ _ _ _ => je_bt jb_len.der (by rfl) T.z_len (by decide +kernel) (ja_bo (((je_var (i := 11) (by rfl) (.inl (by rfl)))).bo) (ja_nil)))).give.bo) (ja_nil))))
    (jss_one (js_for (passes_of (by rfl)) (by rfl) (ji_range1 (by rfl) T.z_range (ja_bo ((je_int).bo) (ja_nil))) (jg_name (i := 8) sc.nd (by rfl) (.inl (by rfl)) hL) (jss_cons (js_set (i := 9) sc.nd (by rfl) (.inl rfl) hL ((je_ty jb_list.der (by rfl) T.z_list (by decide +kernel) (ja_bo (((je_var (i := 5) (by rfl) (.inl (by rfl)))).bo) (ja_nil))).give))
    (jss_cons (js_set (i := 10) sc.nd (by rfl) (.inl rfl) hL (je_callG (fr := false) (n := 1) tk (ok_fewest_of T) (hr.mono (by decide)) hgd (by rfl) T.g_fewest_of T.u_fewest_of.kp T.b_fewest_of (ja_sh ((je_var (i := 9) (by rfl) (.inl (by rfl)))) (ja_nil))))
    (jss_cons (js_if ((jw_or ((jc_ne hr.units).der.jt (((je_var (i := 9) (by rfl) (.inl (by rfl)))).bo) (((je_var (i := 5) (by rfl) (.inl (by rfl)))).bo) (nomark _)) (jw_or1 (jt_not ((je_callG (fr := false) (n := 4) tk (ok__law_right T) (hr.mono (by decide)) hgd (by rfl) T.g__law_right T.u__law_right.kp T.b__law_right (ja_sh ((je_var (i := 5) (by rfl) (.inl (by rfl)))) (ja_sh ((je_var (i := 7) (by rfl) (.inl (by rfl)))) (ja_sh ((je_var (i := 6) (by rfl) (.inr (.inl (by rfl))))) (ja_sh ((je_var (i := 10) (by rfl) (.inl (by rfl)))) (ja_nil)))))).jt)))).jt) (jss_one (js_ret (je_bl))) (jss_nil))
    (jss_cons (js_if (jt_not ((je_callG (fr := false) (n := 1) tk (ok__law_apart T) (hr.mono (by decide)) hgd (by rfl) T.g__law_apart T.u__law_apart.kp T.b__law_apart (ja_sh (je_addD ((je_lst (ja_sh (je_ix (((je_var (i := 10) (by rfl) (.inl (by rfl)))).bo) ((je_int).bo)) (ja_nil))).give.bo) ((je_callG (fr := false) (n := 1) tk (ok__law_lists T 9) (hr.mono (by decide)) hgd (by rfl) T.g__law_lists T.u__law_lists.kp T.b__law_lists (ja_sh (je_ix (((je_var (i := 10) (by rfl) (.inl (by rfl)))).bo) ((je_int).bo)) (ja_nil))).bo)) (ja_nil))).jt)) (jss_one (js_ret (je_bl))) (jss_nil))
    (jss_cons (js_if ((jc_ne hr.units).der.jt (((je_var (i := 9) (by rfl) (.inl (by rfl)))).bo) (((je_var (i := 5) (by rfl) (.inl (by rfl)))).bo) (nomark _)) (jss_one (js_ret (je_bl))) (jss_nil))
    (jss_cons (js_clrR (je_ix (((je_var (i := 10) (by rfl) (.inl (by rfl)))).bo) ((je_int).bo)))
    (jss_one (js_if ((jc_eq hr.units).der.jt ((je_ix ((je_ix (((je_var (i := 10) (by rfl) (.inl (by rfl)))).bo) ((je_int).bo)).bo) ((je_int).bo)).bo) ((je_str).bo) (nomark _)) (jss_one (js_clrR (je_ix ((je_ix (((je_var (i := 10) (by rfl) (.inl (by rfl)))).bo) ((je_int).bo)).bo) ((je_int).bo)))) (jss_nil))))))))))))))))))
    (jss_one (js_ret (je_bl))))
end
theorem ll1 {us : List Value} (h : us.length = 1) : ∃ a0, us = [a0] := match us, h with
  | [a0], _ => ⟨a0, rfl⟩
theorem ll2 {us : List Value} (h : us.length = 2) : ∃ a0 a1, us = [a0, a1] := match us, h with
  | [a0, a1], _ => ⟨a0, a1, rfl⟩
theorem ll3 {us : List Value} (h : us.length = 3) : ∃ a0 a1 a2, us = [a0, a1, a2] := match us, h with
  | [a0, a1, a2], _ => ⟨a0, a1, a2, rfl⟩
theorem ll4 {us : List Value} (h : us.length = 4) : ∃ a0 a1 a2 a3, us = [a0, a1, a2, a3] := match us, h with
  | [a0, a1, a2, a3], _ => ⟨a0, a1, a2, a3, rfl⟩
theorem bd_18 (kV doc pm : Value) (an : Option Addr) (cdv ct : Value) (us : List Value) (hl : us.length = (["script"] : List Str).length) : bindArgs (PySem.W.fnOf "_law_pot" "_law_pot" (defArgs (topS 18)) (defBody (topS 18)) (defScope (topS 18)) .none kV doc pm an cdv ct) ⟨us, []⟩ = pure ((["script"] : List Str).zip us) := by
  obtain ⟨a0, rfl⟩ := ll1 hl
  rfl
theorem bd_17 (kV doc pm : Value) (an : Option Addr) (cdv ct : Value) (us : List Value) (hl : us.length = (["cell", "at"] : List Str).length) : bindArgs (PySem.W.fnOf "_law_blend" "_law_blend" (defArgs (topS 17)) (defBody (topS 17)) (defScope (topS 17)) .none kV doc pm an cdv ct) ⟨us, []⟩ = pure ((["cell", "at"] : List Str).zip us) := by
  obtain ⟨a0, a1, rfl⟩ := ll2 hl
  rfl
theorem bd_19 (kV doc pm : Value) (an : Option Addr) (cdv ct : Value) (us : List Value) (hl : us.length = (["pot", "upto"] : List Str).length) : bindArgs (PySem.W.fnOf "_law_pick" "_law_pick" (defArgs (topS 19)) (defBody (topS 19)) (defScope (topS 19)) .none kV doc pm an cdv ct) ⟨us, []⟩ = pure ((["pot", "upto"] : List Str).zip us) := by
  obtain ⟨a0, a1, rfl⟩ := ll2 hl
  rfl
theorem bd_20 (kV doc pm : Value) (an : Option Addr) (cdv ct : Value) (us : List Value) (hl : us.length = (["pot", "fields", "low", "top"] : List Str).length) : bindArgs (PySem.W.fnOf "_law_wish" "_law_wish" (defArgs (topS 20)) (defBody (topS 20)) (defScope (topS 20)) .none kV doc pm an cdv ct) ⟨us, []⟩ = pure ((["pot", "fields", "low", "top"] : List Str).zip us) := by
  obtain ⟨a0, a1, a2, a3, rfl⟩ := ll4 hl
  rfl
theorem bd_22 (kV doc pm : Value) (an : Option Addr) (cdv ct : Value) (us : List Value) (hl : us.length = (["pot", "wish"] : List Str).length) : bindArgs (PySem.W.fnOf "_law_nudged" "_law_nudged" (defArgs (topS 22)) (defBody (topS 22)) (defScope (topS 22)) .none kV doc pm an cdv ct) ⟨us, []⟩ = pure ((["pot", "wish"] : List Str).zip us) := by
  obtain ⟨a0, a1, rfl⟩ := ll2 hl
  rfl
theorem bd_21 (kV doc pm : Value) (an : Option Addr) (cdv ct : Value) (us : List Value) (hl : us.length = (["pot", "fields", "most"] : List Str).length) : bindArgs (PySem.W.fnOf "_law_wishes" "_law_wishes" (defArgs (topS 21)) (defBody (topS 21)) (defScope (topS 21)) .none kV doc pm an cdv ct) ⟨us, []⟩ = pure ((["pot", "fields", "most"] : List Str).zip us) := by
  obtain ⟨a0, a1, a2, rfl⟩ := ll3 hl
  rfl
theorem bd_36 (kV doc pm : Value) (an : Option Addr) (cdv ct : Value) (us : List Value) (hl : us.length = (["pot"] : List Str).length) : bindArgs (PySem.W.fnOf "_law_ring" "_law_ring" (defArgs (topS 36)) (defBody (topS 36)) (defScope (topS 36)) .none kV doc pm an cdv ct) ⟨us, []⟩ = pure ((["pot"] : List Str).zip us) := by
  obtain ⟨a0, rfl⟩ := ll1 hl
  rfl
theorem bd_24 (kV doc pm : Value) (an : Option Addr) (cdv ct : Value) (us : List Value) (hl : us.length = (["wish"] : List Str).length) : bindArgs (PySem.W.fnOf "_law_letters" "_law_letters" (defArgs (topS 24)) (defBody (topS 24)) (defScope (topS 24)) .none kV doc pm an cdv ct) ⟨us, []⟩ = pure ((["wish"] : List Str).zip us) := by
  obtain ⟨a0, rfl⟩ := ll1 hl
  rfl
theorem bd_27 (kV doc pm : Value) (an : Option Addr) (cdv ct : Value) (us : List Value) (hl : us.length = (["wishes"] : List Str).length) : bindArgs (PySem.W.fnOf "_law_union" "_law_union" (defArgs (topS 27)) (defBody (topS 27)) (defScope (topS 27)) .none kV doc pm an cdv ct) ⟨us, []⟩ = pure ((["wishes"] : List Str).zip us) := by
  obtain ⟨a0, rfl⟩ := ll1 hl
  rfl
theorem bd_4 (kV doc pm : Value) (an : Option Addr) (cdv ct : Value) (us : List Value) (hl : us.length = (["things"] : List Str).length) : bindArgs (PySem.W.fnOf "need_kin" "need_kin" (defArgs (topS 4)) (defBody (topS 4)) (defScope (topS 4)) .none kV doc pm an cdv ct) ⟨us, []⟩ = pure ((["things"] : List Str).zip us) := by
  obtain ⟨a0, rfl⟩ := ll1 hl
  rfl
theorem bd_8 (kV doc pm : Value) (an : Option Addr) (cdv ct : Value) (us : List Value) (hl : us.length = (["wishes"] : List Str).length) : bindArgs (PySem.W.fnOf "each_once" "each_once" (defArgs (topS 8)) (defBody (topS 8)) (defScope (topS 8)) .none kV doc pm an cdv ct) ⟨us, []⟩ = pure ((["wishes"] : List Str).zip us) := by
  obtain ⟨a0, rfl⟩ := ll1 hl
  rfl
theorem bd_7 (kV doc pm : Value) (an : Option Addr) (cdv ct : Value) (us : List Value) (hl : us.length = (["one", "other"] : List Str).length) : bindArgs (PySem.W.fnOf "covers" "covers" (defArgs (topS 7)) (defBody (topS 7)) (defScope (topS 7)) .none kV doc pm an cdv ct) ⟨us, []⟩ = pure ((["one", "other"] : List Str).zip us) := by
  obtain ⟨a0, a1, rfl⟩ := ll2 hl
  rfl
theorem bd_9 (kV doc pm : Value) (an : Option Addr) (cdv ct : Value) (us : List Value) (hl : us.length = (["wishes"] : List Str).length) : bindArgs (PySem.W.fnOf "roof_of" "roof_of" (defArgs (topS 9)) (defBody (topS 9)) (defScope (topS 9)) .none kV doc pm an cdv ct) ⟨us, []⟩ = pure ((["wishes"] : List Str).zip us) := by
  obtain ⟨a0, rfl⟩ := ll1 hl
  rfl
theorem bd_5 (kV doc pm : Value) (an : Option Addr) (cdv ct : Value) (us : List Value) (hl : us.length = (["number", "pair"] : List Str).length) : bindArgs (PySem.W.fnOf "is_in" "is_in" (defArgs (topS 5)) (defBody (topS 5)) (defScope (topS 5)) .none kV doc pm an cdv ct) ⟨us, []⟩ = pure ((["number", "pair"] : List Str).zip us) := by
  obtain ⟨a0, a1, rfl⟩ := ll2 hl
  rfl
theorem bd_11 (kV doc pm : Value) (an : Option Addr) (cdv ct : Value) (us : List Value) (hl : us.length = (["wishes", "wish", "field"] : List Str).length) : bindArgs (PySem.W.fnOf "first_left" "first_left" (defArgs (topS 11)) (defBody (topS 11)) (defScope (topS 11)) .none kV doc pm an cdv ct) ⟨us, []⟩ = pure ((["wishes", "wish", "field"] : List Str).zip us) := by
  obtain ⟨a0, a1, a2, rfl⟩ := ll3 hl
  rfl
theorem bd_13 (kV doc pm : Value) (an : Option Addr) (cdv ct : Value) (us : List Value) (hl : us.length = (["wishes", "chosen"] : List Str).length) : bindArgs (PySem.W.fnOf "first_lack" "first_lack" (defArgs (topS 13)) (defBody (topS 13)) (defScope (topS 13)) .none kV doc pm an cdv ct) ⟨us, []⟩ = pure ((["wishes", "chosen"] : List Str).zip us) := by
  obtain ⟨a0, a1, rfl⟩ := ll2 hl
  rfl
theorem bd_6 (kV doc pm : Value) (an : Option Addr) (cdv ct : Value) (us : List Value) (hl : us.length = (["wish", "letter"] : List Str).length) : bindArgs (PySem.W.fnOf "has_letter" "has_letter" (defArgs (topS 6)) (defBody (topS 6)) (defScope (topS 6)) .none kV doc pm an cdv ct) ⟨us, []⟩ = pure ((["wish", "letter"] : List Str).zip us) := by
  obtain ⟨a0, a1, rfl⟩ := ll2 hl
  rfl
theorem bd_14 (kV doc pm : Value) (an : Option Addr) (cdv ct : Value) (us : List Value) (hl : us.length = (["wishes", "chosen", "choices"] : List Str).length) : bindArgs (PySem.W.fnOf "searched" "searched" (defArgs (topS 14)) (defBody (topS 14)) (defScope (topS 14)) .none kV doc pm an cdv ct) ⟨us, []⟩ = pure ((["wishes", "chosen", "choices"] : List Str).zip us) := by
  obtain ⟨a0, a1, a2, rfl⟩ := ll3 hl
  rfl
theorem bd_15 (kV doc pm : Value) (an : Option Addr) (cdv ct : Value) (us : List Value) (hl : us.length = (["wishes"] : List Str).length) : bindArgs (PySem.W.fnOf "fewest_of" "fewest_of" (defArgs (topS 15)) (defBody (topS 15)) (defScope (topS 15)) .none kV doc pm an cdv ct) ⟨us, []⟩ = pure ((["wishes"] : List Str).zip us) := by
  obtain ⟨a0, rfl⟩ := ll1 hl
  rfl
theorem bd_35 (kV doc pm : Value) (an : Option Addr) (cdv ct : Value) (us : List Value) (hl : us.length = (["lists"] : List Str).length) : bindArgs (PySem.W.fnOf "_law_apart" "_law_apart" (defArgs (topS 35)) (defBody (topS 35)) (defScope (topS 35)) .none kV doc pm an cdv ct) ⟨us, []⟩ = pure ((["lists"] : List Str).zip us) := by
  obtain ⟨a0, rfl⟩ := ll1 hl
  rfl
theorem bd_31 (kV doc pm : Value) (an : Option Addr) (cdv ct : Value) (us : List Value) (hl : us.length = (["top"] : List Str).length) : bindArgs (PySem.W.fnOf "_law_choices" "_law_choices" (defArgs (topS 31)) (defBody (topS 31)) (defScope (topS 31)) .none kV doc pm an cdv ct) ⟨us, []⟩ = pure ((["top"] : List Str).zip us) := by
  obtain ⟨a0, rfl⟩ := ll1 hl
  rfl
theorem bd_23 (kV doc pm : Value) (an : Option Addr) (cdv ct : Value) (us : List Value) (hl : us.length = (["wish", "letter"] : List Str).length) : bindArgs (PySem.W.fnOf "_law_has" "_law_has" (defArgs (topS 23)) (defBody (topS 23)) (defScope (topS 23)) .none kV doc pm an cdv ct) ⟨us, []⟩ = pure ((["wish", "letter"] : List Str).zip us) := by
  obtain ⟨a0, a1, rfl⟩ := ll2 hl
  rfl
theorem bd_32 (kV doc pm : Value) (an : Option Addr) (cdv ct : Value) (us : List Value) (hl : us.length = (["some", "letters"] : List Str).length) : bindArgs (PySem.W.fnOf "_law_has_all" "_law_has_all" (defArgs (topS 32)) (defBody (topS 32)) (defScope (topS 32)) .none kV doc pm an cdv ct) ⟨us, []⟩ = pure ((["some", "letters"] : List Str).zip us) := by
  obtain ⟨a0, a1, rfl⟩ := ll2 hl
  rfl
theorem bd_25 (kV doc pm : Value) (an : Option Addr) (cdv ct : Value) (us : List Value) (hl : us.length = (["one", "other"] : List Str).length) : bindArgs (PySem.W.fnOf "_law_covers" "_law_covers" (defArgs (topS 25)) (defBody (topS 25)) (defScope (topS 25)) .none kV doc pm an cdv ct) ⟨us, []⟩ = pure ((["one", "other"] : List Str).zip us) := by
  obtain ⟨a0, a1, rfl⟩ := ll2 hl
  rfl
theorem bd_26 (kV doc pm : Value) (an : Option Addr) (cdv ct : Value) (us : List Value) (hl : us.length = (["wishes"] : List Str).length) : bindArgs (PySem.W.fnOf "_law_roof" "_law_roof" (defArgs (topS 26)) (defBody (topS 26)) (defScope (topS 26)) .none kV doc pm an cdv ct) ⟨us, []⟩ = pure ((["wishes"] : List Str).zip us) := by
  obtain ⟨a0, rfl⟩ := ll1 hl
  rfl
theorem bd_30 (kV doc pm : Value) (an : Option Addr) (cdv ct : Value) (us : List Value) (hl : us.length = (["tree", "fields"] : List Str).length) : bindArgs (PySem.W.fnOf "_law_is_made" "_law_is_made" (defArgs (topS 30)) (defBody (topS 30)) (defScope (topS 30)) .none kV doc pm an cdv ct) ⟨us, []⟩ = pure ((["tree", "fields"] : List Str).zip us) := by
  obtain ⟨a0, a1, rfl⟩ := ll2 hl
  rfl
theorem bd_28 (kV doc pm : Value) (an : Option Addr) (cdv ct : Value) (us : List Value) (hl : us.length = (["wishes", "some", "letter"] : List Str).length) : bindArgs (PySem.W.fnOf "_law_lacks" "_law_lacks" (defArgs (topS 28)) (defBody (topS 28)) (defScope (topS 28)) .none kV doc pm an cdv ct) ⟨us, []⟩ = pure ((["wishes", "some", "letter"] : List Str).zip us) := by
  obtain ⟨a0, a1, a2, rfl⟩ := ll3 hl
  rfl
theorem bd_29 (kV doc pm : Value) (an : Option Addr) (cdv ct : Value) (us : List Value) (hl : us.length = (["wishes", "some", "choices", "tree"] : List Str).length) : bindArgs (PySem.W.fnOf "_law_is_shown" "_law_is_shown" (defArgs (topS 29)) (defBody (topS 29)) (defScope (topS 29)) .none kV doc pm an cdv ct) ⟨us, []⟩ = pure ((["wishes", "some", "choices", "tree"] : List Str).zip us) := by
  obtain ⟨a0, a1, a2, a3, rfl⟩ := ll4 hl
  rfl
theorem bd_33 (kV doc pm : Value) (an : Option Addr) (cdv ct : Value) (us : List Value) (hl : us.length = (["wishes", "number", "letters", "found"] : List Str).length) : bindArgs (PySem.W.fnOf "_law_right" "_law_right" (defArgs (topS 33)) (defBody (topS 33)) (defScope (topS 33)) .none kV doc pm an cdv ct) ⟨us, []⟩ = pure ((["wishes", "number", "letters", "found"] : List Str).zip us) := by
  obtain ⟨a0, a1, a2, a3, rfl⟩ := ll4 hl
  rfl
theorem bd_34 (kV doc pm : Value) (an : Option Addr) (cdv ct : Value) (us : List Value) (hl : us.length = (["tree"] : List Str).length) : bindArgs (PySem.W.fnOf "_law_lists" "_law_lists" (defArgs (topS 34)) (defBody (topS 34)) (defScope (topS 34)) .none kV doc pm an cdv ct) ⟨us, []⟩ = pure ((["tree"] : List Str).zip us) := by
  obtain ⟨a0, rfl⟩ := ll1 hl
  rfl
theorem bd_37 (kV doc pm : Value) (an : Option Addr) (cdv ct : Value) (us : List Value) (hl : us.length = (["script"] : List Str).length) : bindArgs (PySem.W.fnOf "law" "law" (defArgs (topS 37)) (defBody (topS 37)) (defScope (topS 37)) .none kV doc pm an cdv ct) ⟨us, []⟩ = pure ((["script"] : List Str).zip us) := by
  obtain ⟨a0, rfl⟩ := ll1 hl
  rfl
theorem all_mk {l : PySem.W.OpenLaw} {w : World} {K : PySem.W.Frag} {h : Heap} {mg : Str → Option Value} {fa f18 f17 f19 f20 f22 f21 f36 f24 f27 f4 f8 f7 f9 f5 f11 f13 f6 f14 f15 f35 f31 f23 f32 f25 f26 f30 f28 f29 f33 f34 f37 e_NoKin : Addr} {od18 an18 od17 an17 od19 an19 od20 an20 od22 an22 od21 an21 od36 an36 od24 an24 od27 an27 od4 an4 od8 an8 od7 an7 od9 an9 od5 an5 od11 an11 od13 an13 od6 an6 od14 an14 od15 an15 od35 an35 od31 an31 od23 an23 od32 an32 od25 an25 od26 an26 od30 an30 od28 an28 od29 an29 od33 an33 od34 an34 od37 an37 : Option Addr} {sl18 sl17 sl19 sl20 sl22 sl21 sl36 sl24 sl27 sl4 sl8 sl7 sl9 sl5 sl11 sl13 sl6 sl14 sl15 sl35 sl31 sl23 sl32 sl25 sl26 sl30 sl28 sl29 sl33 sl34 sl37 : Array (Option Value)} {oc18 kV18 dc18 pm18 cd18 ct18 oc17 kV17 dc17 pm17 cd17 ct17 oc19 kV19 dc19 pm19 cd19 ct19 oc20 kV20 dc20 pm20 cd20 ct20 oc22 kV22 dc22 pm22 cd22 ct22 oc21 kV21 dc21 pm21 cd21 ct21 oc36 kV36 dc36 pm36 cd36 ct36 oc24 kV24 dc24 pm24 cd24 ct24 oc27 kV27 dc27 pm27 cd27 ct27 oc4 kV4 dc4 pm4 cd4 ct4 oc8 kV8 dc8 pm8 cd8 ct8 oc7 kV7 dc7 pm7 cd7 ct7 oc9 kV9 dc9 pm9 cd9 ct9 oc5 kV5 dc5 pm5 cd5 ct5 oc11 kV11 dc11 pm11 cd11 ct11 oc13 kV13 dc13 pm13 cd13 ct13 oc6 kV6 dc6 pm6 cd6 ct6 oc14 kV14 dc14 pm14 cd14 ct14 oc15 kV15 dc15 pm15 cd15 ct15 oc35 kV35 dc35 pm35 cd35 ct35 oc31 kV31 dc31 pm31 cd31 ct31 oc23 kV23 dc23 pm23 cd23 ct23 oc32 kV32 dc32 pm32 cd32 ct32 oc25 kV25 dc25 pm25 cd25 ct25 oc26 kV26 dc26 pm26 cd26 ct26 oc30 kV30 dc30 pm30 cd30 ct30 oc28 kV28 dc28 pm28 cd28 ct28 oc29 kV29 dc29 pm29 cd29 ct29 oc33 kV33 dc33 pm33 cd33 ct33 oc34 kV34 dc34 pm34 cd34 ct34 oc37 kV37 dc37 pm37 cd37 ct37 : Value} (X : K.In h) (G : h.Ns mainGlobals mg) (hfa : mg "law" = some (.ref fa))
    (a18 : PySem.W.nsIn K mainGlobals "_law_pot" = some (some (.ref f18))) (l18 : K.lookup f18 = some ⟨oc18, od18, .func (PySem.W.fnOf "_law_pot" "_law_pot" (defArgs (topS 18)) (defBody (topS 18)) (defScope (topS 18)) .none kV18 dc18 pm18 an18 cd18 ct18), sl18⟩) (c18 : PySem.W.codeIn K cd18 "_law_pot" = true) (k18 : PySem.W.keepIn K (.ref f18) = true)
    (a17 : PySem.W.nsIn K mainGlobals "_law_blend" = some (some (.ref f17))) (l17 : K.lookup f17 = some ⟨oc17, od17, .func (PySem.W.fnOf "_law_blend" "_law_blend" (defArgs (topS 17)) (defBody (topS 17)) (defScope (topS 17)) .none kV17 dc17 pm17 an17 cd17 ct17), sl17⟩) (c17 : PySem.W.codeIn K cd17 "_law_blend" = true) (k17 : PySem.W.keepIn K (.ref f17) = true)
    (a19 : PySem.W.nsIn K mainGlobals "_law_pick" = some (some (.ref f19))) (l19 : K.lookup f19 = some ⟨oc19, od19, .func (PySem.W.fnOf "_law_pick" "_law_pick" (defArgs (topS 19)) (defBody (topS 19)) (defScope (topS 19)) .none kV19 dc19 pm19 an19 cd19 ct19), sl19⟩) (c19 : PySem.W.codeIn K cd19 "_law_pick" = true) (k19 : PySem.W.keepIn K (.ref f19) = true)
    (a20 : PySem.W.nsIn K mainGlobals "_law_wish" = some (some (.ref f20))) (l20 : K.lookup f20 = some ⟨oc20, od20, .func (PySem.W.fnOf "_law_wish" "_law_wish" (defArgs (topS 20)) (defBody (topS 20)) (defScope (topS 20)) .none kV20 dc20 pm20 an20 cd20 ct20), sl20⟩) (c20 : PySem.W.codeIn K cd20 "_law_wish" = true) (k20 : PySem.W.keepIn K (.ref f20) = true)
    (a22 : PySem.W.nsIn K mainGlobals "_law_nudged" = some (some (.ref f22))) (l22 : K.lookup f22 = some ⟨oc22, od22, .func (PySem.W.fnOf "_law_nudged" "_law_nudged" (defArgs (topS 22)) (defBody (topS 22)) (defScope (topS 22)) .none kV22 dc22 pm22 an22 cd22 ct22), sl22⟩) (c22 : PySem.W.codeIn K cd22 "_law_nudged" = true) (k22 : PySem.W.keepIn K (.ref f22) = true)
    (a21 : PySem.W.nsIn K mainGlobals "_law_wishes" = some (some (.ref f21))) (l21 : K.lookup f21 = some ⟨oc21, od21, .func (PySem.W.fnOf "_law_wishes" "_law_wishes" (defArgs (topS 21)) (defBody (topS 21)) (defScope (topS 21)) .none kV21 dc21 pm21 an21 cd21 ct21), sl21⟩) (c21 : PySem.W.codeIn K cd21 "_law_wishes" = true) (k21 : PySem.W.keepIn K (.ref f21) = true)
    (a36 : PySem.W.nsIn K mainGlobals "_law_ring" = some (some (.ref f36))) (l36 : K.lookup f36 = some ⟨oc36, od36, .func (PySem.W.fnOf "_law_ring" "_law_ring" (defArgs (topS 36)) (defBody (topS 36)) (defScope (topS 36)) .none kV36 dc36 pm36 an36 cd36 ct36), sl36⟩) (c36 : PySem.W.codeIn K cd36 "_law_ring" = true) (k36 : PySem.W.keepIn K (.ref f36) = true)
    (a24 : PySem.W.nsIn K mainGlobals "_law_letters" = some (some (.ref f24))) (l24 : K.lookup f24 = some ⟨oc24, od24, .func (PySem.W.fnOf "_law_letters" "_law_letters" (defArgs (topS 24)) (defBody (topS 24)) (defScope (topS 24)) .none kV24 dc24 pm24 an24 cd24 ct24), sl24⟩) (c24 : PySem.W.codeIn K cd24 "_law_letters" = true) (k24 : PySem.W.keepIn K (.ref f24) = true)
    (a27 : PySem.W.nsIn K mainGlobals "_law_union" = some (some (.ref f27))) (l27 : K.lookup f27 = some ⟨oc27, od27, .func (PySem.W.fnOf "_law_union" "_law_union" (defArgs (topS 27)) (defBody (topS 27)) (defScope (topS 27)) .none kV27 dc27 pm27 an27 cd27 ct27), sl27⟩) (c27 : PySem.W.codeIn K cd27 "_law_union" = true) (k27 : PySem.W.keepIn K (.ref f27) = true)
    (a4 : PySem.W.nsIn K mainGlobals "need_kin" = some (some (.ref f4))) (l4 : K.lookup f4 = some ⟨oc4, od4, .func (PySem.W.fnOf "need_kin" "need_kin" (defArgs (topS 4)) (defBody (topS 4)) (defScope (topS 4)) .none kV4 dc4 pm4 an4 cd4 ct4), sl4⟩) (c4 : PySem.W.codeIn K cd4 "need_kin" = true) (k4 : PySem.W.keepIn K (.ref f4) = true)
    (a8 : PySem.W.nsIn K mainGlobals "each_once" = some (some (.ref f8))) (l8 : K.lookup f8 = some ⟨oc8, od8, .func (PySem.W.fnOf "each_once" "each_once" (defArgs (topS 8)) (defBody (topS 8)) (defScope (topS 8)) .none kV8 dc8 pm8 an8 cd8 ct8), sl8⟩) (c8 : PySem.W.codeIn K cd8 "each_once" = true) (k8 : PySem.W.keepIn K (.ref f8) = true)
    (a7 : PySem.W.nsIn K mainGlobals "covers" = some (some (.ref f7))) (l7 : K.lookup f7 = some ⟨oc7, od7, .func (PySem.W.fnOf "covers" "covers" (defArgs (topS 7)) (defBody (topS 7)) (defScope (topS 7)) .none kV7 dc7 pm7 an7 cd7 ct7), sl7⟩) (c7 : PySem.W.codeIn K cd7 "covers" = true) (k7 : PySem.W.keepIn K (.ref f7) = true)
    (a9 : PySem.W.nsIn K mainGlobals "roof_of" = some (some (.ref f9))) (l9 : K.lookup f9 = some ⟨oc9, od9, .func (PySem.W.fnOf "roof_of" "roof_of" (defArgs (topS 9)) (defBody (topS 9)) (defScope (topS 9)) .none kV9 dc9 pm9 an9 cd9 ct9), sl9⟩) (c9 : PySem.W.codeIn K cd9 "roof_of" = true) (k9 : PySem.W.keepIn K (.ref f9) = true)
    (a5 : PySem.W.nsIn K mainGlobals "is_in" = some (some (.ref f5))) (l5 : K.lookup f5 = some ⟨oc5, od5, .func (PySem.W.fnOf "is_in" "is_in" (defArgs (topS 5)) (defBody (topS 5)) (defScope (topS 5)) .none kV5 dc5 pm5 an5 cd5 ct5), sl5⟩) (c5 : PySem.W.codeIn K cd5 "is_in" = true) (k5 : PySem.W.keepIn K (.ref f5) = true)
    (a11 : PySem.W.nsIn K mainGlobals "first_left" = some (some (.ref f11))) (l11 : K.lookup f11 = some ⟨oc11, od11, .func (PySem.W.fnOf "first_left" "first_left" (defArgs (topS 11)) (defBody (topS 11)) (defScope (topS 11)) .none kV11 dc11 pm11 an11 cd11 ct11), sl11⟩) (c11 : PySem.W.codeIn K cd11 "first_left" = true) (k11 : PySem.W.keepIn K (.ref f11) = true)
    (a13 : PySem.W.nsIn K mainGlobals "first_lack" = some (some (.ref f13))) (l13 : K.lookup f13 = some ⟨oc13, od13, .func (PySem.W.fnOf "first_lack" "first_lack" (defArgs (topS 13)) (defBody (topS 13)) (defScope (topS 13)) .none kV13 dc13 pm13 an13 cd13 ct13), sl13⟩) (c13 : PySem.W.codeIn K cd13 "first_lack" = true) (k13 : PySem.W.keepIn K (.ref f13) = true)
    (a6 : PySem.W.nsIn K mainGlobals "has_letter" = some (some (.ref f6))) (l6 : K.lookup f6 = some ⟨oc6, od6, .func (PySem.W.fnOf "has_letter" "has_letter" (defArgs (topS 6)) (defBody (topS 6)) (defScope (topS 6)) .none kV6 dc6 pm6 an6 cd6 ct6), sl6⟩) (c6 : PySem.W.codeIn K cd6 "has_letter" = true) (k6 : PySem.W.keepIn K (.ref f6) = true)
    (a14 : PySem.W.nsIn K mainGlobals "searched" = some (some (.ref f14))) (l14 : K.lookup f14 = some ⟨oc14, od14, .func (PySem.W.fnOf "searched" "searched" (defArgs (topS 14)) (defBody (topS 14)) (defScope (topS 14)) .none kV14 dc14 pm14 an14 cd14 ct14), sl14⟩) (c14 : PySem.W.codeIn K cd14 "searched" = true) (k14 : PySem.W.keepIn K (.ref f14) = true)
    (a15 : PySem.W.nsIn K mainGlobals "fewest_of" = some (some (.ref f15))) (l15 : K.lookup f15 = some ⟨oc15, od15, .func (PySem.W.fnOf "fewest_of" "fewest_of" (defArgs (topS 15)) (defBody (topS 15)) (defScope (topS 15)) .none kV15 dc15 pm15 an15 cd15 ct15), sl15⟩) (c15 : PySem.W.codeIn K cd15 "fewest_of" = true) (k15 : PySem.W.keepIn K (.ref f15) = true)
    (a35 : PySem.W.nsIn K mainGlobals "_law_apart" = some (some (.ref f35))) (l35 : K.lookup f35 = some ⟨oc35, od35, .func (PySem.W.fnOf "_law_apart" "_law_apart" (defArgs (topS 35)) (defBody (topS 35)) (defScope (topS 35)) .none kV35 dc35 pm35 an35 cd35 ct35), sl35⟩) (c35 : PySem.W.codeIn K cd35 "_law_apart" = true) (k35 : PySem.W.keepIn K (.ref f35) = true)
    (a31 : PySem.W.nsIn K mainGlobals "_law_choices" = some (some (.ref f31))) (l31 : K.lookup f31 = some ⟨oc31, od31, .func (PySem.W.fnOf "_law_choices" "_law_choices" (defArgs (topS 31)) (defBody (topS 31)) (defScope (topS 31)) .none kV31 dc31 pm31 an31 cd31 ct31), sl31⟩) (c31 : PySem.W.codeIn K cd31 "_law_choices" = true) (k31 : PySem.W.keepIn K (.ref f31) = true)
    (a23 : PySem.W.nsIn K mainGlobals "_law_has" = some (some (.ref f23))) (l23 : K.lookup f23 = some ⟨oc23, od23, .func (PySem.W.fnOf "_law_has" "_law_has" (defArgs (topS 23)) (defBody (topS 23)) (defScope (topS 23)) .none kV23 dc23 pm23 an23 cd23 ct23), sl23⟩) (c23 : PySem.W.codeIn K cd23 "_law_has" = true) (k23 : PySem.W.keepIn K (.ref f23) = true)
    (a32 : PySem.W.nsIn K mainGlobals "_law_has_all" = some (some (.ref f32))) (l32 : K.lookup f32 = some ⟨oc32, od32, .func (PySem.W.fnOf "_law_has_all" "_law_has_all" (defArgs (topS 32)) (defBody (topS 32)) (defScope (topS 32)) .none kV32 dc32 pm32 an32 cd32 ct32), sl32⟩) (c32 : PySem.W.codeIn K cd32 "_law_has_all" = true) (k32 : PySem.W.keepIn K (.ref f32) = true)
    (a25 : PySem.W.nsIn K mainGlobals "_law_covers" = some (some (.ref f25))) (l25 : K.lookup f25 = some ⟨oc25, od25, .func (PySem.W.fnOf "_law_covers" "_law_covers" (defArgs (topS 25)) (defBody (topS 25)) (defScope (topS 25)) .none kV25 dc25 pm25 an25 cd25 ct25), sl25⟩) (c25 : PySem.W.codeIn K cd25 "_law_covers" = true) (k25 : PySem.W.keepIn K (.ref f25) = true)
    (a26 : PySem.W.nsIn K mainGlobals "_law_roof" = some (some (.ref f26))) (l26 : K.lookup f26 = some ⟨oc26, od26, .func (PySem.W.fnOf "_law_roof" "_law_roof" (defArgs (topS 26)) (defBody (topS 26)) (defScope (topS 26)) .none kV26 dc26 pm26 an26 cd26 ct26), sl26⟩) (c26 : PySem.W.codeIn K cd26 "_law_roof" = true) (k26 : PySem.W.keepIn K (.ref f26) = true)
    (a30 : PySem.W.nsIn K mainGlobals "_law_is_made" = some (some (.ref f30))) (l30 : K.lookup f30 = some ⟨oc30, od30, .func (PySem.W.fnOf "_law_is_made" "_law_is_made" (defArgs (topS 30)) (defBody (topS 30)) (defScope (topS 30)) .none kV30 dc30 pm30 an30 cd30 ct30), sl30⟩) (c30 : PySem.W.codeIn K cd30 "_law_is_made" = true) (k30 : PySem.W.keepIn K (.ref f30) = true)
    (a28 : PySem.W.nsIn K mainGlobals "_law_lacks" = some (some (.ref f28))) (l28 : K.lookup f28 = some ⟨oc28, od28, .func (PySem.W.fnOf "_law_lacks" "_law_lacks" (defArgs (topS 28)) (defBody (topS 28)) (defScope (topS 28)) .none kV28 dc28 pm28 an28 cd28 ct28), sl28⟩) (c28 : PySem.W.codeIn K cd28 "_law_lacks" = true) (k28 : PySem.W.keepIn K (.ref f28) = true)
    (a29 : PySem.W.nsIn K mainGlobals "_law_is_shown" = some (some (.ref f29))) (l29 : K.lookup f29 = some ⟨oc29, od29, .func (PySem.W.fnOf "_law_is_shown" "_law_is_shown" (defArgs (topS 29)) (defBody (topS 29)) (defScope (topS 29)) .none kV29 dc29 pm29 an29 cd29 ct29), sl29⟩) (c29 : PySem.W.codeIn K cd29 "_law_is_shown" = true) (k29 : PySem.W.keepIn K (.ref f29) = true)
    (a33 : PySem.W.nsIn K mainGlobals "_law_right" = some (some (.ref f33))) (l33 : K.lookup f33 = some ⟨oc33, od33, .func (PySem.W.fnOf "_law_right" "_law_right" (defArgs (topS 33)) (defBody (topS 33)) (defScope (topS 33)) .none kV33 dc33 pm33 an33 cd33 ct33), sl33⟩) (c33 : PySem.W.codeIn K cd33 "_law_right" = true) (k33 : PySem.W.keepIn K (.ref f33) = true)
    (a34 : PySem.W.nsIn K mainGlobals "_law_lists" = some (some (.ref f34))) (l34 : K.lookup f34 = some ⟨oc34, od34, .func (PySem.W.fnOf "_law_lists" "_law_lists" (defArgs (topS 34)) (defBody (topS 34)) (defScope (topS 34)) .none kV34 dc34 pm34 an34 cd34 ct34), sl34⟩) (c34 : PySem.W.codeIn K cd34 "_law_lists" = true) (k34 : PySem.W.keepIn K (.ref f34) = true)
    (a37 : PySem.W.nsIn K mainGlobals "law" = some (some (.ref f37))) (l37 : K.lookup f37 = some ⟨oc37, od37, .func (PySem.W.fnOf "law" "law" (defArgs (topS 37)) (defBody (topS 37)) (defScope (topS 37)) .none kV37 dc37 pm37 an37 cd37 ct37), sl37⟩) (c37 : PySem.W.codeIn K cd37 "law" = true) (k37 : PySem.W.keepIn K (.ref f37) = true)
    (z_all : PySem.W.nsIn K mainGlobals "all" = some none)
    (z_any : PySem.W.nsIn K mainGlobals "any" = some none)
    (z_bool : PySem.W.nsIn K mainGlobals "bool" = some none)
    (z_enumerate : PySem.W.nsIn K mainGlobals "enumerate" = some none)
    (z_int : PySem.W.nsIn K mainGlobals "int" = some none)
    (z_isinstance : PySem.W.nsIn K mainGlobals "isinstance" = some none)
    (z_len : PySem.W.nsIn K mainGlobals "len" = some none)
    (z_list : PySem.W.nsIn K mainGlobals "list" = some none)
    (z_max : PySem.W.nsIn K mainGlobals "max" = some none)
    (z_min : PySem.W.nsIn K mainGlobals "min" = some none)
    (z_range : PySem.W.nsIn K mainGlobals "range" = some none)
    (z_repr : PySem.W.nsIn K mainGlobals "repr" = some none)
    (z_set : PySem.W.nsIn K mainGlobals "set" = some none)
    (z_sorted : PySem.W.nsIn K mainGlobals "sorted" = some none)
    (z_tuple : PySem.W.nsIn K mainGlobals "tuple" = some none)
    (z_zip : PySem.W.nsIn K mainGlobals "zip" = some none)
    (g_NoKin : PySem.W.nsIn K mainGlobals "NoKin" = some (some (.ref e_NoKin)))
    (x_NoKin : PySem.W.excIn K e_NoKin [.type "ValueError", .type "Exception", .type "BaseException", .type "object"] "ValueError.__new__" = true)
    (k_NoKin : PySem.W.keepIn K (.ref e_NoKin) = true)
    (s_NoKin : PySem.W.subIn K (.ref e_NoKin) (.type "BaseException") = some true)
    (t_NoKin : PySem.W.typeIn K (.ref e_NoKin) = some (.type "type")) :
    ∃ fd : FuncData, (∀ (s : Shared) (v : Value), BindsTo s fd ⟨[v], []⟩ [("script", v)]) ∧ ∀ base : Heap, K.In base → base.Ns mainGlobals mg → FnG l.prog w K mg base 22 fa fd ["script"] (spF ⟨K, mg, l.prog, w⟩ 1 false m_law) := by
  have e := hfa.symm.trans (PySem.W.mg_of X G a37)
  cases e
  have u18 := fun_mk (st := topS 18) l18 c18 k18
  have b18 := u18.binds (ps := ["script"]) bd_18
  have u17 := fun_mk (st := topS 17) l17 c17 k17
  have b17 := u17.binds (ps := ["cell", "at"]) bd_17
  have u19 := fun_mk (st := topS 19) l19 c19 k19
  have b19 := u19.binds (ps := ["pot", "upto"]) bd_19
  have u20 := fun_mk (st := topS 20) l20 c20 k20
  have b20 := u20.binds (ps := ["pot", "fields", "low", "top"]) bd_20
  have u22 := fun_mk (st := topS 22) l22 c22 k22
  have b22 := u22.binds (ps := ["pot", "wish"]) bd_22
  have u21 := fun_mk (st := topS 21) l21 c21 k21
  have b21 := u21.binds (ps := ["pot", "fields", "most"]) bd_21
  have u36 := fun_mk (st := topS 36) l36 c36 k36
  have b36 := u36.binds (ps := ["pot"]) bd_36
  have u24 := fun_mk (st := topS 24) l24 c24 k24
  have b24 := u24.binds (ps := ["wish"]) bd_24
  have u27 := fun_mk (st := topS 27) l27 c27 k27
  have b27 := u27.binds (ps := ["wishes"]) bd_27
  have u4 := fun_mk (st := topS 4) l4 c4 k4
  have b4 := u4.binds (ps := ["things"]) bd_4
  have u8 := fun_mk (st := topS 8) l8 c8 k8
  have b8 := u8.binds (ps := ["wishes"]) bd_8
  have u7 := fun_mk (st := topS 7) l7 c7 k7
  have b7 := u7.binds (ps := ["one", "other"]) bd_7
  have u9 := fun_mk (st := topS 9) l9 c9 k9
  have b9 := u9.binds (ps := ["wishes"]) bd_9
  have u5 := fun_mk (st := topS 5) l5 c5 k5
  have b5 := u5.binds (ps := ["number", "pair"]) bd_5
  have u11 := fun_mk (st := topS 11) l11 c11 k11
  have b11 := u11.binds (ps := ["wishes", "wish", "field"]) bd_11
  have u13 := fun_mk (st := topS 13) l13 c13 k13
  have b13 := u13.binds (ps := ["wishes", "chosen"]) bd_13
  have u6 := fun_mk (st := topS 6) l6 c6 k6
  have b6 := u6.binds (ps := ["wish", "letter"]) bd_6
  have u14 := fun_mk (st := topS 14) l14 c14 k14
  have b14 := u14.binds (ps := ["wishes", "chosen", "choices"]) bd_14
  have u15 := fun_mk (st := topS 15) l15 c15 k15
  have b15 := u15.binds (ps := ["wishes"]) bd_15
  have u35 := fun_mk (st := topS 35) l35 c35 k35
  have b35 := u35.binds (ps := ["lists"]) bd_35
  have u31 := fun_mk (st := topS 31) l31 c31 k31
  have b31 := u31.binds (ps := ["top"]) bd_31
  have u23 := fun_mk (st := topS 23) l23 c23 k23
  have b23 := u23.binds (ps := ["wish", "letter"]) bd_23
  have u32 := fun_mk (st := topS 32) l32 c32 k32
  have b32 := u32.binds (ps := ["some", "letters"]) bd_32
  have u25 := fun_mk (st := topS 25) l25 c25 k25
  have b25 := u25.binds (ps := ["one", "other"]) bd_25
  have u26 := fun_mk (st := topS 26) l26 c26 k26
  have b26 := u26.binds (ps := ["wishes"]) bd_26
  have u30 := fun_mk (st := topS 30) l30 c30 k30
  have b30 := u30.binds (ps := ["tree", "fields"]) bd_30
  have u28 := fun_mk (st := topS 28) l28 c28 k28
  have b28 := u28.binds (ps := ["wishes", "some", "letter"]) bd_28
  have u29 := fun_mk (st := topS 29) l29 c29 k29
  have b29 := u29.binds (ps := ["wishes", "some", "choices", "tree"]) bd_29
  have u33 := fun_mk (st := topS 33) l33 c33 k33
  have b33 := u33.binds (ps := ["wishes", "number", "letters", "found"]) bd_33
  have u34 := fun_mk (st := topS 34) l34 c34 k34
  have b34 := u34.binds (ps := ["tree"]) bd_34
  have u37 := fun_mk (st := topS 37) l37 c37 k37
  have b37 := u37.binds (ps := ["script"]) bd_37
  refine ⟨PySem.W.fnOf "law" "law" (defArgs (topS 37)) (defBody (topS 37)) (defScope (topS 37)) .none kV37 dc37 pm37 an37 cd37 ct37, fun s v => .of_eq rfl, fun base _ _ => ok_law (P := l.prog) (w := w) (base := base) (⟨f18, _, u18, PySem.W.mg_of X G a18, b18, f17, _, u17, PySem.W.mg_of X G a17, b17, f19, _, u19, PySem.W.mg_of X G a19, b19, f20, _, u20, PySem.W.mg_of X G a20, b20, f22, _, u22, PySem.W.mg_of X G a22, b22, f21, _, u21, PySem.W.mg_of X G a21, b21, f36, _, u36, PySem.W.mg_of X G a36, b36, f24, _, u24, PySem.W.mg_of X G a24, b24, f27, _, u27, PySem.W.mg_of X G a27, b27, f4, _, u4, PySem.W.mg_of X G a4, b4, f8, _, u8, PySem.W.mg_of X G a8, b8, f7, _, u7, PySem.W.mg_of X G a7, b7, f9, _, u9, PySem.W.mg_of X G a9, b9, f5, _, u5, PySem.W.mg_of X G a5, b5, f11, _, u11, PySem.W.mg_of X G a11, b11, f13, _, u13, PySem.W.mg_of X G a13, b13, f6, _, u6, PySem.W.mg_of X G a6, b6, f14, _, u14, PySem.W.mg_of X G a14, b14, f15, _, u15, PySem.W.mg_of X G a15, b15, f35, _, u35, PySem.W.mg_of X G a35, b35, f31, _, u31, PySem.W.mg_of X G a31, b31, f23, _, u23, PySem.W.mg_of X G a23, b23, f32, _, u32, PySem.W.mg_of X G a32, b32, f25, _, u25, PySem.W.mg_of X G a25, b25, f26, _, u26, PySem.W.mg_of X G a26, b26, f30, _, u30, PySem.W.mg_of X G a30, b30, f28, _, u28, PySem.W.mg_of X G a28, b28, f29, _, u29, PySem.W.mg_of X G a29, b29, f33, _, u33, PySem.W.mg_of X G a33, b33, f34, _, u34, PySem.W.mg_of X G a34, b34, fa, _, u37, PySem.W.mg_of X G a37, b37, PySem.W.mg_none_of X G z_all, PySem.W.mg_none_of X G z_any, PySem.W.mg_none_of X G z_bool, PySem.W.mg_none_of X G z_enumerate, PySem.W.mg_none_of X G z_int, PySem.W.mg_none_of X G z_isinstance, PySem.W.mg_none_of X G z_len, PySem.W.mg_none_of X G z_list, PySem.W.mg_none_of X G z_max, PySem.W.mg_none_of X G z_min, PySem.W.mg_none_of X G z_range, PySem.W.mg_none_of X G z_repr, PySem.W.mg_none_of X G z_set, PySem.W.mg_none_of X G z_sorted, PySem.W.mg_none_of X G z_tuple, PySem.W.mg_none_of X G z_zip, e_NoKin, PySem.W.mg_of X G g_NoKin, x_NoKin, k_NoKin, s_NoKin, t_NoKin⟩ : Tx K mg)⟩
end K14


open PySem PySem.W PyProof.Rows in
set_option maxRecDepth 100000 in
set_option maxHeartbeats 0 in
theorem PySem.Challenge.cw_roofpost_k14_the_fewest_told_holds : PySem.Challenge.rw_roofpost_k14_the_fewest_told.Holds := by
  w_on; o_law; k_head; (case hw => w_witness2)
  k_fill
  refine Sm.walk_lawG (l := PySem.Challenge.rw_roofpost_k14_the_fewest_told) (L := 22) (g := K14.m_law) rfl rfl ⟨rfl, by decide, by decide⟩ (fun w h Y => PySem.W.kIn_of Y) ?F K14.law_true
  case F =>
    intro w mg fa h KX G hmg
    refine' K14.all_mk (l := PySem.Challenge.rw_roofpost_k14_the_fewest_told) (w := w) KX G hmg ?a18 ?l18 ?c18 ?k18 ?a17 ?l17 ?c17 ?k17 ?a19 ?l19 ?c19 ?k19 ?a20 ?l20 ?c20 ?k20 ?a22 ?l22 ?c22 ?k22 ?a21 ?l21 ?c21 ?k21 ?a36 ?l36 ?c36 ?k36 ?a24 ?l24 ?c24 ?k24 ?a27 ?l27 ?c27 ?k27 ?a4 ?l4 ?c4 ?k4 ?a8 ?l8 ?c8 ?k8 ?a7 ?l7 ?c7 ?k7 ?a9 ?l9 ?c9 ?k9 ?a5 ?l5 ?c5 ?k5 ?a11 ?l11 ?c11 ?k11 ?a13 ?l13 ?c13 ?k13 ?a6 ?l6 ?c6 ?k6 ?a14 ?l14 ?c14 ?k14 ?a15 ?l15 ?c15 ?k15 ?a35 ?l35 ?c35 ?k35 ?a31 ?l31 ?c31 ?k31 ?a23 ?l23 ?c23 ?k23 ?a32 ?l32 ?c32 ?k32 ?a25 ?l25 ?c25 ?k25 ?a26 ?l26 ?c26 ?k26 ?a30 ?l30 ?c30 ?k30 ?a28 ?l28 ?c28 ?k28 ?a29 ?l29 ?c29 ?k29 ?a33 ?l33 ?c33 ?k33 ?a34 ?l34 ?c34 ?k34 ?a37 ?l37 ?c37 ?k37 ?z_all ?z_any ?z_bool ?z_enumerate ?z_int ?z_isinstance ?z_len ?z_list ?z_max ?z_min ?z_range ?z_repr ?z_set ?z_sorted ?z_tuple ?z_zip ?g_NoKin ?x_NoKin ?k_NoKin ?s_NoKin ?t_NoKin
    (case a18 => k_is)
    (case l18 => k_is)
    (case c18 => k_is)
    (case k18 => k_is)
    (case a17 => k_is)
    (case l17 => k_is)
    (case c17 => k_is)
    (case k17 => k_is)
    (case a19 => k_is)
    (case l19 => k_is)
    (case c19 => k_is)
    (case k19 => k_is)
    (case a20 => k_is)
    (case l20 => k_is)
    (case c20 => k_is)
    (case k20 => k_is)
    (case a22 => k_is)
    (case l22 => k_is)
    (case c22 => k_is)
    (case k22 => k_is)
    (case a21 => k_is)
    (case l21 => k_is)
    (case c21 => k_is)
    (case k21 => k_is)
    (case a36 => k_is)
    (case l36 => k_is)
    (case c36 => k_is)
    (case k36 => k_is)
    (case a24 => k_is)
    (case l24 => k_is)
    (case c24 => k_is)
    (case k24 => k_is)
    (case a27 => k_is)
    (case l27 => k_is)
    (case c27 => k_is)
    (case k27 => k_is)
    (case a4 => k_is)
    (case l4 => k_is)
    (case c4 => k_is)
    (case k4 => k_is)
    (case a8 => k_is)
    (case l8 => k_is)
    (case c8 => k_is)
    (case k8 => k_is)
    (case a7 => k_is)
    (case l7 => k_is)
    (case c7 => k_is)
    (case k7 => k_is)
    (case a9 => k_is)
    (case l9 => k_is)
    (case c9 => k_is)
    (case k9 => k_is)
    (case a5 => k_is)
    (case l5 => k_is)
    (case c5 => k_is)
    (case k5 => k_is)
    (case a11 => k_is)
    (case l11 => k_is)
    (case c11 => k_is)
    (case k11 => k_is)
    (case a13 => k_is)
    (case l13 => k_is)
    (case c13 => k_is)
    (case k13 => k_is)
    (case a6 => k_is)
    (case l6 => k_is)
    (case c6 => k_is)
    (case k6 => k_is)
    (case a14 => k_is)
    (case l14 => k_is)
    (case c14 => k_is)
    (case k14 => k_is)
    (case a15 => k_is)
    (case l15 => k_is)
    (case c15 => k_is)
    (case k15 => k_is)
    (case a35 => k_is)
    (case l35 => k_is)
    (case c35 => k_is)
    (case k35 => k_is)
    (case a31 => k_is)
    (case l31 => k_is)
    (case c31 => k_is)
    (case k31 => k_is)
    (case a23 => k_is)
    (case l23 => k_is)
    (case c23 => k_is)
    (case k23 => k_is)
    (case a32 => k_is)
    (case l32 => k_is)
    (case c32 => k_is)
    (case k32 => k_is)
    (case a25 => k_is)
    (case l25 => k_is)
    (case c25 => k_is)
    (case k25 => k_is)
    (case a26 => k_is)
    (case l26 => k_is)
    (case c26 => k_is)
    (case k26 => k_is)
    (case a30 => k_is)
    (case l30 => k_is)
    (case c30 => k_is)
    (case k30 => k_is)
    (case a28 => k_is)
    (case l28 => k_is)
    (case c28 => k_is)
    (case k28 => k_is)
    (case a29 => k_is)
    (case l29 => k_is)
    (case c29 => k_is)
    (case k29 => k_is)
    (case a33 => k_is)
    (case l33 => k_is)
    (case c33 => k_is)
    (case k33 => k_is)
    (case a34 => k_is)
    (case l34 => k_is)
    (case c34 => k_is)
    (case k34 => k_is)
    (case a37 => k_is)
    (case l37 => k_is)
    (case c37 => k_is)
    (case k37 => k_is)
    (case z_all => k_is)
    (case z_any => k_is)
    (case z_bool => k_is)
    (case z_enumerate => k_is)
    (case z_int => k_is)
    (case z_isinstance => k_is)
    (case z_len => k_is)
    (case z_list => k_is)
    (case z_max => k_is)
    (case z_min => k_is)
    (case z_range => k_is)
    (case z_repr => k_is)
    (case z_set => k_is)
    (case z_sorted => k_is)
    (case z_tuple => k_is)
    (case z_zip => k_is)
    (case g_NoKin => k_is)
    (case x_NoKin => k_exc)
    (case k_NoKin => k_is)
    (case s_NoKin => k_is)
    (case t_NoKin => k_is)
