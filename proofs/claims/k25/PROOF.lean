import PyProof.Rows.All
import Wide.All
import OpenK.AllK
import Wide.FinOn
import HandS.ForMost
import HandS.ForExc
import HandS.Zip
import HandS.TupAny
import HandS.TupMul
import HandS.Conv
import HandS.Deep
import HandS.Wide
import HandS.Flow
import HandS.Style
import HandS.Defaults
import HandS.IsInst
import KE.KDictKeyed
import KE.SortData
import KE.GoesEnum
import HandS.DictTup
import HandS.Rev
import HandS.RevTup
import HandS.ExcIs
import HandS.ExcOwn
import KE.KDictDisplayH
import KE.KEqDict
import KE.DataCmp
import HandS.More
import KE.KTupSum
import PySem.Challenge.RW_mixform_k25_one_equation
set_option Elab.async false
set_option linter.all false
set_option maxRecDepth 100000
set_option maxHeartbeats 4000000
/-! The data layer, part 1: what a value stands for (Rp), frozen heaps (Ext), slots of data (EnvOk), the answers (Ans). -/
namespace DL
open PySem PySem.Spec PyProof.Rows L2

abbrev D := PyData
/-- none: not served; an error: an exception of that class -/
abbrev M (α : Type) := Option (Except Value α)
def mok {α : Type} (a : α) : M α := some (.ok a)
def mbind {α β : Type} (m : M α) (k : α → M β) : M β := match m with
  | none => none
  | some (.error c) => some (.error c)
  | some (.ok a) => k a
@[simp] theorem mbind_ok {α β : Type} (a : α) (k : α → M β) : mbind (some (.ok a)) k = k a := rfl
@[simp] theorem mbind_mok {α β : Type} (a : α) (k : α → M β) : mbind (mok a) k = k a := rfl
@[simp] theorem mbind_none {α β : Type} (k : α → M β) : mbind none k = none := rfl
@[simp] theorem mbind_err {α β : Type} (c : Value) (k : α → M β) : mbind (some (.error c)) k = some (.error c) := rfl
def Ans {α : Type} (m : M α) (p : α → Prop) (e : Value → Prop) : Prop := match m with
  | none => False
  | some (.error c) => e c
  | some (.ok a) => p a
theorem Ans.bind {α β : Type} {m : M α} {k : α → M β} {p : β → Prop} {e : Value → Prop} (h : Ans (mbind m k) p e) : Ans m (fun a => Ans (k a) p e) e := by
  cases m with
  | none => exact h
  | some r =>
    cases r with
    | error c => exact h
    | ok a => exact h
theorem Ans.mono {α : Type} {m : M α} {p p' : α → Prop} {e e' : Value → Prop} (h : Ans m p e) (hp : ∀ a, p a → p' a) (he : ∀ c, e c → e' c) : Ans m p' e' := by
  cases m with
  | none => exact h
  | some r =>
    cases r with
    | error c => exact he c h
    | ok a => exact hp a h
/-- with what was answered -/
theorem Ans.monoE {α : Type} {m : M α} {p p' : α → Prop} {e e' : Value → Prop} (h : Ans m p e) (hp : ∀ a, m = some (.ok a) → p a → p' a) (he : ∀ c, m = some (.error c) → e c → e' c) : Ans m p' e' := by
  cases m with
  | none => exact h
  | some r =>
    cases r with
    | error c => exact he c rfl h
    | ok a => exact hp a rfl h

/-- a dict with these keys (as data), the keys' values, the values -/
structure DR where
  es : List (NestedKey × V × V)
  en : Array DictEntry
  ep : Nat
def dO (w : World) (a : Addr) (x : DR) : HO := .ext fun h =>
  (a == sysModules) = false ∧ x.es.length ≤ sizeLine ∧ (x.es.map (·.1)).Nodup ∧ (∀ z ∈ x.es, z.1.depth ≤ 8 ∧ ∃ ks, z.1 = .tup ks) ∧
    ∃ (o : Obj), h.get? a = some o ∧ o.ExactDict ∧ o.data = .dict x.en x.ep ∧
      Paired (fun (x : NestedKey × V × V) (e : DictEntry) => e.hash = x.1.hash w ∧ RelV x.2.1 e.key ∧ RelV x.2.2 e.val) x.es x.en.toList

mutual
/-- the value v stands for the datum, in the heap H -/
inductive Rp (K : PySem.W.Frag) (w : World) (H : Hp) : V → D → Prop
  | non : Rp K w H .non .none
  | bl (b : Bool) : Rp K w H (.bl b) (.bool b)
  | int (i : Int) : Rp K w H (.int i) (.int i)
  | str (x : Str) : Rp K w H (.str x) (.str x)
  | lst {a : Addr} {xs : List V} {ds : List D} : SqL K H a xs → RpA K w H xs ds → Rp K w H (.ref a) (.list ds)
  | tup {a : Addr} {xs : List V} {ds : List D} : SqT K H a xs → RpA K w H xs ds → Rp K w H (.ref a) (.tuple ds)
  | dic {a : Addr} {x : DR} {kvs : List (D × D)} : H a = some (dO w a x) → RpE K w H x.es kvs → Rp K w H (.ref a) (.dict kvs)
inductive RpA (K : PySem.W.Frag) (w : World) (H : Hp) : List V → List D → Prop
  | nil : RpA K w H [] []
  | cons {v : V} {vs : List V} {d : D} {ds : List D} : Rp K w H v d → RpA K w H vs ds → RpA K w H (v :: vs) (d :: ds)
inductive RpE (K : PySem.W.Frag) (w : World) (H : Hp) : List (NestedKey × V × V) → List (D × D) → Prop
  | nil : RpE K w H [] []
  | cons {k : NestedKey} {kv v : V} {es : List (NestedKey × V × V)} {d : D} {kvs : List (D × D)} : Rp K w H kv k.data → Rp K w H v d → RpE K w H es kvs → RpE K w H ((k, kv, v) :: es) ((k.data, d) :: kvs)
end

theorem sqT_mono {K : PySem.W.Frag} {H H' : Hp} {a : Addr} {xs : List V} (e : Same H H') (h : SqT K H a xs) : SqT K H' a xs := by
  rcases h with (h | ⟨o, h⟩) | h
  · exact .inl (.inl (e _ _ h))
  · exact .inl (.inr ⟨o, e _ _ h⟩)
  · exact .inr h
theorem Rp.mono {K : PySem.W.Frag} {w : World} {H H' : Hp} (s : Same H H') {v : V} {d : D} (h : Rp K w H v d) : Rp K w H' v d := by
  refine Rp.rec (motive_1 := fun v d _ => Rp K w H' v d) (motive_2 := fun vs ds _ => RpA K w H' vs ds) (motive_3 := fun es kvs _ => RpE K w H' es kvs) ?_ ?_ ?_ ?_ ?_ ?_ ?_ ?_ ?_ ?_ ?_ h
  · exact .non
  · exact fun b => .bl b
  · exact fun i => .int i
  · exact fun x => .str x
  · exact fun h1 _ ih => .lst (s.seq h1) ih
  · exact fun h1 _ ih => .tup (sqT_mono s h1) ih
  · exact fun h1 _ ih => .dic (s _ _ h1) ih
  · exact .nil
  · exact fun _ _ i1 i2 => .cons i1 i2
  · exact .nil
  · exact fun _ _ _ i1 i2 i3 => .cons i1 i2 i3
theorem RpA.mono {K : PySem.W.Frag} {w : World} {H H' : Hp} (s : Same H H') : ∀ {vs : List V} {ds : List D}, RpA K w H vs ds → RpA K w H' vs ds
  | _, _, .nil => .nil
  | _, _, .cons h t => .cons (h.mono s) (RpA.mono s t)
theorem RpE.mono {K : PySem.W.Frag} {w : World} {H H' : Hp} (s : Same H H') : ∀ {es : List (NestedKey × V × V)} {kvs : List (D × D)}, RpE K w H es kvs → RpE K w H' es kvs
  | _, _, .nil => .nil
  | _, _, .cons h h' t => .cons (h.mono s) (h'.mono s) (RpE.mono s t)
theorem RpA.length {K : PySem.W.Frag} {w : World} {H : Hp} : ∀ {vs : List V} {ds : List D}, RpA K w H vs ds → vs.length = ds.length
  | _, _, .nil => rfl
  | _, _, .cons _ t => by simp [RpA.length t]
theorem RpA.append {K : PySem.W.Frag} {w : World} {H : Hp} : ∀ {vs us : List V} {ds es : List D}, RpA K w H vs ds → RpA K w H us es → RpA K w H (vs ++ us) (ds ++ es)
  | _, _, _, _, .nil, s => s
  | _, _, _, _, .cons h t, s => .cons h (RpA.append t s)
theorem RpA.get {K : PySem.W.Frag} {w : World} {H : Hp} : ∀ {vs : List V} {ds : List D} {i : Nat} {d : D}, RpA K w H vs ds → ds[i]? = some d → ∃ v, vs[i]? = some v ∧ Rp K w H v d
  | _, _, i, d, .nil, e => by simp at e
  | _, _, 0, d, .cons h t, e => by simp at e; subst e; exact ⟨_, rfl, h⟩
  | _, _, i + 1, d, .cons h t, e => by
    obtain ⟨v, h1, h2⟩ := RpA.get (i := i) (d := d) t (by simpa using e)
    exact ⟨v, by simpa using h1, h2⟩
theorem RpA.getV {K : PySem.W.Frag} {w : World} {H : Hp} : ∀ {vs : List V} {ds : List D} {i : Nat} {v : V}, RpA K w H vs ds → vs[i]? = some v → ∃ d, ds[i]? = some d ∧ Rp K w H v d
  | _, _, i, v, .nil, e => by simp at e
  | _, _, 0, v, .cons h t, e => by simp at e; subst e; exact ⟨_, rfl, h⟩
  | _, _, i + 1, v, .cons h t, e => by
    obtain ⟨d, h1, h2⟩ := RpA.getV (i := i) (v := v) t (by simpa using e)
    exact ⟨d, by simpa using h1, h2⟩
theorem RpA.set {K : PySem.W.Frag} {w : World} {H : Hp} {v : V} {d : D} (h : Rp K w H v d) : ∀ {vs : List V} {ds : List D} (i : Nat), RpA K w H vs ds → RpA K w H (vs.set i v) (ds.set i d)
  | _, _, _, .nil => .nil
  | _, _, 0, .cons _ t => .cons h t
  | _, _, i + 1, .cons q t => .cons q (RpA.set h i t)
theorem RpA.take {K : PySem.W.Frag} {w : World} {H : Hp} : ∀ {vs : List V} {ds : List D} (n : Nat), RpA K w H vs ds → RpA K w H (vs.take n) (ds.take n)
  | _, _, 0, _ => .nil
  | _, _, _ + 1, .nil => .nil
  | _, _, n + 1, .cons r t => .cons r (RpA.take n t)
theorem RpA.drop {K : PySem.W.Frag} {w : World} {H : Hp} : ∀ {vs : List V} {ds : List D} (n : Nat), RpA K w H vs ds → RpA K w H (vs.drop n) (ds.drop n)
  | _, _, 0, r => r
  | _, _, _ + 1, .nil => .nil
  | _, _, n + 1, .cons _ t => RpA.drop n t
theorem RpA.nil_iff {K : PySem.W.Frag} {w : World} {H : Hp} {vs : List V} {ds : List D} (h : RpA K w H vs ds) : vs = [] ↔ ds = [] := by
  cases h <;> simp

/-- a tuple -/
def Tp : HO → Prop
  | .tup _ => True
  | .frz _ (.tup _) => True
  | _ => False
/-- F, H: the frozen part and the heap; then some time later, nothing of it changed, new things and tuples frozen -/
structure Ext (F H F' H' : Hp) : Prop where
  ff : Same F F'
  hh : Same H H'
  fh : Same F' H'
  nw : ∀ a o, F' a = some o → F a = some o ∨ H a = none ∨ Tp o
theorem Ext.refl {F H : Hp} (h : Same F H) : Ext F H F H := ⟨Same.refl _, Same.refl _, h, fun _ _ e => .inl e⟩
theorem Ext.trans {F H F1 H1 F2 H2 : Hp} (a : Ext F H F1 H1) (b : Ext F1 H1 F2 H2) : Ext F H F2 H2 :=
  ⟨a.ff.trans b.ff, a.hh.trans b.hh, b.fh, fun x o e => by
    rcases b.nw x o e with q | q | q
    · exact a.nw x o q
    · exact .inr (.inl (a.hh.free q))
    · exact .inr (.inr q)⟩
theorem same_upd {H : Hp} {p : Addr} {o : HO} (h : H p = none) : Same H (upd H p o) := fun b x e => by
  rw [upd_ne (ne_of_none e h)]
  exact e
theorem same_upd2 {F H : Hp} {p : Addr} {o : HO} (s : Same F H) (h : F p = none) : Same F (upd H p o) := fun b x e => by
  rw [upd_ne (ne_of_none e h)]
  exact s b x e
/-- a new object, frozen -/
theorem Ext.newF {F H : Hp} {p : Addr} {o : HO} (s : Same F H) (h : H p = none) : Ext F H (upd F p o) (upd H p o) := by
  have hf := s.free h
  refine ⟨same_upd hf, same_upd h, fun b x e => ?_, fun b x e => ?_⟩
  · by_cases hb : b = p
    · subst hb; rw [upd_same] at e ⊢; exact e
    · rw [upd_ne hb] at e ⊢; exact s b x e
  · by_cases hb : b = p
    · subst hb; exact .inr (.inl h)
    · rw [upd_ne hb] at e; exact .inl e
/-- a new object, not frozen -/
theorem Ext.newO {F H : Hp} {p : Addr} {o : HO} (s : Same F H) (h : H p = none) : Ext F H F (upd H p o) :=
  ⟨Same.refl _, same_upd h, same_upd2 s (s.free h), fun _ _ e => .inl e⟩
/-- what is new is frozen -/
theorem Ext.freeze {F H F' H' : Hp} {p : Addr} {o : HO} (x : Ext F H F' H') (h : H p = none) (h' : H' p = some o) (hf : F' p = none) : Ext F H (upd F' p o) H' :=
  ⟨x.ff.trans (same_upd hf), x.hh, fun b y e => by
    by_cases hb : b = p
    · subst hb; rw [upd_same] at e; cases e; exact h'
    · rw [upd_ne hb] at e; exact x.fh b y e, fun b y e => by
    by_cases hb : b = p
    · subst hb; exact .inr (.inl h)
    · rw [upd_ne hb] at e; exact x.nw b y e⟩

/-- a list or a dict whose items are frozen, itself as it stands in H -/
def Ow (K : PySem.W.Frag) (w : World) (F H : Hp) (v : V) (d : D) : Prop :=
  ∃ a, v = .ref a ∧ ((∃ vs ds, d = .list ds ∧ H a = some (.lst vs) ∧ RpA K w F vs ds) ∨ ∃ (es : DR) (kvs : List (D × D)), d = .dict kvs ∧ H a = some (dO w a es) ∧ RpE K w F es.es kvs)
theorem Ow.mono {K : PySem.W.Frag} {w : World} {F H F' H' : Hp} {v : V} {d : D} (x : Ow K w F H v d) (sf : Same F F') (sh : Same H H') : Ow K w F' H' v d := by
  obtain ⟨a, e, ⟨vs, ds, e1, e2, r⟩ | ⟨es, kvs, e1, e2, r⟩⟩ := x
  · exact ⟨a, e, .inl ⟨vs, ds, e1, sh _ _ e2, r.mono sf⟩⟩
  · exact ⟨a, e, .inr ⟨es, kvs, e1, sh _ _ e2, r.mono sf⟩⟩
/-- .. its object -/
theorem Ow.obj {K : PySem.W.Frag} {w : World} {F H : Hp} {v : V} {d : D} (x : Ow K w F H v d) : ∃ a o, v = .ref a ∧ H a = some o := by
  obtain ⟨a, e, ⟨vs, ds, e1, e2, r⟩ | ⟨es, kvs, e1, e2, r⟩⟩ := x
  · exact ⟨a, _, e, e2⟩
  · exact ⟨a, _, e, e2⟩
theorem Ow.notTp {K : PySem.W.Frag} {w : World} {F H : Hp} {a : Addr} {o : HO} {d : D} (x : Ow K w F H (.ref a) d) (ho : H a = some o) : ¬ Tp o := by
  obtain ⟨b, e, ⟨vs, ds, e1, e2, r⟩ | ⟨es, kvs, e1, e2, r⟩⟩ := x
  · cases e
    rw [e2] at ho; cases ho
    exact id
  · cases e
    rw [e2] at ho; cases ho
    exact id
/-- frozen -/
theorem Ow.rp {K : PySem.W.Frag} {w : World} {F H : Hp} {a : Addr} {o : HO} {d : D} (x : Ow K w F H (.ref a) d) (ho : H a = some o) (hf : F a = none) : Rp K w (upd F a o) (.ref a) d := by
  obtain ⟨b, e, ⟨vs, ds, e1, e2, r⟩ | ⟨es, kvs, e1, e2, r⟩⟩ := x
  · cases e
    rw [e2] at ho; cases ho; subst e1
    exact .lst (.inl (.inl upd_same)) (r.mono (same_upd hf))
  · cases e
    rw [e2] at ho; cases ho; subst e1
    exact .dic upd_same (r.mono (same_upd hf))
/-- as it stands: all of it frozen, or its items -/
def Sh (K : PySem.W.Frag) (w : World) (F H : Hp) (v : V) (d : D) : Prop := Rp K w F v d ∨ Ow K w F H v d
theorem Sh.mono {K : PySem.W.Frag} {w : World} {F H F' H' : Hp} {v : V} {d : D} (x : Sh K w F H v d) (sf : Same F F') (sh : Same H H') : Sh K w F' H' v d :=
  x.imp (fun r => r.mono sf) fun r => r.mono sf sh
theorem Ow.all {K : PySem.W.Frag} {w : World} {F H : Hp} {v : V} {d : D} (x : Ow K w F H v d) (s : Same F H) : Rp K w H v d := by
  obtain ⟨a, e, ⟨vs, ds, e1, e2, r⟩ | ⟨es, kvs, e1, e2, r⟩⟩ := x
  · subst e e1; exact .lst (.inl (.inl e2)) (r.mono s)
  · subst e e1; exact .dic e2 (r.mono s)
theorem Sh.all {K : PySem.W.Frag} {w : World} {F H : Hp} {v : V} {d : D} (x : Sh K w F H v d) (s : Same F H) : Rp K w H v d := by
  rcases x with x | x
  · exact x.mono s
  · exact x.all s
/-- a list: its items -/
theorem Sh.list {K : PySem.W.Frag} {w : World} {F H : Hp} {v : V} {ds : List D} (x : Sh K w F H v (.list ds)) (s : Same F H) : ∃ a vs, v = .ref a ∧ SqL K H a vs ∧ RpA K w F vs ds := by
  rcases x with x | ⟨a, e, ⟨vs, es, e1, e2, r⟩ | ⟨es, kvs, e1, e2, r⟩⟩
  · cases x with
    | lst h r => exact ⟨_, _, rfl, s.seq h, r⟩
  · cases e1; exact ⟨a, vs, e, .inl (.inl e2), r⟩
  · cases e1
theorem Sh.tuple {K : PySem.W.Frag} {w : World} {F H : Hp} {v : V} {ds : List D} (x : Sh K w F H v (.tuple ds)) (s : Same F H) : ∃ a vs, v = .ref a ∧ SqT K H a vs ∧ RpA K w F vs ds := by
  rcases x with x | ⟨a, e, ⟨vs, es, e1, e2, r⟩ | ⟨es, kvs, e1, e2, r⟩⟩
  · cases x with
    | tup h r => exact ⟨_, _, rfl, sqT_mono s h, r⟩
  · cases e1
  · cases e1
theorem Sh.int {K : PySem.W.Frag} {w : World} {F H : Hp} {v : V} {i : Int} (x : Sh K w F H v (.int i)) : v = .int i := by
  rcases x with x | ⟨a, e, ⟨vs, es, e1, e2, r⟩ | ⟨es, kvs, e1, e2, r⟩⟩
  · cases x; rfl
  · cases e1
  · cases e1
theorem Sh.str {K : PySem.W.Frag} {w : World} {F H : Hp} {v : V} {i : Str} (x : Sh K w F H v (.str i)) : v = .str i := by
  rcases x with x | ⟨a, e, ⟨vs, es, e1, e2, r⟩ | ⟨es, kvs, e1, e2, r⟩⟩
  · cases x; rfl
  · cases e1
  · cases e1
theorem Sh.bool {K : PySem.W.Frag} {w : World} {F H : Hp} {v : V} {i : Bool} (x : Sh K w F H v (.bool i)) : v = .bl i := by
  rcases x with x | ⟨a, e, ⟨vs, es, e1, e2, r⟩ | ⟨es, kvs, e1, e2, r⟩⟩
  · cases x; rfl
  · cases e1
  · cases e1
theorem Sh.none_iff {K : PySem.W.Frag} {w : World} {F H : Hp} {v : V} {d : D} (x : Sh K w F H v d) : decide (v = .non) = (match d with | .none => true | _ => false) := by
  rcases x with x | ⟨a, e, ⟨vs, es, e1, e2, r⟩ | ⟨es, kvs, e1, e2, r⟩⟩
  · cases x <;> simp
  · subst e e1; simp
  · subst e e1; simp

/-- how a value comes: frozen | as it stands | a new list or dict, the asker's own -/
inductive Md where
  | v | s | o
  deriving DecidableEq
def RM (K : PySem.W.Frag) (w : World) (H F' H' : Hp) : Md → V → D → Prop
  | .v, v, d => Rp K w F' v d
  | .s, v, d => Sh K w F' H' v d
  | .o, v, d => Ow K w F' H' v d ∧ ∃ a, v = .ref a ∧ H a = none ∧ F' a = none

/-! ### slots -/
inductive Sl where
  | fz (d : D)
  | ow (d : D)
  /-- the error that an except clause holds -/
  | xp
abbrev DEnv := List (Option Sl)
/-- the entry -/
structure Bs (hd : Option Value) where
  F : Hp
  H : Hp
def SlOk {hd : Option Value} (K : PySem.W.Frag) (w : World) (B : Bs hd) (F H : Hp) (v : V) : Sl → Prop
  | .fz d => Rp K w F v d
  | .ow d => Ow K w F H v d ∧ ∃ a, v = .ref a ∧ B.H a = none ∧ F a = none
  | .xp => ∃ a, hd = some (.ref a) ∧ v = .ref a
structure EnvOk {hd : Option Value} (K : PySem.W.Frag) (w : World) (B : Bs hd) (F H : Hp) (σ : L2.St) (env : DEnv) : Prop where
  ext : Ext B.F B.H F H
  len : env.length = σ.length
  sl : ∀ (i : Nat) (s : Sl), env[i]? = some (some s) → ∃ v, σ[i]? = some (some v) ∧ SlOk K w B F H v s
  ap : ∀ (i j : Nat) (d e : D) (a : Addr), i ≠ j → env[i]? = some (some (.ow d)) → env[j]? = some (some (.ow e)) → σ[i]? = some (some (.ref a)) → σ[j]? = some (some (.ref a)) → False
section
variable {K : PySem.W.Frag} {w : World} {hd : Option Value} {B : Bs hd} {F H F' H' : Hp} {σ : L2.St} {env : DEnv}
theorem EnvOk.fh (x : EnvOk K w B F H σ env) : Same F H := x.ext.fh
theorem EnvOk.mono (x : EnvOk K w B F H σ env) (e : Ext F H F' H') : EnvOk K w B F' H' σ env := by
  refine ⟨x.ext.trans e, x.len, fun i s q => ?_, x.ap⟩
  obtain ⟨v, h1, h2⟩ := x.sl i s q
  refine ⟨v, h1, ?_⟩
  cases s with
  | xp => exact h2
  | fz d => exact Rp.mono e.ff h2
  | ow d =>
    obtain ⟨h3, a, h4, h5, h6⟩ := h2
    refine ⟨h3.mono e.ff e.hh, a, h4, h5, ?_⟩
    cases q : F' a with
    | none => rfl
    | some o =>
      obtain ⟨b, o', h7, h8⟩ := h3.obj
      rw [h4] at h7; cases h7
      rcases e.nw a o q with z | z | z
      · rw [h6] at z; cases z
      · rw [h8] at z; cases z
      · have e1 := e.fh _ _ q
        rw [e.hh _ _ h8] at e1; cases e1
        subst h4
        exact absurd z (h3.notTp h8)
/-- a frozen value is stored -/
theorem EnvOk.setF (x : EnvOk K w B F H σ env) {i : Nat} {v : V} {d : D} (h : Rp K w F v d) : EnvOk K w B F H (σ.set i (some v)) (env.set i (some (.fz d))) := by
  refine ⟨x.ext, by simpa using x.len, fun j s q => ?_, fun j k d' e' a hjk h1 h2 h3 h4 => ?_⟩
  · by_cases hj : i = j
    · subst hj
      by_cases hl : i < env.length
      · rw [List.getElem?_set_self hl] at q
        cases q
        exact ⟨v, List.getElem?_set_self (by rw [← x.len]; exact hl), h⟩
      · rw [List.getElem?_eq_none (by simpa using hl)] at q; cases q
    · rw [List.getElem?_set_ne hj] at q ⊢
      exact x.sl j s q
  · have n1 : i ≠ j := by
      rintro rfl
      by_cases hl : i < env.length
      · rw [List.getElem?_set_self hl] at h1; cases h1
      · rw [List.getElem?_eq_none (by simpa using hl)] at h1; cases h1
    have n2 : i ≠ k := by
      rintro rfl
      by_cases hl : i < env.length
      · rw [List.getElem?_set_self hl] at h2; cases h2
      · rw [List.getElem?_eq_none (by simpa using hl)] at h2; cases h2
    rw [List.getElem?_set_ne n1] at h1 h3
    rw [List.getElem?_set_ne n2] at h2 h4
    exact x.ap j k d' e' a hjk h1 h2 h3 h4
/-- a new list or dict of one's own is stored -/
theorem EnvOk.setO (x : EnvOk K w B F H σ env) {i : Nat} {a : Addr} {d : D} (h : Ow K w F' H' (.ref a) d) (e : Ext F H F' H') (hb : H a = none) (hf : F' a = none) : EnvOk K w B F' H' (σ.set i (some (.ref a))) (env.set i (some (.ow d))) := by
  have y := x.mono e
  refine ⟨y.ext, by simpa using x.len, fun j s q => ?_, fun j k d' e' b hjk h1 h2 h3 h4 => ?_⟩
  · by_cases hj : i = j
    · subst hj
      by_cases hl : i < env.length
      · rw [List.getElem?_set_self hl] at q
        cases q
        exact ⟨_, List.getElem?_set_self (by rw [← x.len]; exact hl), h, a, rfl, x.ext.hh.free hb, hf⟩
      · rw [List.getElem?_eq_none (by simpa using hl)] at q; cases q
    · rw [List.getElem?_set_ne hj] at q ⊢
      exact y.sl j s q
  · have old : ∀ (m : Nat) (dm : D) (bm : Addr), env[m]? = some (some (.ow dm)) → σ[m]? = some (some (.ref bm)) → bm ≠ a := fun m dm bm p1 p3 z => by
      obtain ⟨v, h5, h6, _⟩ := x.sl m _ p1
      rw [p3] at h5; cases h5
      obtain ⟨c, o, h7, h8⟩ := h6.obj
      cases h7
      rw [z, hb] at h8; cases h8
    by_cases n1 : i = j
    · subst n1
      rw [List.getElem?_set_ne hjk] at h2 h4
      have hl : i < σ.length := by
        rcases Nat.lt_or_ge i σ.length with z | z
        · exact z
        · rw [List.getElem?_eq_none (by simpa using z)] at h3; cases h3
      rw [List.getElem?_set_self hl] at h3
      cases h3
      exact old k e' _ h2 h4 rfl
    · rw [List.getElem?_set_ne n1] at h1 h3
      by_cases n2 : i = k
      · subst n2
        have hl : i < σ.length := by
          rcases Nat.lt_or_ge i σ.length with z | z
          · exact z
          · rw [List.getElem?_eq_none (by simpa using z)] at h4; cases h4
        rw [List.getElem?_set_self hl] at h4
        cases h4
        exact old j d' _ h1 h3 rfl
      · rw [List.getElem?_set_ne n2] at h2 h4
        exact x.ap j k d' e' b hjk h1 h2 h3 h4
/-- a slot is forgotten, on both sides -/
theorem EnvOk.drop (x : EnvOk K w B F H σ env) (i : Nat) (o : Option V) : EnvOk K w B F H (σ.set i o) (env.set i none) := by
  have no : ∀ s, (env.set i none)[i]? ≠ some (some s) := fun s q => by
    by_cases hl : i < env.length
    · rw [List.getElem?_set_self hl] at q; cases q
    · rw [List.getElem?_eq_none (by simpa using hl)] at q; cases q
  refine ⟨x.ext, by simpa using x.len, fun j s q => ?_, fun j k d' e' a hjk h1 h2 h3 h4 => ?_⟩
  · by_cases hj : i = j
    · subst hj; exact absurd q (no s)
    · rw [List.getElem?_set_ne hj] at q ⊢
      exact x.sl j s q
  · have n1 : i ≠ j := by rintro rfl; exact no _ h1
    have n2 : i ≠ k := by rintro rfl; exact no _ h2
    rw [List.getElem?_set_ne n1] at h1 h3
    rw [List.getElem?_set_ne n2] at h2 h4
    exact x.ap j k d' e' a hjk h1 h2 h3 h4
/-- a slot's own list is frozen -/
def frzE (i : Nat) (env : DEnv) : DEnv := match env[i]? with
  | some (some (.ow d)) => env.set i (some (.fz d))
  | _ => env
theorem EnvOk.freeze (x : EnvOk K w B F H σ env) (i : Nat) : ∃ F', Same F F' ∧ EnvOk K w B F' H σ (frzE i env) := by
  unfold frzE
  split
  · rename_i d q
    obtain ⟨v, h1, h2, a, rfl, h4, h5⟩ := x.sl i _ q
    obtain ⟨b, o, h6, h7⟩ := h2.obj
    cases h6
    have ex : Ext B.F B.H (upd F a o) H := x.ext.freeze h4 h7 h5
    have sf : Same F (upd F a o) := same_upd h5
    have hlen : i < env.length := by
      rcases Nat.lt_or_ge i env.length with z | z
      · exact z
      · rw [List.getElem?_eq_none z] at q; cases q
    refine ⟨upd F a o, sf, ex, by simpa using x.len, fun j s r => ?_, fun j k d' e' c hjk g1 g2 g3 g4 => ?_⟩
    · by_cases hj : i = j
      · subst hj
        rw [List.getElem?_set_self hlen] at r
        cases r
        exact ⟨_, h1, h2.rp h7 h5⟩
      · rw [List.getElem?_set_ne hj] at r
        obtain ⟨u, g1, g2⟩ := x.sl j s r
        refine ⟨u, g1, ?_⟩
        cases s with
        | xp => exact g2
        | fz e => exact Rp.mono sf g2
        | ow e =>
          obtain ⟨g3, c, g4, g5, g6⟩ := g2
          refine ⟨g3.mono sf (Same.refl _), c, g4, g5, ?_⟩
          rw [upd_ne ?_]
          · exact g6
          · rintro rfl
            subst g4
            exact x.ap i j d e c hj q r h1 g1
    · have n1 : i ≠ j := by rintro rfl; rw [List.getElem?_set_self hlen] at g1; cases g1
      have n2 : i ≠ k := by rintro rfl; rw [List.getElem?_set_self hlen] at g2; cases g2
      rw [List.getElem?_set_ne n1] at g1
      rw [List.getElem?_set_ne n2] at g2
      exact x.ap j k d' e' c hjk g1 g2 g3 g4
  · exact ⟨F, Same.refl _, x⟩
/-- a slot's own list or dict is changed -/
theorem EnvOk.write (x : EnvOk K w B F H σ env) {i : Nat} {a : Addr} {d d' : D} {o : HO} (q : env[i]? = some (some (.ow d))) (hs : σ[i]? = some (some (.ref a))) (h : Ow K w F (upd H a o) (.ref a) d') :
    EnvOk K w B F (upd H a o) σ (env.set i (some (.ow d'))) := by
  obtain ⟨v, h1, h2, b, rfl, h4, h5⟩ := x.sl i _ q
  rw [hs] at h1; cases h1
  have hlen : i < env.length := by
    rcases Nat.lt_or_ge i env.length with z | z
    · exact z
    · rw [List.getElem?_eq_none z] at q; cases q
  have ex : Ext B.F B.H F (upd H a o) := ⟨x.ext.ff, same_upd2 x.ext.hh h4, same_upd2 x.ext.fh h5, x.ext.nw⟩
  refine ⟨ex, by simpa using x.len, fun j s r => ?_, fun j k e e' c hjk g1 g2 g3 g4 => ?_⟩
  · by_cases hj : i = j
    · subst hj
      rw [List.getElem?_set_self hlen] at r
      cases r
      exact ⟨_, hs, h, a, rfl, h4, h5⟩
    · rw [List.getElem?_set_ne hj] at r
      obtain ⟨u, g1, g2⟩ := x.sl j s r
      refine ⟨u, g1, ?_⟩
      cases s with
      | xp => exact g2
      | fz e => exact g2
      | ow e =>
        obtain ⟨g3, c, g4, g5, g6⟩ := g2
        subst g4
        have nca : c ≠ a := by rintro rfl; exact x.ap i j d e c hj q r hs g1
        refine ⟨?_, c, rfl, g5, g6⟩
        obtain ⟨b, e0, ⟨vs, ds, e1, e2, r'⟩ | ⟨es, kvs, e1, e2, r'⟩⟩ := g3
        · cases e0
          exact ⟨c, rfl, .inl ⟨vs, ds, e1, by rw [upd_ne nca]; exact e2, r'⟩⟩
        · cases e0
          exact ⟨c, rfl, .inr ⟨es, kvs, e1, by rw [upd_ne nca]; exact e2, r'⟩⟩
  · by_cases n1 : i = j
    · subst n1
      rw [List.getElem?_set_ne hjk] at g2
      exact x.ap i k d e' c hjk q g2 g3 g4
    · rw [List.getElem?_set_ne n1] at g1
      by_cases n2 : i = k
      · subst n2
        exact x.ap j i e d c hjk g1 q g3 g4
      · rw [List.getElem?_set_ne n2] at g2
        exact x.ap j k e e' c hjk g1 g2 g3 g4
end
end DL

/-! The data layer, part 2: == of data without dicts, whatever the texts are. -/
namespace DL
open PySem PySem.Spec PyProof.Rows L2

mutual
/-- no dict within -/
def noD : D → Bool
  | .none => true
  | .bool _ => true
  | .int _ => true
  | .str _ => true
  | .list xs => noDs xs
  | .tuple xs => noDs xs
  | .dict _ => false
def noDs : List D → Bool
  | [] => true
  | x :: xs => noD x && noDs xs
end
section
open PySem.SeqAt
mutual
theorem same_eqv {h : Heap} : ∀ (x y : D) (v : Value) (as bs : List Addr), Reads h v x as → Reads h v y bs → noD x = true → PyData.eqv x y = true
  | .none, _, _, _, _, ra, rb, _ => by cases ra; cases rb; rfl
  | .bool b, _, _, _, _, ra, rb, _ => by cases ra; cases rb; simp [PyData.eqv]
  | .int i, _, _, _, _, ra, rb, _ => by cases ra; cases rb; simp [PyData.eqv]
  | .str x, _, _, _, _, ra, rb, _ => by cases ra; cases rb; simp [PyData.eqv]
  | .list xs, _, _, _, _, ra, rb, hn => by
    cases ra with
    | list h1 h2 h3 h4 =>
      cases rb with
      | list k1 k2 k3 k4 =>
        rw [h1] at k1; cases k1
        rw [h3] at k3; cases k3
        exact same_eqvs xs _ _ _ _ h4 k4 (by simpa [noD] using hn)
      | tuple k1 k2 k3 k4 =>
        rw [h1] at k1; cases k1
        rw [h2] at k2; injection k2 with k2; exact absurd k2 (by decide)
      | dict k1 k2 k3 k4 k5 =>
        rw [h1] at k1; cases k1
        rw [h2] at k2; injection k2 with k2; exact absurd k2 (by decide)
  | .tuple xs, _, _, _, _, ra, rb, hn => by
    cases ra with
    | tuple h1 h2 h3 h4 =>
      cases rb with
      | list k1 k2 k3 k4 =>
        rw [h1] at k1; cases k1
        rw [h2] at k2; injection k2 with k2; exact absurd k2 (by decide)
      | tuple k1 k2 k3 k4 =>
        rw [h1] at k1; cases k1
        rw [h3] at k3; cases k3
        exact same_eqvs xs _ _ _ _ h4 k4 (by simpa [noD] using hn)
      | dict k1 k2 k3 k4 k5 =>
        rw [h1] at k1; cases k1
        rw [h2] at k2; injection k2 with k2; exact absurd k2 (by decide)
  | .dict _, _, _, _, _, _, _, hn => by simp [noD] at hn
theorem same_eqvs {h : Heap} : ∀ (xs ys : List D) (vs : List Value) (as bs : List Addr), ReadsAll h vs xs as → ReadsAll h vs ys bs → noDs xs = true → PyData.eqvAll xs ys = true
  | [], _, _, _, _, ra, rb, _ => by cases ra; cases rb; rfl
  | x :: xs, _, _, _, _, ra, rb, hn => by
    cases ra with
    | cons r1 r2 =>
      cases rb with
      | cons q1 q2 =>
        have hn' : noD x = true ∧ noDs xs = true := by simpa [noDs] using hn
        rw [PyData.eqvAll, same_eqv x _ _ _ _ r1 q1 hn'.1, same_eqvs xs _ _ _ _ r2 q2 hn'.2]
        rfl
end
abbrev prEq (xs ys : List D) (j : Nat) : Bool := PyData.eqv (xs.getD j .none) (ys.getD j .none)
theorem eqvs_range : ∀ xs ys : List D, ((List.range (min xs.length ys.length)).all (prEq xs ys) && xs.length == ys.length) = PyData.eqvAll xs ys
  | [], [] => rfl
  | [], _ :: _ => by simp [PyData.eqvAll]
  | _ :: _, [] => by simp [PyData.eqvAll]
  | x :: xs, y :: ys => by
    have ih := eqvs_range xs ys
    have e1 : min (x :: xs).length (y :: ys).length = min xs.length ys.length + 1 := by simp only [List.length_cons]; omega
    have e2 : ((x :: xs).length == (y :: ys).length) = (xs.length == ys.length) := by simp
    have e3 : (List.range (min xs.length ys.length + 1)).all (prEq (x :: xs) (y :: ys)) = (PyData.eqv x y && (List.range (min xs.length ys.length)).all (prEq xs ys)) := by
      rw [List.range_succ_eq_map, List.all_cons, List.all_map]
      first | rfl | simp [prEq, Function.comp_def]
    rw [e1, e2, e3, PyData.eqvAll, ← ih, Bool.and_assoc]
theorem eqvs_len {xs ys : List D} (h : xs.length ≠ ys.length) : PyData.eqvAll xs ys = false := by
  rw [← eqvs_range]
  simp [h]
theorem eqvs_same {xs ys : List D} (h : xs.length = ys.length) : (List.range xs.length).all (prEq xs ys) = PyData.eqvAll xs ys := by
  rw [← eqvs_range]
  simp [h]
theorem rdAll_len {h : Heap} : ∀ (xs : List D) (vs : List Value) (as : List Addr), ReadsAll h vs xs as → vs.length = xs.length
  | [], _, _, r => by cases r; rfl
  | _ :: xs, _, _, r => by
    cases r with
    | cons _ r' => simp [rdAll_len xs _ _ r']
mutual
theorem eq_rd : ∀ (x y : D) (A : Around) (s : Shared) (a b : Value) (as bs : List Addr), Reads s.heap a x as → Reads s.heap b y bs → noD x = true → noD y = true → A.units + min x.depth y.depth < cLine → EqAt A s a b (PyData.eqv x y)
  | .none, _, A, s, _, _, _, _, ra, rb, _, hy, hu => by
    cases ra
    cases rb with
    | none => exact EqAt.same _
    | bool z => exact EqAt.none_bool z
    | int z u => exact EqAt.none_int z u
    | str z u => exact EqAt.none_str z u
    | list k1 k2 k3 k4 => exact EqAt.none_list ⟨_, k1, k2, _, k3⟩ (room_here hu)
    | tuple k1 k2 k3 k4 => exact EqAt.none_tuple ⟨_, k1, k2, _, k3⟩ (room_here hu)
    | dict => exact nomatch hy
  | .bool x, _, A, s, _, _, _, _, ra, rb, _, hy, hu => by
    cases ra
    cases rb with
    | none => exact EqAt.bool_none x
    | bool z => exact EqAt.bool_bool x z
    | int z u => exact EqAt.bool_int x z u
    | str z u => exact EqAt.bool_str x z u
    | list k1 k2 k3 k4 => exact EqAt.bool_list x ⟨_, k1, k2, _, k3⟩ (room_here hu)
    | tuple k1 k2 k3 k4 => exact EqAt.bool_tuple x ⟨_, k1, k2, _, k3⟩ (room_here hu)
    | dict => exact nomatch hy
  | .int x, _, A, s, _, _, _, _, ra, rb, _, hy, hu => by
    cases ra with
    | int _ t =>
      cases rb with
      | none => exact EqAt.int_none x t
      | bool z => exact EqAt.int_bool x t z
      | int z u => exact EqAt.int_int x t z u
      | str z u => exact EqAt.int_str x t z u
      | list k1 k2 k3 k4 => exact EqAt.int_list x t ⟨_, k1, k2, _, k3⟩ (room_here hu)
      | tuple k1 k2 k3 k4 => exact EqAt.int_tuple x t ⟨_, k1, k2, _, k3⟩ (room_here hu)
      | dict => exact nomatch hy
  | .str x, _, A, s, _, _, _, _, ra, rb, _, hy, hu => by
    cases ra with
    | str _ t =>
      cases rb with
      | none => exact EqAt.str_none x t
      | bool z => exact EqAt.str_bool x t z
      | int z u => exact EqAt.str_int x t z u
      | str z u => exact EqAt.str_str x t z u
      | list k1 k2 k3 k4 => exact EqAt.str_list x t ⟨_, k1, k2, _, k3⟩ (room_here hu)
      | tuple k1 k2 k3 k4 => exact EqAt.str_tuple x t ⟨_, k1, k2, _, k3⟩ (room_here hu)
      | dict => exact nomatch hy
  | .list xs, _, A, s, _, _, _, _, ra, rb, hx, hy, hu => by
    cases ra with
    | @list l o vs n _ as1 h1 h2 h3 h4 =>
      have hl : s.heap.IsList l vs := ⟨_, h1, h2, _, h3⟩
      cases rb with
      | none => exact EqAt.list_none hl (room_here hu)
      | bool z => exact EqAt.list_bool z hl (room_here hu)
      | int z u => exact EqAt.list_int z u hl (room_here hu)
      | str z u => exact EqAt.list_str z u hl (room_here hu)
      | tuple k1 k2 k3 k4 => exact EqAt.list_tuple hl ⟨_, k1, k2, _, k3⟩ (room_here hu)
      | dict => exact nomatch hy
      | @list l' o' vs' n' ys bs1 k1 k2 k3 k4 =>
        have hl' : s.heap.IsList l' vs' := ⟨_, k1, k2, _, k3⟩
        have n1 : vs.size = xs.length := by simpa using rdAll_len _ _ _ h4
        have n2 : vs'.size = ys.length := by simpa using rdAll_len _ _ _ k4
        show EqAt A s (.ref l) (.ref l') (PyData.eqvAll xs ys)
        have hx' : noDs xs = true := by simpa [noD] using hx
        have hy' : noDs ys = true := by simpa [noD] using hy
        by_cases hll : l = l'
        · subst hll
          rw [h1] at k1; cases k1
          rw [h3] at k3; cases k3
          rw [same_eqvs xs ys _ _ _ h4 k4 hx']
          exact EqAt.same _
        · by_cases hsz : vs.size = vs'.size
          · rw [← eqvs_same (by omega : xs.length = ys.length), ← n1]
            refine EqAt.of_refs hll (RcAt.lists hl hl' hsz (room_here hu) fun j j1 j2 => ?_)
            have := eq_rds xs ys A.in1 s vs.toList vs'.toList _ _ h4 k4 hx' hy' (room_in hu) j (by simpa using j1) (by simpa using j2)
            simpa using this
          · rw [eqvs_len (by omega : xs.length ≠ ys.length)]
            exact EqAt.of_refs hll (RcAt.lists_lengths hl hl' (by simpa using hsz) (room_here hu))
  | .tuple xs, _, A, s, _, _, _, _, ra, rb, hx, hy, hu => by
    cases ra with
    | @tuple l o vs n _ as1 h1 h2 h3 h4 =>
      have hl : s.heap.IsTuple l vs := ⟨_, h1, h2, _, h3⟩
      cases rb with
      | none => exact EqAt.tuple_none hl (room_here hu)
      | bool z => exact EqAt.tuple_bool z hl (room_here hu)
      | int z u => exact EqAt.tuple_int z u hl (room_here hu)
      | str z u => exact EqAt.tuple_str z u hl (room_here hu)
      | list k1 k2 k3 k4 => exact EqAt.tuple_list hl ⟨_, k1, k2, _, k3⟩ (room_here hu)
      | dict => exact nomatch hy
      | @tuple l' o' vs' n' ys bs1 k1 k2 k3 k4 =>
        have hl' : s.heap.IsTuple l' vs' := ⟨_, k1, k2, _, k3⟩
        have n1 : vs.size = xs.length := by simpa using rdAll_len _ _ _ h4
        have n2 : vs'.size = ys.length := by simpa using rdAll_len _ _ _ k4
        show EqAt A s (.ref l) (.ref l') (PyData.eqvAll xs ys)
        have hx' : noDs xs = true := by simpa [noD] using hx
        have hy' : noDs ys = true := by simpa [noD] using hy
        by_cases hll : l = l'
        · subst hll
          rw [h1] at k1; cases k1
          rw [h3] at k3; cases k3
          rw [same_eqvs xs ys _ _ _ h4 k4 hx']
          exact EqAt.same _
        · rw [← eqvs_range xs ys, ← n1, ← n2]
          refine EqAt.of_refs hll (RcAt.tuples hl hl' (room_here hu) fun j j1 j2 => ?_)
          have := eq_rds xs ys A.in1 s vs.toList vs'.toList _ _ h4 k4 hx' hy' (room_in hu) j (by simpa using j1) (by simpa using j2)
          simpa using this
  | .dict _, _, _, _, _, _, _, _, _, _, hx, _, _ => nomatch hx
theorem eq_rds : ∀ (xs ys : List D) (A : Around) (s : Shared) (vs ws : List Value) (as bs : List Addr), ReadsAll s.heap vs xs as → ReadsAll s.heap ws ys bs → noDs xs = true → noDs ys = true →
    A.units + min (PyData.depthAll xs) (PyData.depthAll ys) < cLine → ∀ j (h1 : j < vs.length) (h2 : j < ws.length), EqAt A s vs[j] ws[j] (prEq xs ys j)
  | [], _, _, _, _, _, _, _, ra, _, _, _, _, j, h1, _ => by cases ra; exact absurd h1 (Nat.not_lt_zero _)
  | _ :: _, [], _, _, _, _, _, _, _, rb, _, _, _, j, _, h2 => by cases rb; exact absurd h2 (Nat.not_lt_zero _)
  | x :: xs, y :: ys, A, s, _, _, _, _, ra, rb, hx, hy, hu, j, h1, h2 => by
    have hx' : noD x = true ∧ noDs xs = true := by simpa [noDs] using hx
    have hy' : noD y = true ∧ noDs ys = true := by simpa [noDs] using hy
    cases ra with
    | cons r rs =>
      cases rb with
      | cons r' rs' =>
        cases j with
        | zero => exact eq_rd x y A s _ _ _ _ r r' hx'.1 hy'.1 (room_head hu)
        | succ j => exact eq_rds xs ys A s _ _ _ _ rs rs' hx'.2 hy'.2 (room_tail hu) j (Nat.lt_of_succ_lt_succ h1) (Nat.lt_of_succ_lt_succ h2)
end
theorem rc_rd {x y : D} {A : Around} {s : Shared} {a b : Value} {as bs : List Addr} (ra : Reads s.heap a x as) (rb : Reads s.heap b y bs) (hx : noD x = true) (hy : noD y = true) (hu : A.units + min x.depth y.depth < cLine) : RcAt A s a b (PyData.eqv x y) := by
  cases ra with
  | none =>
    cases rb with
    | none => exact RcAt.none_none
    | bool z => exact RcAt.none_bool z
    | int z u => exact RcAt.none_int z u
    | str z u => exact RcAt.none_str z u
    | list k1 k2 k3 k4 => exact RcAt.none_list ⟨_, k1, k2, _, k3⟩ (room_here hu)
    | tuple k1 k2 k3 k4 => exact RcAt.none_tuple ⟨_, k1, k2, _, k3⟩ (room_here hu)
    | dict => exact nomatch hy
  | bool x =>
    cases rb with
    | none => exact RcAt.bool_none x
    | bool z => exact RcAt.bool_bool x z
    | int z u => exact RcAt.bool_int x z u
    | str z u => exact RcAt.bool_str x z u
    | list k1 k2 k3 k4 => exact RcAt.bool_list x ⟨_, k1, k2, _, k3⟩ (room_here hu)
    | tuple k1 k2 k3 k4 => exact RcAt.bool_tuple x ⟨_, k1, k2, _, k3⟩ (room_here hu)
    | dict => exact nomatch hy
  | int x t =>
    cases rb with
    | none => exact RcAt.int_none x t
    | bool z => exact RcAt.int_bool x t z
    | int z u => exact RcAt.int_int x t z u
    | str z u => exact RcAt.int_str x t z u
    | list k1 k2 k3 k4 => exact RcAt.int_list x t ⟨_, k1, k2, _, k3⟩ (room_here hu)
    | tuple k1 k2 k3 k4 => exact RcAt.int_tuple x t ⟨_, k1, k2, _, k3⟩ (room_here hu)
    | dict => exact nomatch hy
  | str x t =>
    cases rb with
    | none => exact RcAt.str_none x t
    | bool z => exact RcAt.str_bool x t z
    | int z u => exact RcAt.str_int x t z u
    | str z u => exact RcAt.str_str x t z u
    | list k1 k2 k3 k4 => exact RcAt.str_list x t ⟨_, k1, k2, _, k3⟩ (room_here hu)
    | tuple k1 k2 k3 k4 => exact RcAt.str_tuple x t ⟨_, k1, k2, _, k3⟩ (room_here hu)
    | dict => exact nomatch hy
  | @list l o vs n xs as1 h1 h2 h3 h4 =>
    have hl : s.heap.IsList l vs := ⟨_, h1, h2, _, h3⟩
    cases rb with
    | none => exact RcAt.list_none hl (room_here hu)
    | bool z => exact RcAt.list_bool z hl (room_here hu)
    | int z u => exact RcAt.list_int z u hl (room_here hu)
    | str z u => exact RcAt.list_str z u hl (room_here hu)
    | tuple k1 k2 k3 k4 => exact RcAt.list_tuple hl ⟨_, k1, k2, _, k3⟩ (room_here hu)
    | dict => exact nomatch hy
    | @list l' o' vs' n' ys bs1 k1 k2 k3 k4 =>
      have hl' : s.heap.IsList l' vs' := ⟨_, k1, k2, _, k3⟩
      have n1 : vs.size = xs.length := by simpa using rdAll_len _ _ _ h4
      have n2 : vs'.size = ys.length := by simpa using rdAll_len _ _ _ k4
      show RcAt A s (.ref l) (.ref l') (PyData.eqvAll xs ys)
      by_cases hsz : vs.size = vs'.size
      · rw [← eqvs_same (by omega : xs.length = ys.length), ← n1]
        refine RcAt.lists hl hl' hsz (room_here hu) fun j j1 j2 => ?_
        have := eq_rds xs ys A.in1 s vs.toList vs'.toList _ _ h4 k4 (by simpa [noD] using hx) (by simpa [noD] using hy) (room_in hu) j (by simpa using j1) (by simpa using j2)
        simpa using this
      · rw [eqvs_len (by omega : xs.length ≠ ys.length)]
        exact RcAt.lists_lengths hl hl' (by simpa using hsz) (room_here hu)
  | @tuple l o vs n xs as1 h1 h2 h3 h4 =>
    have hl : s.heap.IsTuple l vs := ⟨_, h1, h2, _, h3⟩
    cases rb with
    | none => exact RcAt.tuple_none hl (room_here hu)
    | bool z => exact RcAt.tuple_bool z hl (room_here hu)
    | int z u => exact RcAt.tuple_int z u hl (room_here hu)
    | str z u => exact RcAt.tuple_str z u hl (room_here hu)
    | list k1 k2 k3 k4 => exact RcAt.tuple_list hl ⟨_, k1, k2, _, k3⟩ (room_here hu)
    | dict => exact nomatch hy
    | @tuple l' o' vs' n' ys bs1 k1 k2 k3 k4 =>
      have hl' : s.heap.IsTuple l' vs' := ⟨_, k1, k2, _, k3⟩
      have n1 : vs.size = xs.length := by simpa using rdAll_len _ _ _ h4
      have n2 : vs'.size = ys.length := by simpa using rdAll_len _ _ _ k4
      show RcAt A s (.ref l) (.ref l') (PyData.eqvAll xs ys)
      rw [← eqvs_range xs ys, ← n1, ← n2]
      refine RcAt.tuples hl hl' (room_here hu) fun j j1 j2 => ?_
      have := eq_rds xs ys A.in1 s vs.toList vs'.toList _ _ h4 k4 (by simpa [noD] using hx) (by simpa [noD] using hy) (room_in hu) j (by simpa using j1) (by simpa using j2)
      simpa using this
  | dict => exact nomatch hx
theorem rn_rd {x y : D} {A : Around} {s : Shared} {a b : Value} {as bs : List Addr} (ra : Reads s.heap a x as) (rb : Reads s.heap b y bs) (hx : noD x = true) (hy : noD y = true) (hu : A.units + min x.depth y.depth < cLine) : RcNeAt A s a b (!PyData.eqv x y) := by
  cases ra with
  | none =>
    cases rb with
    | none => exact RcNeAt.none_none
    | bool z => exact RcNeAt.none_bool z
    | int z u => exact RcNeAt.none_int z u
    | str z u => exact RcNeAt.none_str z u
    | list k1 k2 k3 k4 => exact RcNeAt.none_list ⟨_, k1, k2, _, k3⟩ (room_here hu)
    | tuple k1 k2 k3 k4 => exact RcNeAt.none_tuple ⟨_, k1, k2, _, k3⟩ (room_here hu)
    | dict => exact nomatch hy
  | bool x =>
    cases rb with
    | none => exact RcNeAt.bool_none x
    | bool z => exact RcNeAt.bool_bool x z
    | int z u => exact RcNeAt.bool_int x z u
    | str z u => exact RcNeAt.bool_str x z u
    | list k1 k2 k3 k4 => exact RcNeAt.bool_list x ⟨_, k1, k2, _, k3⟩ (room_here hu)
    | tuple k1 k2 k3 k4 => exact RcNeAt.bool_tuple x ⟨_, k1, k2, _, k3⟩ (room_here hu)
    | dict => exact nomatch hy
  | int x t =>
    cases rb with
    | none => exact RcNeAt.int_none x t
    | bool z => exact RcNeAt.int_bool x t z
    | int z u => exact RcNeAt.int_int x t z u
    | str z u => exact RcNeAt.int_str x t z u
    | list k1 k2 k3 k4 => exact RcNeAt.int_list x t ⟨_, k1, k2, _, k3⟩ (room_here hu)
    | tuple k1 k2 k3 k4 => exact RcNeAt.int_tuple x t ⟨_, k1, k2, _, k3⟩ (room_here hu)
    | dict => exact nomatch hy
  | str x t =>
    cases rb with
    | none => exact RcNeAt.str_none x t
    | bool z => exact RcNeAt.str_bool x t z
    | int z u => exact RcNeAt.str_int x t z u
    | str z u => exact RcNeAt.str_str x t z u
    | list k1 k2 k3 k4 => exact RcNeAt.str_list x t ⟨_, k1, k2, _, k3⟩ (room_here hu)
    | tuple k1 k2 k3 k4 => exact RcNeAt.str_tuple x t ⟨_, k1, k2, _, k3⟩ (room_here hu)
    | dict => exact nomatch hy
  | @list l o vs n xs as1 h1 h2 h3 h4 =>
    have hl : s.heap.IsList l vs := ⟨_, h1, h2, _, h3⟩
    cases rb with
    | none => exact RcNeAt.list_none hl (room_here hu)
    | bool z => exact RcNeAt.list_bool z hl (room_here hu)
    | int z u => exact RcNeAt.list_int z u hl (room_here hu)
    | str z u => exact RcNeAt.list_str z u hl (room_here hu)
    | tuple k1 k2 k3 k4 => exact RcNeAt.list_tuple hl ⟨_, k1, k2, _, k3⟩ (room_here hu)
    | dict => exact nomatch hy
    | @list l' o' vs' n' ys bs1 k1 k2 k3 k4 =>
      have hl' : s.heap.IsList l' vs' := ⟨_, k1, k2, _, k3⟩
      have n1 : vs.size = xs.length := by simpa using rdAll_len _ _ _ h4
      have n2 : vs'.size = ys.length := by simpa using rdAll_len _ _ _ k4
      show RcNeAt A s (.ref l) (.ref l') (!PyData.eqvAll xs ys)
      by_cases hsz : vs.size = vs'.size
      · rw [← eqvs_same (by omega : xs.length = ys.length), ← n1]
        refine RcNeAt.lists hl hl' hsz (room_here hu) fun j j1 j2 => ?_
        have := eq_rds xs ys A.in1 s vs.toList vs'.toList _ _ h4 k4 (by simpa [noD] using hx) (by simpa [noD] using hy) (room_in hu) j (by simpa using j1) (by simpa using j2)
        simpa using this
      · rw [eqvs_len (by omega : xs.length ≠ ys.length)]
        exact RcNeAt.lists_lengths hl hl' (by simpa using hsz) (room_here hu)
  | @tuple l o vs n xs as1 h1 h2 h3 h4 =>
    have hl : s.heap.IsTuple l vs := ⟨_, h1, h2, _, h3⟩
    cases rb with
    | none => exact RcNeAt.tuple_none hl (room_here hu)
    | bool z => exact RcNeAt.tuple_bool z hl (room_here hu)
    | int z u => exact RcNeAt.tuple_int z u hl (room_here hu)
    | str z u => exact RcNeAt.tuple_str z u hl (room_here hu)
    | list k1 k2 k3 k4 => exact RcNeAt.tuple_list hl ⟨_, k1, k2, _, k3⟩ (room_here hu)
    | dict => exact nomatch hy
    | @tuple l' o' vs' n' ys bs1 k1 k2 k3 k4 =>
      have hl' : s.heap.IsTuple l' vs' := ⟨_, k1, k2, _, k3⟩
      have n1 : vs.size = xs.length := by simpa using rdAll_len _ _ _ h4
      have n2 : vs'.size = ys.length := by simpa using rdAll_len _ _ _ k4
      show RcNeAt A s (.ref l) (.ref l') (!PyData.eqvAll xs ys)
      rw [← eqvs_range xs ys, ← n1, ← n2]
      refine RcNeAt.tuples hl hl' (room_here hu) fun j j1 j2 => ?_
      have := eq_rds xs ys A.in1 s vs.toList vs'.toList _ _ h4 k4 (by simpa [noD] using hx) (by simpa [noD] using hy) (room_in hu) j (by simpa using j1) (by simpa using j2)
      simpa using this
  | dict => exact nomatch hx
end

/-! ### what a value stands for, read off the heap -/
section
variable {X : Cx} {pins : List (Addr × Obj)} {σ : L2.St} {H : Hp} {s : Shared}
mutual
theorem Rp.reads (I : Inv X pins σ H s) : ∀ (d : D) (v : V) (u : Value), noD d = true → Rp X.K X.w H v d → RelV v u → ∃ as, Reads s.heap u d as
  | .none, _, _, _, h, r => by
    cases h; cases r
    exact ⟨_, Reads.none⟩
  | .bool b, _, _, _, h, r => by
    cases h; cases r
    exact ⟨_, Reads.bool b⟩
  | .int i, _, _, _, h, r => by
    cases h
    obtain ⟨t, rfl⟩ := r
    exact ⟨_, Reads.int i t⟩
  | .str x, _, _, _, h, r => by
    cases h
    obtain ⟨t, rfl⟩ := r
    exact ⟨_, Reads.str x t⟩
  | .list ds, _, _, hn, h, r => by
    cases h with
    | lst hs ha =>
      cases r
      obtain ⟨its, rv, ⟨o, n, ho, hc, _, hd⟩, _⟩ := I.list hs
      obtain ⟨as, hr⟩ := RpA.reads I ds _ its (by simpa [noD] using hn) ha rv
      exact ⟨_, Reads.list ho hc hd hr⟩
  | .tuple ds, _, _, hn, h, r => by
    cases h with
    | tup hs ha =>
      cases r
      obtain ⟨its, rv, ⟨o, ho, hc, n, hd⟩, _⟩ := I.tuple hs
      obtain ⟨as, hr⟩ := RpA.reads I ds _ its (by simpa [noD] using hn) ha rv
      exact ⟨_, Reads.tuple ho hc hd hr⟩
  | .dict _, _, _, hn, _, _ => nomatch hn
theorem RpA.reads (I : Inv X pins σ H s) : ∀ (ds : List D) (vs : List V) (us : List Value), noDs ds = true → RpA X.K X.w H vs ds → Vals vs us → ∃ as, ReadsAll s.heap us ds as
  | [], _, _, _, h, r => by
    cases h; cases r
    exact ⟨_, ReadsAll.nil⟩
  | d :: ds, _, _, hn, h, r => by
    have hn' : noD d = true ∧ noDs ds = true := by simpa [noDs] using hn
    cases h with
    | cons h1 h2 =>
      cases r with
      | cons r1 r2 =>
        obtain ⟨as, q1⟩ := Rp.reads I d _ _ hn'.1 h1 r1
        obtain ⟨bs, q2⟩ := RpA.reads I ds _ _ hn'.2 h2 r2
        exact ⟨_, ReadsAll.cons q1 q2⟩
end
end
end DL

/-! The data layer, part 3: the judgements, and expressions. -/
namespace DL
open PySem PySem.Spec PyProof.Rows L2

/-- the expression e, asked at slots env, is f env -/
structure DE (X : Cx) (W : WX) (md : Md) (e : Expr) (f : DEnv → M D) : Prop where
  run : ∃ t : TE, PE X e t ∧ ∀ (B : Bs X.A.handled) (F H : Hp) (σ : L2.St) (env : DEnv) (Q : VK), EnvOk X.K X.w B F H σ env →
    Ans (f env) (fun d => ∀ v F' H', Ext F H F' H' → RM X.K X.w H F' H' md v d → Q v H') (fun c => ∀ F' H', Ext F H F' H' → W c none σ H') → t σ H Q
structure DT (X : Cx) (W : WX) (e : Expr) (f : DEnv → M Bool) : Prop where
  run : ∃ t : TT, PT X e t ∧ ∀ (B : Bs X.A.handled) (F H : Hp) (σ : L2.St) (env : DEnv) (Q : Bool → Hp → Prop), EnvOk X.K X.w B F H σ env →
    Ans (f env) (fun b => ∀ F' H', Ext F H F' H' → Q b H') (fun c => ∀ F' H', Ext F H F' H' → W c none σ H') → t σ H Q
structure DW (X : Cx) (W : WX) (e : Expr) (f : DEnv → M Bool) : Prop where
  run : ∃ t : TT, PW X e t ∧ ∀ (B : Bs X.A.handled) (F H : Hp) (σ : L2.St) (env : DEnv) (Q : Bool → Hp → Prop), EnvOk X.K X.w B F H σ env →
    Ans (f env) (fun b => ∀ F' H', Ext F H F' H' → Q b H') (fun c => ∀ F' H', Ext F H F' H' → W c none σ H') → t σ H Q
/-- arguments: frozen (v), or as they stand (s) -/
def RMA (K : PySem.W.Frag) (w : World) (F' H' : Hp) : Md → List V → List D → Prop
  | .v, vs, ds => RpA K w F' vs ds
  | .s, vs, ds => Paired (Sh K w F' H') vs ds
  | .o, _, _ => False
structure DA (X : Cx) (W : WX) (md : Md) (es : List Expr) (f : DEnv → M (List D)) : Prop where
  len : ∀ env ds, f env = some (.ok ds) → ds.length = es.length
  run : ∃ t : TA, PA X es t ∧ ∀ (B : Bs X.A.handled) (F H : Hp) (σ : L2.St) (env : DEnv) (Q : List V → Hp → Prop), EnvOk X.K X.w B F H σ env →
    Ans (f env) (fun ds => ∀ vs F' H', Ext F H F' H' → RMA X.K X.w F' H' md vs ds → Q vs H') (fun c => ∀ F' H', Ext F H F' H' → W c none σ H') → t σ H Q

theorem RMA.length {K : PySem.W.Frag} {w : World} {F H : Hp} {md : Md} {vs : List V} {ds : List D} (h : RMA K w F H md vs ds) : vs.length = ds.length := by
  cases md with
  | v => exact RpA.length h
  | s => exact Paired.length h
  | o => exact h.elim

section
variable {X : Cx} {W : WX} {e a b : Expr} {f fa fb : DEnv → M D} {pos : Pos}

theorem DE.toV (h : DE X W .o e f) : DE X W .v e f := by
  obtain ⟨t, h, q⟩ := h
  refine ⟨t, h, fun B F H σ env Q ok a => q B F H σ env Q ok (a.mono (fun d k v F' H' x r => ?_) fun c k => k)⟩
  obtain ⟨ow, p, rfl, hp, hf⟩ := r
  obtain ⟨p', o, e, ho⟩ := ow.obj
  cases e
  exact k _ _ H' (x.freeze hp ho hf) (ow.rp ho hf)
theorem DE.toS (h : DE X W .v e f) : DE X W .s e f := by
  obtain ⟨t, h, q⟩ := h
  exact ⟨t, h, fun B F H σ env Q ok a => q B F H σ env Q ok (a.mono (fun d k v F' H' x r => k v F' H' x (.inl r)) fun c k => k)⟩
theorem DE.oS (h : DE X W .o e f) : DE X W .s e f := by
  obtain ⟨t, h, q⟩ := h
  exact ⟨t, h, fun B F H σ env Q ok a => q B F H σ env Q ok (a.mono (fun d k v F' H' x r => k v F' H' x (.inr r.1)) fun c k => k)⟩

/-! ### names, constants -/
def dVar (i : Nat) (env : DEnv) : M D := match env[i]? with
  | some (some (.fz d)) => mok d
  | _ => none
def dVarS (i : Nat) (env : DEnv) : M D := match env[i]? with
  | some (some (.fz d)) => mok d
  | some (some (.ow d)) => mok d
  | _ => none
theorem de_var (i : Nat) {x : Str} (hN : X.N[i]? = some x := by rfl) (hv : Vis X.env.scope x := by first | exact Or.inl rfl | exact Or.inr (Or.inl rfl) | exact Or.inr (Or.inr rfl)) (hd : (x == ("__debug__" : Str)) = false := by decide)
    (hcd : (x == ("__classdict__" : Str)) = false := by decide) : DE X W .v (.Name x pos) (dVar i) := by
  refine ⟨_, pe_var hN hv hd hcd, fun B F H σ env Q ok h => ?_⟩
  unfold dVar at h
  split at h
  · rename_i d q
    obtain ⟨v, h1, h2⟩ := ok.sl i _ q
    exact ⟨v, h1, h v F H (.refl ok.fh) h2⟩
  · exact h.elim
theorem de_varS (i : Nat) {x : Str} (hN : X.N[i]? = some x := by rfl) (hv : Vis X.env.scope x := by first | exact Or.inl rfl | exact Or.inr (Or.inl rfl) | exact Or.inr (Or.inr rfl)) (hd : (x == ("__debug__" : Str)) = false := by decide)
    (hcd : (x == ("__classdict__" : Str)) = false := by decide) : DE X W .s (.Name x pos) (dVarS i) := by
  refine ⟨_, pe_var hN hv hd hcd, fun B F H σ env Q ok h => ?_⟩
  unfold dVarS at h
  split at h
  · rename_i d q
    obtain ⟨v, h1, h2⟩ := ok.sl i _ q
    exact ⟨v, h1, h v F H (.refl ok.fh) (.inl h2)⟩
  · rename_i d q
    obtain ⟨v, h1, h2⟩ := ok.sl i _ q
    exact ⟨v, h1, h v F H (.refl ok.fh) (.inr h2.1)⟩
  · exact h.elim
def dC (d : D) (_ : DEnv) : M D := mok d
theorem de_int {i j} : DE X W .v (.Constant (.int i) j pos) (dC (.int i)) := ⟨_, pe_int, fun B F H σ env Q ok h => h _ F H (.refl ok.fh) (.int i)⟩
theorem de_str {i j} : DE X W .v (.Constant (.str i) j pos) (dC (.str i)) := ⟨_, pe_str, fun B F H σ env Q ok h => h _ F H (.refl ok.fh) (.str i)⟩
theorem de_bl {i j} : DE X W .v (.Constant (.bool i) j pos) (dC (.bool i)) := ⟨_, pe_bl, fun B F H σ env Q ok h => h _ F H (.refl ok.fh) (.bl i)⟩
theorem de_non {j} : DE X W .v (.Constant .none j pos) (dC .none) := ⟨_, pe_non, fun B F H σ env Q ok h => h _ F H (.refl ok.fh) .non⟩
/-- a number, a text of the module -/
theorem de_globI {x : Str} {i : Int} {t : Tok} (hg : Gl X x) (hm : X.mg x = some (.int i t)) (hd : (x == ("__debug__" : Str)) = false := by decide) : DE X W .v (.Name x pos) (dC (.int i)) :=
  ⟨_, pe_glob (v := .int i) hg hm ⟨t, rfl⟩ hd, fun B F H σ env Q ok h => h _ F H (.refl ok.fh) (.int i)⟩
theorem de_globS {x : Str} {i : Str} {t : Tok} (hg : Gl X x) (hm : X.mg x = some (.str i t)) (hd : (x == ("__debug__" : Str)) = false := by decide) : DE X W .v (.Name x pos) (dC (.str i)) :=
  ⟨_, pe_glob (v := .str i) hg hm ⟨t, rfl⟩ hd, fun B F H σ env Q ok h => h _ F H (.refl ok.fh) (.str i)⟩

/-! ### two in a row -/
def d2 (g : D → D → M D) (fa fb : DEnv → M D) (env : DEnv) : M D := mbind (fa env) fun x => mbind (fb env) fun y => g x y
def d1 (g : D → M D) (fa : DEnv → M D) (env : DEnv) : M D := mbind (fa env) g
/-- by values: g, of two data -/
def rD (X : Cx) (md : Md) (g : D → D → M D) : R2 := fun x y H Q => ∃ F d e, Same F H ∧ Sh X.K X.w F H x d ∧ Sh X.K X.w F H y e ∧
  Ans (g d e) (fun z => ∀ v F' H', Ext F H F' H' → RM X.K X.w H F' H' md v z → Q v H') (fun _ => False)
theorem OpR.imp {h : Value → Value → Sem Value} {r r' : R2} (k : OpR X h r) (i : ∀ x y H Q, r' x y H Q → r x y H Q) : OpR X h r' :=
  fun pins s σ H x y v u Q I rx ry q => k pins s σ H x y v u Q I rx ry (i x y H Q q)
theorem RM.back {K : PySem.W.Frag} {w : World} {H H1 F' H' : Hp} {md : Md} {v : V} {d : D} (s : Same H H1) (r : RM K w H1 F' H' md v d) : RM K w H F' H' md v d := by
  cases md with
  | v => exact r
  | s => exact r
  | o =>
    obtain ⟨r, a, e, h1, h2⟩ := r
    exact ⟨r, a, e, s.free h1, h2⟩
theorem two {g : D → D → M D} {md : Md} {ta tb : TE} {B : Bs X.A.handled} {F H : Hp} {σ : L2.St} {env : DEnv} {Q : VK} {R : V → V → Hp → VK → Prop}
    (qa : ∀ (B : Bs X.A.handled) (F H : Hp) (σ : L2.St) (env : DEnv) (Q : VK), EnvOk X.K X.w B F H σ env → Ans (fa env) (fun d => ∀ v F' H', Ext F H F' H' → RM X.K X.w H F' H' .s v d → Q v H') (fun c => ∀ F' H', Ext F H F' H' → W c none σ H') → ta σ H Q)
    (qb : ∀ (B : Bs X.A.handled) (F H : Hp) (σ : L2.St) (env : DEnv) (Q : VK), EnvOk X.K X.w B F H σ env → Ans (fb env) (fun d => ∀ v F' H', Ext F H F' H' → RM X.K X.w H F' H' .s v d → Q v H') (fun c => ∀ F' H', Ext F H F' H' → W c none σ H') → tb σ H Q)
    (hr : ∀ x y H Q, rD X md g x y H Q → R x y H Q) (hg : ∀ x y c, g x y ≠ some (.error c))
    (ok : EnvOk X.K X.w B F H σ env) (h : Ans (d2 g fa fb env) (fun d => ∀ v F' H', Ext F H F' H' → RM X.K X.w H F' H' md v d → Q v H') (fun c => ∀ F' H', Ext F H F' H' → W c none σ H')) :
    ta σ H fun x H1 => tb σ H1 fun y H2 => R x y H2 Q := by
  refine qa B F H σ env _ ok (h.bind.mono (fun d1 h1 x F1 H1 e1 r1 => ?_) fun c k => k)
  refine qb B F1 H1 σ env _ (ok.mono e1) (h1.bind.mono (fun d2 h2 y F2 H2 e2 r2 => ?_) fun c k F' H' e => k F' H' (e1.trans e))
  refine hr x y H2 Q ⟨F2, d1, d2, e2.fh, Sh.mono r1 e2.ff e2.hh, r2, h2.monoE (fun z _ k v F' H' e r => ?_) fun c z _ => hg _ _ _ z⟩
  exact k v F' H' ((e1.trans e2).trans e) (RM.back (e1.hh.trans e2.hh) r)
theorem de_op {op : Operator} {md : Md} {g : D → D → M D} (ho : OpR X (binaryOp op) (rD X md g)) (hg : ∀ x y c, g x y ≠ some (.error c)) (ha : DE X W .s a fa) (hb : DE X W .s b fb) : DE X W md (.BinOp a op b pos) (d2 g fa fb) := by
  obtain ⟨ta, ha, qa⟩ := ha
  obtain ⟨tb, hb, qb⟩ := hb
  exact ⟨_, pe_op ho ha hb, fun B F H σ env Q ok h => two (R := rD X md g) qa qb (fun _ _ _ _ h => h) hg ok h⟩
theorem de_cmp {op : CmpOp} {g : D → D → M D} (ho : OpR X (compareOp op) (rD X .v g)) (hg : ∀ x y c, g x y ≠ some (.error c)) (ha : DE X W .s a fa) (hb : DE X W .s b fb) (hm : behindInMarks op b = false) : DE X W .v (.Compare a [op] [b] pos) (d2 g fa fb) := by
  obtain ⟨ta, ha, qa⟩ := ha
  obtain ⟨tb, hb, qb⟩ := hb
  exact ⟨_, pe_cmpR ho ha hb hm, fun B F H σ env Q ok h => two (R := rD X .v g) qa qb (fun _ _ _ _ h => h) hg ok h⟩

/-! ### tests -/
def asB : D → M Bool
  | .bool b => mok b
  | _ => none
def dTst (f : DEnv → M D) (env : DEnv) : M Bool := mbind (f env) asB
theorem tst_of {f : DEnv → M D} {F H : Hp} {σ : L2.St} {env : DEnv} {Q : Bool → Hp → Prop} (h : Ans (dTst f env) (fun b => ∀ F' H', Ext F H F' H' → Q b H') (fun c => ∀ F' H', Ext F H F' H' → W c none σ H')) :
    Ans (f env) (fun d => ∀ v F' H', Ext F H F' H' → RM X.K X.w H F' H' .v v d → ∃ k, v = .bl k ∧ Q k H') (fun c => ∀ F' H', Ext F H F' H' → W c none σ H') := by
  refine h.bind.mono (fun d k v F' H' x r => ?_) fun c k => k
  cases d with
  | bool b =>
    have r : Rp X.K X.w F' v (.bool b) := r
    cases r
    exact ⟨b, rfl, k F' H' x⟩
  | none => exact k.elim
  | int _ => exact k.elim
  | str _ => exact k.elim
  | list _ => exact k.elim
  | tuple _ => exact k.elim
  | dict _ => exact k.elim
theorem dt_cmp {op : CmpOp} {g : D → D → M D} (ho : OpR X (compareOp op) (rD X .v g)) (hg : ∀ x y c, g x y ≠ some (.error c)) (ha : DE X W .s a fa) (hb : DE X W .s b fb) (hm : behindInMarks op b = false) : DT X W (.Compare a [op] [b] pos) (dTst (d2 g fa fb)) := by
  obtain ⟨ta, ha, qa⟩ := ha
  obtain ⟨tb, hb, qb⟩ := hb
  exact ⟨_, pt_cmpR ho ha hb hm, fun B F H σ env Q ok h => two (R := rD X .v g) qa qb (fun _ _ _ _ h => h) hg ok (tst_of h)⟩
/-- an expression that is True or False -/
theorem dt_val (h : DE X W .v e f) (he : ∀ whole, isTrue e X.env whole = (do let v ← whole; standAt e.pos; holding [v] (truthy v)) := by intro _; rfl) : DT X W e (dTst f) := by
  obtain ⟨t, h, q⟩ := h
  exact ⟨_, pt_val h he, fun B F H σ env Q ok h => q B F H σ env _ ok (tst_of h)⟩
theorem DW.dt {f : DEnv → M Bool} (h : DW X W e f) : DT X W e f := by
  obtain ⟨t, h, q⟩ := h
  exact ⟨t, h.pt, q⟩
def dAnd (f g : DEnv → M Bool) (env : DEnv) : M Bool := mbind (f env) fun x => if x then g env else mok false
def dOr (f g : DEnv → M Bool) (env : DEnv) : M Bool := mbind (f env) fun x => if x then mok true else g env
def dNot (f : DEnv → M Bool) (env : DEnv) : M Bool := mbind (f env) fun x => mok (!x)
variable {p q : DEnv → M Bool} {rest : List Expr}
theorem dw_and1 (ha : DT X W a p) : DW X W (.BoolOp .And [a] pos) p := by
  obtain ⟨t, h, q⟩ := ha
  exact ⟨t, pw_and1 h, q⟩
theorem dw_or1 (ha : DT X W a p) : DW X W (.BoolOp .Or [a] pos) p := by
  obtain ⟨t, h, q⟩ := ha
  exact ⟨t, pw_or1 h, q⟩
theorem dw_and (ha : DT X W a p) (hb : DW X W (.BoolOp .And (b :: rest) pos) q) : DW X W (.BoolOp .And (a :: b :: rest) pos) (dAnd p q) := by
  obtain ⟨ta, ha, qa⟩ := ha
  obtain ⟨tb, hb, qb⟩ := hb
  refine ⟨_, pw_and ha hb, fun B F H σ env Q ok h => qa B F H σ env _ ok (h.bind.mono (fun c k F1 H1 e1 => ?_) fun c k => k)⟩
  cases c with
  | true => exact qb B F1 H1 σ env Q (ok.mono e1) (Ans.mono (show Ans (q env) _ _ from k) (fun b k F' H' e => k F' H' (e1.trans e)) fun c k F' H' e => k F' H' (e1.trans e))
  | false => exact k F1 H1 e1
theorem dw_or (ha : DT X W a p) (hb : DW X W (.BoolOp .Or (b :: rest) pos) q) : DW X W (.BoolOp .Or (a :: b :: rest) pos) (dOr p q) := by
  obtain ⟨ta, ha, qa⟩ := ha
  obtain ⟨tb, hb, qb⟩ := hb
  refine ⟨_, pw_or ha hb, fun B F H σ env Q ok h => qa B F H σ env _ ok (h.bind.mono (fun c k F1 H1 e1 => ?_) fun c k => k)⟩
  cases c with
  | false => exact qb B F1 H1 σ env Q (ok.mono e1) (Ans.mono (show Ans (q env) _ _ from k) (fun b k F' H' e => k F' H' (e1.trans e)) fun c k F' H' e => k F' H' (e1.trans e))
  | true => exact k F1 H1 e1
theorem dt_not (ha : DT X W a p) : DT X W (.UnaryOp .Not a pos) (dNot p) := by
  obtain ⟨ta, ha, qa⟩ := ha
  exact ⟨_, pt_not ha, fun B F H σ env Q ok h => qa B F H σ env _ ok (h.bind.mono (fun c k F1 H1 e1 => k F1 H1 e1) fun c k => k)⟩
/-! .. as values, True and False alone -/
def dAndV (f g : DEnv → M D) (env : DEnv) : M D := mbind (f env) fun x => match x with
  | .bool true => g env
  | .bool false => mok (.bool false)
  | _ => none
def dOrV (f g : DEnv → M D) (env : DEnv) : M D := mbind (f env) fun x => match x with
  | .bool true => mok (.bool true)
  | .bool false => g env
  | _ => none
def dNotV (f : DEnv → M D) (env : DEnv) : M D := mbind (f env) fun x => match x with
  | .bool b => mok (.bool (!b))
  | _ => none
theorem de_one {op} (h : DE X W .v a fa) : DE X W .v (.BoolOp op [a] pos) fa := by
  obtain ⟨t, h, q⟩ := h
  exact ⟨t, pe_one h, q⟩
theorem de_and (ha : DE X W .v a fa) (hb : DE X W .v (.BoolOp .And (b :: rest) pos) fb) : DE X W .v (.BoolOp .And (a :: b :: rest) pos) (dAndV fa fb) := by
  obtain ⟨ta, ha, qa⟩ := ha
  obtain ⟨tb, hb, qb⟩ := hb
  refine ⟨_, pe_and ha hb, fun B F H σ env Q ok h => qa B F H σ env _ ok (h.bind.mono (fun d k v F1 H1 e1 r => ?_) fun c k => k)⟩
  have r : Rp X.K X.w F1 v d := r
  cases r with
  | bl c =>
    cases c with
    | true => exact ⟨true, rfl, qb B F1 H1 σ env Q (ok.mono e1) (Ans.mono (show Ans (fb env) _ _ from k) (fun b k v F' H' e r => k v F' H' (e1.trans e) r) fun c k F' H' e => k F' H' (e1.trans e))⟩
    | false => exact ⟨false, rfl, k _ F1 H1 e1 (.bl false)⟩
  | _ => exact k.elim
theorem de_or (ha : DE X W .v a fa) (hb : DE X W .v (.BoolOp .Or (b :: rest) pos) fb) : DE X W .v (.BoolOp .Or (a :: b :: rest) pos) (dOrV fa fb) := by
  obtain ⟨ta, ha, qa⟩ := ha
  obtain ⟨tb, hb, qb⟩ := hb
  refine ⟨_, pe_or ha hb, fun B F H σ env Q ok h => qa B F H σ env _ ok (h.bind.mono (fun d k v F1 H1 e1 r => ?_) fun c k => k)⟩
  have r : Rp X.K X.w F1 v d := r
  cases r with
  | bl c =>
    cases c with
    | false => exact ⟨false, rfl, qb B F1 H1 σ env Q (ok.mono e1) (Ans.mono (show Ans (fb env) _ _ from k) (fun b k v F' H' e r => k v F' H' (e1.trans e) r) fun c k F' H' e => k F' H' (e1.trans e))⟩
    | true => exact ⟨true, rfl, k _ F1 H1 e1 (.bl true)⟩
  | _ => exact k.elim
theorem de_not (ha : DE X W .v a fa) : DE X W .v (.UnaryOp .Not a pos) (dNotV fa) := by
  obtain ⟨ta, ha, qa⟩ := ha
  refine ⟨_, pe_not ha, fun B F H σ env Q ok h => qa B F H σ env _ ok (h.bind.mono (fun d k v F1 H1 e1 r => ?_) fun c k => k)⟩
  have r : Rp X.K X.w F1 v d := r
  cases r with
  | bl c => exact ⟨c, rfl, k _ F1 H1 e1 (.bl _)⟩
  | _ => exact k.elim
def dIf (p : DEnv → M Bool) (f g : DEnv → M D) (env : DEnv) : M D := mbind (p env) fun x => if x then f env else g env
theorem de_ifExp {c : Expr} {md : Md} (hc : DT X W c p) (ha : DE X W md a fa) (hb : DE X W md b fb) : DE X W md (.IfExp c a b pos) (dIf p fa fb) := by
  obtain ⟨tc, hc, qc⟩ := hc
  obtain ⟨ta, ha, qa⟩ := ha
  obtain ⟨tb, hb, qb⟩ := hb
  refine ⟨_, pe_ifExp hc ha hb, fun B F H σ env Q ok h => qc B F H σ env _ ok (h.bind.mono (fun c k F1 H1 e1 => ?_) fun c k => k)⟩
  cases c with
  | true => exact qa B F1 H1 σ env Q (ok.mono e1) (Ans.mono (show Ans (fa env) _ _ from k) (fun b k v F' H' e r => k v F' H' (e1.trans e) (RM.back e1.hh r)) fun c k F' H' e => k F' H' (e1.trans e))
  | false => exact qb B F1 H1 σ env Q (ok.mono e1) (Ans.mono (show Ans (fb env) _ _ from k) (fun b k v F' H' e r => k v F' H' (e1.trans e) (RM.back e1.hh r)) fun c k F' H' e => k F' H' (e1.trans e))

/-! ### arguments, displays -/
def dNil (_ : DEnv) : M (List D) := mok []
def dCons (f : DEnv → M D) (g : DEnv → M (List D)) (env : DEnv) : M (List D) := mbind (f env) fun x => mbind (g env) fun xs => mok (x :: xs)
variable {es : List Expr} {g : DEnv → M (List D)}
theorem da_nil {md : Md} (hm : md ≠ .o := by decide) : DA X W md [] dNil := by
  refine ⟨fun env ds h => ?_, _, pa_nil, fun B F H σ env Q ok h => h [] F H (.refl ok.fh) ?_⟩
  · cases h; rfl
  · cases md with
    | v => exact .nil
    | s => exact .nil
    | o => exact absurd rfl hm
theorem da_consV (ha : DE X W .v a fa) (hr : DA X W .v es g) (hs : starEach (a :: es) X.env = (false, eval a X.env) :: starEach es X.env := by rfl) : DA X W .v (a :: es) (dCons fa g) := by
  obtain ⟨ta, ha, qa⟩ := ha
  obtain ⟨len, tb, hb, qb⟩ := hr
  refine ⟨fun env ds h => ?_, _, pa_cons ha hb hs, fun B F H σ env Q ok h => qa B F H σ env _ ok (h.bind.mono (fun d k v F1 H1 e1 r => ?_) fun c k => k)⟩
  · unfold dCons at h
    cases h1 : fa env with
    | none => rw [h1] at h; cases h
    | some r =>
      cases r with
      | error c => rw [h1] at h; cases h
      | ok x =>
        rw [h1] at h
        cases h2 : g env with
        | none => rw [mbind_ok, h2] at h; cases h
        | some r =>
          cases r with
          | error c => rw [mbind_ok, h2] at h; cases h
          | ok xs =>
            rw [mbind_ok, h2] at h
            cases h
            simp [len env xs h2]
  · refine qb B F1 H1 σ env _ (ok.mono e1) (k.bind.mono (fun ds k vs F2 H2 e2 rs => ?_) fun c k F' H' e => k F' H' (e1.trans e))
    exact k (v :: vs) F2 H2 (e1.trans e2) (RpA.cons (Rp.mono e2.ff r) rs)
theorem da_consS (ha : DE X W .s a fa) (hr : DA X W .s es g) (hs : starEach (a :: es) X.env = (false, eval a X.env) :: starEach es X.env := by rfl) : DA X W .s (a :: es) (dCons fa g) := by
  obtain ⟨ta, ha, qa⟩ := ha
  obtain ⟨len, tb, hb, qb⟩ := hr
  refine ⟨fun env ds h => ?_, _, pa_cons ha hb hs, fun B F H σ env Q ok h => qa B F H σ env _ ok (h.bind.mono (fun d k v F1 H1 e1 r => ?_) fun c k => k)⟩
  · unfold dCons at h
    cases h1 : fa env with
    | none => rw [h1] at h; cases h
    | some r =>
      cases r with
      | error c => rw [h1] at h; cases h
      | ok x =>
        rw [h1] at h
        cases h2 : g env with
        | none => rw [mbind_ok, h2] at h; cases h
        | some r =>
          cases r with
          | error c => rw [mbind_ok, h2] at h; cases h
          | ok xs =>
            rw [mbind_ok, h2] at h
            cases h
            simp [len env xs h2]
  · refine qb B F1 H1 σ env _ (ok.mono e1) (k.bind.mono (fun ds k vs F2 H2 e2 rs => ?_) fun c k F' H' e => k F' H' (e1.trans e))
    exact k (v :: vs) F2 H2 (e1.trans e2) (Paired.cons (Sh.mono r e2.ff e2.hh) rs)
def dTup (g : DEnv → M (List D)) (env : DEnv) : M D := mbind (g env) fun ds => mok (.tuple ds)
def dLst (g : DEnv → M (List D)) (env : DEnv) : M D := mbind (g env) fun ds => mok (.list ds)
theorem small_of {es : List Expr} (h : es.length ≤ 1000) {n : Nat} (e : n = es.length) : n ≤ sizeLine := by
  rw [e]
  exact Nat.le_of_lt (small1000 h)
theorem de_tup {x1} (h : DA X W .v es g) (hz : es.length ≤ 1000 := by decide) : DE X W .v (.Tuple es x1 pos) (dTup g) := by
  obtain ⟨len, t, h, q⟩ := h
  refine ⟨_, pe_tup h, fun B F H σ env Q ok h => q B F H σ env _ ok (h.bind.monoE (fun ds e k vs F1 H1 e1 rs => ?_) fun c _ k => k)⟩
  refine ⟨small_of hz ((RMA.length rs).trans (len env ds e)), fun p hp => ?_⟩
  have x := Ext.newF (o := .tup vs) e1.fh hp
  exact k _ _ _ (e1.trans x) (.tup (.inl (.inl upd_same)) (RpA.mono x.ff rs))
theorem de_lst (h : DA X W .v es g) (hz : es.length ≤ 1000 := by decide) : DE X W .o (.List es pos) (dLst g) := by
  obtain ⟨len, t, h, q⟩ := h
  refine ⟨_, pe_lst h, fun B F H σ env Q ok h => q B F H σ env _ ok (h.bind.monoE (fun ds e k vs F1 H1 e1 rs => ?_) fun c _ k => k)⟩
  refine ⟨small_of hz ((RMA.length rs).trans (len env ds e)), fun p hp => ?_⟩
  have x := Ext.newO (o := .lst vs) e1.fh hp
  exact k _ _ _ (e1.trans x) ⟨⟨p, rfl, .inl ⟨vs, ds, rfl, upd_same, rs⟩⟩, p, rfl, e1.hh.free hp, e1.fh.free hp⟩

/-! ### calls of built-ins, by data -/
def rC (X : Cx) (md : Md) (g : List D → M D) : List V → Hp → VK → Prop := fun xs H Q => ∃ F ds, Same F H ∧ Paired (Sh X.K X.w F H) xs ds ∧
  Ans (g ds) (fun z => ∀ v F' H', Ext F H F' H' → RM X.K X.w H F' H' md v z → Q v H') (fun _ => False)
def dCall (g : List D → M D) (fs : DEnv → M (List D)) (env : DEnv) : M D := mbind (fs env) g
theorem CallR.imp {h : Value} {r r' : List V → Hp → VK → Prop} (k : CallR X h r) (i : ∀ xs H Q, r' xs H Q → r xs H Q) : CallR X h r' :=
  fun pins s σ H xs us Q I rx q => k pins s σ H xs us Q I rx (i xs H Q q)
theorem callAns {md : Md} {k : List D → M D} {t : TA} (qa : ∀ (B : Bs X.A.handled) (F H : Hp) (σ : L2.St) (env : DEnv) (Q : List V → Hp → Prop), EnvOk X.K X.w B F H σ env →
      Ans (g env) (fun ds => ∀ vs F' H', Ext F H F' H' → RMA X.K X.w F' H' .s vs ds → Q vs H') (fun c => ∀ F' H', Ext F H F' H' → W c none σ H') → t σ H Q) (hk : ∀ ds c, k ds ≠ some (.error c))
    {B : Bs X.A.handled} {F H : Hp} {σ : L2.St} {env : DEnv} {Q : VK} (ok : EnvOk X.K X.w B F H σ env)
    (h : Ans (dCall k g env) (fun d => ∀ v F' H', Ext F H F' H' → RM X.K X.w H F' H' md v d → Q v H') (fun c => ∀ F' H', Ext F H F' H' → W c none σ H')) : t σ H fun vs H1 => rC X md k vs H1 Q := by
  refine qa B F H σ env _ ok (h.bind.mono (fun ds k1 vs F1 H1 e1 rs => ?_) fun c k => k)
  exact ⟨F1, ds, e1.fh, rs, k1.monoE (fun z _ k v F' H' e r => k v F' H' (e1.trans e) (RM.back e1.hh r)) fun c z _ => hk _ _ z⟩
theorem de_callB {id : String} {x : Str} {md : Md} {k : List D → M D} {p : Pos} (hc : CallR X (.builtin id) (rC X md k)) (hk : ∀ ds c, k ds ≠ some (.error c)) (hg : Gl X x) (hm : X.mg x = none) (hv : bootBuiltins x = some (.builtin id)) (ha : DA X W .s (a :: es) g)
    (hn : x ≠ "__name__" := by decide) (hdb : (x == ("__debug__" : Str)) = false := by decide) (he : starEach (a :: es) X.env = (false, eval a X.env) :: starEach es X.env := by rfl) (hpl : (backTo pos (starEach es X.env)).any (·.1) = false := by rfl) :
    DE X W md (.Call (.Name x p) (a :: es) [] pos) (dCall k g) := by
  obtain ⟨len, t, ha, qa⟩ := ha
  exact ⟨_, pe_callB hc hg hm hv ha hn hdb he hpl, fun B F H σ env Q ok h => callAns qa hk ok h⟩
theorem de_callTy {T : String} {x : Str} {md : Md} {k : List D → M D} {p : Pos} (hc : CallR X (.type T) (rC X md k)) (hk : ∀ ds c, k ds ≠ some (.error c)) (hg : Gl X x) (hm : X.mg x = none) (hv : bootBuiltins x = some (.type T)) (ha : DA X W .s (a :: es) g)
    (hn : x ≠ "__name__" := by decide) (hdb : (x == ("__debug__" : Str)) = false := by decide) (he : starEach (a :: es) X.env = (false, eval a X.env) :: starEach es X.env := by rfl) (hpl : (backTo pos (starEach es X.env)).any (·.1) = false := by rfl) :
    DE X W md (.Call (.Name x p) (a :: es) [] pos) (dCall k g) := by
  obtain ⟨len, t, ha, qa⟩ := ha
  exact ⟨_, pe_callTy hc hg hm hv ha hn hdb he hpl, fun B F H σ env Q ok h => callAns qa hk ok h⟩
end
end DL

/-! The data layer, part 4: operators, items, slices, built-ins of numbers, lists, tuples, texts. -/
namespace DL
open PySem PySem.Spec PyProof.Rows L2

section
variable {X : Cx}

/-! ### arithmetic -/
def addD : D → D → M D
  | .int i, .int j => mok (.int (i + j))
  | .str x, .str y => if x.length + y.length ≤ sizeLine then mok (.str (x ++ y)) else none
  | .tuple xs, .tuple ys => if xs.length + ys.length ≤ sizeLine then mok (.tuple (xs ++ ys)) else none
  | .list xs, .list ys => if xs.length + ys.length ≤ sizeLine then mok (.list (xs ++ ys)) else none
  | _, _ => none
theorem addD_ne (x y : D) (c : Value) : addD x y ≠ some (.error c) := by
  unfold addD
  split <;> first | (intro h; cases h; done) | (split <;> intro h <;> cases h)
theorem cat_listQ {l b : Addr} {xs ys : List V} {pins : List (Addr × Obj)} {σ : L2.St} {H : Hp} {s : Shared} {Q : VK} (I : Inv X pins σ H s) (ha : SqL X.K H l xs) (hb : SqL X.K H b ys) (hz : xs.length + ys.length ≤ sizeLine)
    (q : ∀ p, H p = none → Q (.ref p) (upd H p (.lst (xs ++ ys)))) : wpAny (model X.prog X.w) X.A (binaryOp .Add (.ref l) (.ref b)) (EP X pins σ Q) X.xe s := by
  obtain ⟨its, r1, ⟨⟨cls, dd, data, sl⟩, n, ho, hc, hdd, hd⟩, _⟩ := I.list ha
  obtain ⟨its2, r2, ⟨⟨cls2, dd2, data2, sl2⟩, n2, ho2, hc2, hdd2, hd2⟩, _⟩ := I.list hb
  simp only at hc hd hc2 hd2
  subst hc hd hc2 hd2
  have e : its.toArray ++ its2.toArray = (its ++ its2).toArray := by simp
  refine concat_meets ⟨_, ho, rfl⟩ ⟨_, ho2, rfl⟩ noFill_list_add seq_list_add PySem.F.slot_list_add PySem.F.entry_list_add (PySem.F.args_list_add_2 _ _) (list_addW l b its.toArray its2.toArray n n2 dd dd2 sl sl2 (by
    rw [List.size_toArray, List.size_toArray, ← r1.length, ← r2.length]; exact hz)) ⟨ho, ho2, ?_⟩
  rw [e]
  exact ⟨.ref _, _, I.lnew (t' := s.toks) (r1.append r2) (by rw [List.length_append]; exact hz), rfl, q _ I.fresh⟩
theorem op_addV : OpR X (binaryOp .Add) (rD X .v addD) := by
  intro pins s σ H x y v u Q I rx ry h
  obtain ⟨F, d, e, sm, sx, sy, h⟩ := h
  unfold addD at h
  split at h
  · cases sx.int; cases sy.int
    exact op_add pins s σ H _ _ v u Q I rx ry ⟨_, _, rfl, rfl, h _ F H (.refl sm) (.int _)⟩
  · split at h
    · rename_i hz
      cases sx.str; cases sy.str
      exact op_add_str pins s σ H _ _ v u Q I rx ry ⟨_, _, rfl, rfl, hz, h _ F H (.refl sm) (.str _)⟩
    · exact h.elim
  · split at h
    · rename_i hz
      obtain ⟨a, vs, rfl, ha, ra⟩ := sx.tuple sm
      obtain ⟨b, us, rfl, hb, rb⟩ := sy.tuple sm
      refine op_catA pins s σ H _ _ v u Q I rx ry ⟨a, b, vs, us, rfl, rfl, ha, hb, by rw [ra.length, rb.length]; exact hz, fun e => ?_, fun _ e => ?_, fun _ _ p hp => ?_⟩
      · have e' := ra.nil_iff.mp e
        subst e'
        rcases sy with z | z
        · exact h _ F H (.refl sm) z
        · obtain ⟨_, _, ⟨_, _, z, _⟩ | ⟨_, _, z, _⟩⟩ := z <;> cases z
      · have e' := rb.nil_iff.mp e
        subst e'
        rw [List.append_nil] at h
        rcases sx with z | z
        · exact h _ F H (.refl sm) z
        · obtain ⟨_, _, ⟨_, _, z, _⟩ | ⟨_, _, z, _⟩⟩ := z <;> cases z
      · have x := Ext.newF (o := .tup (vs ++ us)) sm hp
        exact h _ _ _ x (.tup (.inl (.inl upd_same)) (RpA.mono x.ff (ra.append rb)))
    · exact h.elim
  · split at h
    · rename_i hz
      obtain ⟨a, vs, rfl, ha, ra⟩ := sx.list sm
      obtain ⟨b, us, rfl, hb, rb⟩ := sy.list sm
      cases rx; cases ry
      refine cat_listQ I ha hb (by rw [ra.length, rb.length]; exact hz) fun p hp => ?_
      have x := Ext.newF (o := .lst (vs ++ us)) sm hp
      exact h _ _ _ x (.lst (.inl (.inl upd_same)) (RpA.mono x.ff (ra.append rb)))
    · exact h.elim
  · exact h.elim
/-- of lists, the new one the asker's own -/
def addL : D → D → M D
  | .list xs, .list ys => if xs.length + ys.length ≤ sizeLine then mok (.list (xs ++ ys)) else none
  | _, _ => none
theorem addL_ne (x y : D) (c : Value) : addL x y ≠ some (.error c) := by
  unfold addL
  split <;> first | (intro h; cases h; done) | (split <;> intro h <;> cases h)
theorem op_addO : OpR X (binaryOp .Add) (rD X .o addL) := by
  intro pins s σ H x y v u Q I rx ry h
  obtain ⟨F, d, e, sm, sx, sy, h⟩ := h
  unfold addL at h
  split at h
  · split at h
    · rename_i hz
      obtain ⟨a, vs, rfl, ha, ra⟩ := sx.list sm
      obtain ⟨b, us, rfl, hb, rb⟩ := sy.list sm
      cases rx; cases ry
      refine cat_listQ I ha hb (by rw [ra.length, rb.length]; exact hz) fun p hp => ?_
      have x := Ext.newO (o := .lst (vs ++ us)) sm hp
      exact h _ _ _ x ⟨⟨p, rfl, .inl ⟨_, _, rfl, upd_same, ra.append rb⟩⟩, p, rfl, hp, sm.free hp⟩
    · exact h.elim
  · exact h.elim

def int2 (C : Int → Int → Bool) (g : Int → Int → D) : D → D → M D
  | .int i, .int j => if C i j = true then mok (g i j) else none
  | _, _ => none
theorem int2_ne {C : Int → Int → Bool} {g : Int → Int → D} (x y : D) (c : Value) : int2 C g x y ≠ some (.error c) := by
  unfold int2
  split
  · split <;> intro h <;> cases h
  · intro h; cases h
theorem op_int2 {f : Value → Value → Sem Value} {C : Int → Int → Bool} {g : Int → Int → D} {gV : Int → Int → V} (hv : ∀ F i j, Rp X.K X.w F (gV i j) (g i j)) {P : Int → Int → Prop} (hP : ∀ i j, C i j = true → P i j) (ho : OpR X f (rI P gV)) : OpR X f (rD X .v (int2 C g)) := by
  intro pins s σ H x y v u Q I rx ry h
  obtain ⟨F, d, e, sm, sx, sy, h⟩ := h
  unfold int2 at h
  split at h
  · split at h
    · rename_i hc
      cases sx.int; cases sy.int
      exact ho pins s σ H _ _ v u Q I rx ry ⟨_, _, rfl, rfl, hP _ _ hc, h _ F H (.refl sm) (hv _ _ _)⟩
    · exact h.elim
  · exact h.elim
theorem rI_of {g : Int → Int → V} {f : Value → Value → Sem Value} (h : OpR X f (rI0 g)) : OpR X f (rI (fun _ _ => True) g) := OpR.imp h fun x y H Q ⟨i, j, e1, e2, _, q⟩ => ⟨i, j, e1, e2, q⟩
def subD : D → D → M D := int2 (fun _ _ => true) fun i j => .int (i - j)
def mulD : D → D → M D := int2 (fun i j => decide (i.natAbs < 18446744073709551616) || decide (j.natAbs < 18446744073709551616)) fun i j => .int (i * j)
def modD : D → D → M D := int2 (fun _ j => decide (0 < j)) fun i j => .int (i % j)
def divD : D → D → M D := int2 (fun _ j => decide (0 < j) && decide (j.natAbs < 1073741824)) fun i j => .int (i / j)
def powD : D → D → M D := int2 (fun i j => decide (0 ≤ j) && decide (j.natAbs ≤ 1000000) && decide (i.natAbs < 18446744073709551616)) fun i j => .int (i ^ j.toNat)
theorem op_subV : OpR X (binaryOp .Sub) (rD X .v subD) := op_int2 (fun _ _ _ => .int _) (fun _ _ _ => trivial) (rI_of op_sub)
theorem cmul_of {i j : Int} (h : (decide (i.natAbs < 18446744073709551616) || decide (j.natAbs < 18446744073709551616)) = true) : CMul i j := by
  simp only [Bool.or_eq_true, decide_eq_true_eq] at h
  unfold CMul
  rcases h with h | h
  · exact .inl ⟨by omega, by omega⟩
  · exact .inr ⟨by omega, by omega⟩
theorem op_mulV : OpR X (binaryOp .Mult) (rD X .v mulD) := op_int2 (fun _ _ _ => .int _) (fun i j h => cmul_of h) op_mul
theorem op_modV : OpR X (binaryOp .Mod) (rD X .v modD) := op_int2 (fun _ _ _ => .int _) (fun i j h => of_decide_eq_true h) op_mod
theorem op_divV : OpR X (binaryOp .FloorDiv) (rD X .v divD) := op_int2 (fun _ _ _ => .int _) (fun i j h => by
  simp only [Bool.and_eq_true, decide_eq_true_eq] at h
  exact ⟨h.1, by omega⟩) op_fdiv
theorem op_powV : OpR X (binaryOp .Pow) (rD X .v powD) := op_int2 (fun _ _ _ => .int _) (fun i j h => by
  simp only [Bool.and_eq_true, decide_eq_true_eq] at h
  exact ⟨h.1.1, by omega, h.2⟩) op_pow
/-! ### order of numbers -/
def ltD : D → D → M D := int2 (fun _ _ => true) fun i j => .bool (decide (i < j))
def leD : D → D → M D := int2 (fun _ _ => true) fun i j => .bool (decide (i ≤ j))
def gtD : D → D → M D := int2 (fun _ _ => true) fun i j => .bool (decide (j < i))
def geD : D → D → M D := int2 (fun _ _ => true) fun i j => .bool (decide (j ≤ i))
theorem op_ltV : OpR X (compareOp .Lt) (rD X .v ltD) := op_int2 (fun _ _ _ => .bl _) (fun _ _ _ => trivial) (rI_of op_lt)
theorem op_leV : OpR X (compareOp .LtE) (rD X .v leD) := op_int2 (fun _ _ _ => .bl _) (fun _ _ _ => trivial) (rI_of op_le)
theorem op_gtV : OpR X (compareOp .Gt) (rD X .v gtD) := op_int2 (fun _ _ _ => .bl _) (fun _ _ _ => trivial) (rI_of op_gt)
theorem op_geV : OpR X (compareOp .GtE) (rD X .v geD) := op_int2 (fun _ _ _ => .bl _) (fun _ _ _ => trivial) (rI_of op_ge)
/-! ### ==, != -/
def eqOk (d : D) : Bool := noD d && decide (d.depth ≤ 60)
def eqD (d e : D) : M D := if eqOk d = true ∧ eqOk e = true then mok (.bool (PyData.eqv d e)) else none
def neD (d e : D) : M D := if eqOk d = true ∧ eqOk e = true then mok (.bool (!PyData.eqv d e)) else none
theorem eqD_ne (x y : D) (c : Value) : eqD x y ≠ some (.error c) := by
  unfold eqD
  split <;> intro h <;> cases h
theorem neD_ne (x y : D) (c : Value) : neD x y ≠ some (.error c) := by
  unfold neD
  split <;> intro h <;> cases h
theorem eqOk_room {A : Around} {d e : D} (h : eqOk d = true) (hu : A.units + 64 < cLine) : A.units + min d.depth e.depth < cLine := by
  simp only [eqOk, Bool.and_eq_true, decide_eq_true_eq] at h
  have : min d.depth e.depth ≤ d.depth := Nat.min_le_left _ _
  omega
theorem eqOk_noD {d : D} (h : eqOk d = true) : noD d = true := by
  simp only [eqOk, Bool.and_eq_true] at h
  exact h.1
theorem op_eqV (hu : X.A.units + 64 < cLine) : OpR X (compareOp .Eq) (rD X .v eqD) := by
  intro pins s σ H x y v u Q I rx ry h
  obtain ⟨F, d, e, sm, sx, sy, h⟩ := h
  unfold eqD at h
  split at h
  · rename_i hc
    obtain ⟨as, r1⟩ := Rp.reads I d x v (eqOk_noD hc.1) (sx.all sm) rx
    obtain ⟨bs, r2⟩ := Rp.reads I e y u (eqOk_noD hc.2) (sy.all sm) ry
    exact rc_rd r1 r2 (eqOk_noD hc.1) (eqOk_noD hc.2) (eqOk_room hc.1 hu) _ _ _ _ ⟨.bl _, H, I, rfl, h _ F H (.refl sm) (.bl _)⟩
  · exact h.elim
theorem op_neV (hu : X.A.units + 64 < cLine) : OpR X (compareOp .NotEq) (rD X .v neD) := by
  intro pins s σ H x y v u Q I rx ry h
  obtain ⟨F, d, e, sm, sx, sy, h⟩ := h
  unfold neD at h
  split at h
  · rename_i hc
    obtain ⟨as, r1⟩ := Rp.reads I d x v (eqOk_noD hc.1) (sx.all sm) rx
    obtain ⟨bs, r2⟩ := Rp.reads I e y u (eqOk_noD hc.2) (sy.all sm) ry
    exact rn_rd r1 r2 (eqOk_noD hc.1) (eqOk_noD hc.2) (eqOk_room hc.1 hu) _ _ _ _ ⟨.bl _, H, I, rfl, h _ F H (.refl sm) (.bl _)⟩
  · exact h.elim
/-! ### is None -/
def isNone : D → Bool
  | .none => true
  | _ => false
def isD (d e : D) : M D := match e with
  | .none => mok (.bool (isNone d))
  | _ => none
def isNotD (d e : D) : M D := match e with
  | .none => mok (.bool (!isNone d))
  | _ => none
theorem isD_ne (x y : D) (c : Value) : isD x y ≠ some (.error c) := by
  unfold isD
  split <;> intro h <;> cases h
theorem isNotD_ne (x y : D) (c : Value) : isNotD x y ≠ some (.error c) := by
  unfold isNotD
  split <;> intro h <;> cases h
theorem non_iff {F H : Hp} {v : V} {d : D} (x : Sh X.K X.w F H v d) : decide (v = .non) = isNone d := by
  rw [x.none_iff]
  cases d <;> rfl
theorem op_isV : OpR X (compareOp .Is) (rD X .v isD) := by
  intro pins s σ H x y v u Q I rx ry h
  obtain ⟨F, d, e, sm, sx, sy, h⟩ := h
  unfold isD at h
  split at h
  · have e1 : y = .non := by have := non_iff sy; simpa [isNone] using this
    subst e1
    refine op_isN pins s σ H _ _ v u Q I rx ry ⟨rfl, ?_⟩
    rw [non_iff sx]
    exact h _ F H (.refl sm) (.bl _)
  · exact h.elim
theorem op_isNotV : OpR X (compareOp .IsNot) (rD X .v isNotD) := by
  intro pins s σ H x y v u Q I rx ry h
  obtain ⟨F, d, e, sm, sx, sy, h⟩ := h
  unfold isNotD at h
  split at h
  · have e1 : y = .non := by have := non_iff sy; simpa [isNone] using this
    subst e1
    refine op_notN pins s σ H _ _ v u Q I rx ry ⟨rfl, ?_⟩
    rw [non_iff sx]
    exact h _ F H (.refl sm) (.bl _)
  · exact h.elim

/-! ### items -/
def getD' : D → D → M D
  | .list xs, .int i => match atI xs i with
    | some d => mok d
    | none => none
  | .tuple xs, .int i => match atI xs i with
    | some d => mok d
    | none => none
  | .str z, .int i => if z.length ≤ sizeLine then match atI z.cps.toList i with
    | some c => mok (.str ⟨#[c]⟩)
    | none => none else none
  | _, _ => none
theorem getD'_ne (x y : D) (c : Value) : getD' x y ≠ some (.error c) := by
  unfold getD'
  split
  · split <;> intro h <;> cases h
  · split <;> intro h <;> cases h
  · split
    · split <;> intro h <;> cases h
    · intro h; cases h
  · intro h; cases h
theorem atI_rel {F : Hp} {vs : List V} {ds : List D} {i : Int} {d : D} (r : RpA X.K X.w F vs ds) (h : atI ds i = some d) : ∃ v, atI vs i = some v ∧ Rp X.K X.w F v d := by
  unfold atI at h ⊢
  rw [r.length]
  cases q : ixN ds.length i with
  | none => rw [q] at h; cases h
  | some j =>
    rw [q] at h
    obtain ⟨v, h1, h2⟩ := r.get (show ds[j]? = some d from h)
    exact ⟨v, h1, h2⟩
theorem ix_V : IxR X (rD X .v getD') := by
  intro value slice pins s σ H x y v u Q I rx ry h hs
  obtain ⟨F, d, e, sm, sx, sy, h⟩ := h
  unfold getD' at h
  split at h
  · split at h
    · rename_i hd
      cases sy.int
      obtain ⟨a, vs, rfl, ha, ra⟩ := sx.list sm
      obtain ⟨z, h1, h2⟩ := atI_rel ra hd
      exact ix_list value slice pins s σ H _ _ v u Q I rx ry ⟨a, vs, _, z, rfl, rfl, ha, h1, h _ F H (.refl sm) h2⟩ hs
    · exact h.elim
  · split at h
    · rename_i hd
      cases sy.int
      obtain ⟨a, vs, rfl, ha, ra⟩ := sx.tuple sm
      obtain ⟨z, h1, h2⟩ := atI_rel ra hd
      exact ix_tup value slice pins s σ H _ _ v u Q I rx ry ⟨a, vs, _, z, rfl, rfl, ha, h1, h _ F H (.refl sm) h2⟩ hs
    · exact h.elim
  · split at h
    · rename_i hz
      split at h
      · rename_i hd
        cases sy.int
        cases sx.str
        exact ix_str value slice pins s σ H _ _ v u Q I rx ry ⟨_, _, _, rfl, rfl, hz, hd, h _ F H (.refl sm) (.str _)⟩ hs
      · exact h.elim
    · exact h.elim
  · exact h.elim
variable {W : WX} {a b : Expr} {fa fb : DEnv → M D} {pos : Pos}
theorem de_ix (ha : DE X W .s a fa) (hb : DE X W .s b fb) (hs : PlainIx b := by exact fun _ _ => rfl) : DE X W .v (.Subscript a b pos) (d2 getD' fa fb) := by
  obtain ⟨ta, ha, qa⟩ := ha
  obtain ⟨tb, hb, qb⟩ := hb
  exact ⟨_, pe_ix ix_V ha hb hs, fun B F H σ env Q ok h => two (R := rD X .v getD') qa qb (fun _ _ _ _ h => h) getD'_ne ok h⟩

/-! ### slices -/
structure DO (X : Cx) (W : WX) (e : Option Expr) (f : DEnv → M (Option Int)) : Prop where
  run : ∃ t : TO, PO X e t ∧ ∀ (B : Bs X.A.handled) (F H : Hp) (σ : L2.St) (env : DEnv) (Q : Option Int → Hp → Prop), EnvOk X.K X.w B F H σ env →
    Ans (f env) (fun o => ∀ F' H', Ext F H F' H' → Q o H') (fun c => ∀ F' H', Ext F H F' H' → W c none σ H') → t σ H Q
def dNo (_ : DEnv) : M (Option Int) := mok none
def asI : D → M (Option Int)
  | .int i => mok (some i)
  | _ => none
def dSome (f : DEnv → M D) (env : DEnv) : M (Option Int) := mbind (f env) asI
theorem do_none : DO X W none dNo := ⟨_, po_none, fun B F H σ env Q ok h => h F H (.refl ok.fh)⟩
theorem do_some (ha : DE X W .v a fa) : DO X W (some a) (dSome fa) := by
  obtain ⟨ta, ha, qa⟩ := ha
  refine ⟨_, po_some ha, fun B F H σ env Q ok h => qa B F H σ env _ ok (h.bind.mono (fun d k v F' H' x r => ?_) fun c k => k)⟩
  have r : Rp X.K X.w F' v d := r
  cases r with
  | int i => exact ⟨i, rfl, k F' H' x⟩
  | _ => exact k.elim
def cutA {α : Type} (xs : List α) (lo hi : Option Int) : List α := (xs.drop (HT.sIx xs.length 0 lo)).take (HT.sIx xs.length xs.length hi - HT.sIx xs.length 0 lo)
theorem cutA_whole {α : Type} {xs : List α} {lo hi : Option Int} (h : HT.sIx xs.length 0 lo = 0 ∧ HT.sIx xs.length xs.length hi = xs.length) : cutA xs lo hi = xs := by
  unfold cutA
  rw [h.1, h.2]
  simp
def cutD (d : D) (lo hi : Option Int) : M D := match d with
  | .list xs => mok (.list (cutA xs lo hi))
  | .tuple xs => mok (.tuple (cutA xs lo hi))
  | .str z => if z.length ≤ sizeLine then mok (.str (cutS z lo hi)) else none
  | _ => none
def cutO (d : D) (lo hi : Option Int) : M D := match d with
  | .list xs => mok (.list (cutA xs lo hi))
  | _ => none
def rS (X : Cx) (md : Md) (g : D → Option Int → Option Int → M D) : V → Option Int → Option Int → Hp → VK → Prop := fun x lo hi H Q => ∃ F d, Same F H ∧ Sh X.K X.w F H x d ∧
  Ans (g d lo hi) (fun z => ∀ v F' H', Ext F H F' H' → RM X.K X.w H F' H' md v z → Q v H') (fun _ => False)
theorem cut_rel {F : Hp} {vs : List V} {ds : List D} {lo hi : Option Int} (r : RpA X.K X.w F vs ds) : RpA X.K X.w F (cutV vs lo hi) (cutA ds lo hi) := by
  unfold cutV cutA
  rw [r.length]
  exact (r.drop _).take _
theorem sl_V : SlR X (rS X .v cutD) := by
  intro pins s σ H x v vl vu lo hi sl Q I rx hs pl pu h
  obtain ⟨F, d, sm, sx, h⟩ := h
  unfold cutD at h
  split at h
  · obtain ⟨a, vs, rfl, ha, ra⟩ := sx.list sm
    refine sl_list pins s σ H _ v vl vu lo hi sl Q I rx hs pl pu ⟨a, vs, rfl, ha, fun p hp => ?_⟩
    have x := Ext.newF (o := .lst (cutV vs lo hi)) sm hp
    exact h _ _ _ x (.lst (.inl (.inl upd_same)) (RpA.mono x.ff (cut_rel ra)))
  · obtain ⟨a, vs, rfl, ha, ra⟩ := sx.tuple sm
    refine sl_tupA pins s σ H _ v vl vu lo hi sl Q I rx hs pl pu ⟨a, vs, rfl, ha, fun hw => ?_, fun _ p hp => ?_⟩
    · rw [ra.length] at hw
      rw [cutA_whole hw] at h
      rcases sx with z | z
      · exact h _ F H (.refl sm) z
      · obtain ⟨_, _, ⟨_, _, z, _⟩ | ⟨_, _, z, _⟩⟩ := z <;> cases z
    · have x := Ext.newF (o := .tup (cutV vs lo hi)) sm hp
      exact h _ _ _ x (.tup (.inl (.inl upd_same)) (RpA.mono x.ff (cut_rel ra)))
  · split at h
    · rename_i hz
      cases sx.str
      exact sl_str pins s σ H _ v vl vu lo hi sl Q I rx hs pl pu ⟨_, rfl, hz, h _ F H (.refl sm) (.str _)⟩
    · exact h.elim
  · exact h.elim
theorem sl_O : SlR X (rS X .o cutO) := by
  intro pins s σ H x v vl vu lo hi sl Q I rx hs pl pu h
  obtain ⟨F, d, sm, sx, h⟩ := h
  unfold cutO at h
  split at h
  · obtain ⟨a, vs, rfl, ha, ra⟩ := sx.list sm
    refine sl_list pins s σ H _ v vl vu lo hi sl Q I rx hs pl pu ⟨a, vs, rfl, ha, fun p hp => ?_⟩
    have x := Ext.newO (o := .lst (cutV vs lo hi)) sm hp
    exact h _ _ _ x ⟨⟨p, rfl, .inl ⟨_, _, rfl, upd_same, cut_rel ra⟩⟩, p, rfl, hp, sm.free hp⟩
  · exact h.elim
theorem cutD_ne (d : D) (lo hi : Option Int) (c : Value) : cutD d lo hi ≠ some (.error c) := by
  unfold cutD
  split <;> first | (intro h; cases h; done) | (split <;> intro h <;> cases h)
theorem cutO_ne (d : D) (lo hi : Option Int) (c : Value) : cutO d lo hi ≠ some (.error c) := by
  unfold cutO
  split <;> intro h <;> cases h
def dSl (g : D → Option Int → Option Int → M D) (f : DEnv → M D) (p q : DEnv → M (Option Int)) (env : DEnv) : M D := mbind (f env) fun x => mbind (p env) fun l => mbind (q env) fun u => g x l u
variable {lo hi : Option Expr} {p q : DEnv → M (Option Int)} {p2 : Pos}
theorem de_slice {md : Md} {g : D → Option Int → Option Int → M D} (hr : SlR X (rS X md g)) (hg : ∀ d l u c, g d l u ≠ some (.error c)) (ha : DE X W .s a fa) (hl : DO X W lo p) (hu : DO X W hi q) : DE X W md (.Subscript a (.Slice lo hi none p2) pos) (dSl g fa p q) := by
  obtain ⟨ta, ha, qa⟩ := ha
  obtain ⟨tl, hl, ql⟩ := hl
  obtain ⟨th, hh, qh⟩ := hu
  refine ⟨_, pe_slice hr ha hl hh, fun B F H σ env Q ok h => qa B F H σ env _ ok (h.bind.mono (fun d1 h1 x F1 H1 e1 r1 => ?_) fun c k => k)⟩
  refine ql B F1 H1 σ env _ (ok.mono e1) (h1.bind.mono (fun o1 h2 F2 H2 e2 => ?_) fun c k F' H' e => k F' H' (e1.trans e))
  refine qh B F2 H2 σ env _ ((ok.mono e1).mono e2) (h2.bind.mono (fun o2 h3 F3 H3 e3 => ?_) fun c k F' H' e => k F' H' ((e1.trans e2).trans e))
  exact ⟨F3, d1, e3.fh, Sh.mono (Sh.mono r1 e2.ff e2.hh) e3.ff e3.hh, h3.monoE (fun z _ k v F' H' e r => k v F' H' (((e1.trans e2).trans e3).trans e) (RM.back ((e1.hh.trans e2.hh).trans e3.hh) r)) fun c z _ => hg _ _ _ _ z⟩

/-! ### len, tuple, list, abs, max, min, sum, str -/
def lenD : List D → M D
  | [.list xs] => mok (.int xs.length)
  | [.tuple xs] => mok (.int xs.length)
  | [.str z] => if z.length ≤ sizeLine then mok (.int z.length) else none
  | _ => none
theorem lenD_ne (ds : List D) (c : Value) : lenD ds ≠ some (.error c) := by
  unfold lenD
  split <;> first | (intro h; cases h; done) | (split <;> intro h <;> cases h)
theorem pair1 {R : V → D → Prop} {xs : List V} {d : D} (h : Paired R xs [d]) : ∃ v, xs = [v] ∧ R v d := by
  cases h with
  | cons h t => cases t; exact ⟨_, rfl, h⟩
theorem pair2 {R : V → D → Prop} {xs : List V} {d e : D} (h : Paired R xs [d, e]) : ∃ v u, xs = [v, u] ∧ R v d ∧ R u e := by
  cases h with
  | cons h t =>
    obtain ⟨u, rfl, k⟩ := pair1 t
    exact ⟨_, u, rfl, h, k⟩
theorem call_lenV : CallR X (.builtin "len") (rC X .v lenD) := by
  intro pins s σ H xs us Q I r h
  obtain ⟨F, ds, sm, sx, h⟩ := h
  unfold lenD at h
  split at h
  · obtain ⟨v, rfl, k⟩ := pair1 sx
    obtain ⟨a, vs, rfl, ha, ra⟩ := k.list sm
    refine call_len_seq pins s σ H _ us Q I r ⟨a, vs, rfl, .inl ha, ?_⟩
    rw [ra.length]
    exact h _ F H (.refl sm) (.int _)
  · obtain ⟨v, rfl, k⟩ := pair1 sx
    obtain ⟨a, vs, rfl, ha, ra⟩ := k.tuple sm
    refine call_len_seq pins s σ H _ us Q I r ⟨a, vs, rfl, .inr ha, ?_⟩
    rw [ra.length]
    exact h _ F H (.refl sm) (.int _)
  · split at h
    · rename_i hz
      obtain ⟨v, rfl, k⟩ := pair1 sx
      cases k.str
      exact call_len_str pins s σ H _ us Q I r ⟨_, rfl, hz, h _ F H (.refl sm) (.int _)⟩
    · exact h.elim
  · exact h.elim
def tupleD : List D → M D
  | [.list xs] => mok (.tuple xs)
  | [.tuple xs] => mok (.tuple xs)
  | _ => none
theorem tupleD_ne (ds : List D) (c : Value) : tupleD ds ≠ some (.error c) := by
  unfold tupleD
  split <;> intro h <;> cases h
theorem call_tupleV : CallR X (.type "tuple") (rC X .v tupleD) := by
  intro pins s σ H xs us Q I r h
  obtain ⟨F, ds, sm, sx, h⟩ := h
  unfold tupleD at h
  split at h
  · obtain ⟨v, rfl, k⟩ := pair1 sx
    obtain ⟨a, vs, rfl, ha, ra⟩ := k.list sm
    refine call_tuple_of pins s σ H _ us Q I r ⟨a, vs, rfl, .inl ⟨ha, fun p hp => ?_⟩⟩
    have x := Ext.newF (o := .tup vs) sm hp
    exact h _ _ _ x (.tup (.inl (.inl upd_same)) (RpA.mono x.ff ra))
  · obtain ⟨v, rfl, k⟩ := pair1 sx
    obtain ⟨a, vs, rfl, ha, ra⟩ := k.tuple sm
    refine call_tuple_of pins s σ H _ us Q I r ⟨a, vs, rfl, .inr ⟨ha, ?_⟩⟩
    rcases k with z | z
    · exact h _ F H (.refl sm) z
    · obtain ⟨_, _, ⟨_, _, z, _⟩ | ⟨_, _, z, _⟩⟩ := z <;> cases z
  · exact h.elim
def listD : List D → M D
  | [.list xs] => mok (.list xs)
  | [.tuple xs] => mok (.list xs)
  | _ => none
theorem listD_ne (ds : List D) (c : Value) : listD ds ≠ some (.error c) := by
  unfold listD
  split <;> intro h <;> cases h
theorem call_listO : CallR X (.type "list") (rC X .o listD) := by
  intro pins s σ H xs us Q I r h
  obtain ⟨F, ds, sm, sx, h⟩ := h
  unfold listD at h
  split at h
  · obtain ⟨v, rfl, k⟩ := pair1 sx
    obtain ⟨a, vs, rfl, ha, ra⟩ := k.list sm
    refine call_list_of pins s σ H _ us Q I r ⟨a, vs, rfl, .inl ha, fun p hp => ?_⟩
    have x := Ext.newO (o := .lst vs) sm hp
    exact h _ _ _ x ⟨⟨p, rfl, .inl ⟨_, _, rfl, upd_same, ra⟩⟩, p, rfl, hp, sm.free hp⟩
  · obtain ⟨v, rfl, k⟩ := pair1 sx
    obtain ⟨a, vs, rfl, ha, ra⟩ := k.tuple sm
    refine call_list_of pins s σ H _ us Q I r ⟨a, vs, rfl, .inr ha, fun p hp => ?_⟩
    have x := Ext.newO (o := .lst vs) sm hp
    exact h _ _ _ x ⟨⟨p, rfl, .inl ⟨_, _, rfl, upd_same, ra⟩⟩, p, rfl, hp, sm.free hp⟩
  · exact h.elim
def absD : List D → M D
  | [.int i] => mok (.int (if i < 0 then -i else i))
  | _ => none
theorem absD_ne (ds : List D) (c : Value) : absD ds ≠ some (.error c) := by
  unfold absD
  split <;> intro h <;> cases h
theorem call_absV : CallR X (.builtin "abs") (rC X .v absD) := by
  intro pins s σ H xs us Q I r h
  obtain ⟨F, ds, sm, sx, h⟩ := h
  unfold absD at h
  split at h
  · obtain ⟨v, rfl, k⟩ := pair1 sx
    cases k.int
    exact call_abs pins s σ H _ us Q I r ⟨_, rfl, h _ F H (.refl sm) (.int _)⟩
  · exact h.elim
def maxD : List D → M D
  | [.int i, .int j] => mok (.int (if j > i then j else i))
  | _ => none
def minD : List D → M D
  | [.int i, .int j] => mok (.int (if j < i then j else i))
  | _ => none
theorem maxD_ne (ds : List D) (c : Value) : maxD ds ≠ some (.error c) := by
  unfold maxD
  split <;> intro h <;> cases h
theorem minD_ne (ds : List D) (c : Value) : minD ds ≠ some (.error c) := by
  unfold minD
  split <;> intro h <;> cases h
theorem call_maxV (hc : X.calm = true) : CallR X (.builtin "max") (rC X .v maxD) := by
  intro pins s σ H xs us Q I r h
  obtain ⟨F, ds, sm, sx, h⟩ := h
  unfold maxD at h
  split at h
  · obtain ⟨v, u, rfl, k, k2⟩ := pair2 sx
    cases k.int; cases k2.int
    exact call_max2 hc pins s σ H _ us Q I r ⟨_, _, rfl, h _ F H (.refl sm) (.int _)⟩
  · exact h.elim
theorem call_minV (hc : X.calm = true) : CallR X (.builtin "min") (rC X .v minD) := by
  intro pins s σ H xs us Q I r h
  obtain ⟨F, ds, sm, sx, h⟩ := h
  unfold minD at h
  split at h
  · obtain ⟨v, u, rfl, k, k2⟩ := pair2 sx
    cases k.int; cases k2.int
    exact call_min2 hc pins s σ H _ us Q I r ⟨_, _, rfl, h _ F H (.refl sm) (.int _)⟩
  · exact h.elim
def asInt : D → Option Int
  | .int i => some i
  | _ => none
/-- a list of whole numbers -/
def intsOf : List D → Option (List Int)
  | [] => some []
  | .int i :: r => (intsOf r).map (i :: ·)
  | _ :: _ => none
theorem intsOf_map (ns : List Int) : intsOf (ns.map .int) = some ns := by
  induction ns with
  | nil => rfl
  | cons n r ih => simp [intsOf, ih]
theorem of_intsOf : ∀ {ds : List D} {ns : List Int}, intsOf ds = some ns → ds = ns.map .int
  | [], _, h => by cases h; rfl
  | .int i :: r, ns, h => by
    unfold intsOf at h
    cases q : intsOf r with
    | none => rw [q] at h; cases h
    | some ms =>
      rw [q] at h
      cases h
      rw [of_intsOf q]
      rfl
  | .none :: _, _, h => by cases h
  | .bool _ :: _, _, h => by cases h
  | .str _ :: _, _, h => by cases h
  | .list _ :: _, _, h => by cases h
  | .tuple _ :: _, _, h => by cases h
  | .dict _ :: _, _, h => by cases h
theorem ints_rel {F : Hp} : ∀ {vs : List V} {ns : List Int}, RpA X.K X.w F vs (ns.map .int) → vs = ns.map V.int
  | _, [], h => by cases h; rfl
  | _, n :: ns, h => by
    cases h with
    | cons h1 h2 =>
      cases h1
      rw [ints_rel h2]
      rfl
def sumD : List D → M D
  | [.list xs] => match intsOf xs with
    | some ns => mok (.int ns.sum)
    | none => none
  | _ => none
theorem sumD_ne (ds : List D) (c : Value) : sumD ds ≠ some (.error c) := by
  unfold sumD
  split
  · split <;> intro h <;> cases h
  · intro h; cases h
theorem call_sumV (hc : X.calm = true) : CallR X (.builtin "sum") (rC X .v sumD) := by
  intro pins s σ H xs us Q I r h
  obtain ⟨F, ds, sm, sx, h⟩ := h
  unfold sumD at h
  split at h
  · split at h
    · rename_i hn
      obtain ⟨v, rfl, k⟩ := pair1 sx
      obtain ⟨a, vs, rfl, ha, ra⟩ := k.list sm
      rw [of_intsOf hn] at ra
      rw [ints_rel ra] at ha
      exact cr_sum hc pins s σ H _ us Q I r ⟨a, _, rfl, ha, h _ F H (.refl sm) (.int _)⟩
    · exact h.elim
  · exact h.elim
def strD : List D → M D
  | [.int i] => if i.natAbs.log2 < 1920 then mok (.str (toString i)) else none
  | _ => none
theorem strD_ne (ds : List D) (c : Value) : strD ds ≠ some (.error c) := by
  unfold strD
  split
  · split <;> intro h <;> cases h
  · intro h; cases h
theorem call_strV : CallR X (.type "str") (rC X .v strD) := by
  intro pins s σ H xs us Q I r h
  obtain ⟨F, ds, sm, sx, h⟩ := h
  unfold strD at h
  split at h
  · split at h
    · rename_i hz
      obtain ⟨v, rfl, k⟩ := pair1 sx
      cases k.int
      exact call_str_int pins s σ H _ us Q I r ⟨_, rfl, hz, h _ F H (.refl sm) (.str _)⟩
    · exact h.elim
  · exact h.elim

/-! ### isinstance(x, T), T a built-in class by its name -/
def tyD : D → Option String
  | .none => some "NoneType"
  | .bool _ => some "bool"
  | .int _ => some "int"
  | .str _ => some "str"
  | .list _ => some "list"
  | .tuple _ => some "tuple"
  | .dict _ => none
theorem sqL_ty {H : Hp} {a : Addr} {vs : List V} (h : SqL X.K H a vs) : TyX X.K H (.ref a) (.type "list") := by
  rcases h with (h | ⟨o, h⟩) | ⟨o, its, n, h, hc, _⟩
  · exact .base (.lst h)
  · exact .base (.frz h)
  · exact .kList h hc
theorem sqT_ty {H : Hp} {a : Addr} {vs : List V} (h : SqT X.K H a vs) : TyX X.K H (.ref a) (.type "tuple") := by
  rcases h with (h | ⟨o, h⟩) | ⟨o, its, n, h, hc, _⟩
  · exact .base (.tup h)
  · exact .fTuple h
  · exact .kTuple h hc
theorem ty_rel {F H : Hp} {v : V} {d : D} {T : String} (k : Sh X.K X.w F H v d) (sm : Same F H) (h : tyD d = some T) : TyX X.K H v (.type T) := by
  cases d with
  | none =>
    have e : v = .non := by have := non_iff k; simpa [isNone] using this
    subst e; cases h; exact .base .non
  | bool b => cases k.bool; cases h; exact .base (.bl b)
  | int i => cases k.int; cases h; exact .base (.int i)
  | str x => cases k.str; cases h; exact .base (.str x)
  | list xs =>
    obtain ⟨a, vs, rfl, ha, ra⟩ := k.list sm
    cases h; exact sqL_ty ha
  | tuple xs =>
    obtain ⟨a, vs, rfl, ha, ra⟩ := k.tuple sm
    cases h; exact sqT_ty ha
  | dict _ => cases h
def isiB (T : String) (d : D) : Option Bool := match d with
  | .dict _ => none
  | .none => kitB "NoneType" T
  | .bool _ => kitB "bool" T
  | .int _ => kitB "int" T
  | .str _ => kitB "str" T
  | .list _ => kitB "list" T
  | .tuple _ => kitB "tuple" T
theorem isiB_ty {T : String} {d : D} {b : Bool} (h : isiB T d = some b) : ∃ t, tyD d = some t ∧ kitB t T = some b := by
  cases d <;> first | exact ⟨_, rfl, h⟩ | cases h
def isiD (T : String) (d : D) : M D := match isiB T d with
  | some b => mok (.bool b)
  | none => none
theorem de_isi {T x : Str} {t : String} {p p2 : Pos} (hg : Gl X "isinstance") (hm : X.mg "isinstance" = none) (hgT : Gl X x) (hmT : X.mg x = none) (hvT : bootBuiltins x = some (.type t)) (ha : DE X W .s a fa)
    (hn : x ≠ "__name__" := by decide) (hdb : (x == ("__debug__" : Str)) = false := by decide) (hs : starEach [a, .Name x p2] X.env = (false, eval a X.env) :: starEach [.Name x p2] X.env := by rfl)
    (hs2 : starEach [.Name x p2] X.env = (false, eval (.Name x p2) X.env) :: starEach [] X.env := by rfl) (hpl : (backTo pos (starEach [.Name x p2] X.env)).any (·.1) = false := by rfl) :
    DE X W .v (.Call (.Name "isinstance" p) [a, .Name x p2] [] pos) (d1 (isiD t) fa) := by
  obtain ⟨ta, ha, qa⟩ := ha
  refine ⟨_, pe_callB call_isi hg hm (by decide +kernel) (pa_cons ha (pa_cons (pe_bltn (v := .ty t) hgT hmT hvT rfl hn hdb) pa_nil hs2) hs) (by decide) (by decide) hs hpl, fun B F H σ env Q ok h => ?_⟩
  refine qa B F H σ env _ ok (h.bind.mono (fun d k v F' H' x r => ?_) fun c k => k)
  unfold isiD at k
  split at k
  · rename_i b hb
    obtain ⟨T', h1, h2⟩ := isiB_ty hb
    exact ⟨v, .ty t, .type T', .type t, b, rfl, .ty t, ty_rel r x.fh h1, kit_ty h2, k _ F' H' x (.bl b)⟩
  · exact k.elim
end
end DL

/-! The data layer, part 5: statements, calls of defs, defs. -/
namespace DL
open PySem PySem.Spec PyProof.Rows L2

inductive Out where
  | nx (env : DEnv)
  | rt (o : Bool) (d : D)
  | bk (env : DEnv)
  | ct (env : DEnv)
  | xc (c : Value) (env : DEnv)
def mdOf (o : Bool) : Md := if o then .o else .v
def OutOk {hd : Option Value} (K : PySem.W.Frag) (w : World) (B : Bs hd) (W : WX) (D : Ends) : Out → Prop
  | .nx e => ∀ F H σ, EnvOk K w B F H σ e → D.nx σ H
  | .rt o d => ∀ F H v, Ext B.F B.H F H → RM K w B.H F H (mdOf o) v d → D.rt v H
  | .bk e => ∀ F H σ, EnvOk K w B F H σ e → D.bk σ H
  | .ct e => ∀ F H σ, EnvOk K w B F H σ e → D.ct σ H
  | .xc c e => ∀ F H σ, EnvOk K w B F H σ e → W c none σ H
def AnsO (m : Option Out) (p : Out → Prop) : Prop := match m with
  | none => False
  | some o => p o
structure DS (X : Cx) (W : WX) (st : Stmt) (g : DEnv → Option Out) : Prop where
  run : ∃ t : TS, PS X st t ∧ ∀ (B : Bs X.A.handled) (F H : Hp) (σ : L2.St) (env : DEnv) (D : Ends), EnvOk X.K X.w B F H σ env → AnsO (g env) (OutOk X.K X.w B W D) → t D σ H
structure DSs (X : Cx) (W : WX) (st : List Stmt) (g : DEnv → Option Out) : Prop where
  run : ∃ t : TS, PSs X st t ∧ ∀ (B : Bs X.A.handled) (F H : Hp) (σ : L2.St) (env : DEnv) (D : Ends), EnvOk X.K X.w B F H σ env → AnsO (g env) (OutOk X.K X.w B W D) → t D σ H
/-- from an expression's answer to a statement's -/
def eS {α : Type} (m : M α) (env : DEnv) (k : α → Option Out) : Option Out := match m with
  | none => none
  | some (.error c) => some (.xc c env)
  | some (.ok a) => k a
@[simp] theorem eS_ok {α : Type} (a : α) (env : DEnv) (k : α → Option Out) : eS (some (.ok a)) env k = k a := rfl
@[simp] theorem eS_mok {α : Type} (a : α) (env : DEnv) (k : α → Option Out) : eS (mok a) env k = k a := rfl
theorem AnsO.eS {α : Type} {m : M α} {env : DEnv} {k : α → Option Out} {K : PySem.W.Frag} {w : World} {hd : Option Value} {B : Bs hd} {W : WX} {D : Ends} {F H : Hp} {σ : L2.St} (ok : EnvOk K w B F H σ env) (h : AnsO (eS m env k) (OutOk K w B W D)) :
    Ans m (fun a => AnsO (k a) (OutOk K w B W D)) (fun c => ∀ F' H', Ext F H F' H' → W c none σ H') := by
  cases m with
  | none => exact h
  | some r =>
    cases r with
    | error c => exact fun F' H' e => h F' H' σ (ok.mono e)
    | ok a => exact h
theorem AnsO.mono {m : Option Out} {p q : Out → Prop} (h : AnsO m p) (k : ∀ o, m = some o → p o → q o) : AnsO m q := by
  cases m with
  | none => exact h
  | some o => exact k o rfl h

section
variable {X : Cx} {W : WX} {e a b : Expr} {f fa fb : DEnv → M D} {pos : Pos} {st : Stmt} {rest : List Stmt} {g h : DEnv → Option Out}
/-! ### blocks -/
def dNx (env : DEnv) : Option Out := some (.nx env)
def dSeq (g h : DEnv → Option Out) (env : DEnv) : Option Out := match g env with
  | some (.nx e) => h e
  | o => o
theorem dss_nil : DSs X W [] dNx := ⟨_, pss_nil, fun B F H σ env D ok h => h F H σ ok⟩
theorem dss_one (hs : DS X W st g) : DSs X W [st] g := by
  obtain ⟨t, hs, q⟩ := hs
  exact ⟨t, pss_one hs, q⟩
theorem dss_cons (hs : DS X W st g) (hr : DSs X W rest h) : DSs X W (st :: rest) (dSeq g h) := by
  obtain ⟨t, hs, q⟩ := hs
  obtain ⟨u, hr, qr⟩ := hr
  refine ⟨_, pss_cons hs hr, fun B F H σ env D ok k => q B F H σ env _ ok ?_⟩
  unfold dSeq at k
  cases hg : g env with
  | none => rw [hg] at k; exact k
  | some o =>
    rw [hg] at k
    cases o with
    | nx e1 => exact fun F1 H1 σ1 ok1 => qr B F1 H1 σ1 e1 D ok1 k
    | rt o d => exact k
    | bk e1 => exact k
    | ct e1 => exact k
    | xc c e1 => exact k
/-- a slot's own list is frozen from here on -/
def dFrz (i : Nat) (g : DEnv → Option Out) (env : DEnv) : Option Out := g (frzE i env)
theorem dss_frz (i : Nat) (hr : DSs X W rest h) : DSs X W rest (dFrz i h) := by
  obtain ⟨u, hr, qr⟩ := hr
  refine ⟨u, hr, fun B F H σ env D ok k => ?_⟩
  obtain ⟨F', _, ok'⟩ := ok.freeze i
  exact qr B F' H σ _ D ok' k
/-- a slot is forgotten -/
def dDrop (i : Nat) (g : DEnv → Option Out) (env : DEnv) : Option Out := g (env.set i none)
theorem set_self {σ : L2.St} {i : Nat} : ∃ o, σ.set i o = σ := by
  cases q : σ[i]? with
  | none =>
    refine ⟨none, List.set_eq_of_length_le ?_⟩
    exact List.getElem?_eq_none_iff.mp q
  | some o =>
    obtain ⟨h1, h2⟩ := List.getElem?_eq_some_iff.mp q
    refine ⟨o, ?_⟩
    rw [← h2]
    exact List.set_getElem_self h1
theorem dss_drop (i : Nat) (hr : DSs X W rest h) : DSs X W rest (dDrop i h) := by
  obtain ⟨u, hr, qr⟩ := hr
  refine ⟨u, hr, fun B F H σ env D ok k => ?_⟩
  obtain ⟨o, eo⟩ := set_self (σ := σ) (i := i)
  have ok' := ok.drop i o
  rw [eo] at ok'
  exact qr B F H σ _ D ok' k
theorem ds_pass : DS X W (.Pass pos) dNx := ⟨_, ps_pass, fun B F H σ env D ok h => h F H σ ok⟩
theorem ds_doc {x j pos'} : DS X W (.Expr (.Constant (.str x) j pos) pos') dNx := ⟨_, ps_doc, fun B F H σ env D ok h => h F H σ ok⟩
def dBk (env : DEnv) : Option Out := some (.bk env)
def dCt (env : DEnv) : Option Out := some (.ct env)
theorem ds_break : DS X W (.Break pos) dBk := ⟨_, ps_break, fun B F H σ env D ok h => h F H σ ok⟩
theorem ds_continue : DS X W (.Continue pos) dCt := ⟨_, ps_continue, fun B F H σ env D ok h => h F H σ ok⟩
/-- a statement that is not come to -/
def dNever (_ : DEnv) : Option Out := none
theorem ds_never : DS X W st dNever := ⟨_, ps_never, fun B F H σ env D ok h => h.elim⟩
theorem dss_never : DSs X W rest dNever := ⟨_, pss_never, fun B F H σ env D ok h => h.elim⟩
/-! ### expressions as statements, assignments -/
def dExpr (f : DEnv → M D) (env : DEnv) : Option Out := eS (f env) env fun _ => some (.nx env)
theorem ds_expr (he : DE X W .s e f) (hs : swapsWith e none pos.line X.env = pure false := by rfl) : DS X W (.Expr e pos) (dExpr f) := by
  obtain ⟨t, he, q⟩ := he
  exact ⟨_, ps_expr he hs, fun B F H σ env D ok h => q B F H σ env _ ok ((AnsO.eS ok h).mono (fun d k v F' H' x r => k F' H' σ (ok.mono x)) fun c k => k)⟩
def dSet (i : Nat) (f : DEnv → M D) (env : DEnv) : Option Out := eS (f env) env fun d => some (.nx (env.set i (some (.fz d))))
def dSetO (i : Nat) (f : DEnv → M D) (env : DEnv) : Option Out := eS (f env) env fun d => some (.nx (env.set i (some (.ow d))))
theorem setV {i : Nat} {B : Bs X.A.handled} {F H : Hp} {σ : L2.St} {env : DEnv} {D : Ends} (ok : EnvOk X.K X.w B F H σ env) (h : AnsO (dSet i f env) (OutOk X.K X.w B W D)) :
    Ans (f env) (fun d => ∀ v F' H', Ext F H F' H' → RM X.K X.w H F' H' .v v d → D.nx (σ.set i (some v)) H') (fun c => ∀ F' H', Ext F H F' H' → W c none σ H') :=
  (AnsO.eS ok h).mono (fun d k v F' H' x r => k F' H' _ ((ok.mono x).setF r)) fun c k => k
theorem setO {i : Nat} {B : Bs X.A.handled} {F H : Hp} {σ : L2.St} {env : DEnv} {D : Ends} (ok : EnvOk X.K X.w B F H σ env) (h : AnsO (dSetO i f env) (OutOk X.K X.w B W D)) :
    Ans (f env) (fun d => ∀ v F' H', Ext F H F' H' → RM X.K X.w H F' H' .o v d → D.nx (σ.set i (some v)) H') (fun c => ∀ F' H', Ext F H F' H' → W c none σ H') :=
  (AnsO.eS ok h).mono (fun d k v F' H' x r => by
    obtain ⟨ow, a, rfl, h1, h2⟩ := r
    exact k F' H' _ (ok.setO ow x h1 h2)) fun c k => k
theorem ds_set {i : Nat} {x : Str} {pos' : Pos} (hN : X.N.Nodup) (hi : X.N[i]? = some x) (hx : Loc X.env.scope x) (he : DE X W .v e f) (hs : swapsWith e (some (.Name x pos')) pos.line X.env = pure false := by rfl)
    (hf : X.fn x = true ∨ X.env.scope.names.lookup x = some .local := by first | exact .inl rfl | exact .inr rfl | assumption) : DS X W (.Assign [.Name x pos'] e pos) (dSet i f) := by
  obtain ⟨t, he, q⟩ := he
  exact ⟨_, ps_set hN hi hx he hs hf, fun B F H σ env D ok h => q B F H σ env _ ok (setV ok h)⟩
theorem ds_setO {i : Nat} {x : Str} {pos' : Pos} (hN : X.N.Nodup) (hi : X.N[i]? = some x) (hx : Loc X.env.scope x) (he : DE X W .o e f) (hs : swapsWith e (some (.Name x pos')) pos.line X.env = pure false := by rfl)
    (hf : X.fn x = true ∨ X.env.scope.names.lookup x = some .local := by first | exact .inl rfl | exact .inr rfl | assumption) : DS X W (.Assign [.Name x pos'] e pos) (dSetO i f) := by
  obtain ⟨t, he, q⟩ := he
  exact ⟨_, ps_set hN hi hx he hs hf, fun B F H σ env D ok h => q B F H σ env _ ok (setO ok h)⟩
/-- y = x, x's own list handed on -/
def dMove (i j : Nat) (env : DEnv) : Option Out := match env[j]? with
  | some (some s) => some (.nx ((env.set j none).set i (some s)))
  | _ => none
theorem EnvOk.move {K : PySem.W.Frag} {w : World} {hd : Option Value} {B : Bs hd} {F H : Hp} {σ : L2.St} {env : DEnv} (x : EnvOk K w B F H σ env) {i j : Nat} {s : Sl} {v : V} (q : env[j]? = some (some s)) (hv : σ[j]? = some (some v)) :
    EnvOk K w B F H (σ.set i (some v)) ((env.set j none).set i (some s)) := by
  obtain ⟨v', h1, h2⟩ := x.sl j s q
  rw [hv] at h1; cases h1
  have hj : j < env.length := by
    rcases Nat.lt_or_ge j env.length with z | z
    · exact z
    · rw [List.getElem?_eq_none z] at q; cases q
  have key : ∀ (m : Nat) (t : Sl), ((env.set j none).set i (some s))[m]? = some (some t) → (m = i ∧ t = s) ∨ (m ≠ i ∧ m ≠ j ∧ env[m]? = some (some t)) := fun m t r => by
    by_cases hm : i = m
    · subst hm
      by_cases hl : i < (env.set j none).length
      · rw [List.getElem?_set_self hl] at r; cases r; exact .inl ⟨rfl, rfl⟩
      · rw [List.getElem?_eq_none (by simpa using hl)] at r; cases r
    · rw [List.getElem?_set_ne hm] at r
      by_cases hm2 : j = m
      · subst hm2; rw [List.getElem?_set_self hj] at r; cases r
      · rw [List.getElem?_set_ne hm2] at r; exact .inr ⟨fun z => hm z.symm, fun z => hm2 z.symm, r⟩
  have inb : ∀ (m : Nat) (t : Sl), ((env.set j none).set i (some s))[m]? = some (some t) → m < σ.length := fun m t r => by
    rcases Nat.lt_or_ge m σ.length with z | z
    · exact z
    · rw [List.getElem?_eq_none (by simp; rw [x.len]; exact z)] at r; cases r
  refine ⟨x.ext, by simpa using x.len, fun m t r => ?_, fun m n d e a hmn h3 h4 h5 h6 => ?_⟩
  · rcases key m t r with ⟨rfl, rfl⟩ | ⟨h3, h4, h5⟩
    · exact ⟨v, List.getElem?_set_self (inb _ _ r), h2⟩
    · rw [List.getElem?_set_ne (Ne.symm h3)]
      exact x.sl m t h5
  · rcases key m _ h3 with ⟨rfl, e1⟩ | ⟨g1, g2, g3⟩
    · rcases key n _ h4 with ⟨rfl, e2⟩ | ⟨k1, k2, k3⟩
      · exact hmn rfl
      · rw [List.getElem?_set_self (inb _ _ h3)] at h5
        rw [List.getElem?_set_ne (Ne.symm k1)] at h6
        cases h5
        subst e1
        exact x.ap j n d e a (Ne.symm k2) q k3 hv h6
    · rcases key n _ h4 with ⟨rfl, e2⟩ | ⟨k1, k2, k3⟩
      · rw [List.getElem?_set_self (inb _ _ h4)] at h6
        rw [List.getElem?_set_ne (Ne.symm g1)] at h5
        cases h6
        subst e2
        exact x.ap m j d e a g2 g3 q h5 hv
      · rw [List.getElem?_set_ne (Ne.symm g1)] at h5
        rw [List.getElem?_set_ne (Ne.symm k1)] at h6
        exact x.ap m n d e a hmn g3 k3 h5 h6
theorem ds_move {i j : Nat} {x y : Str} {pos' p2 : Pos} (hN : X.N.Nodup) (hi : X.N[i]? = some x) (hx : Loc X.env.scope x) (hj : X.N[j]? = some y) (hv : Vis X.env.scope y := by first | exact Or.inl rfl | exact Or.inr (Or.inl rfl) | exact Or.inr (Or.inr rfl))
    (hd : (y == ("__debug__" : Str)) = false := by decide) (hcd : (y == ("__classdict__" : Str)) = false := by decide) (hs : swapsWith (.Name y p2) (some (.Name x pos')) pos.line X.env = pure false := by rfl)
    (hf : X.fn x = true ∨ X.env.scope.names.lookup x = some .local := by first | exact .inl rfl | exact .inr rfl | assumption) : DS X W (.Assign [.Name x pos'] (.Name y p2) pos) (dMove i j) := by
  refine ⟨_, ps_set hN hi hx (pe_var hj hv hd hcd) hs hf, fun B F H σ env D ok h => ?_⟩
  unfold dMove at h
  split at h
  · rename_i s q
    obtain ⟨v, h1, h2⟩ := ok.sl j _ q
    exact ⟨v, h1, h F H _ (ok.move q h1)⟩
  · exact h.elim
/-! ### return, if -/
def dRet (f : DEnv → M D) (env : DEnv) : Option Out := eS (f env) env fun d => some (.rt false d)
def dRetO (f : DEnv → M D) (env : DEnv) : Option Out := eS (f env) env fun d => some (.rt true d)
def dRetN (_ : DEnv) : Option Out := some (.rt false .none)
theorem ds_ret (he : DE X W .v e f) : DS X W (.Return (some e) pos) (dRet f) := by
  obtain ⟨t, he, q⟩ := he
  exact ⟨_, ps_ret he, fun B F H σ env D ok h => q B F H σ env _ ok ((AnsO.eS ok h).mono (fun d k v F' H' x r => k F' H' v (ok.ext.trans x) r) fun c k => k)⟩
theorem ds_retO (he : DE X W .o e f) : DS X W (.Return (some e) pos) (dRetO f) := by
  obtain ⟨t, he, q⟩ := he
  exact ⟨_, ps_ret he, fun B F H σ env D ok h => q B F H σ env _ ok ((AnsO.eS ok h).mono (fun d k v F' H' x r => k F' H' v (ok.ext.trans x) (RM.back ok.ext.hh r)) fun c k => k)⟩
theorem ds_retN : DS X W (.Return none pos) dRetN := ⟨_, ps_retN, fun B F H σ env D ok h => h F H .non ok.ext .non⟩
def dRetVar (i : Nat) (env : DEnv) : Option Out := match env[i]? with
  | some (some (.fz d)) => some (.rt false d)
  | some (some (.ow d)) => some (.rt true d)
  | _ => none
theorem ds_retVar (i : Nat) {x : Str} {p2 : Pos} (hN : X.N[i]? = some x := by rfl) (hv : Vis X.env.scope x := by first | exact Or.inl rfl | exact Or.inr (Or.inl rfl) | exact Or.inr (Or.inr rfl)) (hd : (x == ("__debug__" : Str)) = false := by decide)
    (hcd : (x == ("__classdict__" : Str)) = false := by decide) : DS X W (.Return (some (.Name x p2)) pos) (dRetVar i) := by
  refine ⟨_, ps_ret (pe_var hN hv hd hcd), fun B F H σ env D ok h => ?_⟩
  unfold dRetVar at h
  split at h
  · rename_i d q
    obtain ⟨v, h1, h2⟩ := ok.sl i _ q
    exact ⟨v, h1, h F H v ok.ext h2⟩
  · rename_i d q
    obtain ⟨v, h1, h2⟩ := ok.sl i _ q
    exact ⟨v, h1, h F H v ok.ext h2⟩
  · exact h.elim
def dIfS (p : DEnv → M Bool) (g h : DEnv → Option Out) (env : DEnv) : Option Out := eS (p env) env fun b => if b then g env else h env
theorem ds_if {c : Expr} {p : DEnv → M Bool} {s1 s2 : List Stmt} (hc : DT X W c p) (ha : DSs X W s1 g) (hb : DSs X W s2 h) : DS X W (.If c s1 s2 pos) (dIfS p g h) := by
  obtain ⟨tc, hc, qc⟩ := hc
  obtain ⟨ta, ha, qa⟩ := ha
  obtain ⟨tb, hb, qb⟩ := hb
  refine ⟨_, ps_if hc ha hb, fun B F H σ env D ok k => qc B F H σ env _ ok ((AnsO.eS ok k).mono (fun b k F' H' x => ?_) fun c k => k)⟩
  cases b with
  | true => exact qa B F' H' σ env D (ok.mono x) k
  | false => exact qb B F' H' σ env D (ok.mono x) k

/-! ### a name's own list changed -/
theorem own_list {K : PySem.W.Frag} {w : World} {hd : Option Value} {B : Bs hd} {F H : Hp} {σ : L2.St} {env : DEnv} {i : Nat} {ds : List D} (ok : EnvOk K w B F H σ env) (q : env[i]? = some (some (.ow (.list ds)))) :
    ∃ a vs, σ[i]? = some (some (.ref a)) ∧ H a = some (.lst vs) ∧ RpA K w F vs ds ∧ F a = none := by
  obtain ⟨v, h1, h2, a, rfl, h4, h5⟩ := ok.sl i _ q
  obtain ⟨b, e0, ⟨vs, es, e1, e2, r⟩ | ⟨es, kvs, e1, e2, r⟩⟩ := h2
  · cases e0; cases e1
    exact ⟨a, vs, h1, e2, r, h5⟩
  · cases e1
def dApp (i : Nat) (f : DEnv → M D) (env : DEnv) : Option Out := match env[i]? with
  | some (some (.ow (.list ds))) => eS (f env) env fun d => if ds.length < sizeLine then some (.nx (env.set i (some (.ow (.list (ds ++ [d])))))) else none
  | _ => none
theorem ds_append {i : Nat} {x : Str} {p2 apos cpos : Pos} (ha : DE X W .v a fa) (hi : X.N[i]? = some x := by rfl) (hv : Vis X.env.scope x := by first | exact Or.inl rfl | exact Or.inr (Or.inl rfl) | exact Or.inr (Or.inr rfl))
    (hd : (x == ("__debug__" : Str)) = false := by decide) (hcd : (x == ("__classdict__" : Str)) = false := by decide)
    (hbase : attributeBase (.Name x p2) "append" X.env (eval (.Name x p2) X.env) = eval (.Name x p2) X.env := by rfl)
    (hfew : ((backTo cpos (starEach [a] X.env)).all (fun x => !x.1) && (backToKw cpos (keywordEach [] X.env)).all (fun x => x.1.isSome)
      && decide ([a].length + ([] : List Keyword).length + (if ([] : List Keyword).isEmpty then 0 else 1) < 30)) = true := by rfl)
    (hline : (apos.endLine == cpos.line) = true := by rfl) (hs : starEach [a] X.env = (false, eval a X.env) :: starEach [] X.env := by rfl) (hplain : (backTo cpos (starEach [] X.env)).any (·.1) = false := by rfl)
    (hsw : swapsWith (.Call (.Attribute (.Name x p2) "append" apos) [a] [] cpos) none pos.line X.env = pure false := by rfl) :
    DS X W (.Expr (.Call (.Attribute (.Name x p2) "append" apos) [a] [] cpos) pos) (dApp i fa) := by
  obtain ⟨ta, ha, qa⟩ := ha
  refine ⟨_, ps_expr (pe_bm PySem.F.plainAttrs_list PySem.F.slot_list_append PySem.F.type_list_append mt_append (pe_var hi hv hd hcd) (pa_cons ha pa_nil hs) hbase hfew hline hs hplain) hsw, fun B F H σ env D ok h => ?_⟩
  unfold dApp at h
  split at h
  · rename_i ds q
    obtain ⟨l, vs, h1, h2, h3, h4⟩ := own_list ok q
    refine ⟨.ref l, h1, .inl ⟨rfl, _, .inl (.inl h2)⟩, qa B F H σ env _ ok ((AnsO.eS ok h).mono (fun d k v F' H' x r => ?_) fun c k => k)⟩
    split at k
    · rename_i hz
      refine ⟨l, vs, v, rfl, rfl, x.hh _ _ h2, by rw [h3.length]; exact hz, ?_⟩
      exact k F' _ σ ((ok.mono x).write q h1 ⟨l, rfl, .inl ⟨vs ++ [v], _, rfl, upd_same, (h3.mono x.ff).append (.cons r .nil)⟩⟩)
    · exact k.elim
  · exact h.elim
/-- x[k] = e -/
def dSetIx (i : Nat) (fk fe : DEnv → M D) (env : DEnv) : Option Out := match env[i]? with
  | some (some (.ow (.list ds))) => eS (fe env) env fun d => eS (fk env) env fun k => match k with
    | .int n => match ixN ds.length n with
      | some j => some (.nx (env.set i (some (.ow (.list (ds.set j d))))))
      | none => none
    | _ => none
  | _ => none
theorem ds_setIx {i : Nat} {x : Str} {p2 tpos : Pos} (hk : DE X W .v b fb) (he : DE X W .v a fa) (hi : X.N[i]? = some x := by rfl) (hv : Vis X.env.scope x := by first | exact Or.inl rfl | exact Or.inr (Or.inl rfl) | exact Or.inr (Or.inr rfl))
    (hd : (x == ("__debug__" : Str)) = false := by decide) (hcd : (x == ("__classdict__" : Str)) = false := by decide)
    (ha : ∀ v, assign (.Subscript (.Name x p2) b tpos) X.env v = (do
      let ov ← holding [v] (eval (.Name x p2) X.env)
      let iv ← holding [v, ov] (eval b X.env)
      standAt tpos
      holding [v, ov, iv] (setItem ov iv v)
      release [v, ov, iv] []) := by intro _; rfl)
    (hs : swapsWithSole [.Subscript (.Name x p2) b tpos] a pos.line X.env = pure false := by rfl) (hw : swappedStores [.Subscript (.Name x p2) b tpos] a X.env = pure none := by rfl)
    (h1 : (assignEach [.Subscript (.Name x p2) b tpos] X.env).map (·.2) = [assign (.Subscript (.Name x p2) b tpos) X.env] := by rfl) :
    DS X W (.Assign [.Subscript (.Name x p2) b tpos] a pos) (dSetIx i fb fa) := by
  obtain ⟨ta, he, qa⟩ := he
  obtain ⟨tb, hk, qb⟩ := hk
  refine ⟨_, ps_asg he (pg_sub (pe_var hi hv hd hcd) hk set_list ha) hs hw h1, fun B F H σ env D ok h => ?_⟩
  unfold dSetIx at h
  split at h
  · rename_i ds q
    obtain ⟨l, vs, g1, g2, g3, g4⟩ := own_list ok q
    refine qa B F H σ env _ ok ((AnsO.eS ok h).mono (fun d k v F1 H1 x1 r => ?_) fun c k => k)
    refine ⟨.ref l, g1, qb B F1 H1 σ env _ (ok.mono x1) ((AnsO.eS (ok.mono x1) k).mono (fun dk k u F2 H2 x2 r2 => ?_) fun c k => k)⟩
    have r2 : Rp X.K X.w F2 u dk := r2
    split at k
    · rename_i n
      cases r2
      split at k
      · rename_i j hj
        refine ⟨l, vs, _, j, rfl, rfl, x2.hh _ _ (x1.hh _ _ g2), by rw [g3.length]; exact hj, ?_⟩
        exact k F2 _ σ (((ok.mono x1).mono x2).write q g1 ⟨l, rfl, .inl ⟨vs.set j v, _, rfl, upd_same, RpA.set (Rp.mono x2.ff r) j ((g3.mono x1.ff).mono x2.ff)⟩⟩)
      · exact k.elim
    · exact k.elim
  · exact h.elim
/-- x += e, numbers and texts -/
def dAug (i : Nat) (g : D → D → M D) (f : DEnv → M D) (env : DEnv) : Option Out := match env[i]? with
  | some (some (.fz x)) => eS (mbind (f env) fun y => g x y) env fun d => some (.nx (env.set i (some (.fz d))))
  | _ => none
theorem ds_aug {i : Nat} {x : Str} {op : Operator} {g : D → D → M D} {pos' : Pos} (ho : OpR X (inplaceOp op) (rD X .v g)) (hg : ∀ x y c, g x y ≠ some (.error c)) (hN : X.N.Nodup) (hi : X.N[i]? = some x) (hx : Loc X.env.scope x) (he : DE X W .s e f)
    (hf : X.fn x = true ∨ X.env.scope.names.lookup x = some .local := by first | exact .inl rfl | exact .inr rfl | assumption) : DS X W (.AugAssign (.Name x pos') op e pos) (dAug i g f) := by
  obtain ⟨t, he, q⟩ := he
  refine ⟨_, ps_aug hN hi hx he ho hf, fun B F H σ env D ok h => ?_⟩
  unfold dAug at h
  split at h
  · rename_i d qd
    obtain ⟨v, h1, h2⟩ := ok.sl i _ qd
    refine ⟨v, h1, q B F H σ env _ ok ((AnsO.eS ok h).bind.mono (fun d2 k u F1 H1 x1 r => ?_) fun c k => k)⟩
    refine ⟨F1, d, d2, x1.fh, .inl (Rp.mono x1.ff h2), r, k.monoE (fun z _ k w F2 H2 x2 r2 => ?_) fun c z _ => hg _ _ _ z⟩
    exact k F2 H2 _ (((ok.mono x1).mono x2).setF r2)
  · exact h.elim
/-- x += e, x's own list -/
def dAugL (i : Nat) (f : DEnv → M D) (env : DEnv) : Option Out := match env[i]? with
  | some (some (.ow (.list ds))) => eS (f env) env fun d => match d with
    | .list es => if ds.length + es.length ≤ sizeLine then some (.nx (env.set i (some (.ow (.list (ds ++ es)))))) else none
    | _ => none
  | _ => none
theorem ds_augL {i : Nat} {x : Str} {pos' : Pos} (hN : X.N.Nodup) (hi : X.N[i]? = some x) (hx : Loc X.env.scope x) (he : DE X W .o e f)
    (hf : X.fn x = true ∨ X.env.scope.names.lookup x = some .local := by first | exact .inl rfl | exact .inr rfl | assumption) : DS X W (.AugAssign (.Name x pos') .Add e pos) (dAugL i f) := by
  obtain ⟨t, he, q⟩ := he
  refine ⟨_, ps_aug hN hi hx he iop_ext hf, fun B F H σ env D ok h => ?_⟩
  unfold dAugL at h
  split at h
  · rename_i ds qd
    obtain ⟨l, vs, g1, g2, g3, g4⟩ := own_list ok qd
    refine ⟨.ref l, g1, q B F H σ env _ ok ((AnsO.eS ok h).mono (fun d k u F1 H1 x1 r => ?_) fun c k => k)⟩
    split at k
    · rename_i es
      split at k
      · rename_i hz
        obtain ⟨⟨b, rfl, ⟨us, es', e1, e2, e3⟩ | ⟨_, _, e1, _⟩⟩, _⟩ := r
        · cases e1
          refine ⟨l, b, vs, us, rfl, rfl, x1.hh _ _ g2, e2, by rw [g3.length, e3.length]; exact hz, ?_⟩
          have ok2 := (ok.mono x1).write (d' := .list (ds ++ es)) (o := .lst (vs ++ us)) qd g1 ⟨l, rfl, .inl ⟨vs ++ us, _, rfl, upd_same, (g3.mono x1.ff).append e3⟩⟩
          have hl : i < σ.length := by
            rcases Nat.lt_or_ge i σ.length with z | z
            · exact z
            · rw [List.getElem?_eq_none z] at g1; cases g1
          have es : σ.set i (some (V.ref l)) = σ := by
            obtain ⟨p1, p2⟩ := List.getElem?_eq_some_iff.mp g1
            rw [← p2]
            exact List.set_getElem_self p1
          show D.nx (List.set σ i (some (V.ref l))) (upd H1 l (HO.lst (vs ++ us)))
          rw [es]
          exact k F1 _ σ ok2
        · cases e1
      · exact k.elim
    · exact k.elim
  · exact h.elim
end
end DL

/-! The data layer, part 6: targets, what is walked, for, while, comprehensions, calls of defs, defs. -/
namespace DL
open PySem PySem.Spec PyProof.Rows L2

/-! ### targets -/
/-- the slots sl alone may differ -/
def SameOut (sl : List Nat) (σ σ' : L2.St) : Prop := ∀ vs : List Nat, (∀ i ∈ sl, i ∈ vs) → wipe σ' vs = wipe σ vs
structure DG (X : Cx) (tg : Expr) (sl : List Nat) (f : D → DEnv → Option DEnv) : Prop where
  run : ∃ t : TG, PG X tg t ∧ ∀ (B : Bs X.A.handled) (F H : Hp) (σ : L2.St) (env env' : DEnv) (v : V) (d : D) (Q : L2.St → Hp → Prop), EnvOk X.K X.w B F H σ env → Rp X.K X.w F v d → f d env = some env' →
    (∀ σ', EnvOk X.K X.w B F H σ' env' → SameOut sl σ σ' → Q σ' H) → t v σ H Q
structure DGs (X : Cx) (ts : List Expr) (sl : List Nat) (f : List D → DEnv → Option DEnv) : Prop where
  run : ∃ t : TGs, PGs X ts t ∧ ∀ (B : Bs X.A.handled) (F H : Hp) (σ : L2.St) (env env' : DEnv) (vs : List V) (ds : List D) (Q : L2.St → Hp → Prop), EnvOk X.K X.w B F H σ env → RpA X.K X.w F vs ds → f ds env = some env' →
    (∀ σ', EnvOk X.K X.w B F H σ' env' → SameOut sl σ σ' → Q σ' H) → t vs σ H Q
theorem wipe_set (σ : L2.St) (i : Nat) (o : Option V) : ∀ vs : List Nat, i ∈ vs → wipe (σ.set i o) vs = wipe σ vs := by
  have key : ∀ vs : List Nat, (i ∈ vs → wipe (σ.set i o) vs = wipe σ vs) ∧ (i ∉ vs → wipe (σ.set i o) vs = (wipe σ vs).set i o) := by
    intro vs
    induction vs with
    | nil => exact ⟨fun h => (by cases h), fun _ => rfl⟩
    | cons v vs ih =>
      refine ⟨fun h => ?_, fun h => ?_⟩
      · unfold wipe
        by_cases hv : i ∈ vs
        · rw [ih.1 hv]
        · have e : i = v := by
            rcases List.mem_cons.mp h with z | z
            · exact z
            · exact absurd z hv
          subst e
          rw [ih.2 hv, List.set_set]
      · unfold wipe
        rw [List.mem_cons, not_or] at h
        rw [ih.2 h.2, List.set_comm _ _ h.1]
  exact fun vs h => (key vs).1 h
def gN (i : Nat) (d : D) (env : DEnv) : Option DEnv := some (env.set i (some (.fz d)))
def gNil' (ds : List D) (env : DEnv) : Option DEnv := match ds with
  | [] => some env
  | _ => none
def gCons' (f : D → DEnv → Option DEnv) (g : List D → DEnv → Option DEnv) (ds : List D) (env : DEnv) : Option DEnv := match ds with
  | d :: r => (f d env).bind fun e => g r e
  | [] => none
def gT (n : Nat) (g : List D → DEnv → Option DEnv) (d : D) (env : DEnv) : Option DEnv := match d with
  | .tuple ds => if ds.length = n then g ds env else none
  | _ => none
section
variable {X : Cx} {W : WX} {e a b : Expr} {f fa fb : DEnv → M D} {pos : Pos} {st : Stmt} {rest : List Stmt} {g h : DEnv → Option Out}
theorem dg_name {i : Nat} {x : Str} (hN : X.N.Nodup) (hi : X.N[i]? = some x) (hx : Loc X.env.scope x) (hf : X.fn x = true ∨ X.env.scope.names.lookup x = some .local := by first | exact .inl rfl | exact .inr rfl | assumption) : DG X (.Name x pos) [i] (gN i) := by
  refine ⟨_, pg_name hN hi hx hf, fun B F H σ env env' v d Q ok r e q => ?_⟩
  cases e
  exact q _ (ok.setF r) fun vs h => wipe_set _ _ _ vs (h i List.mem_cons_self)
theorem dgs_nil : DGs X [] [] gNil' := by
  refine ⟨_, pgs_nil, fun B F H σ env env' vs ds Q ok r e q => ?_⟩
  cases r with
  | nil => cases e; exact ⟨rfl, q _ ok fun _ _ => rfl⟩
  | cons _ _ => cases e
theorem dgs_cons {t1 : Expr} {ts : List Expr} {s1 s2 : List Nat} {p : D → DEnv → Option DEnv} {q : List D → DEnv → Option DEnv} (h1 : DG X t1 s1 p) (h2 : DGs X ts s2 q)
    (hs : (assignEach (t1 :: ts) X.env).map (·.2) = assign t1 X.env :: (assignEach ts X.env).map (·.2) := by rfl) : DGs X (t1 :: ts) (s1 ++ s2) (gCons' p q) := by
  obtain ⟨t, h1, q1⟩ := h1
  obtain ⟨u, h2, q2⟩ := h2
  refine ⟨_, pgs_cons h1 h2 hs, fun B F H σ env env' vs ds Q ok r e k => ?_⟩
  cases r with
  | nil => cases e
  | cons r rs =>
    obtain ⟨e1, g1, g2⟩ := Option.bind_eq_some_iff.mp e
    exact ⟨_, _, rfl, q1 B F H σ env e1 _ _ _ ok r g1 fun σ1 ok1 so1 => q2 B F H σ1 e1 env' _ _ Q ok1 rs g2 fun σ2 ok2 so2 => k σ2 ok2 fun vs hv => (so2 vs fun i hi => hv i (List.mem_append_right _ hi)).trans (so1 vs fun i hi => hv i (List.mem_append_left _ hi))⟩
theorem dg_tup {ts : List Expr} {sl : List Nat} {k n : Nat} {q : List D → DEnv → Option DEnv} (hc : X.calm = true) (h : DGs X ts sl q) (hn : (assignEach ts X.env).length = n := by rfl) (hst : (assignEach ts X.env).findIdx? (·.1) = none := by rfl) : DG X (.Tuple ts k pos) sl (gT n q) := by
  obtain ⟨t, h, qq⟩ := h
  refine ⟨_, pg_tup hc h hn hst, fun B F H σ env env' v d Q ok r e k => ?_⟩
  unfold gT at e
  split at e
  · split at e
    · rename_i hl
      cases r with
      | tup hs ra =>
        exact ⟨_, _, rfl, sqT_mono ok.fh hs, by rw [ra.length]; exact hl, qq B F H σ env env' _ _ Q ok ra e k⟩
    · cases e
  · cases e
/-- targets = e -/
def dAsg (p : D → DEnv → Option DEnv) (f : DEnv → M D) (env : DEnv) : Option Out := eS (f env) env fun d => match p d env with
  | some e => some (.nx e)
  | none => none
theorem ds_asg {tg : Expr} {sl : List Nat} {p : D → DEnv → Option DEnv} (hg : DG X tg sl p) (he : DE X W .v e f) (hs : swapsWithSole [tg] e pos.line X.env = pure false := by rfl) (hw : swappedStores [tg] e X.env = pure none := by rfl)
    (h1 : (assignEach [tg] X.env).map (·.2) = [assign tg X.env] := by rfl) : DS X W (.Assign [tg] e pos) (dAsg p f) := by
  obtain ⟨t, he, q⟩ := he
  obtain ⟨u, hg, qg⟩ := hg
  refine ⟨_, ps_asg he hg hs hw h1, fun B F H σ env D ok h => q B F H σ env _ ok ((AnsO.eS ok h).mono (fun d k v F' H' x r => ?_) fun c k => k)⟩
  split at k
  · rename_i e1 he1
    exact qg B F' H' σ env e1 v d _ (ok.mono x) r he1 fun σ' ok' _ => k F' H' σ' ok'
  · exact k.elim

/-! ### what is walked: the iterable is frozen -/
def ItOk (K : PySem.W.Frag) (w : World) (J : It) (F : Hp) (ds : List D) : Prop :=
  (∀ F2 H2 i d, Same F F2 → Same F2 H2 → ds[i]? = some d → J.go i H2 ∧ ∀ x H3, J.yld i H2 x H3 → ∃ F3, Ext F2 H2 F3 H3 ∧ Rp K w F3 x d) ∧ ∀ F2 H2, Same F F2 → Same F2 H2 → J.stop ds.length H2
structure DI (X : Cx) (W : WX) (tg iter : Expr) (f : DEnv → M (List D)) : Prop where
  run : ∃ wi : TI, PI X tg iter wi ∧ ∀ (B : Bs X.A.handled) (F H : Hp) (σ : L2.St) (env : DEnv) (R : It → Hp → Prop), EnvOk X.K X.w B F H σ env →
    Ans (f env) (fun ds => ∀ J F' H', Ext F H F' H' → ItOk X.K X.w J F' ds → R J H') (fun c => ∀ F' H', Ext F H F' H' → W c none σ H') → wi σ H R
def asSeq : D → M (List D)
  | .list ds => mok ds
  | _ => none
def asTup : D → M (List D)
  | .tuple ds => mok ds
  | _ => none
def dIt (s : D → M (List D)) (f : DEnv → M D) (env : DEnv) : M (List D) := mbind (f env) s
theorem di_list {tg : Expr} (he : DE X W .v e f) : DI X W tg e (dIt asSeq f) := by
  obtain ⟨t, he, q⟩ := he
  refine ⟨_, pi_list he, fun B F H σ env R ok h => q B F H σ env _ ok (h.bind.mono (fun d k v F' H' x r => ?_) fun c k => k)⟩
  have r : Rp X.K X.w F' v d := r
  cases r with
  | lst hs ra =>
    refine ⟨_, rfl, ⟨_, x.fh.seq hs⟩, k _ F' H' x ⟨fun F2 H2 i d1 s1 s2 hd => ?_, fun F2 H2 s1 s2 => ?_⟩⟩
    · have hq := (s1.trans s2).seq hs
      obtain ⟨u, h1, h2⟩ := ra.get hd
      refine ⟨⟨_, u, hq, h1⟩, fun x1 H3 y => ?_⟩
      obtain ⟨rfl, y⟩ := y
      have e2 := (y _ hq).symm.trans h1
      cases e2
      exact ⟨F2, .refl s2, h2.mono s1⟩
    · exact ⟨_, (s1.trans s2).seq hs, by rw [ra.length]; exact Nat.le_refl _⟩
  | _ => exact k.elim
theorem di_tup {tg : Expr} (he : DE X W .v e f) : DI X W tg e (dIt asTup f) := by
  obtain ⟨t, he, q⟩ := he
  refine ⟨_, pi_tup he, fun B F H σ env R ok h => q B F H σ env _ ok (h.bind.mono (fun d k v F' H' x r => ?_) fun c k => k)⟩
  have r : Rp X.K X.w F' v d := r
  cases r with
  | tup hs ra =>
    refine ⟨_, rfl, ⟨_, sqT_mono x.fh hs⟩, k _ F' H' x ⟨fun F2 H2 i d1 s1 s2 hd => ?_, fun F2 H2 s1 s2 => ?_⟩⟩
    · have hq := sqT_mono (s1.trans s2) hs
      obtain ⟨u, h1, h2⟩ := ra.get hd
      refine ⟨⟨_, u, hq, h1⟩, fun x1 H3 y => ?_⟩
      obtain ⟨rfl, y⟩ := y
      have e2 := (y _ hq).symm.trans h1
      cases e2
      exact ⟨F2, .refl s2, h2.mono s1⟩
    · exact ⟨_, sqT_mono (s1.trans s2) hs, by rw [ra.length]; exact Nat.le_refl _⟩
  | _ => exact k.elim
/-- range -/
def rngL (lo hi : Int) : List D := (List.range (hi - lo).toNat).map fun (i : Nat) => PyData.int (lo + (i : Int))
theorem rng_ok {K : PySem.W.Frag} {w : World} {F : Hp} {lo hi : Int} : ItOk K w (Itr lo (hi - lo).toNat) F (rngL lo hi) := by
  refine ⟨fun F2 H2 i d s1 s2 hd => ?_, fun F2 H2 s1 s2 => ?_⟩
  · unfold rngL at hd
    rw [List.getElem?_map] at hd
    cases q : (List.range (hi - lo).toNat)[i]? with
    | none => rw [q] at hd; cases hd
    | some j =>
      rw [q] at hd
      obtain ⟨h1, h2⟩ := List.getElem?_eq_some_iff.mp q
      rw [List.getElem_range] at h2
      subst h2
      cases hd
      refine ⟨show i < (hi - lo).toNat from (by simpa using h1), fun x H3 y => ?_⟩
      obtain ⟨rfl, rfl⟩ := y
      exact ⟨F2, .refl s2, .int _⟩
  · show (hi - lo).toNat ≤ (rngL lo hi).length
    simp [rngL]
def rngD : List D → M (List D)
  | [.int j] => if j.natAbs < 4611686018427387904 then mok (rngL 0 j) else none
  | [.int i, .int j] => if i.natAbs < 4611686018427387904 ∧ j.natAbs < 4611686018427387904 then mok (rngL i j) else none
  | _ => none
def dItA (s : List D → M (List D)) (f : DEnv → M (List D)) (env : DEnv) : M (List D) := mbind (f env) s
theorem di_range1 {tg : Expr} {p : Pos} {fs : DEnv → M (List D)} (hg : Gl X "range") (hm : X.mg "range" = none) (ha : DA X W .v [a] fs) (hs : starEach [a] X.env = [(false, eval a X.env)] := by rfl) : DI X W tg (.Call (.Name "range" p) [a] [] pos) (dItA rngD fs) := by
  obtain ⟨len, t, ha, q⟩ := ha
  refine ⟨_, pi_range1 hg hm ha hs, fun B F H σ env R ok h => q B F H σ env _ ok (h.bind.monoE (fun ds he k vs F' H' x r => ?_) fun c _ k => k)⟩
  have r : RpA X.K X.w F' vs ds := r
  have hl := len env ds he
  unfold rngD at k
  split at k
  · split at k
    · rename_i hz
      cases r with
      | cons r1 r2 =>
        cases r1; cases r2
        rename_i j
        refine ⟨j, rfl, by omega, by omega, k _ F' H' x ?_⟩
        have := rng_ok (K := X.K) (w := X.w) (F := F') (lo := 0) (hi := j)
        rw [Int.sub_zero] at this
        exact this
    · exact k.elim
  · simp at hl
  · exact k.elim
theorem di_range2 {tg : Expr} {p : Pos} {fs : DEnv → M (List D)} (hg : Gl X "range") (hm : X.mg "range" = none) (ha : DA X W .v [a, b] fs) (hs : starEach [a, b] X.env = [(false, eval a X.env), (false, eval b X.env)] := by rfl) (hs2 : starEach [b] X.env = [(false, eval b X.env)] := by rfl) :
    DI X W tg (.Call (.Name "range" p) [a, b] [] pos) (dItA rngD fs) := by
  obtain ⟨len, t, ha, q⟩ := ha
  refine ⟨_, pi_range2 hg hm ha hs hs2, fun B F H σ env R ok h => q B F H σ env _ ok (h.bind.monoE (fun ds he k vs F' H' x r => ?_) fun c _ k => k)⟩
  have r : RpA X.K X.w F' vs ds := r
  have hl := len env ds he
  unfold rngD at k
  split at k
  · simp at hl
  · split at k
    · rename_i hz
      cases r with
      | cons r1 r2 =>
        cases r2 with
        | cons r2 r3 =>
          cases r1; cases r2; cases r3
          exact ⟨_, _, rfl, ⟨by omega, by omega, by omega, by omega⟩, k _ F' H' x rng_ok⟩
    · exact k.elim
  · exact k.elim
/-- zip of two lists, of two tuples -/
def zipL (xs ys : List D) : List D := List.zipWith (fun x y => PyData.tuple [x, y]) xs ys
def zipD : List D → M (List D)
  | [.list xs, .list ys] => mok (zipL xs ys)
  | [.tuple xs, .tuple ys] => mok (zipL xs ys)
  | _ => none
theorem zip_get {xs ys : List D} {i : Nat} {d : D} (h : (zipL xs ys)[i]? = some d) : ∃ x y, xs[i]? = some x ∧ ys[i]? = some y ∧ d = .tuple [x, y] := by
  unfold zipL at h
  rw [List.getElem?_zipWith] at h
  cases q : xs[i]? with
  | none => rw [q] at h; simp at h
  | some x =>
    cases q2 : ys[i]? with
    | none => rw [q, q2] at h; simp at h
    | some y =>
      rw [q, q2] at h
      simp at h
      exact ⟨x, y, rfl, rfl, h.symm⟩
theorem zip_len (xs ys : List D) : (zipL xs ys).length = min xs.length ys.length := by simp [zipL]
theorem di_zip {elts : List Expr} {kk : Nat} {tpos p : Pos} {fs : DEnv → M (List D)} (hg : Gl X "zip") (hm : X.mg "zip" = none) (ha : DA X W .v [a, b] fs)
    (hs : starEach [a, b] X.env = (false, eval a X.env) :: starEach [b] X.env := by rfl) (hpl : (backTo pos (starEach [b] X.env)).any (·.1) = false := by rfl) :
    DI X W (.Tuple elts kk tpos) (.Call (.Name "zip" p) [a, b] [] pos) (dItA zipD fs) := by
  obtain ⟨len, t, ha, q⟩ := ha
  refine ⟨_, RZ.pi_zipA hg hm ha hs hpl, fun B F H σ env R ok h => q B F H σ env _ ok (h.bind.mono (fun ds k vs F' H' x r => ?_) fun c k => k)⟩
  have r : RpA X.K X.w F' vs ds := r
  have new : ∀ {F2 H2 : Hp} {T : Addr} {v1 v2 : V} {d1 d2 : D}, Same F2 H2 → H2 T = none → Rp X.K X.w F2 v1 d1 → Rp X.K X.w F2 v2 d2 → ∃ F3, Ext F2 H2 F3 (upd H2 T (.tup [v1, v2])) ∧ Rp X.K X.w F3 (.ref T) (.tuple [d1, d2]) := fun {F2 H2 T v1 v2 d1 d2} s2 hT p1 p2 => by
    have x := Ext.newF (o := .tup [v1, v2]) s2 hT
    exact ⟨_, x, .tup (.inl (.inl upd_same)) (.cons (p1.mono x.ff) (.cons (p2.mono x.ff) .nil))⟩
  unfold zipD at k
  split at k
  · cases r with
    | cons r1 r2 =>
      cases r2 with
      | cons r2 r3 =>
        cases r3
        cases r1 with
        | lst h1 a1 =>
          cases r2 with
          | lst h2 a2 =>
            refine ⟨_, _, _, _, rfl, .inl ⟨x.fh.seq h1, x.fh.seq h2, k _ F' H' x ⟨fun F2 H2 i d s1 s2 hd => ?_, fun F2 H2 s1 s2 => ?_⟩⟩⟩
            · obtain ⟨z1, z2, e1, e2, rfl⟩ := zip_get hd
              obtain ⟨u1, g1, p1⟩ := a1.get e1
              obtain ⟨u2, g2, p2⟩ := a2.get e2
              have q1 := (s1.trans s2).seq h1
              have q2 := (s1.trans s2).seq h2
              refine ⟨⟨_, _, u1, u2, q1, q2, g1, g2⟩, fun x1 H3 y => ?_⟩
              obtain ⟨T, w1, w2, rfl, hT, rfl, y1, y2⟩ := y
              have e3 := (y1 _ q1).symm.trans g1
              have e4 := (y2 _ q2).symm.trans g2
              cases e3; cases e4
              exact new s2 hT (p1.mono s1) (p2.mono s1)
            · refine ⟨_, _, (s1.trans s2).seq h1, (s1.trans s2).seq h2, ?_⟩
              rw [zip_len, a1.length, a2.length]
              omega
  · cases r with
    | cons r1 r2 =>
      cases r2 with
      | cons r2 r3 =>
        cases r3
        cases r1 with
        | tup h1 a1 =>
          cases r2 with
          | tup h2 a2 =>
            refine ⟨_, _, _, _, rfl, .inr ⟨sqT_mono x.fh h1, sqT_mono x.fh h2, k _ F' H' x ⟨fun F2 H2 i d s1 s2 hd => ?_, fun F2 H2 s1 s2 => ?_⟩⟩⟩
            · obtain ⟨z1, z2, e1, e2, rfl⟩ := zip_get hd
              obtain ⟨u1, g1, p1⟩ := a1.get e1
              obtain ⟨u2, g2, p2⟩ := a2.get e2
              have q1 := sqT_mono (s1.trans s2) h1
              have q2 := sqT_mono (s1.trans s2) h2
              refine ⟨⟨_, _, u1, u2, q1, q2, g1, g2⟩, fun x1 H3 y => ?_⟩
              obtain ⟨T, w1, w2, rfl, hT, rfl, y1, y2⟩ := y
              have e3 := (y1 _ q1).symm.trans g1
              have e4 := (y2 _ q2).symm.trans g2
              cases e3; cases e4
              exact new s2 hT (p1.mono s1) (p2.mono s1)
            · refine ⟨_, _, sqT_mono (s1.trans s2) h1, sqT_mono (s1.trans s2) h2, ?_⟩
              rw [zip_len, a1.length, a2.length]
              omega
  · exact k.elim
/-- enumerate of a list -/
def enumL (xs : List D) : List D := (xs.zipIdx).map fun p => PyData.tuple [.int (p.2 : Nat), p.1]
def enumD : List D → M (List D)
  | [.list xs] => mok (enumL xs)
  | _ => none
theorem enum_get {xs : List D} {i : Nat} {d : D} (h : (enumL xs)[i]? = some d) : ∃ x, xs[i]? = some x ∧ d = .tuple [.int (i : Nat), x] := by
  unfold enumL at h
  rw [List.getElem?_map, List.getElem?_zipIdx] at h
  cases q : xs[i]? with
  | none => rw [q] at h; simp at h
  | some x =>
    rw [q] at h
    simp at h
    exact ⟨x, rfl, h.symm⟩
theorem enum_len (xs : List D) : (enumL xs).length = xs.length := by simp [enumL]
theorem di_enum {elts : List Expr} {kk : Nat} {tpos p : Pos} {fs : DEnv → M (List D)} (hg : Gl X "enumerate") (hm : X.mg "enumerate" = none) (ha : DA X W .v [a] fs) (hs : starEach [a] X.env = [(false, eval a X.env)] := by rfl) :
    DI X W (.Tuple elts kk tpos) (.Call (.Name "enumerate" p) [a] [] pos) (dItA enumD fs) := by
  obtain ⟨len, t, ha, q⟩ := ha
  refine ⟨_, pi_enum hg hm ha hs, fun B F H σ env R ok h => q B F H σ env _ ok (h.bind.mono (fun ds k vs F' H' x r => ?_) fun c k => k)⟩
  have r : RpA X.K X.w F' vs ds := r
  unfold enumD at k
  split at k
  · cases r with
    | cons r1 r2 =>
      cases r2
      cases r1 with
      | lst h1 a1 =>
        refine ⟨_, _, rfl, x.fh.seq h1, k _ F' H' x ⟨fun F2 H2 i d s1 s2 hd => ?_, fun F2 H2 s1 s2 => ?_⟩⟩
        · obtain ⟨z1, e1, rfl⟩ := enum_get hd
          obtain ⟨u1, g1, p1⟩ := a1.get e1
          have q1 := (s1.trans s2).seq h1
          refine ⟨⟨_, u1, q1, g1⟩, fun x1 H3 y => ?_⟩
          obtain ⟨T, w1, rfl, hT, rfl, y1⟩ := y
          have e3 := (y1 _ q1).symm.trans g1
          cases e3
          have x := Ext.newF (o := .tup [.int (i : Nat), u1]) s2 hT
          exact ⟨_, x, .tup (.inl (.inl upd_same)) (.cons (.int _) (.cons ((p1.mono s1).mono x.ff) .nil))⟩
        · exact ⟨_, (s1.trans s2).seq h1, by rw [enum_len, a1.length]; exact Nat.le_refl _⟩
  · exact k.elim

/-- a base that holds more -/
def Bs.plus {hd : Option Value} (B : Bs hd) (F : Hp) : Bs hd := ⟨F, fun a => match B.H a with
  | some o => some o
  | none => F a⟩
theorem Bs.plus_none {hd : Option Value} {B : Bs hd} {F : Hp} {a : Addr} (h : (B.plus F).H a = none) : B.H a = none ∧ F a = none := by
  have h : (match B.H a with | some o => some o | none => F a) = none := h
  cases q : B.H a with
  | none => rw [q] at h; exact ⟨rfl, h⟩
  | some o => rw [q] at h; cases h
theorem Bs.plus_of {hd : Option Value} {B : Bs hd} {F : Hp} {a : Addr} (h1 : B.H a = none) (h2 : F a = none) : (B.plus F).H a = none := by
  show (match B.H a with | some o => some o | none => F a) = none
  rw [h1]
  exact h2
theorem Ext.up {hd : Option Value} {B : Bs hd} {F F1 H1 : Hp} (x : Ext B.F B.H F1 H1) (sb : Same B.F F) (s : Same F F1) : Ext (B.plus F).F (B.plus F).H F1 H1 := by
  refine ⟨s, fun a o h => ?_, x.fh, fun a o h => ?_⟩
  · have h : (match B.H a with | some o => some o | none => F a) = some o := h
    cases q : B.H a with
    | none => rw [q] at h; exact x.fh a o (s a o h)
    | some o' => rw [q] at h; cases h; exact x.hh a _ q
  · cases q : F a with
    | some o' =>
      have e := s a o' q
      rw [h] at e; cases e
      exact .inl q
    | none =>
      rcases x.nw a o h with z | z | z
      · rw [sb a o z] at q; cases q
      · exact .inr (.inl (Bs.plus_of z q))
      · exact .inr (.inr z)
theorem Ext.down {hd : Option Value} {B : Bs hd} {F F1 H1 Hx : Hp} (b : Ext B.F B.H F Hx) (x : Ext (B.plus F).F (B.plus F).H F1 H1) : Ext B.F B.H F1 H1 := by
  refine ⟨b.ff.trans x.ff, fun a o h => x.hh a o ?_, x.fh, fun a o h => ?_⟩
  · show (match B.H a with | some o => some o | none => F a) = some o
    rw [h]
  · rcases x.nw a o h with z | z | z
    · exact b.nw a o z
    · exact .inr (.inl (Bs.plus_none z).1)
    · exact .inr (.inr z)
theorem EnvOk.up {K : PySem.W.Frag} {w : World} {hd : Option Value} {B : Bs hd} {F F1 H1 : Hp} {σ : L2.St} {env : DEnv} (x : EnvOk K w B F1 H1 σ env) (sb : Same B.F F) (s : Same F F1) : EnvOk K w (B.plus F) F1 H1 σ env := by
  refine ⟨x.ext.up sb s, x.len, fun i t q => ?_, x.ap⟩
  obtain ⟨v, h1, h2⟩ := x.sl i t q
  refine ⟨v, h1, ?_⟩
  cases t with
  | xp => exact h2
  | fz d => exact h2
  | ow d =>
    obtain ⟨h3, a, h4, h5, h6⟩ := h2
    exact ⟨h3, a, h4, Bs.plus_of h5 (s.free h6), h6⟩
theorem EnvOk.down {K : PySem.W.Frag} {w : World} {hd : Option Value} {B : Bs hd} {F F1 H1 Hx : Hp} {σ : L2.St} {env : DEnv} (b : Ext B.F B.H F Hx) (x : EnvOk K w (B.plus F) F1 H1 σ env) : EnvOk K w B F1 H1 σ env := by
  refine ⟨b.down x.ext, x.len, fun i t q => ?_, x.ap⟩
  obtain ⟨v, h1, h2⟩ := x.sl i t q
  refine ⟨v, h1, ?_⟩
  cases t with
  | xp => exact h2
  | fz d => exact h2
  | ow d =>
    obtain ⟨h3, a, h4, h5, h6⟩ := h2
    exact ⟨h3, a, h4, (Bs.plus_none h5).1, h6⟩
theorem RM.down {K : PySem.W.Frag} {w : World} {hd : Option Value} {B : Bs hd} {F F1 H1 : Hp} {md : Md} {v : V} {d : D} (r : RM K w (B.plus F).H F1 H1 md v d) : RM K w B.H F1 H1 md v d := by
  cases md with
  | v => exact r
  | s => exact r
  | o =>
    obtain ⟨r, a, e, h1, h2⟩ := r
    exact ⟨r, a, e, (Bs.plus_none h1).1, h2⟩
/-! ### for -/
def forD (p : D → DEnv → Option DEnv) (g : DEnv → Option Out) : List D → DEnv → Option Out
  | [], env => some (.nx env)
  | d :: ds, env => match p d env with
    | none => none
    | some e => match g e with
      | some (.nx e') => forD p g ds e'
      | some (.ct e') => forD p g ds e'
      | some (.bk e') => some (.nx e')
      | o => o
def dFor (p : D → DEnv → Option DEnv) (s : DEnv → M (List D)) (g : DEnv → Option Out) (env : DEnv) : Option Out := eS (s env) env fun ds => forD p g ds env
theorem ds_for {tg iter : Expr} {body : List Stmt} {p : D → DEnv → Option DEnv} {s : DEnv → M (List D)} {sl : List Nat} (hp : PassesOwn (model X.prog X.w) X.A X.env X.xe) (hc : X.calm = true) (hi : DI X W tg iter s) (hg : DG X tg sl p) (hb : DSs X W body g)
    (hs : ∀ x, foldedSetIterable iter X.env x = pure x := by intro _; rfl) : DS X W (.For tg iter body [] pos) (dFor p s g) := by
  obtain ⟨wi, hi, qi⟩ := hi
  obtain ⟨tg', hg, qg⟩ := hg
  obtain ⟨tb, hb, qb⟩ := hb
  refine ⟨_, ps_for hp hc hi hg hb hs, fun B F H σ env D ok h => qi B F H σ env _ ok ((AnsO.eS ok h).mono (fun ds k J F' H' x it => ?_) fun c k => k)⟩
  have xb : Ext B.F B.H F' H' := ok.ext.trans x
  refine ⟨fun i m σ1 H1 => m = ds.length - i ∧ i ≤ ds.length ∧ ∃ F1 e1, Same F' F1 ∧ EnvOk X.K X.w B F1 H1 σ1 e1 ∧ AnsO (forD p g (ds.drop i) e1) (OutOk X.K X.w B W D), ⟨_, rfl, Nat.zero_le _, F', env, Same.refl _, ok.mono x, k⟩, ?_⟩
  rintro i m σ1 H1 ⟨rfl, hil, F1, e1, sf, ok1, k1⟩
  by_cases hlt : i < ds.length
  · have hd : ds[i]? = some ds[i] := List.getElem?_eq_getElem hlt
    have ed : ds.drop i = ds[i] :: ds.drop (i + 1) := List.drop_eq_getElem_cons hlt
    rw [ed] at k1
    obtain ⟨go, yl⟩ := it.1 F1 H1 i _ sf ok1.fh hd
    refine .inr ⟨go, fun σ2 H2 => ∃ F2 e2, Same F' F2 ∧ EnvOk X.K X.w B F2 H2 σ2 e2 ∧ AnsO (forD p g (ds.drop (i + 1)) e2) (OutOk X.K X.w B W D), fun σ2 H2 ⟨F2, e2, s2, ok2, k2⟩ => ⟨_, by omega, rfl, hlt, F2, e2, s2, ok2, k2⟩, fun v H2 y => ?_⟩
    obtain ⟨F2, x2, r2⟩ := yl v H2 y
    unfold forD at k1
    cases hp1 : p ds[i] e1 with
    | none => rw [hp1] at k1; exact k1.elim
    | some e2 =>
      rw [hp1] at k1
      refine qg B F2 H2 σ1 e1 e2 v _ _ (ok1.mono x2) r2 hp1 fun σ2 ok2 _ => ?_
      have sf2 : Same F' F2 := sf.trans x2.ff
      refine qb (B.plus F') F2 H2 σ2 e2 _ (ok2.up xb.ff sf2) ?_
      cases hg1 : g e2 with
      | none => simp only [hg1] at k1; exact k1.elim
      | some o =>
        simp only [hg1] at k1
        cases o with
        | nx e3 => exact fun F3 H3 σ3 ok3 => ⟨F3, e3, ok3.ext.ff, EnvOk.down xb ok3, k1⟩
        | ct e3 => exact fun F3 H3 σ3 ok3 => ⟨F3, e3, ok3.ext.ff, EnvOk.down xb ok3, k1⟩
        | bk e3 => exact fun F3 H3 σ3 ok3 => k1 F3 H3 σ3 (EnvOk.down xb ok3)
        | rt o d => exact fun F3 H3 v3 x3 r3 => k1 F3 H3 v3 (Ext.down xb x3) (RM.down r3)
        | xc c e3 => exact fun F3 H3 σ3 ok3 => k1 F3 H3 σ3 (EnvOk.down xb ok3)
  · have e : i = ds.length := by omega
    subst e
    refine .inl ⟨it.2 F1 H1 sf ok1.fh, ?_⟩
    rw [List.drop_length] at k1
    exact k1 F1 H1 σ1 ok1
/-! ### while, with so many turns at most -/
def whileD (p : DEnv → M Bool) (g : DEnv → Option Out) : Nat → DEnv → Option Out
  | 0, _ => none
  | n + 1, env => eS (p env) env fun b => if b then match g env with
      | some (.nx e) => whileD p g n e
      | some (.ct e) => whileD p g n e
      | some (.bk e) => some (.nx e)
      | o => o
    else some (.nx env)
theorem ds_while {c : Expr} {body : List Stmt} {p : DEnv → M Bool} (n : Nat) (hp : PassesOwn (model X.prog X.w) X.A X.env X.xe) (hc : DT X W c p) (hb : DSs X W body g) : DS X W (.While c body [] pos) (whileD p g n) := by
  obtain ⟨tc, hc, qc⟩ := hc
  obtain ⟨tb, hb, qb⟩ := hb
  refine ⟨_, ps_while hp hc hb, fun B F H σ env D ok h => ⟨fun m σ1 H1 => ∃ F1 e1, EnvOk X.K X.w B F1 H1 σ1 e1 ∧ AnsO (whileD p g m e1) (OutOk X.K X.w B W D), ⟨n, F, env, ok, h⟩, ?_⟩⟩
  rintro m σ1 H1 ⟨F1, e1, ok1, k1⟩
  cases m with
  | zero => exact k1.elim
  | succ m =>
    unfold whileD at k1
    refine qc B F1 H1 σ1 e1 _ ok1 ((AnsO.eS ok1 k1).mono (fun b k F2 H2 x2 => ?_) fun c k => k)
    have ok2 := ok1.mono x2
    cases b with
    | false => exact k F2 H2 σ1 ok2
    | true =>
      rw [if_pos rfl] at k ⊢
      refine ⟨fun σ3 H3 => ∃ F3 e3, EnvOk X.K X.w B F3 H3 σ3 e3 ∧ AnsO (whileD p g m e3) (OutOk X.K X.w B W D), fun σ3 H3 z => ⟨m, Nat.lt_succ_self m, z⟩, qb B F2 H2 σ1 e1 _ ok2 ?_⟩
      cases hg1 : g e1 with
      | none => simp only [hg1] at k; exact k.elim
      | some o =>
        simp only [hg1] at k
        cases o with
        | nx e3 => exact fun F3 H3 σ3 ok3 => ⟨F3, e3, ok3, k⟩
        | ct e3 => exact fun F3 H3 σ3 ok3 => ⟨F3, e3, ok3, k⟩
        | bk e3 => exact k
        | rt o d => exact k
        | xc c e3 => exact k
end
end DL

/-! The data layer, part 7: comprehensions, calls of defs, defs. -/
namespace DL
open PySem PySem.Spec PyProof.Rows L2

/-! ### the readings, as functions of the data alone -/
def tDE (K : PySem.W.Frag) (w : World) (hd : Option Value) (W : WX) (md : Md) (f : DEnv → M D) : TE := fun σ H Q => ∃ (B : Bs hd) (F : Hp) (env : DEnv), EnvOk K w B F H σ env ∧
  Ans (f env) (fun d => ∀ v F' H', Ext F H F' H' → RM K w H F' H' md v d → Q v H') (fun c => ∀ F' H', Ext F H F' H' → W c none σ H')
def tDT (K : PySem.W.Frag) (w : World) (hd : Option Value) (W : WX) (f : DEnv → M Bool) : TT := fun σ H Q => ∃ (B : Bs hd) (F : Hp) (env : DEnv), EnvOk K w B F H σ env ∧
  Ans (f env) (fun b => ∀ F' H', Ext F H F' H' → Q b H') (fun c => ∀ F' H', Ext F H F' H' → W c none σ H')
def tDG (K : PySem.W.Frag) (w : World) (hd : Option Value) (sl : List Nat) (f : D → DEnv → Option DEnv) : TG := fun v σ H Q => ∃ (B : Bs hd) (F : Hp) (env env' : DEnv) (d : D), EnvOk K w B F H σ env ∧ Rp K w F v d ∧ f d env = some env' ∧
  ∀ σ', EnvOk K w B F H σ' env' → SameOut sl σ σ' → Q σ' H
section
variable {X : Cx} {W : WX} {e a b elt tg iter : Expr} {f fa fb : DEnv → M D} {pos : Pos} {st : Stmt} {g h : DEnv → Option Out}
theorem DE.pe {md : Md} (h : DE X W md e f) : PE X e (tDE X.K X.w X.A.handled W md f) := by
  obtain ⟨t, h, q⟩ := h
  exact ⟨fun pins s σ H Q I ⟨B, F, env, ok, k⟩ => h.run pins s σ H Q I (q B F H σ env Q ok k)⟩
theorem DT.pt {f : DEnv → M Bool} (h : DT X W e f) : PT X e (tDT X.K X.w X.A.handled W f) := by
  obtain ⟨t, h, q⟩ := h
  exact ⟨fun pins s σ H Q I ⟨B, F, env, ok, k⟩ => h.run pins s σ H Q I (q B F H σ env Q ok k)⟩
theorem DG.pg {sl : List Nat} {f : D → DEnv → Option DEnv} (h : DG X e sl f) : PG X e (tDG X.K X.w X.A.handled sl f) := by
  obtain ⟨t, h, q⟩ := h
  exact ⟨fun pins s σ H v u Q I r ⟨B, F, env, env', d, ok, rp, hf, k⟩ => h.run pins s σ H v u Q I r (q B F H σ env env' v d Q ok rp hf k)⟩
/-- the tests of a comprehension: none, one -/
structure DTs (X : Cx) (W : WX) (ifs : List Expr) (f : DEnv → M Bool) : Prop where
  run : PTs X ifs (tDT X.K X.w X.A.handled W f)
def dYes (_ : DEnv) : M Bool := mok true
theorem dts_nil : DTs X W [] dYes := by
  refine ⟨⟨fun pins s σ H Q I ⟨B, F, env, ok, k⟩ => pts_nil.run pins s σ H Q I (k F H (.refl ok.fh))⟩⟩
theorem dts_one {c : Expr} {f : DEnv → M Bool} (h : DT X W c f) : DTs X W [c] f := ⟨pts_one h.pt⟩

/-! ### comprehensions -/
theorem wipe_wipe (σ : L2.St) (vs : List Nat) : L2.wipe (L2.wipe σ vs) vs = L2.wipe σ vs := by
  have key : ∀ us : List Nat, (∀ i ∈ us, i ∈ vs) → L2.wipe (L2.wipe σ us) vs = L2.wipe σ vs := by
    intro us
    induction us with
    | nil => exact fun _ => rfl
    | cons u us ih =>
      intro h
      show L2.wipe ((L2.wipe σ us).set u none) vs = L2.wipe σ vs
      rw [wipe_set _ _ _ vs (h u List.mem_cons_self)]
      exact ih fun i hi => h i (List.mem_cons_of_mem _ hi)
  exact key vs fun _ h => h
def wipeD (env : DEnv) : List Nat → DEnv
  | [] => env
  | v :: vs => (wipeD env vs).set v none
theorem EnvOk.wipe {K : PySem.W.Frag} {w : World} {hd : Option Value} {B : Bs hd} {F H : Hp} {σ : L2.St} {env : DEnv} (x : EnvOk K w B F H σ env) : ∀ vs : List Nat, EnvOk K w B F H (L2.wipe σ vs) (wipeD env vs)
  | [] => x
  | v :: vs => (EnvOk.wipe x vs).drop v none
def lcD (p : D → DEnv → Option DEnv) (t : DEnv → M Bool) (f : DEnv → M D) (env : DEnv) : List D → Option (List D)
  | [] => some []
  | d :: ds => match p d env with
    | none => none
    | some e => match t e with
      | some (.ok true) => match f e with
        | some (.ok x) => (lcD p t f env ds).map (x :: ·)
        | _ => none
      | some (.ok false) => lcD p t f env ds
      | _ => none
def dLc (vs : List Nat) (p : D → DEnv → Option DEnv) (s : DEnv → M (List D)) (t : DEnv → M Bool) (f : DEnv → M D) (env : DEnv) : M D := mbind (s env) fun ds =>
  if ds.length ≤ sizeLine then match lcD p t f (wipeD env vs) ds with
    | some xs => mok (.list xs)
    | none => none else none
/-- no exception within -/
abbrev W0 : WX := fun _ _ _ _ => False
theorem lc_ans {hd : Option Value} {K : PySem.W.Frag} {w : World} {wi : TI} {own : List Nat} {sl : List Nat} {p : D → DEnv → Option DEnv} {s : DEnv → M (List D)} {t : DEnv → M Bool} {f : DEnv → M D} (hsl : ∀ i ∈ sl, i ∈ own)
    (qi : ∀ (B : Bs hd) (F H : Hp) (σ : L2.St) (env : DEnv) (R : It → Hp → Prop), EnvOk K w B F H σ env → Ans (s env) (fun ds => ∀ J F' H', Ext F H F' H' → ItOk K w J F' ds → R J H') (fun c => ∀ F' H', Ext F H F' H' → W c none σ H') → wi σ H R)
    {B : Bs hd} {F H : Hp} {σ : L2.St} {env : DEnv} {Q : VK} (ok : EnvOk K w B F H σ env)
    (h : Ans (dLc own p s t f env) (fun d => ∀ v F' H', Ext F H F' H' → RM K w H F' H' .o v d → Q v H') (fun c => ∀ F' H', Ext F H F' H' → W c none σ H')) :
    tLc wi (tDG K w hd sl p) (tDT K w hd W0 t) (tDE K w hd W0 .v f) own σ H Q := by
  refine qi B F H σ env _ ok (h.bind.mono (fun ds k J F' H' x it D hD => ?_) fun c k => k)
  split at k
  · rename_i hz
    cases hlc : lcD p t f (wipeD env own) ds with
    | none => rw [hlc] at k; exact k.elim
    | some out =>
      rw [hlc] at k
      have ok0 : EnvOk K w B F' H' (L2.wipe σ own) (wipeD env own) := (ok.mono x).wipe own
      have fD : F' D = none := x.fh.free hD
      -- after i turns: the first ones' answers stand at D
      refine ⟨fun i m H1 => m = ds.length - i ∧ i ≤ ds.length ∧ ∃ F1 vs xs ys, Ext F' H' F1 H1 ∧ F1 D = none ∧ H1 D = some (.lst vs) ∧ RpA K w F1 vs xs ∧ xs.length ≤ i ∧ lcD p t f (wipeD env own) (ds.drop i) = some ys ∧ out = xs ++ ys,
        ⟨_, rfl, Nat.zero_le _, F', [], [], out, Ext.newO x.fh hD, fD, upd_same, .nil, Nat.le_refl _, hlc, rfl⟩, ?_⟩
      rintro i m H1 ⟨rfl, hil, F1, vs, xs, ys, x1, f1, h1, r1, hl1, l1, e1⟩
      by_cases hlt : i < ds.length
      · have hd : ds[i]? = some ds[i] := List.getElem?_eq_getElem hlt
        have ed : ds.drop i = ds[i] :: ds.drop (i + 1) := List.drop_eq_getElem_cons hlt
        rw [ed] at l1
        obtain ⟨go, yl⟩ := it.1 F1 H1 i _ x1.ff x1.fh hd
        refine .inr ⟨go, fun H2 => ∃ F1 vs xs ys, Ext F' H' F1 H2 ∧ F1 D = none ∧ H2 D = some (.lst vs) ∧ RpA K w F1 vs xs ∧ xs.length ≤ i + 1 ∧ lcD p t f (wipeD env own) (ds.drop (i + 1)) = some ys ∧ out = xs ++ ys,
          fun H2 z => ⟨_, by omega, rfl, hlt, z⟩, fun v H2 y => ?_⟩
        obtain ⟨F2, x2, r2⟩ := yl v H2 y
        unfold lcD at l1
        cases hp1 : p ds[i] (wipeD env own) with
        | none => rw [hp1] at l1; cases l1
        | some e2 =>
          rw [hp1] at l1
          have keepD : ∀ {F3 H3 : Hp}, Ext F1 H1 F3 H3 → F3 D = none ∧ H3 D = some (.lst vs) := fun {F3 H3} x3 => by
            refine ⟨?_, x3.hh _ _ h1⟩
            cases q : F3 D with
            | none => rfl
            | some o =>
              rcases x3.nw D o q with z | z | z
              · rw [f1] at z; cases z
              · rw [h1] at z; cases z
              · have e1 := x3.fh _ _ q
                rw [x3.hh _ _ h1] at e1; cases e1
                exact z.elim
          refine ⟨B, F2, wipeD env own, e2, ds[i], (ok0.mono x1).mono x2, r2, hp1, fun σ2 ok2 so => ⟨so own hsl |>.trans ?_, ?_⟩⟩
          · exact wipe_wipe σ own
          · refine ⟨B, F2, e2, ok2, ?_⟩
            cases ht : t e2 with
            | none => simp only [ht] at l1; cases l1
            | some rt =>
              cases rt with
              | error c => simp only [ht] at l1; cases l1
              | ok bt =>
                intro F3 H3 x3
                cases bt with
                | false =>
                  simp only [ht] at l1
                  obtain ⟨k1, k2⟩ := keepD (x2.trans x3)
                  exact ⟨F3, vs, xs, ys, (x1.trans x2).trans x3, k1, k2, r1.mono (x2.ff.trans x3.ff), Nat.le_succ_of_le hl1, l1, e1⟩
                | true =>
                  simp only [ht] at l1
                  rw [if_pos rfl]
                  refine ⟨B, F3, e2, ok2.mono x3, ?_⟩
                  cases hf : f e2 with
                  | none => simp only [hf] at l1; cases l1
                  | some rf =>
                    cases rf with
                    | error c => simp only [hf] at l1; cases l1
                    | ok z =>
                      simp only [hf] at l1
                      intro u F4 H4 x4 r4
                      obtain ⟨k1, k2⟩ := keepD ((x2.trans x3).trans x4)
                      obtain ⟨ys', hy, ey⟩ := Option.map_eq_some_iff.mp l1
                      have hlen : vs.length < sizeLine := by
                        rw [r1.length]
                        omega
                      refine ⟨vs, k2, hlen, F4, vs ++ [u], xs ++ [z], ys', ?_, k1, upd_same, (r1.mono ((x2.ff.trans x3.ff).trans x4.ff)).append (.cons r4 .nil), by simp; exact hl1, hy, by rw [e1, ← ey]; simp⟩
                      have xx := ((x1.trans x2).trans x3).trans x4
                      exact ⟨xx.ff, same_upd2 xx.hh hD, same_upd2 xx.fh k1, xx.nw⟩
      · have e : i = ds.length := by omega
        subst e
        refine .inl ⟨it.2 F1 H1 x1.ff x1.fh, ?_⟩
        rw [List.drop_length] at l1
        cases l1
        rw [List.append_nil] at e1
        subst e1
        exact k _ F1 H1 (x.trans x1) ⟨⟨D, rfl, .inl ⟨vs, _, rfl, h1, r1⟩⟩, D, rfl, x.hh.free hD, f1⟩
  · exact k.elim

section
variable {scope : Scope} {own : List (Str × Nat)} {ifs : List Expr} {sl vs : List Nat} {p : D → DEnv → Option DEnv} {s : DEnv → M (List D)} {t : DEnv → M Bool}
theorem de_lc (hc : X.calm = true) (hN : X.N.Nodup) (hi : DI X W tg iter s) (ok : BlkOk X.N X.env.scope scope own)
    (hg : ∀ (s : Shared) (H : Hp) (C : Addr) (cl : List (Str × Addr)) (fp : List Addr), DG (X.blk s H scope (compEnvC scope cl C X.env) fp) tg sl p)
    (ht : ∀ (s : Shared) (H : Hp) (C : Addr) (cl : List (Str × Addr)) (fp : List Addr), DTs (X.blk s H scope (compEnvC scope cl C X.env) fp) W0 ifs t)
    (he : ∀ (s : Shared) (H : Hp) (C : Addr) (cl : List (Str × Addr)) (fp : List Addr), DE (X.blk s H scope (compEnvC scope cl C X.env) fp) W0 .v elt f) (hsl : ∀ i ∈ sl, i ∈ vs := by decide) (hvs : own.map (·.2) = vs := by rfl)
    (hs : ∀ x, foldedSetIterable iter X.env x = pure x := by intro _; rfl) : DE X W .o (.ListComp elt [⟨tg, iter, ifs, 0⟩] scope pos) (dLc vs p s t f) := by
  subst hvs
  obtain ⟨wi, hi, qi⟩ := hi
  exact ⟨_, pe_lc hc hN hi ok (fun s H C cl fp => (hg s H C cl fp).pg) (fun s H C cl fp => (ht s H C cl fp).run) (fun s H C cl fp => (he s H C cl fp).pe) hs, fun B F H σ env Q ok h => lc_ans hsl qi ok h⟩
/-- y = [..] on one line, y a local -/
theorem ds_setLc {i : Nat} {y : Str} {py spos : Pos} (hc : X.calm = true) (hN : X.N.Nodup) (hy : X.N[i]? = some y) (hyl : X.env.scope.names.lookup y = some .local)
    (hsw : swapsWith (.ListComp elt [⟨tg, iter, ifs, 0⟩] scope pos) (some (.Name y py)) spos.line X.env = pure true) (hi : DI X W tg iter s) (ok : BlkOk X.N X.env.scope scope own)
    (hg : ∀ (s : Shared) (H : Hp) (C : Addr) (cl : List (Str × Addr)) (fp : List Addr), DG (X.blk s H scope (compEnvC scope cl C X.env) fp) tg sl p)
    (ht : ∀ (s : Shared) (H : Hp) (C : Addr) (cl : List (Str × Addr)) (fp : List Addr), DTs (X.blk s H scope (compEnvC scope cl C X.env) fp) W0 ifs t)
    (he : ∀ (s : Shared) (H : Hp) (C : Addr) (cl : List (Str × Addr)) (fp : List Addr), DE (X.blk s H scope (compEnvC scope cl C X.env) fp) W0 .v elt f) (hsl : ∀ i ∈ sl, i ∈ vs := by decide) (hvs : own.map (·.2) = vs := by rfl)
    (hs : ∀ x, foldedSetIterable iter X.env x = pure x := by intro _; rfl) : DS X W (.Assign [.Name y py] (.ListComp elt [⟨tg, iter, ifs, 0⟩] scope pos) spos) (dSetO i (dLc vs p s t f)) := by
  subst hvs
  obtain ⟨wi, hi, qi⟩ := hi
  exact ⟨_, ps_setLc hc hN hy hyl hsw hi ok (fun s H C cl fp => (hg s H C cl fp).pg) (fun s H C cl fp => (ht s H C cl fp).run) (fun s H C cl fp => (he s H C cl fp).pe) hs,
    fun B F H σ env D ok h => lc_ans hsl qi ok (setO ok h)⟩
end

/-! ### defs -/
inductive Res where
  | ret (o : Bool) (d : D)
  | exc (c : Value)
/-- a def's promise: G of the arguments' data -/
def spD (K : PySem.W.Frag) (w : World) (n : Nat) (G : List D → Option Res) : Sp := fun vs H Q E => vs.length = n ∧ ∃ F ds, Same F H ∧ RpA K w F vs ds ∧ match G ds with
  | none => False
  | some (.ret o d) => ∀ F' H' v, Ext F H F' H' → RM K w H F' H' (mdOf o) v d → Q v H'
  | some (.exc c) => ∀ F' H', Ext F H F' H' → E c none H'
def dRes (r : Option Res) : M D := match r with
  | none => none
  | some (.ret _ d) => mok d
  | some (.exc c) => some (.error c)
def dResO (r : Option Res) : M D := match r with
  | some (.ret true d) => mok d
  | some (.exc c) => some (.error c)
  | _ => none
def dFn (G : List D → Option Res) (fs : DEnv → M (List D)) (env : DEnv) : M D := mbind (fs env) fun ds => dRes (G ds)
def dFnO (G : List D → Option Res) (fs : DEnv → M (List D)) (env : DEnv) : M D := mbind (fs env) fun ds => dResO (G ds)
mutual
/-- no list and no dict within -/
def flat : D → Bool
  | .none => true
  | .bool _ => true
  | .int _ => true
  | .str _ => true
  | .tuple xs => flats xs
  | .list _ => false
  | .dict _ => false
def flats : List D → Bool
  | [] => true
  | x :: xs => flat x && flats xs
end
def dFnS (G : List D → Option Res) (fs : DEnv → M (List D)) (env : DEnv) : M D := mbind (fs env) fun ds => match G ds with
  | some (.ret _ d) => if flat d = true then mok d else none
  | some (.exc c) => some (.error c)
  | none => none
/-- F with the tuples of G -/
def tps (F G : Hp) : Hp := fun a => match F a with
  | some o => some o
  | none => match G a with
    | some (.tup vs) => some (.tup vs)
    | some (.frz o (.tup vs)) => some (.frz o (.tup vs))
    | _ => none
theorem tps_same (F G : Hp) : Same F (tps F G) := fun a o h => by
  unfold tps
  rw [h]
theorem tps_in {F G : Hp} (s : Same F G) : Same (tps F G) G := fun a o h => by
  unfold tps at h
  cases hF : F a with
  | some o' => rw [hF] at h; cases h; exact s _ _ hF
  | none =>
    rw [hF] at h
    simp only at h
    split at h
    · rename_i q; cases h; exact q
    · rename_i q; cases h; exact q
    · cases h
theorem tps_tp {F G : Hp} {a : Addr} {o : HO} (h : tps F G a = some o) : F a = some o ∨ Tp o := by
  unfold tps at h
  cases hF : F a with
  | some o' => rw [hF] at h; cases h; exact .inl rfl
  | none =>
    rw [hF] at h
    simp only at h
    split at h
    · cases h; exact .inr trivial
    · cases h; exact .inr trivial
    · cases h
theorem tps_sq {K : PySem.W.Frag} {F G : Hp} {a : Addr} {vs : List V} (s : Same F G) (h : SqT K G a vs) : SqT K (tps F G) a vs := by
  rcases h with (h | ⟨o, h⟩) | h
  · refine .inl (.inl ?_)
    unfold tps
    cases hF : F a with
    | some o' => have := s _ _ hF; rw [h] at this; cases this; rfl
    | none => simp only [h]
  · refine .inl (.inr ⟨o, ?_⟩)
    unfold tps
    cases hF : F a with
    | some o' => have := s _ _ hF; rw [h] at this; cases this; rfl
    | none => simp only [h]
  · exact .inr h
mutual
theorem flat_rp {K : PySem.W.Frag} {w : World} {F G : Hp} (s : Same F G) : ∀ {v : V} {d : D}, flat d = true → Rp K w G v d → Rp K w (tps F G) v d
  | _, _, _, .non => .non
  | _, _, _, .bl b => .bl b
  | _, _, _, .int i => .int i
  | _, _, _, .str x => .str x
  | _, _, h, .tup h1 h2 => .tup (tps_sq s h1) (flat_rps s (by simpa [flat] using h) h2)
  | _, _, h, .lst h1 h2 => by simp [flat] at h
  | _, _, h, .dic h1 h2 => by simp [flat] at h
theorem flat_rps {K : PySem.W.Frag} {w : World} {F G : Hp} (s : Same F G) : ∀ {vs : List V} {ds : List D}, flats ds = true → RpA K w G vs ds → RpA K w (tps F G) vs ds
  | [], [], _, .nil => .nil
  | _ :: _, d :: ds, h, .cons h1 h2 => by
    have h' : flat d = true ∧ flats ds = true := by simpa [flats] using h
    exact .cons (flat_rp s h'.1 h1) (flat_rps s h'.2 h2)
end
theorem rm_freeze {K : PySem.W.Frag} {w : World} {F H F' H' : Hp} {o : Bool} {v : V} {d : D} (x : Ext F H F' H') (r : RM K w H F' H' (mdOf o) v d) : ∃ F2, Ext F H F2 H' ∧ Rp K w F2 v d := by
  cases o with
  | false => exact ⟨F', x, r⟩
  | true =>
    obtain ⟨ow, a, rfl, h1, h2⟩ := r
    obtain ⟨b, ob, e, hb⟩ := ow.obj
    cases e
    exact ⟨_, x.freeze h1 hb h2, ow.rp hb h2⟩
section
variable {k n : Nat} {fn : Addr} {fd : FuncData} {ps : List Str} {G : List D → Option Res} {x : Str} {pc : Pos} {es : List Expr} {fs : DEnv → M (List D)} {dvs : List V} {dds : List Value} {ddd : List D}
/-- a call with defaults behind the written arguments -/
theorem pe_callSD {CX : CXT} {sp : Sp} {E : L2.St → XK} {t : TA} (F : FnOk X.prog X.w X.K X.mg X.base CX k fn fd ps sp) (hr : Room k X.A) (hg : Gl X x) (hm : X.mg x = some (.ref fn)) (hk : PySem.W.keepIn X.K (.ref fn) = true) (hb : Binds X.K fd ps dds) (hd : Vals dvs dds) (hx : ∀ σ, PassesAt CX X σ (E σ))
    (ha : PA X (e :: es) t) (hdb : (x == ("__debug__" : Str)) = false := by decide) (he : starEach (e :: es) X.env = (false, eval e X.env) :: starEach es X.env := by rfl) (hpl : (backTo pos (starEach es X.env)).any (·.1) = false := by rfl) :
    PE X (.Call (.Name x pc) (e :: es) [] pos) (fun σ H Q => t σ H fun vs H1 => sp (vs ++ dvs) H1 Q (E σ)) := by
  refine ⟨fun pins s σ H Q I h => ?_⟩
  refine wpAny_Call_Name_kw (ld_glob I hg hm ?_ hdb)
  refine PySem.W.callWith_K (h₀ := X.base) I.ok.mod.kin hk (thn (ha.run pos pins s σ H _ I h) fun us s1 ⟨vs, H1, I1, r, q⟩ => ⟨I1.kIn, ?_⟩) he hpl
  have r2 : Vals (vs ++ dvs) (us ++ dds) := r.append hd
  have hl : (us ++ dds).length = ps.length := by rw [← r2.length]; exact F.len _ _ _ _ q
  refine wpAny_call (codeAny_mono (F.run X.A X.stack s1 H1 ⟨us, []⟩ (us ++ dds) (vs ++ dvs) Q (E σ) hr I1.env0 (hb s1 us I1.kIn hl) r2 q) fun r s' hq => ?_)
  cases r with
  | error c => exact hx σ pins H1 s1 c s' I1 hq
  | ok fl =>
    cases fl with
    | ret u => exact I1.after hq
    | next => exact False.elim hq
    | brk => exact False.elim hq
    | cont => exact False.elim hq
theorem de_call (F : FnOk X.prog X.w X.K X.mg X.base (L2.CX X.prog X.w) k fn fd ps (spD X.K X.w n G)) (hr : Room k X.A) (hg : Gl X x) (hm : X.mg x = some (.ref fn)) (hk : PySem.W.keepIn X.K (.ref fn) = true) (hb : Binds X.K fd ps dds) (hd : Vals dvs dds) (hdd : ∀ Fz, RpA X.K X.w Fz dvs ddd) (tk : Takes X W)
    (ha : DA X W .v (e :: es) fs) (hn : (e :: es).length + dvs.length = n := by rfl) (hdb : (x == ("__debug__" : Str)) = false := by decide) (he : starEach (e :: es) X.env = (false, eval e X.env) :: starEach es X.env := by rfl) (hpl : (backTo pos (starEach es X.env)).any (·.1) = false := by rfl) :
    DE X W .v (.Call (.Name x pc) (e :: es) [] pos) (dFn (fun ds => G (ds ++ ddd)) fs) := by
  obtain ⟨len, t, ha, qa⟩ := ha
  refine ⟨_, pe_callSD F hr hg hm hk hb hd (fun σ => passAt tk σ) ha hdb he hpl, fun B F0 H σ env Q ok h => qa B F0 H σ env _ ok (h.bind.monoE (fun ds hds k vs F1 H1 e1 rs => ?_) fun c _ k => k)⟩
  have hl : vs.length = (e :: es).length := (RMA.length rs).trans (len env ds hds)
  refine ⟨by rw [List.length_append, hl]; exact hn, F1, ds ++ ddd, e1.fh, RpA.append rs (hdd F1), ?_⟩
  unfold dRes at k
  split at k
  · exact k.elim
  · rename_i o d hG
    rw [show G (ds ++ ddd) = _ from hG]
    intro F2 H2 v x2 r2
    obtain ⟨F3, x3, r3⟩ := rm_freeze x2 r2
    exact k v F3 H2 (e1.trans x3) r3
  · rename_i c hG
    rw [show G (ds ++ ddd) = _ from hG]
    exact fun F2 H2 x2 => k F2 H2 (e1.trans x2)
theorem de_callO (F : FnOk X.prog X.w X.K X.mg X.base (L2.CX X.prog X.w) k fn fd ps (spD X.K X.w n G)) (hr : Room k X.A) (hg : Gl X x) (hm : X.mg x = some (.ref fn)) (hk : PySem.W.keepIn X.K (.ref fn) = true) (hb : Binds X.K fd ps dds) (hd : Vals dvs dds) (hdd : ∀ Fz, RpA X.K X.w Fz dvs ddd) (tk : Takes X W)
    (ha : DA X W .v (e :: es) fs) (hn : (e :: es).length + dvs.length = n := by rfl) (hdb : (x == ("__debug__" : Str)) = false := by decide) (he : starEach (e :: es) X.env = (false, eval e X.env) :: starEach es X.env := by rfl) (hpl : (backTo pos (starEach es X.env)).any (·.1) = false := by rfl) :
    DE X W .o (.Call (.Name x pc) (e :: es) [] pos) (dFnO (fun ds => G (ds ++ ddd)) fs) := by
  obtain ⟨len, t, ha, qa⟩ := ha
  refine ⟨_, pe_callSD F hr hg hm hk hb hd (fun σ => passAt tk σ) ha hdb he hpl, fun B F0 H σ env Q ok h => qa B F0 H σ env _ ok (h.bind.monoE (fun ds hds k vs F1 H1 e1 rs => ?_) fun c _ k => k)⟩
  have hl : vs.length = (e :: es).length := (RMA.length rs).trans (len env ds hds)
  refine ⟨by rw [List.length_append, hl]; exact hn, F1, ds ++ ddd, e1.fh, RpA.append rs (hdd F1), ?_⟩
  unfold dResO at k
  split at k
  · rename_i d hG
    rw [show G (ds ++ ddd) = _ from hG]
    exact fun F2 H2 v x2 r2 => k v F2 H2 (e1.trans x2) (RM.back e1.hh r2)
  · rename_i c hG
    rw [show G (ds ++ ddd) = _ from hG]
    exact fun F2 H2 x2 => k F2 H2 (e1.trans x2)
  · exact k.elim
/-- arguments as they stand, a flat answer: one's own lists stay one's own -/
theorem de_callS (F : FnOk X.prog X.w X.K X.mg X.base (L2.CX X.prog X.w) k fn fd ps (spD X.K X.w n G)) (hr : Room k X.A) (hg : Gl X x) (hm : X.mg x = some (.ref fn)) (hk : PySem.W.keepIn X.K (.ref fn) = true) (hb : Binds X.K fd ps dds) (hd : Vals dvs dds) (hdd : ∀ Fz, RpA X.K X.w Fz dvs ddd) (tk : Takes X W)
    (ha : DA X W .s (e :: es) fs) (hn : (e :: es).length + dvs.length = n := by rfl) (hdb : (x == ("__debug__" : Str)) = false := by decide) (he : starEach (e :: es) X.env = (false, eval e X.env) :: starEach es X.env := by rfl) (hpl : (backTo pos (starEach es X.env)).any (·.1) = false := by rfl) :
    DE X W .v (.Call (.Name x pc) (e :: es) [] pos) (dFnS (fun ds => G (ds ++ ddd)) fs) := by
  obtain ⟨len, t, ha, qa⟩ := ha
  refine ⟨_, pe_callSD F hr hg hm hk hb hd (fun σ => passAt tk σ) ha hdb he hpl, fun B F0 H σ env Q ok h => qa B F0 H σ env _ ok (h.bind.monoE (fun ds hds k vs F1 H1 e1 rs => ?_) fun c _ k => k)⟩
  have hl : vs.length = (e :: es).length := (RMA.length rs).trans (len env ds hds)
  have all : ∀ {vs : List V} {ds : List D}, Paired (Sh X.K X.w F1 H1) vs ds → RpA X.K X.w H1 vs ds := fun {vs ds} h => by
    induction h with
    | nil => exact .nil
    | cons h _ ih => exact .cons (Sh.all h e1.fh) ih
  refine ⟨by rw [List.length_append, hl]; exact hn, H1, ds ++ ddd, Same.refl _, RpA.append (all rs) (hdd H1), ?_⟩
  have back : ∀ {F2 H2 : Hp}, Ext H1 H1 F2 H2 → Ext F1 H1 F1 H2 := fun {F2 H2} x2 => ⟨Same.refl _, x2.hh, e1.fh.trans x2.hh, fun _ _ e => .inl e⟩
  split at k
  · rename_i o d hG
    rw [show G (ds ++ ddd) = _ from hG]
    split at k
    · rename_i hfl
      intro F2 H2 v x2 r2
      obtain ⟨F3, x3, r3⟩ := rm_freeze x2 r2
      refine k v (tps F1 F3) H2 (e1.trans ⟨tps_same _ _, x2.hh, (tps_in (e1.fh.trans x3.ff)).trans x3.fh, fun a o h => ?_⟩) (flat_rp (e1.fh.trans x3.ff) hfl r3)
      rcases tps_tp h with z | z
      · exact .inl z
      · exact .inr (.inr z)
    · exact k.elim
  · rename_i c hG
    rw [show G (ds ++ ddd) = _ from hG]
    exact fun F2 H2 x2 => k F1 H2 (e1.trans (back x2))
  · exact k.elim
end
/-! ### a def's body keeps its promise -/
def startD (n : Nat) (ds : List D) : DEnv := ds.map (fun d => some (.fz d)) ++ List.replicate (n - ds.length) none
def resOf : Option Out → Option Res
  | some (.rt o d) => some (.ret o d)
  | some (.nx _) => some (.ret false .none)
  | some (.xc c _) => some (.exc c)
  | _ => none
def runD (n : Nat) (g : DEnv → Option Out) (ds : List D) : Option Res := resOf (g (startD n ds))
theorem start_ok {hd : Option Value} {K : PySem.W.Frag} {w : World} {F H : Hp} {vs : List V} {ds : List D} (N : List Str) (s : Same F H) (r : RpA K w F vs ds) : EnvOk K w (⟨F, H⟩ : Bs hd) F H (L2.start N vs) (startD N.length ds) := by
  have hl := r.length
  have hnone : ∀ (i : Nat) (t : Sl), (startD N.length ds)[i]? = some (some t) → ∃ d, ds[i]? = some d ∧ t = .fz d := fun i t q => by
    unfold startD at q
    rw [List.getElem?_append] at q
    split at q
    · rw [List.getElem?_map] at q
      cases q2 : ds[i]? with
      | none => rw [q2] at q; cases q
      | some d => rw [q2] at q; cases q; exact ⟨d, rfl, rfl⟩
    · rw [List.getElem?_replicate] at q
      split at q <;> cases q
  refine ⟨.refl s, ?_, fun i t q => ?_, fun i j d e a _ q => ?_⟩
  · unfold startD L2.start
    simp [hl]
  · obtain ⟨d, h1, rfl⟩ := hnone i t q
    obtain ⟨v, h2, h3⟩ := r.get h1
    refine ⟨v, ?_, h3⟩
    unfold L2.start
    have hi : i < vs.length := (List.getElem?_eq_some_iff.mp h2).1
    rw [List.getElem?_append_left (by simpa using hi), List.getElem?_map, h2]
    rfl
  · obtain ⟨d, h1, h2⟩ := hnone i _ q
    cases h2
section
variable {P : Program} {w : World} {K : PySem.W.Frag} {mg : Str → Option Value} {base : Heap}
/-- a def whose body is g -/
theorem fn_ok {x qual : Str} {st : Stmt} {fn : Addr} {fd : FuncData} {N ps : List Str} {k n : Nat} {g : DEnv → Option Out} (Fn : Fun K x qual st fn fd) (S : FnScope N ps (defScope st)) (hn : ps.length = n)
    (hb : ∀ (cdv : Value) (A : Around) (outer : List Env) (s : Shared) (H : Hp) (E : XK), Room k (A.deeper (envOfC qual (defScope st) s.heap.objs.size fn cdv)) →
      DSs (cxOf (L2.CX P w) P w K mg base N qual (defScope st) fn cdv A outer s H E) (fun cls d _ H => E cls d H) (defBody st) g) : FnOk P w K mg base (L2.CX P w) (k + 1) fn fd ps (spD K w n (runD N.length g)) := by
  refine Fn.okX S (fun vs H Q E h => h.1.trans hn.symm) (fun cdv A outer s H vs Q E hr h => ?_)
  obtain ⟨hl, F, ds, sm, ra, h⟩ := h
  obtain ⟨t, ht, q⟩ := hb cdv A outer s H E hr
  refine ⟨t, ht, q ⟨F, H⟩ F H (L2.start N vs) (startD N.length ds) _ (start_ok N sm ra) ?_⟩
  unfold runD at h
  cases hg : g (startD N.length ds) with
  | none => rw [hg] at h; exact h.elim
  | some o =>
    rw [hg] at h
    cases o with
    | nx e => exact fun F' H' σ' ok => h F' H' .non ok.ext .non
    | rt o d => exact fun F' H' v x r => h F' H' v x r
    | bk e => exact h.elim
    | ct e => exact h.elim
    | xc c e => exact fun F' H' σ' ok => h F' H' ok.ext
end
end
end DL

/-! The data layer, part 8: enumerate of a tuple; a for over a list or a tuple; -n. -/
namespace DL
open PySem PySem.Spec PyProof.Rows L2
open AutoSeq1 (wpAny_loadPart')

theorem meets_enum_newT (l : Addr) (items : Array Value) :
    Meets (Builtin.«enumerate.__new__» ⟨[.type "enumerate", .ref l], []⟩) (fun _ R s => s.heap.IsTuple l items ∧
      R (.ok (.ret (.ref (s.heap.push { cls := .type "tuple_iterator", data := .fields #[.ref l, .int 0 0] }).objs.size)))
        { s with heap := (s.heap.push { cls := .type "tuple_iterator", data := .fields #[.ref l, .int 0 0] }).push { cls := .type "enumerate", data := .fields #[.none, .bool false, .ref s.heap.objs.size, rawInt 0, .none, .none] } }) :=
  .of_wp fun prog w A R s h => by
    obtain ⟨hp, g, d, tk, os⟩ := s; obtain ⟨h1, h⟩ := h
    have hsub := sub_enumerate
    have q1 : ∀ {A' : Around} {E : Value → Shared → Prop} {Q : Value → Shared → Prop}, Q (.ref hp.objs.size) ⟨hp.push { cls := .type "tuple_iterator", data := .fields #[.ref l, .int 0 0] }, g, d, tk, os⟩ → wpAny (model prog w) A' (pyIter (.ref l)) Q E ⟨hp, g, d, tk, os⟩ :=
      fun q => wpAny_pyIter_tuple (s := ⟨hp, g, d, tk, os⟩) h1 q
    wp_walk using q1
    refine wpAny_stack_any fun st => wpAny_pure ?_
    split
    · rename_i c _ _ _ _ _
      cases (c == Value.type "enumerate")
      · wp_walk using q1
        exact ⟨_, rfl, h⟩
      · wp_walk using q1
        exact ⟨_, rfl, h⟩
    · wp_walk using q1
      exact ⟨_, rfl, h⟩
theorem call_enum_tuple {prog : Program} {w : World} {A : Around} {E : Value → Shared → Prop} {s : Shared} {l : Addr} {items : Array Value} {Q : Value → Shared → Prop} (hL : s.heap.IsTuple l items)
    (h : ∀ h', IsEnum h' (s.heap.objs.size + 1) s.heap.objs.size 0 .none → h'.IsTupleIter s.heap.objs.size l 0 → h'.objs.size = s.heap.objs.size + 2 →
      (∀ b o, s.heap.get? b = some o → h'.get? b = some o) → Q (.ref (s.heap.objs.size + 1)) { s with heap := h' }) :
    wpAny (model prog w) A (call (.type "enumerate") [.ref l]) Q E s := by
  refine callType_new F.called_enumerate (by decide) (F.typeCall_enumerate_1 _) (F.newCall_enumerate_1 _) (fun obj => F.args_object_init_2 obj _) F.entry_enumerate_new
    (meets_enum_newT l items) ⟨hL, ?_⟩
  have hz : (s.heap.push { cls := .type "tuple_iterator", data := .fields #[.ref l, .int 0 0] }).objs.size = s.heap.objs.size + 1 := Heap.size_push ..
  show _ ∧ _
  rw [hz]
  have he : IsEnum ((s.heap.push { cls := .type "tuple_iterator", data := .fields #[.ref l, .int 0 0] }).push
      { cls := .type "enumerate", data := .fields #[.none, .bool false, .ref s.heap.objs.size, rawInt 0, .none, .none] }) (s.heap.objs.size + 1) s.heap.objs.size 0 .none := by
    have := Heap.get?_push_size (s.heap.push { cls := .type "tuple_iterator", data := .fields #[.ref l, .int 0 0] })
      (o := { cls := .type "enumerate", data := .fields #[.none, .bool false, .ref s.heap.objs.size, rawInt 0, .none, .none] }) rfl
    rw [hz] at this; exact this
  exact ⟨⟨_, he, rfl⟩, h _ he ⟨_, Heap.get?_push_of_some _ (Heap.get?_push_size _ rfl), rfl, rfl⟩ (by rw [Heap.size_push, hz]) fun b o x => Heap.get?_push_of_some _ (Heap.get?_push_of_some _ x)⟩
/-- the tuple at a as it stands at each turn, each item in a new pair -/
def IteT (K : PySem.W.Frag) (a : Addr) : It :=
  ⟨fun i H => ∃ (xs : List V) (x : V), SqT K H a xs ∧ xs[i]? = some x, fun i H v H' => ∃ T x, v = .ref T ∧ H T = none ∧ H' = upd H T (.tup [.int (i : Nat), x]) ∧ ∀ xs, SqT K H a xs → xs[i]? = some x, fun i H => ∃ xs : List V, SqT K H a xs ∧ xs.length = i⟩
theorem turn_enumT {P : Program} {w : World} {K : PySem.W.Frag} {elts : List Expr} {kk : Nat} {tpos : Pos} (a e it : Addr) (hai : a ≠ it) (hae : a ≠ e) :
    Turn P w K (.Tuple elts kk tpos) (IteT K a) [e, it] e (fun i h => (∃ old, IsEnum h e it ((i : Nat) : Int) old) ∧ h.IsTupleIter it a i ∧ e ≠ it) where
  mem := by simp
  obj := fun i h st b hb => by
    obtain ⟨⟨old, he⟩, ⟨o, ho, hc, hd⟩, _⟩ := st
    have e' : b = e ∨ b = it := by simpa using hb
    rcases e' with z | z
    · rw [z]; exact ⟨_, he, fun v q => nomatch q⟩
    · rw [z]; exact ⟨o, ho, fun v q => by rw [hd] at q; cases q⟩
  keep := fun i h h' st k => let ⟨⟨old, he⟩, hi, hne⟩ := st; ⟨⟨old, k e (by simp) _ he⟩, hi.at fun o q => k it (by simp) o q, hne⟩
  item := by
    intro X hP hw hK hc i pins s σ H E I hf st hg
    subst hP hw hK
    obtain ⟨⟨old, he⟩, hit, hne⟩ := st
    obtain ⟨xs, x, hq, hx⟩ := hg
    obtain ⟨its, rv, p, hz⟩ := I.tuple hq
    obtain ⟨u, hu, ru⟩ := rv.get hx
    have hel : e < s.heap.objs.size := Heap.lt_size he
    have hil : it < s.heap.objs.size := by obtain ⟨_, q, _⟩ := hit; exact Heap.lt_size q
    have hT : s.heap.IsTuple a its.toArray := p
    have hlt : i < its.toArray.size := by
      rw [List.size_toArray]
      exact (List.getElem?_eq_some_iff.mp hu).1
    refine wpAny_pyNext_enum_itemD (Draws.tuple (A := X.A.in1) (I.ok.hd hc) it a hai its.toArray) he ⟨hit, hT⟩ hlt hne (by simp [hne, Ne.symm hae]) fun y h' tk hy ho st' hTn hsz hk => ?_
    have hyu : y = u := by
      have : its[i]? = some y := by simpa using hy
      rw [hu] at this; cases this; rfl
    subst hyu
    refine ⟨_, rfl, wpAny_letOwnedTupleGo_enum (s := { s with heap := h', toks := tk + 1 }) ho fun h'' he' sb => ?_⟩
    have hT2 : h''.get? s.heap.objs.size = some { cls := .type "tuple", data := .seq #[.int i tk, y] } := (sb.2 _ (Nat.ne_of_gt hel)).trans hTn
    have new : ObjOk X.prog X.w (upd H s.heap.objs.size (.tup [.int (i : Nat), x])) h'' s.heap.objs.size (.tup [.int (i : Nat), x]) :=
      ⟨by show 2 ≤ sizeLine; decide, [.int i tk, y], .cons ⟨_, rfl⟩ (.cons ru .nil), ⟨_, hT2, rfl, _, rfl⟩⟩
    have I1 : Inv X pins σ (upd H s.heap.objs.size (.tup [.int (i : Nat), x])) { s with heap := h'', toks := tk + 1 } :=
      I.turnedNew (ch := [e, it]) (fun b ob hb q => (sb.2 b (fun z => hb (by simp [z]))).trans (hk b ob (fun z => hb (by simp [z])) (fun z => hb (by simp [z])) q)) hf (Nat.le_refl _) new
    refine ⟨.ref s.heap.objs.size, _, I1, rfl, ⟨_, x, rfl, I.hok.fresh (Nat.le_refl _), rfl, fun ys hy => by rw [I.tuple_inj hy hq]; exact hx⟩, ⟨⟨y, ?_⟩, st'.1.at fun o q => (sb.2 it (Ne.symm hne)).trans q, hne⟩, fun b hb => ?_⟩
    · have e1 : ((i + 1 : Nat) : Int) = (i : Int) + 1 := by omega
      rw [e1]; exact he'
    · have hb' : b < s.heap.objs.size := by
        have e' : b = e ∨ b = it := by simpa using hb
        rcases e' with z | z
        · rw [z]; exact hel
        · rw [z]; exact hil
      rw [upd_ne (Nat.ne_of_lt hb')]
      exact (hf b hb).1
  done := by
    intro X hP hw hK hc i pins s σ H E I hf st hg
    subst hP hw hK
    obtain ⟨⟨old, he⟩, hit, hne⟩ := st
    obtain ⟨xs, hq, hx⟩ := hg
    obtain ⟨its, rv, p, hz⟩ := I.tuple hq
    obtain ⟨f0, f1, f2, f3, f4, f5⟩ := hf it (by simp)
    have hl := rv.length
    have hT : s.heap.IsTuple a its.toArray := p
    have hn : i = its.toArray.size := by
      rw [List.size_toArray]
      omega
    subst hn
    exact wpAny_pyNext_enum_endD (Draws.tuple (A := X.A.in1) (I.ok.hd hc) it a hai its.toArray) he ⟨hit, hT⟩ fun h' eb => ⟨rfl, I.turned (t' := s.toks) (fun b o hb q => eb b o hb q) f0 f1 f3 f4 f5⟩
  self := fun A i s Q E st h => let ⟨⟨_, he⟩, _⟩ := st; wpAny_pyIter_enum he h
def iEnumT (K : PySem.W.Frag) (ta : TA) : TI := fun σ H R => ta σ H fun vs H1 => ∃ a xs, vs = [.ref a] ∧ SqT K H1 a xs ∧ R (IteT K a) H1
section
variable {X : Cx} {W : WX} {e a b tg iter : Expr} {f fa fb : DEnv → M D} {pos : Pos}
theorem pi_enumT {ta : TA} {p tpos : Pos} {elts : List Expr} {kk : Nat} (hg : Gl X "enumerate") (hm : X.mg "enumerate" = none) (ha : PA X [e] ta) (hs : starEach [e] X.env = [(false, eval e X.env)] := by rfl) :
    PI X (.Tuple elts kk tpos) (.Call (.Name "enumerate" p) [e] [] pos) (iEnumT X.K ta) := by
  refine ⟨fun pins s σ H R I h => ?_⟩
  refine Call_ (ld_blt I hg hm boot_enumerate (PyProof.Rows.callWith_type1 (thn (ha.run pos pins s σ H _ I h) fun us s1 ⟨vs, H1, I1, r1, q1⟩ => ?_) hs rfl))
  obtain ⟨a, xs, ex, hq, q⟩ := q1
  subst ex
  cases r1 with
  | cons r rr =>
    cases rr
    cases r
    obtain ⟨its, rv, p', hz⟩ := I1.tuple hq
    have hT : s1.heap.IsTuple a its.toArray := p'
    have hal : a < s1.heap.objs.size := by obtain ⟨o, ho, _⟩ := id p'; exact Heap.lt_size ho
    refine call_enum_tuple hT fun h' he hit hsz hk => wpAny_pyIter_enum he ?_
    have I2 : Inv X pins σ H1 { s1 with heap := h' } := I1.kept (t' := s1.toks) hk
    refine ⟨s1.heap.objs.size + 1, [s1.heap.objs.size + 1, s1.heap.objs.size], _, _, H1, rfl, I2, turn_enumT a (s1.heap.objs.size + 1) s1.heap.objs.size (Nat.ne_of_lt hal) (Nat.ne_of_lt (Nat.lt_succ_of_lt hal)), ⟨⟨.none, he⟩, hit, Nat.succ_ne_self _⟩, fun b hb => ?_, q⟩
    have e' : b = s1.heap.objs.size + 1 ∨ b = s1.heap.objs.size := by simpa using hb
    have hle : s1.heap.objs.size ≤ b := by
      rcases e' with z | z
      · rw [z]; exact Nat.le_add_right _ _
      · rw [z]; exact Nat.le_refl _
    exact I1.fpOk hle (I1.hok.fresh hle)
/-- one of two ways to walk -/
theorem PI.or {wi wj : TI} (h : PI X tg iter wi) (k : PI X tg iter wj) : PI X tg iter (fun σ H R => wi σ H R ∨ wj σ H R) :=
  ⟨fun pins s σ H R I q => q.elim (fun q => h.run pins s σ H R I q) fun q => k.run pins s σ H R I q⟩
/-- enumerate of a list, of a tuple -/
def enumA : List D → M (List D)
  | [.list xs] => mok (enumL xs)
  | [.tuple xs] => mok (enumL xs)
  | _ => none
theorem di_enumA {elts : List Expr} {kk : Nat} {tpos p : Pos} {fs : DEnv → M (List D)} (hg : Gl X "enumerate") (hm : X.mg "enumerate" = none) (ha : DA X W .v [a] fs) (hs : starEach [a] X.env = [(false, eval a X.env)] := by rfl) :
    DI X W (.Tuple elts kk tpos) (.Call (.Name "enumerate" p) [a] [] pos) (dItA enumA fs) := by
  obtain ⟨wi, hi, qi⟩ := di_enum (W := W) (elts := elts) (kk := kk) (tpos := tpos) (p := p) (pos := pos) hg hm ha hs
  obtain ⟨len, t, ha, q⟩ := ha
  refine ⟨_, PI.or hi (pi_enumT hg hm ha hs), fun B F H σ env R ok h => ?_⟩
  by_cases hc : ∃ xs, fs env = some (.ok [PyData.tuple xs])
  · obtain ⟨xs, hx⟩ := hc
    right
    refine q B F H σ env _ ok ?_
    have h2 := h.bind
    rw [hx] at h2 ⊢
    intro vs F' H' x r
    have r : RpA X.K X.w F' vs [.tuple xs] := r
    cases r with
    | cons r1 r2 =>
      cases r2
      cases r1 with
      | tup h1 a1 =>
        refine ⟨_, _, rfl, sqT_mono x.fh h1, h2 _ F' H' x ⟨fun F2 H2 i d s1 s2 hd => ?_, fun F2 H2 s1 s2 => ?_⟩⟩
        · obtain ⟨z1, e1, rfl⟩ := enum_get hd
          obtain ⟨u1, g1, p1⟩ := a1.get e1
          have q1 := sqT_mono (s1.trans s2) h1
          refine ⟨⟨_, u1, q1, g1⟩, fun x1 H3 y => ?_⟩
          obtain ⟨T, w1, rfl, hT, rfl, y1⟩ := y
          have e3 := (y1 _ q1).symm.trans g1
          cases e3
          have x := Ext.newF (o := .tup [.int (i : Nat), u1]) s2 hT
          exact ⟨_, x, .tup (.inl (.inl upd_same)) (.cons (.int _) (.cons ((p1.mono s1).mono x.ff) .nil))⟩
        · exact ⟨_, sqT_mono (s1.trans s2) h1, by rw [enum_len, a1.length]⟩
  · left
    refine qi B F H σ env R ok ?_
    have e : dItA enumD fs env = dItA enumA fs env := by
      unfold dItA
      cases hf : fs env with
      | none => rfl
      | some r =>
        cases r with
        | error c => rfl
        | ok ds =>
          show enumD ds = enumA ds
          match ds, hf with
          | [], _ => rfl
          | .none :: _, _ => rfl
          | .bool _ :: _, _ => rfl
          | .int _ :: _, _ => rfl
          | .str _ :: _, _ => rfl
          | .dict _ :: _, _ => rfl
          | [.list _], _ => rfl
          | .list _ :: _ :: _, _ => rfl
          | .tuple _ :: _ :: _, _ => rfl
          | [.tuple xs], hf => exact absurd ⟨xs, hf⟩ hc
    rw [e]
    exact h
/-- for x in a list, a tuple -/
def asLT : D → M (List D)
  | .list ds => mok ds
  | .tuple ds => mok ds
  | _ => none
theorem di_seq (he : DE X W .v e f) : DI X W tg e (dIt asLT f) := by
  obtain ⟨wi, hi, qi⟩ := di_list (tg := tg) he
  obtain ⟨wj, hj, qj⟩ := di_tup (tg := tg) he
  refine ⟨_, PI.or hi hj, fun B F H σ env R ok h => ?_⟩
  by_cases hc : ∃ xs, f env = some (.ok (PyData.tuple xs))
  · obtain ⟨xs, hx⟩ := hc
    right
    refine qj B F H σ env R ok ?_
    unfold dIt at h ⊢
    rw [hx] at h ⊢
    exact h
  · left
    refine qi B F H σ env R ok ?_
    have e : dIt asSeq f env = dIt asLT f env := by
      unfold dIt
      cases hf : f env with
      | none => rfl
      | some r =>
        cases r with
        | error c => rfl
        | ok d =>
          show asSeq d = asLT d
          cases d with
          | tuple xs => exact absurd ⟨xs, hf⟩ hc
          | _ => rfl
    rw [e]
    exact h
/-- -n -/
def negD : D → M D
  | .int i => mok (.int (-i))
  | _ => none
theorem de_neg (ha : DE X W .v a fa) : DE X W .v (.UnaryOp .USub a pos) (d1 negD fa) := by
  obtain ⟨ta, ha, qa⟩ := ha
  refine ⟨_, pe_un un_neg ha, fun B F H σ env Q ok h => qa B F H σ env _ ok (h.bind.mono (fun d k v F' H' x r => ?_) fun c k => k)⟩
  have r : Rp X.K X.w F' v d := r
  cases r with
  | int i => exact ⟨i, rfl, k _ F' H' x (.int _)⟩
  | _ => exact k.elim
/-! ### in-place operators of numbers and texts -/
def iaddD : D → D → M D
  | .int i, .int j => mok (.int (i + j))
  | .str x, .str y => if x.length + y.length ≤ sizeLine then mok (.str (x ++ y)) else none
  | _, _ => none
theorem iaddD_ne (x y : D) (c : Value) : iaddD x y ≠ some (.error c) := by
  unfold iaddD
  split <;> first | (intro h; cases h; done) | (split <;> intro h <;> cases h)
theorem iop_addV : OpR X (inplaceOp .Add) (rD X .v iaddD) := by
  intro pins s σ H x y v u Q I rx ry h
  obtain ⟨F, d, e, sm, sx, sy, h⟩ := h
  unfold iaddD at h
  split at h
  · cases sx.int; cases sy.int
    exact iop_add pins s σ H _ _ v u Q I rx ry ⟨_, _, rfl, rfl, h _ F H (.refl sm) (.int _)⟩
  · split at h
    · rename_i hz
      cases sx.str; cases sy.str
      exact iop_add_str pins s σ H _ _ v u Q I rx ry ⟨_, _, rfl, rfl, hz, h _ F H (.refl sm) (.str _)⟩
    · exact h.elim
  · exact h.elim
theorem iop_subV : OpR X (inplaceOp .Sub) (rD X .v subD) := op_int2 (fun _ _ _ => .int _) (fun _ _ _ => trivial) (rI_of iop_sub)
theorem iop_mulV : OpR X (inplaceOp .Mult) (rD X .v mulD) := op_int2 (fun _ _ _ => .int _) (fun i j h => cmul_of h) iop_mul
end
end DL

/-! The data layer, part 9: defs with defaults, a call with one keyword. -/
namespace DL
open PySem PySem.Spec PyProof.Rows L2
section
variable {P : Program} {w : World} {K : PySem.W.Frag} {mg : Str → Option Value} {base : Heap}
/-- a def with defaults whose body is g -/
theorem fn_okD {x qual : Str} {st : Stmt} {fn : Addr} {fd : FuncData} {N ps : List Str} {k n : Nat} {g : DEnv → Option Out} {dvs : List V} {kws : List (Str × V)} (Fn : FunD K x qual (defArgs st) (defBody st) (defScope st) dvs kws fn fd) (S : FnScope N ps (defScope st)) (hn : ps.length = n)
    (hb : ∀ (cdv : Value) (A : Around) (outer : List Env) (s : Shared) (H : Hp) (E : XK), Room k (A.deeper (envOfC qual (defScope st) s.heap.objs.size fn cdv)) →
      DSs (cxOf (L2.CX P w) P w K mg base N qual (defScope st) fn cdv A outer s H E) (fun cls d _ H => E cls d H) (defBody st) g) : FnOk P w K mg base (L2.CX P w) (k + 1) fn fd ps (spD K w n (runD N.length g)) := by
  refine Fn.ok S (fun vs H Q E h => h.1.trans hn.symm) (fun cdv A outer s H vs Q E hr h => ?_)
  obtain ⟨hl, F, ds, sm, ra, h⟩ := h
  obtain ⟨t, ht, q⟩ := hb cdv A outer s H E hr
  refine ⟨t, ht, q ⟨F, H⟩ F H (L2.start N vs) (startD N.length ds) _ (start_ok N sm ra) ?_⟩
  unfold runD at h
  cases hg : g (startD N.length ds) with
  | none => rw [hg] at h; exact h.elim
  | some o =>
    rw [hg] at h
    cases o with
    | nx e => exact fun F' H' σ' ok => h F' H' .non ok.ext .non
    | rt o d => exact fun F' H' v x r => h F' H' v x r
    | bk e => exact h.elim
    | ct e => exact h.elim
    | xc c e => exact fun F' H' σ' ok => h F' H' ok.ext
/-- f(e, .., k = v): the keyword is the last parameter -/
theorem kbn_last {x qual : Str} {params : Arguments} {body : List Stmt} {scope : Scope} {dvs : List V} {kws : List (Str × V)} {fn : Addr} {fd : FuncData} {ps : List Str} {nm : Str} (F : FunD K x qual params body scope dvs kws fn fd) (n : Nat) (hd : dvs ≠ [])
    (h : ∀ (T : Addr) (kV doc pm : Value) (an : Option Addr) (cdv ct : Value) (us its : List Value) (u : Value), us.length = n → its.length = dvs.length →
      ∃ k, bindArgs (PySem.W.fnOf x qual params body scope (.ref T) kV doc pm an cdv ct) ⟨us, [(nm, u)]⟩ = seqItems? (.ref T) >>= k ∧ k (some its.toArray) = pure (ps.zip (us ++ [u]))) :
    KBn K fd ps n [nm] (fun us ws => us ++ ws) (fun vs zs => vs ++ zs) := by
  obtain ⟨oc, od, dV, kV, doc, pm, an, cdv, ct, osl, rfl, lk, hcd, hD, hK⟩ := F.ex
  rcases hD with ⟨e, _⟩ | ⟨_, T, o, its, m, rfl, lT, oT, rT⟩
  · exact absurd e hd
  · refine ⟨fun s us ws X l1 l2 => ?_, fun r1 r2 => r1.append r2⟩
    match ws, l2 with
    | [u], _ =>
      obtain ⟨k, e1, e2⟩ := h T kV doc pm an cdv ct us its u l1 rT.length.symm
      refine BindsTo.of_looks fun M => ?_
      show PySem.W.Looks M s.heap (bindArgs (PySem.W.fnOf x qual params body scope (.ref T) kV doc pm an cdv ct) ⟨us, [(nm, u)]⟩) _
      rw [e1]
      exact looks_items X lT oT (.of_pure e2)
end
section
variable {X : Cx} {W : WX} {e a b : Expr} {f fa fb : DEnv → M D} {pos : Pos} {k n m : Nat} {fn : Addr} {fd : FuncData} {ps : List Str} {G : List D → Option Res} {x nm : Str} {pc kp : Pos} {es : List Expr} {fs : DEnv → M (List D)}
def dFnK (G : List D → Option Res) (fs : DEnv → M (List D)) (f : DEnv → M D) (env : DEnv) : M D := mbind (fs env) fun ds => mbind (f env) fun d => match G (ds ++ [d]) with
  | some (.ret _ z) => mok z
  | _ => none
theorem de_callK (F : FnOk X.prog X.w X.K X.mg X.base (L2.CX X.prog X.w) k fn fd ps (spD X.K X.w n G)) (hr : Room k X.A) (hg : Gl X x) (hm : X.mg x = some (.ref fn)) (hk : PySem.W.keepIn X.K (.ref fn) = true) (hb : KBn X.K fd ps m [nm] (fun us ws => us ++ ws) (fun vs zs => vs ++ zs))
    (ha : DA X W .v (e :: es) fs) (hkw : DE X W .v b fb) (hm2 : (e :: es).length = m := by rfl) (hn : m + 1 = n := by rfl) (hall : (backToKw pos (keywordEach [⟨some nm, b, kp⟩] X.env)).all (·.1.isSome) = true := by rfl) (hks : (backToKw pos (keywordEach [⟨some nm, b, kp⟩] X.env)).filterMap (·.1) = [nm] := by rfl)
    (hdb : (x == ("__debug__" : Str)) = false := by decide) (he : starEach (e :: es) X.env = (false, eval e X.env) :: starEach es X.env := by rfl)
    (hpl : ((backTo pos (starEach (e :: es) X.env)).any (·.1) || (backToKw pos (keywordEach [⟨some nm, b, kp⟩] X.env)).any (·.1.isNone)) = false := by rfl) :
    DE X W .v (.Call (.Name x pc) (e :: es) [⟨some nm, b, kp⟩] pos) (dFnK G fs fb) := by
  obtain ⟨len, t, ha, qa⟩ := ha
  obtain ⟨tb, hkw, qb⟩ := hkw
  refine ⟨_, pe_callN (E := E0) F hr hg hm hk hb passL ha (pk_cons hkw pk_nil) hall hks hdb he hpl, fun B F0 H σ env Q ok h => qa B F0 H σ env _ ok (h.bind.monoE (fun ds hds k vs F1 H1 e1 rs => ?_) fun c _ k => k)⟩
  refine qb B F1 H1 σ env _ (ok.mono e1) (k.bind.mono (fun d k u F2 H2 e2 r2 => ?_) fun c k F' H' e => k F' H' (e1.trans e))
  have hl : vs.length = m := ((RMA.length rs).trans (len env ds hds)).trans hm2
  refine ⟨hl, rfl, by rw [List.length_append, hl]; exact hn, F2, ds ++ [d], e2.fh, RpA.append (RpA.mono e2.ff rs) (.cons r2 .nil), ?_⟩
  split at k
  · rename_i o z hG
    rw [hG]
    intro F3 H3 v x3 r3
    obtain ⟨F4, x4, r4⟩ := rm_freeze x3 r3
    exact k v F4 H3 ((e1.trans e2).trans x4) r4
  · exact k.elim
end
end DL

/-! The data layer: sorted. -/
namespace DL
open PySem PySem.Spec PyProof.Rows L2
/-! ### the order -/
def alikeL (xs : List D) : Bool := xs.all fun x => xs.all fun y => PySem.W.alike x y
def tupC : D → Bool
  | .tuple (_ :: _) => true
  | _ => false
def plainS : D → Bool
  | .tuple _ => false
  | .none => false
  | _ => true
/-- what can be sorted here -/
def srtOk (xs : List D) : Bool := alikeL xs && (xs.all tupC || xs.all plainS || decide (xs.length ≤ 1)) && xs.all eqOk
def srt (xs : List D) : List D := xs.mergeSort (PySem.W.dataLe false id)
theorem srtOk_alike {xs : List D} (h : srtOk xs = true) : PySem.W.AllAlike xs := by
  unfold srtOk alikeL at h
  simp only [Bool.and_eq_true, List.all_eq_true] at h
  exact fun d hd d' hd' => h.1.1 d hd d' hd'
theorem srtOk_eq {xs : List D} (h : srtOk xs = true) : ∀ d ∈ xs, eqOk d = true := by
  unfold srtOk at h
  simp only [Bool.and_eq_true, List.all_eq_true] at h
  exact h.2
theorem alike_none {x y : D} (h : PySem.W.alike x y = true) : x = .none → y = .none := by
  rintro rfl
  cases y <;> simp [PySem.W.alike] at h ⊢
theorem SortsAt.short {prog : Program} {w : World} {A : Around} {s : Shared} {vs : List Value} {ds : List PyData} (e : PySem.W.EachIs (fun v d => ∃ as, Reads s.heap v d as) vs ds) (hal : PySem.W.AllAlike ds) (hn : ∀ d ∈ ds, d ≠ .none) (h1 : ds.length ≤ 1) (hu : ∀ d, d ∈ ds → A.units + d.depth < cLine) :
    PySem.W.SortsAt prog w A s (PySem.W.dataKind s.heap ds) vs := by
  have room : ∀ {d d' : PyData}, d ∈ ds → A.units + min d.depth d'.depth < cLine := fun {d d'} hd => Nat.lt_of_le_of_lt (Nat.add_le_add_left (Nat.min_le_left _ _) _) (hu d hd)
  refine ⟨fun v hv => ?_, general', ?_, fun h2 => ?_⟩
  · obtain ⟨d, hd, as, r⟩ := e.left v hv
    exact ⟨_, PySem.W.dataKind_some hal hd r⟩
  · intro E x y a b Q ha hb hq
    obtain ⟨d, as, hd, ra, rfl⟩ := PySem.W.dataKind_inv ha
    obtain ⟨d', as', hd', rb, rfl⟩ := PySem.W.dataKind_inv hb
    show wpAny _ _ (oneLt' false x y) _ _ _
    exact PySem.W.oneLt_alike (fun h => by cases h) ra rb (hal d hd d' hd') (hn d hd) (room hd) hq
  · have := e.length
    omega
theorem SortsAt.ok {prog : Program} {w : World} {A : Around} {s : Shared} {vs : List Value} {ds : List PyData} (e : PySem.W.EachIs (fun v d => ∃ as, Reads s.heap v d as) vs ds) (h : srtOk ds = true) (hu : A.units + 60 < cLine) (h1 : ds.length ≤ 1 → ∀ d ∈ ds, d ≠ .none) :
    PySem.W.SortsAt prog w A s (PySem.W.dataKind s.heap ds) vs := by
  have hal := srtOk_alike h
  have he := srtOk_eq h
  have hu2 : ∀ d, d ∈ ds → A.units + d.depth < cLine := fun d hd => by
    have := he d hd
    unfold eqOk at this
    simp only [Bool.and_eq_true, decide_eq_true_eq] at this
    omega
  unfold srtOk at h
  simp only [Bool.and_eq_true, Bool.or_eq_true, decide_eq_true_eq] at h
  rcases h.1.2 with (h | h) | h
  · refine PySem.W.SortsAt.data e hal (.inl fun d hd => ?_) hu2
    have := List.all_eq_true.mp h d hd
    unfold tupC at this
    split at this
    · exact ⟨_, _, rfl⟩
    · cases this
  · refine PySem.W.SortsAt.data e hal (.inr fun d hd => ?_) hu2
    have := List.all_eq_true.mp h d hd
    unfold plainS at this
    constructor
    · rintro rfl; cases this
    · rintro xs rfl; cases this
  · exact SortsAt.short e hal (h1 h) h hu2
section
variable {prog : Program} {w : World} {A : Around} {E : Value → Shared → Prop} {s : Shared}
/-- what is known of the values stays with the items -/
theorem sort_each {h' : Heap} {β : Type} {R : Value → β → Prop} {enc : β → PyData} {vs : List Value} {bs : List β} (e : PySem.W.EachIs R vs bs) (er : PySem.W.EachIs (fun v b => ∃ as, Reads h' v (enc b) as) vs bs) (hal : PySem.W.AllAlike (bs.map enc)) :
    PySem.W.EachIs R (PySem.W.sortVals (PySem.W.dataKind h' (bs.map enc)) false vs vs) (bs.mergeSort (PySem.W.dataLe false enc)) := PySem.W.sortVals_data false e er hal
/-- the new list that a collect makes, of a list or a tuple: the heap grows -/
theorem gather_seq {P : List Value → Shared → Prop} {T : String} {l : Addr} {ob : Obj} {n : Nat} {xs : Array Value} (hT : T = "list" ∨ T = "tuple") (ho : s.heap.get? l = some ob) (hc : ob.cls = .type T) (hd : ob.data = .seq xs n) (hz : xs.size ≤ sizeLine)
    (q : ∀ h1 : Heap, (∀ c z, s.heap.get? c = some z → h1.get? c = some z) → s.heap.objs.size ≤ h1.objs.size → P xs.toList { s with heap := h1 }) : wpAny (model prog w) A (collect (.ref l)) P E s := by
  let Ob : Obj := { cls := .type "list", data := .seq ([] : List Value).toArray }
  let B : Heap := (s.heap.push Ob).update s.heap.objs.size (Obj.mapSeq (· ++ xs))
  have h0 : (s.heap.push Ob).get? s.heap.objs.size = some { cls := .type "list", data := .seq #[] 0 } := Heap.get?_push_size _ rfl
  have hB := Heap.get?_update_self (Obj.mapSeq (· ++ xs)) h0 rfl
  have hsz : B.objs.size = s.heap.objs.size + 1 := by show ((s.heap.push Ob).update _ _).objs.size = _; rw [Heap.size_update, size_push']
  have ends : ∀ k : Value → Sem (List Value), (k = fun v => match v with | .ref a => (load a >>= fun z => match z.data with | .seq ys _ => pure ys.toList | _ => unsupported "internal:collect") | _ => unsupported "internal:collect") →
      wpAny (model prog w) A (k (.ref s.heap.objs.size)) P E { s with heap := B } := by
    rintro _ rfl
    refine wpAny_bind (wpAny_load hB (wpAny_pure ?_))
    show P ((#[] : Array Value) ++ xs).toList _
    rw [show ((#[] : Array Value) ++ xs).toList = xs.toList by simp]
    refine q B (fun c z hz => ?_) (by omega)
    exact (Heap.get?_update_other _ _ (Nat.ne_of_gt (Heap.lt_size hz))).trans (Heap.get?_push_of_some _ hz)
  unfold collect
  refine wpAny_bind (wpAny_runValue (codeAny_builtin PySem.F.entry_proto_collect ?_))
  rw [Around.under_plainId PySem.F.plain_proto_collect _]
  refine wpAny_bind (m := newList []) (wpAny_newObj_type (wpAny_pure ⟨plainId_quiet PySem.F.plain_list_iadd _, codeAny_builtin PySem.F.entry_list_iadd ?_⟩))
  rw [Around.under_plainId PySem.F.plain_list_iadd _]
  have key := wpAny_extend_seq (prog := prog) (w := w) (hsz := hz) (A := A) (R := fun r t => r = .ok (.ret (.ref s.heap.objs.size)) ∧ t = { s with heap := B }) (s := { s with heap := s.heap.push Ob }) s.heap.objs.size l (.ref s.heap.objs.size) 0 hT h0 (Heap.get?_push_of_some _ ho) hc hd ⟨rfl, rfl⟩
  refine wpAny_mono key (fun f t x => ?_) (fun c t x => absurd x.1 (by simp))
  match f, x with
  | .done f, x =>
    obtain ⟨e, rfl⟩ := x
    cases e
    exact ends _ rfl
  | .again c, x =>
    refine ⟨x.1, codeAny_mono x.2 fun r t y => ?_⟩
    obtain ⟨rfl, rfl⟩ := y
    exact ends _ rfl
/-- sorted(xs), xs a list or a tuple -/
theorem sorted_seq {β : Type} {T : String} {l : Addr} {o : Obj} {n : Nat} {vs : List Value} {bs : List β} {enc : β → PyData} {R : Value → β → Prop} {Q : Value → Shared → Prop} (hT : T = "list" ∨ T = "tuple") (ho : s.heap.get? l = some o) (hc : o.cls = .type T) (hd : o.data = .seq vs.toArray n)
    (e : PySem.W.EachIs R vs bs) (er : PySem.W.EachIs (fun v b => ∃ as, Reads s.heap v (enc b) as) vs bs) (hs : srtOk (bs.map enc) = true) (h1 : bs.length ≤ 1 → ∀ b ∈ bs, enc b ≠ .none) (hL : bs.length ≤ sizeLine) (hu : A.units + 64 < cLine)
    (h : ∀ (h' : Heap) (a : Addr) (out : List Value) (ep : Nat), (∀ b o, s.heap.get? b = some o → h'.get? b = some o) → s.heap.objs.size ≤ a → h'.get? a = some (seqObj "list" out.toArray ep) → PySem.W.EachIs R out (bs.mergeSort (PySem.W.dataLe false enc)) → Q (.ref a) { s with heap := h' }) :
    wpAny (model prog w) A (call (.builtin "sorted") [.ref l]) Q E s := by
  have hlen : vs.length ≤ sizeLine := by rw [e.length]; exact hL
  refine call_function_entry_kw kind_sorted plain_sorted entry_sorted (args_sorted1 _) ?_
  unfold Builtin.«sorted»
  refine wpAny_bind (m := checkCount "sorted" 1 1 _) (wpAny_pure ?_)
  refine wpAny_bind (gather_seq hT ho hc hd (by rw [List.size_toArray]; exact hlen) fun h1' hk hsize => ?_)
  refine wpAny_bind (wpAny_newList ?_ hlen)
  have hat : (h1'.push (seqObj "list" vs.toArray 0)).get? h1'.objs.size = some (seqObj "list" vs.toArray 0) := Heap.get?_push_size _ rfl
  have hk2 : ∀ b o, s.heap.get? b = some o → (h1'.push (seqObj "list" vs.toArray 0)).get? b = some o := fun b o e => Heap.get?_push_of_some _ (hk b o e)
  have hne : ∀ b o, s.heap.get? b = some o → b ≠ h1'.objs.size := fun b o e => Nat.ne_of_lt (Heap.lt_size (hk b o e))
  refine wpAny_bind (wpAny_holding (wpAny_call_entry_kw slot_list_sort ⟨_, hat, rfl⟩ entry_list_sort ?body (args_list_sort _)))
  case body =>
    have er' : PySem.W.EachIs (fun v b => ∃ as, Reads (PySem.W.sortingHeap (h1'.push (seqObj "list" vs.toArray 0)) h1'.objs.size vs) v (enc b) as) vs bs := er.mono fun _ _ ⟨as, r⟩ => ⟨as, PyProof.Rows.Reads.keeps (fun b o e => PySem.W.sortingHeap_old (hne b o e) (hk2 b o e)) r⟩
    refine wpAny_mono (PySem.W.list_sort_vals (P := fun f s' => f = .done (.ret .none) ∧ Q (.ref h1'.objs.size) s') (s := { s with heap := h1'.push (seqObj "list" vs.toArray 0) }) hat
      (SortsAt.ok (s := { s with heap := PySem.W.sortingHeap (h1'.push (seqObj "list" vs.toArray 0)) h1'.objs.size vs }) (PySem.W.each_map (R := fun v d => ∃ as, Reads (PySem.W.sortingHeap (h1'.push (seqObj "list" vs.toArray 0)) h1'.objs.size vs) v d as) enc er') hs ?_ ?_) hlen ⟨rfl, ?_⟩) (fun f s' hf => ?_) fun _ _ e => e
    · show A.units + 1 + 1 + 60 < cLine
      omega
    · intro hl d hd
      rw [List.length_map] at hl
      obtain ⟨b, hb, rfl⟩ := List.mem_map.mp hd
      exact h1 hl b hb
    · obtain ⟨ep, he⟩ := sortedHeap_at (vs := vs) (out := (PySem.W.sortVals (PySem.W.dataKind (PySem.W.sortingHeap (h1'.push (seqObj "list" vs.toArray 0)) h1'.objs.size vs) (bs.map enc)) false vs vs).toArray) hat
      refine h _ _ _ ep (fun b o e => ?_) ?_ he (sort_each e er' (srtOk_alike hs))
      · rw [sortedHeap_old (hne b o e) (Heap.lt_size (hk2 b o e))]
        exact hk2 b o e
      · exact hsize
    · obtain ⟨rfl, hq⟩ := hf
      exact ⟨_, rfl, wpAny_pure ⟨_, rfl, hq⟩⟩
end
end DL
namespace DL
open PySem PySem.Spec PyProof.Rows L2
def notNone : D → Bool
  | .none => false
  | _ => true
def sortL (xs : List D) : M D := if srtOk xs = true ∧ xs.all notNone = true then mok (.list (srt xs)) else none
/-- sorted of a list or a tuple -/
def sortD : List D → M D
  | [.list xs] => sortL xs
  | [.tuple xs] => sortL xs
  | _ => none
theorem sortL_ne (xs : List D) (c : Value) : sortL xs ≠ some (.error c) := by
  unfold sortL
  split <;> intro h <;> cases h
theorem sortD_ne (ds : List D) (c : Value) : sortD ds ≠ some (.error c) := by
  unfold sortD
  split <;> first | exact sortL_ne _ _ | (intro h; cases h)
section
variable {X : Cx}
theorem each_of {K : PySem.W.Frag} {w : World} {F : Hp} : ∀ {vs : List V} {us : List Value} {ds : List D}, Vals vs us → RpA K w F vs ds → PySem.W.EachIs (fun (u : Value) (b : V × D) => RelV b.1 u ∧ Rp K w F b.1 b.2) us (vs.zip ds)
  | _, _, _, .nil, .nil => .nil
  | _, _, _, .cons r t, .cons p q => .cons ⟨r, p⟩ (each_of t q)
theorem each_to {K : PySem.W.Frag} {w : World} {F : Hp} : ∀ {us : List Value} {bs : List (V × D)}, PySem.W.EachIs (fun (u : Value) (b : V × D) => RelV b.1 u ∧ Rp K w F b.1 b.2) us bs → Vals (bs.map (·.1)) us ∧ RpA K w F (bs.map (·.1)) (bs.map (·.2))
  | _, _, .nil => ⟨.nil, .nil⟩
  | _, _, .cons h t => ⟨.cons h.1 (each_to t).1, .cons h.2 (each_to t).2⟩
theorem zip_snd {α β : Type} : ∀ {xs : List α} {ys : List β}, xs.length = ys.length → (xs.zip ys).map (·.2) = ys
  | [], [], _ => rfl
  | [], _ :: _, h => by simp at h
  | _ :: _, [], h => by simp at h
  | x :: xs, y :: ys, h => by
    show y :: (xs.zip ys).map (·.2) = y :: ys
    rw [zip_snd (by simpa using h)]
theorem each_and {α β : Type} {R S : α → β → Prop} : ∀ {as : List α} {bs : List β}, PySem.W.EachIs R as bs → (∀ a b, b ∈ bs → R a b → S a b) → PySem.W.EachIs S as bs
  | _, _, .nil, _ => .nil
  | _, _, .cons h t, k => .cons (k _ _ List.mem_cons_self h) (each_and t fun a b hb => k a b (List.mem_cons_of_mem _ hb))
theorem srt_map (bs : List (V × D)) : (bs.mergeSort (PySem.W.dataLe false fun b => b.2)).map (·.2) = srt (bs.map (·.2)) := by
  unfold srt
  exact List.map_mergeSort fun a _ b _ => rfl
/-- the call, by the object that stands there -/
theorem sorted_at {pins : List (Addr × Obj)} {s : Shared} {σ : L2.St} {H F : Hp} {a : Addr} {T : String} {o : Obj} {n : Nat} {vs : List V} {us : List Value} {ds : List D} {Q : VK} (I : Inv X pins σ H s) (sm : Same F H) (hT : T = "list" ∨ T = "tuple") (ho : s.heap.get? a = some o) (hc : o.cls = .type T) (hd : o.data = .seq us.toArray n)
    (rv : Vals vs us) (ra : RpA X.K X.w F vs ds) (hz : vs.length ≤ sizeLine) (hu : X.A.units + 64 < cLine) (hs : srtOk ds = true) (hn : ds.all notNone = true)
    (h : ∀ v F' H', Ext F H F' H' → RM X.K X.w H F' H' .o v (.list (srt ds)) → Q v H') : wpAny (model X.prog X.w) X.A (call (.builtin "sorted") [.ref a]) (EP X pins σ Q) X.xe s := by
  have l1 := ra.length
  have e0 := each_of rv ra
  have em : (vs.zip ds).map (·.2) = ds := zip_snd l1
  have er : PySem.W.EachIs (fun u (b : V × D) => ∃ as, Reads s.heap u b.2 as) us (vs.zip ds) := each_and e0 fun u b hb hR => by
    have hb2 : b.2 ∈ ds := by rw [← em]; exact List.mem_map.mpr ⟨b, hb, rfl⟩
    have := srtOk_eq hs _ hb2
    unfold eqOk at this
    simp only [Bool.and_eq_true] at this
    exact Rp.reads I b.2 b.1 u this.1 (hR.2.mono sm) hR.1
  refine sorted_seq (enc := fun b : V × D => b.2) hT ho hc hd e0 er (by rw [em]; exact hs) (fun _ b hb => ?_) (by rw [List.length_zip, ← l1, Nat.min_self]; exact hz) hu fun h' p out ep hk hp he hR => ?_
  · have hb2 : b.2 ∈ ds := by rw [← em]; exact List.mem_map.mpr ⟨b, hb, rfl⟩
    have := List.all_eq_true.mp hn _ hb2
    intro hz
    rw [hz] at this
    cases this
  · obtain ⟨rv2, ra2⟩ := each_to hR
    rw [srt_map, em] at ra2
    have hp0 := I.hok.fresh hp
    have hl : (((vs.zip ds).mergeSort (PySem.W.dataLe false fun b => b.2)).map (·.1)).length ≤ sizeLine := by
      rw [List.length_map, List.length_mergeSort, List.length_zip, ← l1, Nat.min_self]
      exact hz
    have I2 := I.laid (h' := h') (t' := s.toks) (o := .lst (((vs.zip ds).mergeSort (PySem.W.dataLe false fun b => b.2)).map (·.1))) hk hp ⟨hl, out, ep, rv2, he⟩
    refine ⟨.ref p, _, I2, rfl, h _ F _ (Ext.newO sm hp0) ?_⟩
    exact ⟨⟨p, rfl, .inl ⟨_, _, rfl, upd_same, ra2⟩⟩, p, rfl, hp0, sm.free hp0⟩
theorem call_sortO (hu : X.A.units + 64 < cLine) : CallR X (.builtin "sorted") (rC X .o sortD) := by
  intro pins s σ H xs us Q I r h
  obtain ⟨F, ds, sm, sx, h⟩ := h
  unfold sortD at h
  split at h
  · obtain ⟨v, rfl, k⟩ := pair1 sx
    obtain ⟨a, vs, rfl, ha, ra⟩ := k.list sm
    obtain rfl := Vals.ref1 r
    obtain ⟨its, rv, ⟨o, n, e, hc, _, hd⟩, hz⟩ := I.list ha
    unfold sortL at h
    split at h
    · rename_i hk
      exact sorted_at I sm (.inl rfl) e hc hd rv ra hz hu hk.1 hk.2 h
    · exact h.elim
  · obtain ⟨v, rfl, k⟩ := pair1 sx
    obtain ⟨a, vs, rfl, ha, ra⟩ := k.tuple sm
    obtain rfl := Vals.ref1 r
    obtain ⟨its, rv, ⟨o, e, hc, n, hd⟩, hz⟩ := I.tuple ha
    unfold sortL at h
    split at h
    · rename_i hk
      exact sorted_at I sm (.inr rfl) e hc hd rv ra hz hu hk.1 hk.2 h
    · exact h.elim
  · exact h.elim
end
end DL
namespace DL
open PySem PySem.Spec PyProof.Rows L2
/-! ### sep.join(xs) -/
def strsOf : List D → Option (List Str)
  | [] => some []
  | .str x :: r => (strsOf r).map (x :: ·)
  | _ :: _ => none
def joinS (a : Str) : D → M D
  | .list xs => match strsOf xs with
    | some ys => if (ys.map (·.length)).sum + ys.length * a.length ≤ 16777216 then mok (.str (Txt.join a ys)) else none
    | none => none
  | _ => none
def dJoin (fa fb : DEnv → M D) (env : DEnv) : M D := mbind (fa env) fun x => match x with
  | .str a => mbind (fb env) (joinS a)
  | _ => none
theorem strs_rp {K : PySem.W.Frag} {w : World} {F : Hp} : ∀ {vs : List V} {ds : List D} {ys : List Str}, RpA K w F vs ds → strsOf ds = some ys → vs = ys.map V.str
  | _, _, ys, .nil, h => by
    cases h
    rfl
  | _, _, ys, .cons (d := d) r t, h => by
    cases d with
    | str x =>
      unfold strsOf at h
      cases r
      obtain ⟨zs, h1, rfl⟩ := Option.map_eq_some_iff.mp h
      rw [strs_rp t h1]
      rfl
    | _ => simp [strsOf] at h
section
variable {X : Cx} {W : WX} {a b : Expr} {fa fb : DEnv → M D} {apos cpos : Pos}
theorem de_join (ho : DE X W .v a fa) (hx : DE X W .s b fb)
    (hbase : attributeBase a "join" X.env (eval a X.env) = eval a X.env := by rfl)
    (hfew : ((backTo cpos (starEach [b] X.env)).all (fun x => !x.1) && (backToKw cpos (keywordEach [] X.env)).all (fun x => x.1.isSome)
      && decide ([b].length + ([] : List Keyword).length + (if ([] : List Keyword).isEmpty then 0 else 1) < 30)) = true := by rfl)
    (hline : (apos.endLine == cpos.line) = true := by rfl) (hs : starEach [b] X.env = (false, eval b X.env) :: starEach [] X.env := by rfl) (hplain : (backTo cpos (starEach [] X.env)).any (·.1) = false := by rfl) :
    DE X W .v (.Call (.Attribute a "join" apos) [b] [] cpos) (dJoin fa fb) := by
  obtain ⟨ta, ho, qa⟩ := ho
  obtain ⟨tb, hx, qb⟩ := hx
  refine ⟨_, pe_bm PySem.F.plainAttrs_str PySem.F.slot_str_join PySem.F.type_str_join mt_join ho (pa_cons hx pa_nil hs) hbase hfew hline hs hplain, fun B F H σ env Q ok h => qa B F H σ env _ ok (h.bind.mono (fun d k v F1 H1 x1 r1 => ?_) fun c k => k)⟩
  have r1 : Rp X.K X.w F1 v d := r1
  cases d with
  | str s =>
    cases r1
    refine ⟨rfl, qb B F1 H1 σ env _ (ok.mono x1) (k.bind.mono (fun e k u F2 H2 x2 r2 => ?_) fun c k F' H' e => k F' H' (x1.trans e))⟩
    have r2 : Sh X.K X.w F2 H2 u e := r2
    unfold joinS at k
    split at k
    · split at k
      · rename_i ys hy
        split at k
        · rename_i hz
          obtain ⟨p, vs, rfl, hp, ra⟩ := r2.list x2.fh
          have := strs_rp ra hy
          subst this
          exact ⟨_, p, ys, rfl, rfl, .inl hp, hz, k _ F2 H2 (x1.trans x2) (.str _)⟩
        · exact k.elim
      · exact k.elim
    · exact k.elim
  | _ => exact k.elim
end
end DL

/-! The data layer: dicts whose keys are tuples. -/
namespace DL
open PySem PySem.Spec PyProof.Rows L2
/-! ### keys -/
mutual
/-- the datum as a key -/
def toKey : D → Option NestedKey
  | .none => some .none
  | .int i => some (.num i)
  | .str x => some (.text x)
  | .tuple xs => (toKeys xs).map .tup
  | .bool _ => none
  | .list _ => none
  | .dict _ => none
def toKeys : List D → Option (List NestedKey)
  | [] => some []
  | x :: xs => (toKey x).bind fun k => (toKeys xs).map (k :: ·)
end
mutual
theorem toKey_data : ∀ (d : D) (k : NestedKey), toKey d = some k → k.data = d
  | .none, k, h => by cases h; rfl
  | .int i, k, h => by cases h; rfl
  | .str x, k, h => by cases h; rfl
  | .tuple xs, k, h => by
    rw [toKey] at h
    obtain ⟨ks, h1, rfl⟩ := Option.map_eq_some_iff.mp h
    rw [NestedKey.data, toKeys_data xs ks h1]
  | .bool _, k, h => by cases h
  | .list _, k, h => by cases h
  | .dict _, k, h => by cases h
theorem toKeys_data : ∀ (xs : List D) (ks : List NestedKey), toKeys xs = some ks → NestedKey.datas ks = xs
  | [], ks, h => by cases h; rfl
  | x :: xs, ks, h => by
    rw [toKeys] at h
    obtain ⟨k, h1, h2⟩ := Option.bind_eq_some_iff.mp h
    obtain ⟨l, h3, rfl⟩ := Option.map_eq_some_iff.mp h2
    rw [NestedKey.datas, toKey_data x k h1, toKeys_data xs l h3]
end
mutual
theorem data_toKey : ∀ k : NestedKey, toKey k.data = some k
  | .none => rfl
  | .num i => rfl
  | .text x => rfl
  | .tup ks => by rw [NestedKey.data, toKey, datas_toKeys ks]; rfl
theorem datas_toKeys : ∀ ks : List NestedKey, toKeys (NestedKey.datas ks) = some ks
  | [] => rfl
  | k :: ks => by rw [NestedKey.datas, toKeys, data_toKey k, datas_toKeys ks]; rfl
end
theorem data_inj {k l : NestedKey} (h : k.data = l.data) : k = l := by
  have := data_toKey k
  rw [h, data_toKey l] at this
  exact (Option.some.inj this).symm
mutual
theorem data_noD : ∀ k : NestedKey, noD k.data = true
  | .none => rfl
  | .num i => rfl
  | .text x => rfl
  | .tup ks => by rw [NestedKey.data, noD]; exact datas_noD ks
theorem datas_noD : ∀ ks : List NestedKey, noDs (NestedKey.datas ks) = true
  | [] => rfl
  | k :: ks => by rw [NestedKey.datas, noDs, data_noD k, datas_noD ks]; rfl
end
mutual
theorem eqv_data : ∀ k l : NestedKey, PyData.eqv k.data l.data = NestedKey.beq k l
  | .none, .none => by simp [NestedKey.data, PyData.eqv, NestedKey.beq]
  | .none, .num _ => by simp [NestedKey.data, PyData.eqv, NestedKey.beq]
  | .none, .text _ => by simp [NestedKey.data, PyData.eqv, NestedKey.beq]
  | .none, .tup _ => by simp [NestedKey.data, PyData.eqv, NestedKey.beq]
  | .num _, .none => by simp [NestedKey.data, PyData.eqv, NestedKey.beq]
  | .num i, .num j => by simp only [NestedKey.data, PyData.eqv, NestedKey.beq, Bool.beq_eq_decide_eq]
  | .num _, .text _ => by simp [NestedKey.data, PyData.eqv, NestedKey.beq]
  | .num _, .tup _ => by simp [NestedKey.data, PyData.eqv, NestedKey.beq]
  | .text _, .none => by simp [NestedKey.data, PyData.eqv, NestedKey.beq]
  | .text _, .num _ => by simp [NestedKey.data, PyData.eqv, NestedKey.beq]
  | .text x, .text y => by simp only [NestedKey.data, PyData.eqv, NestedKey.beq, Bool.beq_eq_decide_eq]
  | .text _, .tup _ => by simp [NestedKey.data, PyData.eqv, NestedKey.beq]
  | .tup _, .none => by simp [NestedKey.data, PyData.eqv, NestedKey.beq]
  | .tup _, .num _ => by simp [NestedKey.data, PyData.eqv, NestedKey.beq]
  | .tup _, .text _ => by simp [NestedKey.data, PyData.eqv, NestedKey.beq]
  | .tup ks, .tup ls => by
    rw [NestedKey.data, NestedKey.data, PyData.eqv, NestedKey.beq]
    exact eqvs_data ks ls
theorem eqvs_data : ∀ ks ls : List NestedKey, PyData.eqvAll (NestedKey.datas ks) (NestedKey.datas ls) = NestedKey.beqAll ks ls
  | [], [] => rfl
  | [], _ :: _ => by simp [NestedKey.datas, PyData.eqvAll, NestedKey.beqAll]
  | _ :: _, [] => by simp [NestedKey.datas, PyData.eqvAll, NestedKey.beqAll]
  | k :: ks, l :: ls => by
    rw [NestedKey.datas, NestedKey.datas, PyData.eqvAll, NestedKey.beqAll, eqv_data k l, eqvs_data ks ls]
end
theorem eqv_dec (k l : NestedKey) : PyData.eqv k.data l.data = decide (k = l) := by rw [eqv_data, NestedKey.decide_eq]
mutual
theorem nested_of {h : Heap} : ∀ (k : NestedKey) (v : Value) (as : List Addr), Reads h v k.data as → NestedIs h k v
  | .none, v, as, r => by rw [NestedKey.data] at r; cases r; exact .none
  | .num i, v, as, r => by rw [NestedKey.data] at r; cases r; exact .int _ _
  | .text x, v, as, r => by rw [NestedKey.data] at r; cases r; exact .text _ _
  | .tup ks, v, as, r => by
    rw [NestedKey.data] at r
    cases r with
    | tuple h1 h2 h3 h4 => exact .tup h1 h2 h3 (nesteds_of ks _ _ h4)
theorem nesteds_of {h : Heap} : ∀ (ks : List NestedKey) (vs : List Value) (as : List Addr), ReadsAll h vs (NestedKey.datas ks) as → NestedAll h ks vs
  | [], vs, as, r => by rw [NestedKey.datas] at r; cases r; exact .nil
  | k :: ks, vs, as, r => by
    rw [NestedKey.datas] at r
    cases r with
    | cons r1 r2 => exact .cons (nested_of k _ _ r1) (nesteds_of ks _ _ r2)
end
/-! ### the heap's dict -/
theorem dO_ok {P : Program} {w : World} {H : Hp} {h : Heap} {a : Addr} {x : DR} {o : Obj} (hd : (a == sysModules) = false) (hz : x.es.length ≤ sizeLine) (nd : (x.es.map (·.1)).Nodup) (dp : ∀ z ∈ x.es, z.1.depth ≤ 8 ∧ ∃ ks, z.1 = .tup ks)
    (ho : h.get? a = some o) (hx : o.ExactDict) (hdat : o.data = .dict x.en x.ep) (hp : Paired (fun (x : NestedKey × V × V) (e : DictEntry) => e.hash = x.1.hash w ∧ RelV x.2.1 e.key ∧ RelV x.2.2 e.val) x.es x.en.toList) : ObjOk P w H h a (dO w a x) :=
  ⟨⟨hd, hz, nd, dp, o, ho, hx, hdat, hp⟩, ⟨o, ho⟩, fun h1 h2 p k => by
    obtain ⟨p1, p2, p3, p4, o1, g1, g2, g3, g4⟩ := p
    exact ⟨p1, p2, p3, p4, o1, k _ g1, g2, g3, g4⟩⟩
section
variable {X : Cx} {pins : List (Addr × Obj)} {s : Shared} {σ : L2.St} {H F : Hp} {a : Addr}
abbrev EnX := fun (e : NestedKey × V × V) (x : NestedKey × Addr × Value) => e.1 = x.1 ∧ e.2.1 = V.ref x.2.1 ∧ RelV e.2.2 x.2.2
theorem dict_of (I : Inv X pins σ H s) (sm : Same F H) {es : DR} {kvs : List (D × D)} (ha : H a = some (dO X.w a es)) (re : RpE X.K X.w F es.es kvs) :
    (a == sysModules) = false ∧ es.es.length ≤ sizeLine ∧ ∃ xs : List (NestedKey × Addr × Value), s.heap.DictOfH (nestedKind X.prog X.w) a xs ∧ Paired EnX es.es xs := by
  obtain ⟨⟨hd, hz, nd, dp, o, ho, hx, hdat, hp⟩, _, _⟩ := I.hok a _ ha
  refine ⟨hd, hz, ?_⟩
  have key : ∀ (es : List (NestedKey × V × V)) (kvs : List (D × D)) (l : List DictEntry), RpE X.K X.w F es kvs → (∀ x ∈ es, x.1.depth ≤ 8 ∧ ∃ ks, x.1 = .tup ks) → Paired (fun (x : NestedKey × V × V) (e : DictEntry) => e.hash = x.1.hash X.w ∧ RelV x.2.1 e.key ∧ RelV x.2.2 e.val) es l →
      ∃ xs : List (NestedKey × Addr × Value), l = xs.map (entryOfKey (nestedKind X.prog X.w)) ∧ (∀ x ∈ xs, (nestedKind X.prog X.w).is s.heap x.1 x.2.1) ∧ Paired EnX es xs ∧ xs.map (·.1) = es.map (·.1) := by
    intro es
    induction es with
    | nil =>
      intro kvs l r _ p
      cases p
      exact ⟨[], rfl, (by intro x hx; cases hx), .nil, rfl⟩
    | cons x es ih =>
      intro kvs l r dp p
      cases p with
      | cons p1 p2 =>
        rename_i e l
        cases r with
        | cons r1 r2 r3 =>
          rename_i k kv v kvs d
          obtain ⟨xs, q1, q2, q3, q4⟩ := ih _ _ r3 (fun y hy => dp y (List.mem_cons_of_mem _ hy)) p2
          obtain ⟨hdp, ks, hks⟩ := dp _ List.mem_cons_self
          simp only at hks hdp
          subst hks
          obtain ⟨p1a, p1b, p1c⟩ := p1
          simp only at p1a p1b p1c
          obtain ⟨b, rfl⟩ : ∃ b, kv = V.ref b := by
            rw [NestedKey.data] at r1
            cases r1
            exact ⟨_, rfl⟩
          have ek : e.key = Value.ref b := p1b
          obtain ⟨as, hr⟩ := Rp.reads I _ _ _ (data_noD _) (r1.mono sm) p1b
          rw [ek] at hr
          refine ⟨(.tup ks, b, e.val) :: xs, ?_, ?_, .cons ⟨rfl, rfl, p1c⟩ q3, by simp [q4]⟩
          · rw [List.map_cons, ← q1]
            congr 1
            obtain ⟨eh, ekk, ev⟩ := e
            simp only at ek p1a
            subst ek p1a
            rfl
          · intro y hy
            rcases List.mem_cons.mp hy with rfl | hy
            · exact ⟨nested_of _ _ _ hr, hdp⟩
            · exact q2 y hy
  obtain ⟨xs, q1, q2, q3, q4⟩ := key es.es kvs _ re dp hp
  exact ⟨xs, ⟨o, es.en, es.ep, ho, hx, hdat, q1, q2, by rw [q4]; exact nd⟩, q3⟩
/-- and back -/
theorem dict_to {P : Program} {w : World} {H' : Hp} {h' : Heap} {es : List (NestedKey × V × V)} {xs : List (NestedKey × Addr × Value)} (hd : (a == sysModules) = false) (hz : es.length ≤ sizeLine) (dp : ∀ x ∈ es, x.1.depth ≤ 8 ∧ ∃ ks, x.1 = .tup ks) (hm : h'.DictOfH (nestedKind P w) a xs) (q : Paired EnX es xs) : ∃ x : DR, x.es = es ∧ ObjOk P w (upd H' a (dO w a x)) h' a (dO w a x) := by
  obtain ⟨o, es', ep, ho, hx, hdat, h1, h2, h3⟩ := hm
  have key : ∀ {es : List (NestedKey × V × V)} {xs : List (NestedKey × Addr × Value)}, Paired EnX es xs → es.map (·.1) = xs.map (·.1) ∧ Paired (fun (x : NestedKey × V × V) (e : DictEntry) => e.hash = x.1.hash w ∧ RelV x.2.1 e.key ∧ RelV x.2.2 e.val) es (xs.map (entryOfKey (nestedKind P w))) := by
    intro es xs q
    induction q with
    | nil => exact ⟨rfl, .nil⟩
    | cons h _ ih =>
      obtain ⟨e1, e2, e3⟩ := h
      refine ⟨by simp [ih.1, e1], .cons ⟨?_, ?_, ?_⟩ ih.2⟩
      · rw [e1]; rfl
      · rw [e2]; exact rfl
      · exact e3
  obtain ⟨k1, k2⟩ := key q
  exact ⟨⟨es, es', ep⟩, rfl, dO_ok (x := ⟨es, es', ep⟩) hd hz (by rw [k1]; exact h3) dp ho hx hdat (by rw [h1]; exact k2)⟩
end
end DL
namespace DL
open PySem PySem.Spec PyProof.Rows L2
/-! ### looking up, storing -/
def keyOk (d : D) : Bool := match d with
  | .tuple _ => match toKey d with
    | some k => decide (k.depth ≤ 8)
    | none => false
  | _ => false
theorem keyOk_key {d : D} (h : keyOk d = true) : ∃ ks, d = (NestedKey.tup ks).data ∧ (NestedKey.tup ks).depth ≤ 8 := by
  unfold keyOk at h
  split at h
  · rename_i xs
    split at h
    · rename_i k hk
      have e := toKey_data _ _ hk
      rw [toKey] at hk
      obtain ⟨ks, _, rfl⟩ := Option.map_eq_some_iff.mp hk
      exact ⟨ks, e.symm, of_decide_eq_true h⟩
    · cases h
  · cases h
def findD (kvs : List (D × D)) (key : D) : Option D := (kvs.find? fun p => PyData.eqv p.1 key).map (·.2)
def putD (kvs : List (D × D)) (key v : D) : List (D × D) := if (findD kvs key).isSome then kvs.map fun p => if PyData.eqv p.1 key then (p.1, v) else p else kvs ++ [(key, v)]
def putE (es : List (NestedKey × V × V)) (k : NestedKey) (kv v : V) : List (NestedKey × V × V) := if es.any (fun e => decide (e.1 = k)) then es.map fun e => if e.1 = k then (e.1, e.2.1, v) else e else es ++ [(k, kv, v)]
section
variable {K : PySem.W.Frag} {w : World} {F : Hp}
theorem find_rel {k : NestedKey} : ∀ {es : List (NestedKey × V × V)} {kvs : List (D × D)} {xs : List (NestedKey × Addr × Value)}, RpE K w F es kvs → Paired EnX es xs →
    (findD kvs k.data = none ∧ atKey xs k = none ∧ es.any (fun e => decide (e.1 = k)) = false) ∨ ∃ d b u v, findD kvs k.data = some d ∧ atKey xs k = some (b, u) ∧ Rp K w F v d ∧ RelV v u ∧ es.any (fun e => decide (e.1 = k)) = true
  | _, _, _, .nil, .nil => .inl ⟨rfl, rfl, rfl⟩
  | _, _, _, .cons (k := l) (kv := kv) (v := v) (d := d) r1 r2 r3, .cons (b := x) h t => by
    obtain ⟨h1, h2, h3⟩ := h
    simp only at h1 h2 h3
    by_cases e : l = k
    · right
      subst e
      refine ⟨d, x.2.1, x.2.2, v, ?_, ?_, r2, h3, by simp⟩
      · unfold findD
        rw [List.find?_cons_of_pos (by simp only [eqv_dec]; simp)]
        rfl
      · unfold atKey
        rw [List.find?_cons_of_pos (by simp [h1])]
        rfl
    · have ih := find_rel (k := k) r3 t
      have f1 : ∀ kvs', findD ((l.data, d) :: kvs') k.data = findD kvs' k.data := fun kvs' => by
        unfold findD
        rw [List.find?_cons_of_neg (by simp only [eqv_dec]; simp [e])]
      have f2 : ∀ xs', atKey (x :: xs') k = atKey xs' k := fun xs' => by
        unfold atKey
        rw [List.find?_cons_of_neg (by simp [← h1, e])]
      rw [f1, f2, List.any_cons, show decide ((l, kv, v).1 = k) = false from decide_eq_false e, Bool.false_or]
      exact ih
theorem put_map {k : NestedKey} {v : V} {u : Value} {d : D} (hv : RelV v u) (hr : Rp K w F v d) : ∀ {es : List (NestedKey × V × V)} {kvs : List (D × D)} {xs : List (NestedKey × Addr × Value)}, RpE K w F es kvs → Paired EnX es xs →
    RpE K w F (es.map fun e => if e.1 = k then (e.1, e.2.1, v) else e) (kvs.map fun p => if PyData.eqv p.1 k.data then (p.1, d) else p) ∧ Paired EnX (es.map fun e => if e.1 = k then (e.1, e.2.1, v) else e) (xs.map (putAt k u))
  | _, _, _, .nil, .nil => ⟨.nil, .nil⟩
  | _, _, _, .cons (k := l) (kv := kv) (v := v') (d := d') r1 r2 r3, .cons (b := x) h t => by
    obtain ⟨h1, h2, h3⟩ := h
    simp only at h1 h2 h3
    obtain ⟨i1, i2⟩ := put_map (k := k) hv hr r3 t
    simp only [List.map_cons]
    by_cases e : l = k
    · subst e
      rw [if_pos rfl, if_pos (by simp only [eqv_dec]; simp), show putAt l u x = (x.1, x.2.1, u) by unfold putAt; rw [if_pos h1.symm]]
      exact ⟨.cons r1 hr i1, .cons ⟨h1, h2, hv⟩ i2⟩
    · rw [if_neg e, if_neg (by simp only [eqv_dec]; simp [e]), show putAt k u x = x by unfold putAt; rw [if_neg (by rw [← h1]; exact e)]]
      exact ⟨.cons r1 r2 i1, .cons ⟨h1, h2, h3⟩ i2⟩
theorem rpE_snoc {k : NestedKey} {kv v : V} {d : D} (h1 : Rp K w F kv k.data) (h2 : Rp K w F v d) : ∀ {es : List (NestedKey × V × V)} {kvs : List (D × D)}, RpE K w F es kvs → RpE K w F (es ++ [(k, kv, v)]) (kvs ++ [(k.data, d)])
  | _, _, .nil => .cons h1 h2 .nil
  | _, _, .cons a b c => .cons a b (rpE_snoc h1 h2 c)
theorem paired_snoc {α β : Type} {R : α → β → Prop} {a : α} {b : β} (h : R a b) : ∀ {xs : List α} {ys : List β}, Paired R xs ys → Paired R (xs ++ [a]) (ys ++ [b])
  | _, _, .nil => .cons h .nil
  | _, _, .cons x y => .cons x (paired_snoc h y)
theorem put_rel {k : NestedKey} {b : Addr} {v : V} {u : Value} {d : D} (hk : Rp K w F (.ref b) k.data) (hv : RelV v u) (hr : Rp K w F v d) {es : List (NestedKey × V × V)} {kvs : List (D × D)} {xs : List (NestedKey × Addr × Value)} (r : RpE K w F es kvs) (q : Paired EnX es xs) :
    RpE K w F (putE es k (.ref b) v) (putD kvs k.data d) ∧ Paired EnX (putE es k (.ref b) v) (storedH xs k b u) := by
  unfold putE putD storedH
  rcases find_rel (k := k) r q with ⟨h1, h2, h3⟩ | ⟨_, _, _, _, h1, h2, _, _, h3⟩
  · rw [h1, h2, h3]
    exact ⟨rpE_snoc hk hr r, paired_snoc ⟨rfl, rfl, hv⟩ q⟩
  · rw [h1, h2, h3]
    exact put_map hv hr r q
theorem putE_len {es : List (NestedKey × V × V)} {k : NestedKey} {kv v : V} : (putE es k kv v).length ≤ es.length + 1 := by
  unfold putE
  split <;> simp
theorem putE_mem {es : List (NestedKey × V × V)} {k : NestedKey} {kv v : V} {P : NestedKey → Prop} (h : ∀ x ∈ es, P x.1) (hk : P k) : ∀ x ∈ putE es k kv v, P x.1 := by
  unfold putE
  split
  · intro x hx
    obtain ⟨y, hy, rfl⟩ := List.mem_map.mp hx
    split
    · exact h y hy
    · exact h y hy
  · intro x hx
    rcases List.mem_append.mp hx with hx | hx
    · exact h x hx
    · rw [List.mem_singleton.mp hx]
      exact hk
end
section
variable {X : Cx} {W : WX} {a b : Expr} {fa fb : DEnv → M D} {pos : Pos}
/-- the key's own tuple -/
theorem key_is {pins : List (Addr × Obj)} {s : Shared} {σ : L2.St} {H F : Hp} {ks : List NestedKey} {v : V} {u : Value} (I : Inv X pins σ H s) (sm : Same F H) (hr : Rp X.K X.w F v (NestedKey.tup ks).data) (hv : RelV v u) (hdp : (NestedKey.tup ks).depth ≤ 8) :
    ∃ c, v = .ref c ∧ u = .ref c ∧ (nestedKind X.prog X.w).is s.heap (.tup ks) c := by
  obtain ⟨as, r⟩ := Rp.reads I _ _ _ (data_noD _) (hr.mono sm) hv
  obtain ⟨c, rfl⟩ : ∃ c, v = V.ref c := by
    rw [NestedKey.data] at hr
    cases hr
    exact ⟨_, rfl⟩
  cases hv
  exact ⟨c, rfl, rfl, nested_of _ _ _ r, hdp⟩
def rPut (X : Cx) : V → V → V → Hp → (Hp → Prop) → Prop := fun o i v H Q => ∃ (p : Addr) (es : DR) (F : Hp) (kvs : List (D × D)) (ks : List NestedKey) (d : D), o = .ref p ∧ Same F H ∧ H p = some (dO X.w p es) ∧ RpE X.K X.w F es.es kvs ∧ es.es.length < sizeLine ∧ Rp X.K X.w F i (NestedKey.tup ks).data ∧ (NestedKey.tup ks).depth ≤ 8 ∧ Rp X.K X.w F v d ∧
  ∀ es' : DR, RpE X.K X.w F es'.es (putD kvs (NestedKey.tup ks).data d) → Q (upd H p (dO X.w p es'))
theorem set_put (hu : X.A.units + 64 < cLine) : PSet X (rPut X) := by
  intro pins s σ H o i v ov iv u Q I ro ri rv h
  obtain ⟨p, es, F, kvs, ks, d, rfl, sm, hp, re, hz, rk, hdp, rd, q⟩ := h
  cases ro
  obtain ⟨c, rfl, rfl, hkey⟩ := key_is I sm rk ri hdp
  obtain ⟨hd, _, xs, hm, px⟩ := dict_of I sm hp re
  have hlx : xs.length = es.es.length := (Paired.length px).symm
  obtain ⟨⟨_, _, _, dp, _⟩, _, _⟩ := I.hok p _ hp
  refine wpAny_setItem_heap (knd := nestedKind X.prog X.w) (by show X.A.units + 1 + 8 < cLine; omega) hkey hm (fun h' hm' hs => ?_) (by rw [hlx]; omega)
  obtain ⟨e1, e2⟩ := put_rel rk rv rd re px
  have ho : ∃ u, h'.get? p = some u := by
    obtain ⟨o, _, _, ho, _⟩ := hm'
    exact ⟨o, ho⟩
  obtain ⟨x', ex', hno⟩ := dict_to (P := X.prog) (w := X.w) (H' := H) hd (Nat.le_trans putE_len (by omega)) (putE_mem (P := fun k => k.depth ≤ 8 ∧ ∃ ks, k = .tup ks) dp ⟨hdp, ks, rfl⟩) hm' e2
  exact ⟨_, I.write (x := p) (e := p) (t' := _) (by rw [hp]; trivial) (.inl rfl) (fun b ob hb hg => by rw [hs.2 b hb]; exact hg) ho hno, q _ (by rw [ex']; exact e1)⟩
theorem own_dict {K : PySem.W.Frag} {w : World} {hd : Option Value} {B : Bs hd} {F H : Hp} {σ : L2.St} {env : DEnv} {i : Nat} {kvs : List (D × D)} (ok : EnvOk K w B F H σ env) (q : env[i]? = some (some (.ow (.dict kvs)))) :
    ∃ (a : Addr) (es : DR), σ[i]? = some (some (.ref a)) ∧ H a = some (dO w a es) ∧ RpE K w F es.es kvs ∧ F a = none := by
  obtain ⟨v, h1, h2, a, rfl, h4, h5⟩ := ok.sl i _ q
  obtain ⟨b, e0, ⟨vs, es, e1, e2, r⟩ | ⟨es, kvs, e1, e2, r⟩⟩ := h2
  · cases e1
  · cases e0; cases e1
    exact ⟨a, es, h1, e2, r, h5⟩
theorem RpE.length {K : PySem.W.Frag} {w : World} {F : Hp} : ∀ {es : List (NestedKey × V × V)} {kvs : List (D × D)}, RpE K w F es kvs → es.length = kvs.length
  | _, _, .nil => rfl
  | _, _, .cons _ _ t => by simp [RpE.length t]
/-- x[k] = e, x one's own dict -/
def dPut (i : Nat) (fk fe : DEnv → M D) (env : DEnv) : Option Out := match env[i]? with
  | some (some (.ow (.dict kvs))) => eS (fe env) env fun d => eS (fk env) env fun k => if keyOk k = true ∧ kvs.length < sizeLine then some (.nx (env.set i (some (.ow (.dict (putD kvs k d)))))) else none
  | _ => none
theorem ds_put {i : Nat} {x : Str} {p2 tpos : Pos} (hu : X.A.units + 64 < cLine) (hk : DE X W .v b fb) (he : DE X W .v a fa) (hi : X.N[i]? = some x := by rfl) (hv : Vis X.env.scope x := by first | exact Or.inl rfl | exact Or.inr (Or.inl rfl) | exact Or.inr (Or.inr rfl))
    (hd : (x == ("__debug__" : Str)) = false := by decide) (hcd : (x == ("__classdict__" : Str)) = false := by decide)
    (ha : ∀ v, assign (.Subscript (.Name x p2) b tpos) X.env v = (do
      let ov ← holding [v] (eval (.Name x p2) X.env)
      let iv ← holding [v, ov] (eval b X.env)
      standAt tpos
      holding [v, ov, iv] (setItem ov iv v)
      release [v, ov, iv] []) := by intro _; rfl)
    (hs : swapsWithSole [.Subscript (.Name x p2) b tpos] a pos.line X.env = pure false := by rfl) (hw : swappedStores [.Subscript (.Name x p2) b tpos] a X.env = pure none := by rfl)
    (h1 : (assignEach [.Subscript (.Name x p2) b tpos] X.env).map (·.2) = [assign (.Subscript (.Name x p2) b tpos) X.env] := by rfl) :
    DS X W (.Assign [.Subscript (.Name x p2) b tpos] a pos) (dPut i fb fa) := by
  obtain ⟨ta, he, qa⟩ := he
  obtain ⟨tb, hk, qb⟩ := hk
  refine ⟨_, ps_asg he (pg_sub (pe_var hi hv hd hcd) hk (set_put hu) ha) hs hw h1, fun B F H σ env D ok h => ?_⟩
  unfold dPut at h
  split at h
  · rename_i kvs q
    obtain ⟨l, es, g1, g2, g3, g4⟩ := own_dict ok q
    refine qa B F H σ env _ ok ((AnsO.eS ok h).mono (fun d k v F1 H1 x1 r => ?_) fun c k => k)
    refine ⟨.ref l, g1, qb B F1 H1 σ env _ (ok.mono x1) ((AnsO.eS (ok.mono x1) k).mono (fun dk k u F2 H2 x2 r2 => ?_) fun c k => k)⟩
    have r2 : Rp X.K X.w F2 u dk := r2
    split at k
    · rename_i hc
      obtain ⟨ks, rfl, hdp⟩ := keyOk_key hc.1
      have re := (g3.mono x1.ff).mono x2.ff
      refine ⟨l, es, F2, kvs, ks, d, rfl, x2.fh, x2.hh _ _ (x1.hh _ _ g2), re, by rw [RpE.length g3]; exact hc.2, r2, hdp, Rp.mono x2.ff r, fun es' re' => ?_⟩
      exact k F2 _ σ (((ok.mono x1).mono x2).write q g1 ⟨l, rfl, .inr ⟨es', _, rfl, upd_same, re'⟩⟩)
    · exact k.elim
  · exact h.elim
/-- {} -/
def dDnew (_ : DEnv) : M D := mok (.dict [])
theorem de_dnew : DE X W .o (.Dict [] [] pos) dDnew := by
  refine ⟨fun _ H Q => ∀ p, H p = none → Q (.ref p) (upd H p (dO X.w p ⟨[], #[], 0⟩)), ⟨fun pins s σ H Q I h => ?_⟩, fun B F H σ env Q ok h p hp => ?_⟩
  · have hno : ObjOk X.prog X.w (upd H s.heap.objs.size (dO X.w s.heap.objs.size ⟨[], #[], 0⟩)) (s.heap.push { cls := .type "dict", data := .dict #[] }) s.heap.objs.size (dO X.w s.heap.objs.size ⟨[], #[], 0⟩) :=
      dO_ok (beq_eq_false_iff_ne.mpr (Ne.symm (Nat.ne_of_lt I.big))) (Nat.zero_le _) List.nodup_nil (by intro x hx; cases hx) (Heap.get?_push_size _ rfl) ⟨rfl, rfl, rfl⟩ rfl .nil
    exact wpAny_Dict_empty ⟨.ref s.heap.objs.size, _, I.laid (a := s.heap.objs.size) (t' := s.toks) (fun _ _ q => Heap.get?_push_of_some _ q) (Nat.le_refl _) hno, rfl, h _ (I.hok.fresh (Nat.le_refl _))⟩
  · exact h (.ref p) F _ (Ext.newO ok.fh hp) ⟨⟨p, rfl, .inr ⟨⟨[], #[], 0⟩, [], rfl, upd_same, .nil⟩⟩, p, rfl, hp, ok.fh.free hp⟩
end
end DL
namespace DL
open PySem PySem.Spec PyProof.Rows L2
/-! ### a dict as it stands -/
theorem Sh.dict {K : PySem.W.Frag} {w : World} {F H : Hp} {v : V} {kvs : List (D × D)} (x : Sh K w F H v (.dict kvs)) (s : Same F H) : ∃ (a : Addr) (es : DR), v = .ref a ∧ H a = some (dO w a es) ∧ RpE K w F es.es kvs := by
  rcases x with x | ⟨a, e, ⟨vs, es, e1, e2, r⟩ | ⟨es, kvs, e1, e2, r⟩⟩
  · cases x with
    | dic h r => exact ⟨_, _, rfl, s _ _ h, r⟩
  · cases e1
  · cases e1; exact ⟨a, es, e, e2, r⟩
section
variable {X : Cx} {W : WX} {o e e2 : Expr} {fo fa fb : DEnv → M D} {apos cpos : Pos}
theorem dict_ty {pins : List (Addr × Obj)} {s : Shared} {σ : L2.St} {H : Hp} {p : Addr} {es : DR} (I : Inv X pins σ H s) (hp : H p = some (dO X.w p es)) : s.TypeIs (.ref p) "dict" ∧ ∀ a, Value.ref p = .ref a → ∃ ob, s.heap.get? a = some ob ∧ ob.dict = none := by
  obtain ⟨⟨_, _, _, _, ob, ho, hx, _⟩, _, _⟩ := I.hok p _ hp
  exact ⟨⟨ob, ho, hx.1⟩, fun a e => by cases e; exact ⟨ob, ho, hx.2.1⟩⟩
/-- d.get(k, x) -/
def rGet (X : Cx) : V → List V → Hp → VK → Prop := fun d xs H Q => ∃ (p : Addr) (es : DR) (F : Hp) (kvs : List (D × D)) (ks : List NestedKey) (k x : V) (z : D), d = .ref p ∧ xs = [k, x] ∧ Same F H ∧ H p = some (dO X.w p es) ∧ RpE X.K X.w F es.es kvs ∧ Rp X.K X.w F k (NestedKey.tup ks).data ∧ (NestedKey.tup ks).depth ≤ 8 ∧ Rp X.K X.w F x z ∧
  ∀ v, Rp X.K X.w F v ((findD kvs (NestedKey.tup ks).data).getD z) → Q v H
theorem mt_get (hu : X.A.units + 64 < cLine) : MtR X "dict.get" (rGet X) := by
  intro pins s σ H x xs v us Q I rx rxs h
  obtain ⟨p, es, F, kvs, ks, k, d, z, rfl, rfl, sm, hp, re, rk, hdp, rz, q⟩ := h
  cases rx
  cases rxs with
  | cons r1 r2 =>
    cases r2 with
    | cons r2 r3 =>
      cases r3
      obtain ⟨c, rfl, rfl, hkey⟩ := key_is I sm rk r1 hdp
      obtain ⟨hd, _, xs, hm, px⟩ := dict_of I sm hp re
      refine call_meetsIn PySem.F.slot_dict_get hm.typeIs PySem.F.entry_dict_get (PySem.F.args_dict_get_3 _ _ _) (meetsH_dict_get_default (nestedKind X.prog X.w) p c hd _) ⟨by show X.A.units + 1 + 8 < cLine; omega, .tup ks, xs, hkey, hm, ?_⟩
      rcases find_rel (k := .tup ks) re px with ⟨h1, h2, _⟩ | ⟨d', b', u', v', h1, h2, h3, h4, _⟩
      · rw [h2]
        rw [h1] at q
        exact ⟨_, H, I.tok _, r2, q _ rz⟩
      · rw [h2]
        rw [h1] at q
        exact ⟨_, H, I.tok _, h4, q _ h3⟩
theorem pe_mD {to : TE} {t : TA} {r : V → List V → Hp → VK → Prop} {nm : Str} {id : String} (slot : Slot "dict" nm id) (hty : typeOf (.builtin id) = pure (.type "method_descriptor")) (hm : MtR X id r) (ho : PE X o to) (ha : PA X [e, e2] t)
    (hb : attributeBase o nm X.env (eval o X.env) = eval o X.env := by rfl)
    (hf : ((backTo cpos (starEach [e, e2] X.env)).all (fun x => !x.1) && (backToKw cpos (keywordEach [] X.env)).all (fun x => x.1.isSome) && decide ([e, e2].length + ([] : List Keyword).length + (if ([] : List Keyword).isEmpty then 0 else 1) < 30)) = true := by rfl)
    (hl : (apos.endLine == cpos.line) = true := by rfl) (hs : starEach [e, e2] X.env = (false, eval e X.env) :: starEach [e2] X.env := by rfl) (hpl : (backTo cpos (starEach [e2] X.env)).any (·.1) = false := by rfl) :
    PE X (.Call (.Attribute o nm apos) [e, e2] [] cpos) (fun σ H Q => to σ H fun d H1 => (∃ (p : Addr) (es : DR), d = .ref p ∧ H1 p = some (dO X.w p es)) ∧ t σ H1 fun xs H2 => r d xs H2 Q) := by
  refine ⟨fun pins s σ H Q I h => wpAny_Call_method_late hb hf hl rfl (thn (ho.run pins s σ H _ I h) fun v s1 ⟨x, H1, I1, r1, ⟨p, es, hx, hp⟩, q1⟩ => ?_)⟩
  subst hx
  cases r1
  obtain ⟨t1, t2⟩ := dict_ty I1 hp
  refine ⟨"dict", id, PySem.F.plainAttrs_dict, slot, hty, t1, t2, ?_⟩
  have hA := ha.run cpos pins s1 σ H1 _ I1 q1
  rw [hs] at hA ⊢
  refine Calls.callWith_builtin (by show (false || (backTo cpos (starEach [e2] X.env)).any (·.1)) = false; rw [hpl] <;> rfl) (Calls.evalArgs_plain (thn hA fun us s2 ⟨vs, H2, I2, r2, q2⟩ => ?_))
  exact hm pins s2 σ H2 (.ref p) vs (.ref p) us Q I2 rfl r2 q2
def getX (kvs : List (D × D)) : List D → M D
  | [k, x] => if keyOk k = true then mok ((findD kvs k).getD x) else none
  | _ => none
def dGet (fd : DEnv → M D) (fs : DEnv → M (List D)) (env : DEnv) : M D := mbind (fd env) fun d => match d with
  | .dict kvs => mbind (fs env) (getX kvs)
  | _ => none
theorem de_get {k : Nat} {fs : DEnv → M (List D)} (hr : Room k X.A) (ho : DE X W .s o fo) (ha : DA X W .v [e, e2] fs)
    (hb : attributeBase o "get" X.env (eval o X.env) = eval o X.env := by rfl)
    (hf : ((backTo cpos (starEach [e, e2] X.env)).all (fun x => !x.1) && (backToKw cpos (keywordEach [] X.env)).all (fun x => x.1.isSome) && decide ([e, e2].length + ([] : List Keyword).length + (if ([] : List Keyword).isEmpty then 0 else 1) < 30)) = true := by rfl)
    (hl : (apos.endLine == cpos.line) = true := by rfl) (hs : starEach [e, e2] X.env = (false, eval e X.env) :: starEach [e2] X.env := by rfl) (hpl : (backTo cpos (starEach [e2] X.env)).any (·.1) = false := by rfl) :
    DE X W .v (.Call (.Attribute o "get" apos) [e, e2] [] cpos) (dGet fo fs) := by
  obtain ⟨to, ho, qo⟩ := ho
  obtain ⟨len, t, ha, qa⟩ := ha
  refine ⟨_, pe_mD PySem.F.slot_dict_get PySem.F.type_dict_get (mt_get hr.units) ho ha hb hf hl hs hpl, fun B F H σ env Q ok h => qo B F H σ env _ ok (h.bind.mono (fun d k v F1 H1 x1 r1 => ?_) fun c k => k)⟩
  have r1 : Sh X.K X.w F1 H1 v d := r1
  cases d with
  | dict kvs =>
    obtain ⟨p, es, rfl, hp, re⟩ := r1.dict x1.fh
    have k : Ans (mbind (fs env) (getX kvs)) _ _ := k
    refine ⟨⟨p, es, rfl, hp⟩, qa B F1 H1 σ env _ (ok.mono x1) (k.bind.mono (fun ds k vs F2 H2 x2 r2 => ?_) fun c k F' H' e => k F' H' (x1.trans e))⟩
    have r2 : RpA X.K X.w F2 vs ds := r2
    unfold getX at k
    split at k
    · rename_i kd xd
      split at k
      · rename_i hk
        obtain ⟨ks, rfl, hdp⟩ := keyOk_key hk
        cases r2 with
        | cons ra rb =>
          cases rb with
          | cons rb rc =>
            cases rc
            exact ⟨p, es, F2, kvs, ks, _, _, _, rfl, rfl, x2.fh, x2.hh _ _ hp, re.mono x2.ff, ra, hdp, rb, fun v hv => k v F2 H2 (x1.trans x2) hv⟩
      · exact k.elim
    · exact k.elim
  | _ => exact k.elim
end
/-! ### sorted(d.items()) -/
def itemsD (kvs : List (D × D)) : List D := kvs.map fun p => .tuple [p.1, p.2]
section
variable {X : Cx} {pins : List (Addr × Obj)} {s : Shared} {σ : L2.St} {H F : Hp} {r p : Addr}
theorem each_refs {β : Type} {f : β → Addr} : ∀ (zs : List β), PySem.W.EachIs (fun (u : Value) (z : β) => u = .ref (f z)) (zs.map fun z => Value.ref (f z)) zs
  | [] => .nil
  | z :: zs => .cons rfl (each_refs zs)
theorem refs_each {β : Type} {f : β → Addr} : ∀ {us : List Value} {zs : List β}, PySem.W.EachIs (fun (u : Value) (z : β) => u = .ref (f z)) us zs → us = zs.map fun z => Value.ref (f z)
  | _, _, .nil => rfl
  | _, _, .cons h t => by rw [h, refs_each t]; rfl
theorem vals_refs {β : Type} {f : β → Addr} : ∀ (zs : List β), Vals (zs.map fun z => V.ref (f z)) (zs.map fun z => Value.ref (f z))
  | [] => .nil
  | _ :: zs => .cons rfl (vals_refs zs)
theorem rpE_get {K : PySem.W.Frag} {w : World} {F : Hp} : ∀ {es : List (NestedKey × V × V)} {kvs : List (D × D)} {i : Nat} {e : NestedKey × V × V}, RpE K w F es kvs → es[i]? = some e → ∃ d, kvs[i]? = some (e.1.data, d) ∧ Rp K w F e.2.1 e.1.data ∧ Rp K w F e.2.2 d
  | _, _, i, e, .nil, h => by simp at h
  | _, _, 0, e, .cons r1 r2 r3, h => by
    simp at h
    subst h
    exact ⟨_, rfl, r1, r2⟩
  | _, _, i + 1, e, .cons r1 r2 r3, h => by
    obtain ⟨d, h1, h2⟩ := rpE_get (i := i) r3 (by simpa using h)
    exact ⟨d, by simpa using h1, h2⟩
theorem paired_get {α β : Type} {R : α → β → Prop} : ∀ {xs : List α} {ys : List β} {i : Nat} {y : β}, Paired R xs ys → ys[i]? = some y → ∃ x, xs[i]? = some x ∧ R x y
  | _, _, i, y, .nil, h => by simp at h
  | _, _, 0, y, .cons h _, e => by simp at e; subst e; exact ⟨_, rfl, h⟩
  | _, _, i + 1, y, .cons _ t, e => by
    obtain ⟨x, h1, h2⟩ := paired_get (i := i) t (by simpa using e)
    exact ⟨x, by simpa using h1, h2⟩
theorem sortItems_at {es : DR} {kvs : List (D × D)} {Q : VK} (I : Inv X pins σ H s) (hc : X.calm = true) (sm : Same F H) (hr : H r = some (DX.itemsO r p)) (hp : H p = some (dO X.w p es)) (re : RpE X.K X.w F es.es kvs) (hu : X.A.units + 64 < cLine) (hs : srtOk (itemsD kvs) = true)
    (q : ∀ v F' H', Ext F H F' H' → RM X.K X.w H F' H' .o v (.list (srt (itemsD kvs))) → Q v H') : wpAny (model X.prog X.w) X.A (call (.builtin "sorted") [.ref r]) (EP X pins σ Q) X.xe s := by
  have view : s.heap.IsItemsView r p := (show ObjOk X.prog X.w H s.heap r (DX.itemsO r p) from I.hok r _ hr).1
  obtain ⟨⟨hsys, hz, nd, dp, ob, ho, hx, hdat, hpr⟩, _, _⟩ := I.hok p _ hp
  have hh : X.A.handled = none := I.ok.hd hc
  have l1 : es.es.length = es.en.size := by rw [Paired.length hpr]; simp
  have l2 := RpE.length re
  refine DT.sortedI (es := es.en) (ep := es.ep) hh view ⟨ob, ho, hx, hdat⟩ (by omega) fun h' tk as hk hlt hl hG => ?_
  have lk : as.length = kvs.length := by omega
  have ndA : as.Nodup := List.Pairwise.imp (fun h => Nat.ne_of_lt h) hG.rise
  -- the pairs
  have pr : ∀ (j : Nat) (b : Addr), as[j]? = some b → ∃ (e : NestedKey × V × V) (u1 u2 : Value) (d : D), es.es[j]? = some e ∧ kvs[j]? = some (e.1.data, d) ∧ Rp X.K X.w F e.2.1 e.1.data ∧ Rp X.K X.w F e.2.2 d ∧ RelV e.2.1 u1 ∧ RelV e.2.2 u2 ∧ h'.get? b = some { cls := .type "tuple", data := .seq #[u1, u2] } := by
    intro j b hj
    obtain ⟨en, he, hg⟩ := hG.pairs j b hj
    rw [← Array.getElem?_toList] at he
    obtain ⟨e, h1, _, h3, h4⟩ := paired_get hpr he
    obtain ⟨d, h5, h6, h7⟩ := rpE_get re h1
    exact ⟨e, en.key, en.val, d, h1, h5, h6, h7, h3, h4, hg⟩
  let zs := as.zip kvs
  have hzm : ∀ z ∈ zs, ∃ j : Nat, as[j]? = some z.1 ∧ kvs[j]? = some z.2 := fun z hz => by
    obtain ⟨j, hj⟩ := List.mem_iff_getElem?.mp hz
    exact ⟨j, List.getElem?_zip_eq_some.mp hj⟩
  let enc : Addr × (D × D) → D := fun z => .tuple [z.2.1, z.2.2]
  have eA : as.map Value.ref = zs.map fun z => Value.ref z.1 := by
    have : zs.map (·.1) = as := List.map_fst_zip (by omega)
    rw [← this, List.map_map]
    rfl
  have eE : zs.map enc = itemsD kvs := by
    have : zs.map (·.2) = kvs := List.map_snd_zip (by omega)
    unfold itemsD
    rw [← this, List.map_map]
    rfl
  have hob : (h'.push { cls := .type "list", data := .seq (as.map Value.ref).toArray }).get? h'.objs.size = some (seqObj "list" (as.map Value.ref).toArray 0) := Heap.get?_push_size _ rfl
  generalize hh2 : h'.push { cls := .type "list", data := .seq (as.map Value.ref).toArray } = h2 at hob ⊢
  have ka : ∀ b o, h'.get? b = some o → h2.get? b = some o := fun b o e => by rw [← hh2]; exact Heap.get?_push_of_some _ e
  have ne0 : ∀ b o, h'.get? b = some o → b ≠ h'.objs.size := fun b o e => Nat.ne_of_lt (Heap.lt_size e)
  have kM : ∀ b o, h'.get? b = some o → (PySem.W.sortingHeap h2 h'.objs.size (as.map Value.ref)).get? b = some o := fun b o e => PySem.W.sortingHeap_old (ne0 b o e) (ka b o e)
  have er : PySem.W.EachIs (fun v z => ∃ cs, Reads (PySem.W.sortingHeap h2 h'.objs.size (as.map Value.ref)) v (enc z) cs) (as.map Value.ref) zs := by
    have e00 : PySem.W.EachIs (fun (u : Value) (z : Addr × (D × D)) => u = .ref z.1) (as.map Value.ref) zs := by rw [eA]; exact each_refs (f := fun z : Addr × (D × D) => z.1) zs
    refine each_and e00 fun u z hz e => ?_
    subst e
    obtain ⟨j, h1, h2'⟩ := hzm z hz
    obtain ⟨e, u1, u2, d, g1, g2, g3, g4, g5, g6, g7⟩ := pr j z.1 h1
    have ez2 : z.2 = (e.1.data, d) := Option.some.inj (h2'.symm.trans g2)
    have ez : enc z = .tuple [e.1.data, d] := by show PyData.tuple [z.2.1, z.2.2] = _; rw [ez2]
    have hok := srtOk_eq hs (.tuple [e.1.data, d]) (by rw [← eE, ← ez]; exact List.mem_map.mpr ⟨z, hz, rfl⟩)
    rw [ez]
    unfold eqOk at hok
    simp only [Bool.and_eq_true, noD, noDs, Bool.and_true] at hok
    obtain ⟨c1, r1⟩ := Rp.reads I _ _ _ (data_noD _) (g3.mono sm) g5
    obtain ⟨c2, r2⟩ := Rp.reads I _ _ _ hok.1.2 (g4.mono sm) g6
    have r1' := PyProof.Rows.Reads.keeps (fun b o e => kM b o (hk b o e)) r1
    have r2' := PyProof.Rows.Reads.keeps (fun b o e => kM b o (hk b o e)) r2
    exact ⟨_, Reads.tuple (kM _ _ g7) rfl rfl (.cons r1' (.cons r2' .nil))⟩
  have hlen : (as.map Value.ref).length ≤ sizeLine := by rw [List.length_map]; omega
  refine wpAny_call_entry PyProof.Rows.slot_list_sort ⟨_, hob, rfl⟩ PyProof.Rows.entry_list_sort ?body (PyProof.Rows.args_list_sort _)
  refine wpAny_mono (PySem.W.list_sort_vals (P := fun f s' => f = .done (.ret .none) ∧ EP X pins σ Q (.ref h'.objs.size) s') (s := { s with heap := h2, toks := tk }) hob
      (SortsAt.ok (s := { s with heap := PySem.W.sortingHeap h2 h'.objs.size (as.map Value.ref), toks := tk }) (PySem.W.each_map (R := fun v d => ∃ cs, Reads (PySem.W.sortingHeap h2 h'.objs.size (as.map Value.ref)) v d cs) enc er) (by rw [eE]; exact hs) ?_ ?_) hlen ⟨rfl, ?_⟩) (fun f s' hf => ?_) fun _ _ e => e
  · show X.A.units + 1 + 1 + 60 < cLine
    omega
  · intro _ d hd
    obtain ⟨z, _, rfl⟩ := List.mem_map.mp hd
    exact fun h => by cases h
  · have hR := sort_each (h' := PySem.W.sortingHeap h2 h'.objs.size (as.map Value.ref)) (R := fun (u : Value) (z : Addr × (D × D)) => u = .ref z.1) (by rw [eA]; exact each_refs (f := fun z : Addr × (D × D) => z.1) zs) er (by rw [eE]; exact srtOk_alike hs)
    generalize hout : PySem.W.sortVals (PySem.W.dataKind (PySem.W.sortingHeap h2 h'.objs.size (as.map Value.ref)) (zs.map enc)) false (as.map Value.ref) (as.map Value.ref) = out at hR ⊢
    have hout2 := refs_each (f := fun z : Addr × (D × D) => z.1) hR
    let ss := zs.mergeSort (PySem.W.dataLe false enc)
    have hperm : ss.Perm zs := List.mergeSort_perm _ _
    have kF : ∀ b o, b ≠ h'.objs.size → h2.get? b = some o → (sortedHeap h2 h'.objs.size (as.map Value.ref) out.toArray).get? b = some o := fun b o hb e => (PyProof.Rows.sortedHeap_old hb (Heap.lt_size e)).trans e
    have kS : ∀ b o, s.heap.get? b = some o → (sortedHeap h2 h'.objs.size (as.map Value.ref) out.toArray).get? b = some o := fun b o e => kF b o (ne0 _ _ (hk b o e)) (ka b o (hk b o e))
    obtain ⟨eF, heF⟩ := PyProof.Rows.sortedHeap_at (vs := as.map Value.ref) (out := out.toArray) hob
    have I1 : Inv X pins σ H { s with heap := sortedHeap h2 h'.objs.size (as.map Value.ref) out.toArray, toks := tk } := I.kept (t' := tk) kS
    have hn0 : H h'.objs.size = none := I.hok.fresh (Nat.le_of_lt hlt)
    have hl3 : (ss.map fun z => V.ref z.1).length ≤ sizeLine := by
      rw [List.length_map, hperm.length_eq]
      show (as.zip kvs).length ≤ _
      rw [List.length_zip]
      omega
    have rv : Vals (ss.map fun z => V.ref z.1) out := by
      rw [hout2]
      exact vals_refs (f := fun z : Addr × (D × D) => z.1) ss
    have I2 := I1.take (h' := sortedHeap h2 h'.objs.size (as.map Value.ref) out.toArray) (t' := tk) (o := .lst (ss.map fun z => V.ref z.1)) (fun b ob _ e => e) (I.fpOk (Nat.le_of_lt hlt) hn0) ⟨hl3, out, eF, rv, heF⟩
    obtain ⟨H2, I3, g, qt⟩ := DX.takeT (P := fun b vs => ∃ (j : Nat) (e : NestedKey × V × V), as[j]? = some b ∧ es.es[j]? = some e ∧ vs = [e.2.1, e.2.2]) I as _ I2 ndA fun b hb => by
      obtain ⟨j, hj⟩ := List.mem_iff_getElem?.mp hb
      obtain ⟨e, u1, u2, d, g1, g2, g3, g4, g5, g6, g7⟩ := pr j b hj
      have hbl : s.heap.objs.size ≤ b := Nat.le_of_lt (hG.above b hb)
      refine ⟨hbl, ?_, [e.2.1, e.2.2], ⟨j, e, hj, g1, rfl⟩, fun H3 => ⟨(by rw [sizeLine_eq]; show 2 ≤ 16777216; omega), [u1, u2], .cons g5 (.cons g6 .nil), ⟨_, kF _ _ (ne0 _ _ g7) (ka _ _ g7), rfl, 0, rfl⟩⟩⟩
      rw [upd_ne (ne0 _ _ g7)]
      exact I.hok.fresh hbl
    have gr : Same H H2 := fun b o e => g b o (by rw [upd_ne (ne_of_none e hn0)]; exact e)
    -- frozen: the pairs
    let F2 : Hp := fun b => if b ∈ as then H2 b else F b
    have asN : ∀ b ∈ as, H b = none := fun b hb => I.hok.fresh (Nat.le_of_lt (hG.above b hb))
    have FF : Same F F2 := fun b o e => by
      have : b ∉ as := fun hb => by have := asN b hb; rw [sm b o e] at this; cases this
      show (if b ∈ as then H2 b else F b) = some o
      rw [if_neg this]; exact e
    have FH : Same F2 H2 := fun b o e => by
      have e : (if b ∈ as then H2 b else F b) = some o := e
      by_cases hb : b ∈ as
      · rw [if_pos hb] at e; exact e
      · rw [if_neg hb] at e; exact gr _ _ (sm _ _ e)
    have ex : Ext F H F2 H2 := ⟨FF, gr, FH, fun b o e => by
      have e : (if b ∈ as then H2 b else F b) = some o := e
      by_cases hb : b ∈ as
      · exact .inr (.inl (asN b hb))
      · rw [if_neg hb] at e; exact .inl e⟩
    have hln : h'.objs.size ∉ as := fun hb => by
      have := hG.there hb
      exact Nat.lt_irrefl _ this
    have hF0 : F2 h'.objs.size = none := by
      show (if h'.objs.size ∈ as then H2 h'.objs.size else F h'.objs.size) = none
      rw [if_neg hln]
      exact sm.free hn0
    have rpz : ∀ zs' : List (Addr × (D × D)), (∀ z ∈ zs', z ∈ zs) → RpA X.K X.w F2 (zs'.map fun z => V.ref z.1) (zs'.map enc) := by
      intro zs' hzs
      induction zs' with
      | nil => exact .nil
      | cons z zs' ih =>
        refine .cons ?_ (ih fun y hy => hzs y (List.mem_cons_of_mem _ hy))
        obtain ⟨j, h1, h2'⟩ := hzm z (hzs z List.mem_cons_self)
        obtain ⟨e, u1, u2, d, g1, g2, g3, g4, g5, g6, g7⟩ := pr j z.1 h1
        obtain ⟨vs, ⟨i, e', i1, i2, rfl⟩, hH⟩ := qt z.1 (List.mem_of_getElem? h1)
        have eij : i = j := (List.getElem?_inj (List.getElem?_eq_some_iff.mp i1).1 ndA).mp (i1.trans h1.symm)
        subst eij
        rw [g1] at i2
        cases i2
        rw [g2] at h2'
        have h2'' : z.2 = (e.1.data, d) := (Option.some.inj h2').symm
        have ez : enc z = .tuple [e.1.data, d] := by show PyData.tuple [z.2.1, z.2.2] = _; rw [h2'']
        rw [ez]
        refine .tup (.inl (.inl ?_)) (.cons (g3.mono FF) (.cons (g4.mono FF) .nil))
        show (if z.1 ∈ as then H2 z.1 else F z.1) = _
        rw [if_pos (List.mem_of_getElem? h1)]
        exact hH
    have hsrt : ss.map enc = srt (itemsD kvs) := by
      rw [← eE]
      unfold srt
      exact List.map_mergeSort fun a _ b _ => rfl
    refine ⟨.ref h'.objs.size, H2, I3, rfl, q _ F2 H2 ex ⟨⟨_, rfl, .inl ⟨_, _, rfl, g _ _ upd_same, ?_⟩⟩, _, rfl, hn0, hF0⟩⟩
    rw [← hsrt]
    exact rpz ss fun z hz => hperm.mem_iff.mp hz
  · obtain ⟨rfl, hq⟩ := hf
    exact ⟨_, rfl, hq⟩
end
end DL
namespace DL
open PySem PySem.Spec PyProof.Rows L2
section
variable {X : Cx} {W : WX} {o : Expr} {fo : DEnv → M D} {apos cpos pos pn : Pos}
/-- d.items(): the view -/
theorem pe_itemsD {to : TE} (ho : PE X o to) (hb : attributeBase o "items" X.env (eval o X.env) = eval o X.env := by rfl) (hl : (apos.endLine == cpos.line) = true := by rfl) :
    PE X (.Call (.Attribute o "items" apos) [] [] cpos) (fun σ H Q => to σ H fun d H1 => ∃ (p : Addr) (es : DR), d = .ref p ∧ H1 p = some (dO X.w p es) ∧ ∀ r, H1 r = none → Q (.ref r) (upd H1 r (DX.itemsO r p))) := by
  refine ⟨fun pins s σ H Q I h => wpAny_Call_method0_late hb hl (thn (ho.run pins s σ H _ I h) fun v s1 ⟨x, H1, I1, r1, p, es, hx, hp, q1⟩ => ?_)⟩
  subst hx
  cases r1
  obtain ⟨t1, t2⟩ := dict_ty I1 hp
  obtain ⟨⟨hsys, _, _, _, ob, hg, hxd, hdat, _⟩, _, _⟩ := I1.hok p _ hp
  refine ⟨"dict", "dict.items", PySem.F.plainAttrs_dict, PySem.F.slot_dict_items, PySem.F.type_dict_items, t1, t2, Calls.callWith_builtin rfl (PySem.evalArgs_none ?_)⟩
  refine DT.callItems (es := es.en) (ep := es.ep) hsys ⟨ob, hg, hxd, hdat⟩ ?_
  have hf := I1.hok.fresh (Nat.le_refl s1.heap.objs.size)
  exact ⟨.ref s1.heap.objs.size, upd H1 s1.heap.objs.size (DX.itemsO s1.heap.objs.size p), I1.laid (t' := s1.toks) (fun b u e => Heap.get?_push_of_some _ e) (Nat.le_refl _) (DX.itemsO_ok (Heap.get?_push_size _ rfl)), rfl, q1 _ hf⟩
def sortItems : D → M D
  | .dict kvs => if srtOk (itemsD kvs) = true then mok (.list (srt (itemsD kvs))) else none
  | _ => none
def rSI (X : Cx) : List V → Hp → VK → Prop := fun vs H Q => ∃ (r p : Addr) (es : DR) (F : Hp) (kvs : List (D × D)), vs = [.ref r] ∧ Same F H ∧ H r = some (DX.itemsO r p) ∧ H p = some (dO X.w p es) ∧ RpE X.K X.w F es.es kvs ∧ srtOk (itemsD kvs) = true ∧
  ∀ v F' H', Ext F H F' H' → RM X.K X.w H F' H' .o v (.list (srt (itemsD kvs))) → Q v H'
theorem cr_SI (hc : X.calm = true) (hu : X.A.units + 64 < cLine) : CallR X (.builtin "sorted") (rSI X) := by
  intro pins s σ H xs us Q I r h
  obtain ⟨b, p, es, F, kvs, rfl, sm, h1, h2, h3, h4, q⟩ := h
  obtain rfl := Vals.ref1 r
  exact sortItems_at I hc sm h1 h2 h3 hu h4 q
theorem de_sortItems {k : Nat} (hc : X.calm = true) (hr : Room k X.A) (hg : Gl X "sorted") (hm : X.mg "sorted" = none) (ho : DE X W .s o fo)
    (hb : attributeBase o "items" X.env (eval o X.env) = eval o X.env := by rfl) (hl : (apos.endLine == cpos.line) = true := by rfl)
    (he : starEach [.Call (.Attribute o "items" apos) [] [] cpos] X.env = (false, eval (.Call (.Attribute o "items" apos) [] [] cpos) X.env) :: starEach [] X.env := by rfl) (hpl : (backTo pos (starEach [] X.env)).any (·.1) = false := by rfl) :
    DE X W .o (.Call (.Name "sorted" pn) [.Call (.Attribute o "items" apos) [] [] cpos] [] pos) (d1 sortItems fo) := by
  obtain ⟨to, ho, qo⟩ := ho
  refine ⟨_, pe_callB (cr_SI hc hr.units) hg hm (by decide +kernel) (pa_cons (pe_itemsD ho hb hl) pa_nil he) (by decide) (by decide) he hpl, fun B F H σ env Q ok h => qo B F H σ env _ ok (h.bind.mono (fun d k v F1 H1 x1 r1 => ?_) fun c k => k)⟩
  have r1 : Sh X.K X.w F1 H1 v d := r1
  cases d with
  | dict kvs =>
    obtain ⟨p, es, rfl, hp, re⟩ := r1.dict x1.fh
    refine ⟨p, es, rfl, hp, fun r hr0 => ?_⟩
    unfold sortItems at k
    simp only at k
    split at k
    · rename_i hs
      have x2 : Ext F1 H1 F1 (upd H1 r (DX.itemsO r p)) := Ext.newO x1.fh hr0
      refine ⟨r, p, es, F1, kvs, rfl, x2.fh, upd_same, x2.hh _ _ hp, re, hs, fun v F' H' x3 r3 => k v F' H' (x1.trans (x2.trans x3)) ?_⟩
      obtain ⟨ow, a, rfl, h1, h2⟩ := r3
      refine ⟨ow, a, rfl, ?_, h2⟩
      have e1 : H1 a = none := x2.hh.free h1
      exact x1.hh.free e1
    · exact k.elim
  | _ => exact k.elim
/-! ### x in xs, a list or a tuple of data without dicts -/
end
end DL
namespace DL
open PySem PySem.Spec PyProof.Rows L2
def atom : D → Bool
  | .none => true
  | .bool _ => true
  | .int _ => true
  | .str _ => true
  | _ => false
def inL (ys : List D) (d : D) (neg : Bool) : M D := if atom d = true ∧ ys.all atom = true then mok (.bool (if neg then !ys.any (fun y => PyData.eqv y d) else ys.any fun y => PyData.eqv y d)) else none
def inX (neg : Bool) (d : D) : D → M D
  | .list ys => inL ys d neg
  | .tuple ys => inL ys d neg
  | .dict kvs => if keyOk d = true then mok (.bool (if neg then !(findD kvs d).isSome else (findD kvs d).isSome)) else none
  | _ => none
def inD : D → D → M D := inX false
def notInD : D → D → M D := inX true
theorem inX_ne (neg : Bool) (x y : D) (c : Value) : inX neg x y ≠ some (.error c) := by
  unfold inX inL
  split <;> first | (intro h; cases h; done) | (split <;> intro h <;> cases h)
theorem inD_ne (x y : D) (c : Value) : inD x y ≠ some (.error c) := inX_ne _ _ _ _
theorem notInD_ne (x y : D) (c : Value) : notInD x y ≠ some (.error c) := inX_ne _ _ _ _
section
variable {X : Cx}
theorem atom_flat {K : PySem.W.Frag} {w : World} {F H : Hp} {v : V} {d : D} (h : Sh K w F H v d) (a : atom d = true) : flatV v = true := by
  rcases h with h | ⟨a, e, ⟨vs, es, e1, e2, r⟩ | ⟨es, kvs, e1, e2, r⟩⟩
  · cases h <;> first | rfl | cases a
  · subst e1; cases a
  · subst e1; cases a
theorem atoms_flat {K : PySem.W.Frag} {w : World} {F : Hp} : ∀ {vs : List V} {ds : List D}, RpA K w F vs ds → ds.all atom = true → vs.all flatV = true
  | _, _, .nil, _ => rfl
  | _, _, .cons (d := d) (ds := ds) h t, a => by
    rw [List.all_cons, Bool.and_eq_true] at a
    rw [List.all_cons, atom_flat (F := F) (H := F) (.inl h) a.1, atoms_flat t a.2]
    rfl
theorem eqV_eqv {K : PySem.W.Frag} {w : World} {F H : Hp} {v u : V} {d e : D} (h : Rp K w F v d) (g : Sh K w F H u e) (a : atom d = true) (b : atom e = true) : eqV v u = PyData.eqv d e := by
  rcases g with g | ⟨a, e, ⟨vs, es, e1, e2, r⟩ | ⟨es, kvs, e1, e2, r⟩⟩
  · cases h <;> cases g <;> first | rfl | (cases a; done) | (cases b; done) | simp [eqV, PyData.eqv]
  · subst e1; cases b
  · subst e1; cases b
theorem inV_any {K : PySem.W.Frag} {w : World} {F H : Hp} {u : V} {e : D} (g : Sh K w F H u e) (b : atom e = true) : ∀ {vs : List V} {ds : List D}, RpA K w F vs ds → ds.all atom = true → inV u vs = ds.any fun y => PyData.eqv y e
  | _, _, .nil, _ => rfl
  | _, _, .cons (d := d) (ds := ds) h t, a => by
    rw [List.all_cons, Bool.and_eq_true] at a
    have ih := inV_any g b t a.2
    unfold inV at ih ⊢
    rw [List.any_cons, List.any_cons, eqV_eqv h g a.1 b, ih]
theorem in_at (hu : X.A.units + 64 < cLine) (neg : Bool) : OpR X (compareOp (if neg then .NotIn else .In)) (rD X .v (inX neg)) := by
  intro pins s σ H x y v u Q I rx ry h
  obtain ⟨F, d, e, sm, sx, sy, h⟩ := h
  have seqs : ∀ {ys : List D} {p : Addr} {vs : List V}, (SqL X.K H p vs ∨ SqT X.K H p vs) → RpA X.K X.w F vs ys → y = .ref p → Ans (inL ys d neg) (fun z => ∀ v F' H', Ext F H F' H' → RM X.K X.w H F' H' .v v z → Q v H') (fun _ => False) → wpAny (model X.prog X.w) X.A (compareOp (if neg then .NotIn else .In) v u) (EP X pins σ Q) X.xe s := by
    intro ys p vs hq ra ey k
    unfold inL at k
    split at k
    · rename_i hc
      have q := k (.bl _) F H (.refl sm) (.bl _)
      have fx := atom_flat sx hc.1
      have fs := atoms_flat ra hc.2
      have e := inV_any sx hc.1 ra hc.2
      cases neg with
      | false => exact op_in_seq pins s σ H x y v u Q I rx ry ⟨p, vs, ey, hq, fx, fs, by rw [e]; exact q⟩
      | true => exact op_notIn_seq pins s σ H x y v u Q I rx ry ⟨p, vs, ey, hq, fx, fs, by rw [e]; exact q⟩
    · exact k.elim
  unfold inX at h
  split at h
  · obtain ⟨p, vs, ey, hp, ra⟩ := sy.list sm
    exact seqs (.inl hp) ra ey h
  · obtain ⟨p, vs, ey, hp, ra⟩ := sy.tuple sm
    exact seqs (.inr hp) ra ey h
  · split at h
    · rename_i hk
      obtain ⟨ks, rfl, hdp⟩ := keyOk_key hk
      obtain ⟨p, es, rfl, hp, re⟩ := sy.dict sm
      cases ry
      have rk : Rp X.K X.w F x (NestedKey.tup ks).data := by
        rcases sx with g | ⟨a, e, ⟨vs, es, e1, e2, r⟩ | ⟨es, kvs, e1, e2, r⟩⟩
        · exact g
        · rw [NestedKey.data] at e1; cases e1
        · rw [NestedKey.data] at e1; cases e1
      obtain ⟨c, rfl, rfl, hkey⟩ := key_is I sm rk rx hdp
      obtain ⟨hd, _, xs, hm, px⟩ := dict_of I sm hp re
      have q := h (.bl _) F H (.refl sm) (.bl _)
      have eq : ∀ {kvs : List (D × D)}, RpE X.K X.w F es.es kvs → (findD kvs (NestedKey.tup ks).data).isSome = (atKey xs (.tup ks)).isSome := by
        intro kvs re
        rcases find_rel (k := .tup ks) re px with ⟨h1, h2, _⟩ | ⟨d', b', u', v', h1, h2, h3, h4, _⟩
        · rw [h1, h2]; rfl
        · rw [h1, h2]; rfl
      have hroom : (nestedKind X.prog X.w).room X.A.in1 := by show X.A.units + 1 + 8 < cLine; omega
      cases neg with
      | false => exact wpAny_in_heap hroom hkey hd hm ⟨.bl _, H, I.tok _, by rw [← eq re]; rfl, q⟩
      | true =>
        show wpAny (model X.prog X.w) X.A (contains (.ref p) (.ref c) >>= fun b => pure (Value.bool (!b))) (EP X pins σ Q) X.xe s
        exact wpAny_bind (wpAny_contains_heap hroom hkey hd hm (wpAny_pure ⟨.bl _, H, I.tok _, by rw [← eq re]; rfl, q⟩))
    · exact h.elim
  · exact h.elim
theorem op_inV (hu : X.A.units + 64 < cLine) : OpR X (compareOp .In) (rD X .v inD) := in_at hu false
theorem op_notInV (hu : X.A.units + 64 < cLine) : OpR X (compareOp .NotIn) (rD X .v notInD) := in_at hu true
end
end DL

/-! The data layer: zip(a list, range(n)). -/
namespace DL
open PySem PySem.Spec PyProof.Rows L2
section
variable {prog : Program} {w : World} {A : Around} {E : Value → Shared → Prop} {s : Shared}
theorem nextOf_rng {it : Addr} {x left : Int} {Q : Value → Shared → Prop} (hit : IsRangeIter s.heap it x left 1) (hl : 0 < left)
    (hQ : ∀ h', IsRangeIter h' it (x + 1) (left - 1) 1 → Heap.SameBut it s.heap h' → Q (.int x s.toks) { s with heap := h', toks := s.toks + 1 }) :
    wpAny (model prog w) A (Builtin.SmallTypes.nextOf (.ref it)) Q E s := by
  have hT : s.TypeIs (.ref it) "range_iterator" := ⟨_, hit, rfl⟩
  unfold Builtin.SmallTypes.nextOf
  refine wpAny_bind (wpAny_callSpecial?_slot (name := Str.ofString "__next__") hT PySem.F.slot_range_iterator_next
    (call_meets PySem.F.slot_range_iterator_next hT PySem.F.entry_range_iterator_next (PySem.F.args_range_iterator_next_1 _) (AutoRange.range_iterator___next___range_iterator_1 it x left 1 (by omega)) ⟨hit, ?_⟩))
  exact wpAny_pure (hQ _ (Heap.get?_update_self _ (Heap.get?_update_self _ hit rfl) rfl) ((Heap.SameBut.update ..).trans (Heap.SameBut.update ..)))
theorem endOf_rng {it : Addr} {x left : Int} {Q : Value → Shared → Prop} (hh : A.handled = none) (hit : IsRangeIter s.heap it x left 1) (hl : left ≤ 0)
    (hE : ∀ h' e, Heap.ExtBut it s.heap h' → (∃ o, h'.get? e = some o ∧ o.cls = .type "StopIteration") → E (.ref e) { s with heap := h' }) :
    wpAny (model prog w) A (Builtin.SmallTypes.nextOf (.ref it)) Q E s := by
  have hT : s.TypeIs (.ref it) "range_iterator" := ⟨_, hit, rfl⟩
  unfold Builtin.SmallTypes.nextOf
  refine wpAny_bind (wpAny_callSpecial?_slot (name := Str.ofString "__next__") hT PySem.F.slot_range_iterator_next
    (wpAny_call_entry PySem.F.slot_range_iterator_next hT PySem.F.entry_range_iterator_next ?_ (PySem.F.args_range_iterator_next_1 _)))
  refine wpAny_bind (m := field (.ref it) 0) (wpAny_field hit rfl (x := rawInt x) rfl ?_)
  refine wpAny_bind (m := field (.ref it) 1) (wpAny_field hit rfl (x := rawInt left) rfl ?_)
  refine wpAny_bind (m := field (.ref it) 2) (wpAny_field hit rfl (x := rawInt 1) rfl ?_)
  show wpAny _ _ (if left ≤ 0 then _ else _) _ _ s
  rw [if_pos hl]
  refine wpAny_bind (wpAny_rule (wpAny_bind ?_))
  refine wpAny_bind (m := newExc (.type "StopIteration") []) ?_
  simp only [newExc, newTuple]
  refine wpAny_bind (wpAny_newObj_type ?_ (by size_fits))
  refine wpAny_bind (m := firstArgMember _ _) (wpAny_of_eq (a := Value.none) (by first | rfl | (simp only [firstArgMember]; rfl)) (wpAny_newObj_type ?_ (by size_fits)))
  simp only [raiseNew]
  refine wpAny_bind (wpAny_handled ?_)
  first | rw [show A.in1.handled = none from hh] | rw [hh]
  refine wpAny_bind (wpAny_pure (wpAny_throw ?_))
  exact hE _ _ (((Heap.ExtBut.refl it s.heap).push _).push _) ⟨_, Heap.get?_push_size _ rfl, rfl⟩
theorem draws_rng (hh : A.handled = none) (it : Addr) (lo : Int) (n : Nat) : Draws prog w A it [it] n (fun i v => ∃ t : Tok, v = Value.int (lo + (i : Nat)) t) (fun i h => IsRangeIter h it (lo + (i : Nat)) ((n : Int) - (i : Nat)) 1) where
  live := fun _ _ st => ⟨_, st⟩
  frame := fun _ _ _ st hk => hk it (by simp) _ st
  item := fun i s Q E hi st hQ => by
    refine nextOf_rng st (by omega) fun h' st' hs => hQ _ h' _ ⟨_, rfl⟩ ?_ hs
    have e1 : lo + ((i + 1 : Nat) : Int) = lo + (i : Nat) + 1 := by omega
    have e2 : (n : Int) - ((i + 1 : Nat) : Int) = (n : Int) - (i : Nat) - 1 := by omega
    rw [e1, e2]
    exact st'
  done := fun s Q E st hE => endOf_rng hh st (by omega) hE
end
end DL
namespace DL
open PySem PySem.Spec PyProof.Rows L2
/-- the list at a beside lo, lo + 1, .. (n of them), in new pairs -/
def ItzR (K : PySem.W.Frag) (a : Addr) (n : Nat) : It :=
  ⟨fun i H => ∃ (xs : List V) (x : V), SqL K H a xs ∧ xs[i]? = some x ∧ i < n, fun i H v H' => ∃ T x, v = .ref T ∧ H T = none ∧ H' = upd H T (.tup [x, .int (i : Nat)]) ∧ ∀ xs, SqL K H a xs → xs[i]? = some x,
    fun i H => ∃ xs : List V, SqL K H a xs ∧ i = min xs.length n⟩
theorem turn_zipR {P : Program} {w : World} {K : PySem.W.Frag} {elts : List Expr} {kk : Nat} {tpos : Pos} {a z TI TO i1 i2 : Addr} (n : Nat) (S : ZipSep2 z TI TO i1 i2 [i1, a] [i2]) :
    Turn P w K (.Tuple elts kk tpos) (ItzR K a n) [z, TI, TO, i1, i2] z (fun i h => IsZip h z TI TO .none ∧ IsTupOf2 h TI (.ref i1) (.ref i2) ∧ (∃ x y, IsTupOf2 h TO x y) ∧ h.IsListIter i1 a i ∧ IsRangeIter h i2 (0 + (i : Nat)) ((n : Int) - (i : Nat)) 1) where
  mem := by simp
  obj := fun i h st c hc => by
    obtain ⟨g1, g2, ⟨x, y, g3⟩, ⟨o1, e1, _, d1⟩, g5⟩ := st
    simp only [List.mem_cons, List.not_mem_nil, or_false] at hc
    rcases hc with rfl | rfl | rfl | rfl | rfl
    · exact ⟨_, g1, fun v q => nomatch q⟩
    · exact ⟨_, g2, fun v q => nomatch q⟩
    · exact ⟨_, g3, fun v q => nomatch q⟩
    · exact ⟨o1, e1, fun v q => by rw [d1] at q; cases q⟩
    · exact ⟨_, g5, fun v q => nomatch q⟩
  keep := fun i h h' st k => by
    obtain ⟨g1, g2, ⟨x, y, g3⟩, g4, g5⟩ := st
    exact ⟨k z (by simp) _ g1, k TI (by simp) _ g2, ⟨x, y, k TO (by simp) _ g3⟩, g4.at fun o q => k i1 (by simp) o q, k i2 (by simp) _ g5⟩
  item := by
    intro X hP hw hK hc i pins s σ H E I hf st hg
    subst hP hw hK
    obtain ⟨g1, g2, ⟨x0, y0, g3⟩, g4, g5⟩ := st
    obtain ⟨xs, x, hq, hx, hi⟩ := hg
    obtain ⟨its, rv, p, _⟩ := I.list hq
    obtain ⟨u, hu, ru⟩ := rv.get hx
    have hzl : z < s.heap.objs.size := Heap.lt_size g1
    have hh : X.A.in1.handled = none := I.ok.hd hc
    have hli : i < its.toArray.size := by rw [List.size_toArray]; exact (List.getElem?_eq_some_iff.mp hu).1
    have ha1 : a ≠ i1 := fun e => by
      have := (hf i1 (by simp)).1
      obtain ⟨o, n1, ho, hcl, _⟩ := p
      obtain ⟨o2, ho2, hcl2, _⟩ := g4
      rw [e, ho2] at ho
      cases ho
      rw [hcl2] at hcl
      exact absurd hcl (by decide)
    refine wpAny_pyNext_zipD2_item S (Draws.list hh i1 a ha1 its.toArray) (draws_rng hh i2 0 n) g1 g2 g3 ⟨g4, p.isList⟩ g5 hli hi fun x1 x2 h' tk y1 y2 b1 b2 d1 d2 b5 b6 hk => ?_
    have e1 : x1 = u := by
      have : its[i]? = some x1 := by simpa using y1
      rw [hu] at this
      exact (Option.some.inj this).symm
    subst e1
    obtain ⟨t, rfl⟩ := y2
    refine ⟨_, rfl, wpAny_letOwnedTupleGo_zip (s := { s with heap := h', toks := tk }) b1 fun h'' z'' sb => ?_⟩
    have hT2 : h''.get? s.heap.objs.size = some { cls := .type "tuple", data := .seq #[x1, .int (0 + (i : Nat)) t] } := (sb.2 _ (Nat.ne_of_gt hzl)).trans b5
    have new : ObjOk X.prog X.w (upd H s.heap.objs.size (.tup [x, .int (i : Nat)])) h'' s.heap.objs.size (.tup [x, .int (i : Nat)]) :=
      ⟨by show 2 ≤ sizeLine; decide, [x1, .int (0 + (i : Nat)) t], .cons ru (.cons ⟨t, by rw [Int.zero_add]⟩ .nil), ⟨_, hT2, rfl, _, rfl⟩⟩
    have I1 := I.turnedNew (h' := h'') (t' := tk) (ch := [z, TI, TO, i1, i2]) (fun c o hb q => (sb.2 c (fun q' => hb (by simp [q']))).trans (hk c o (fun q' => hb (by simp [q'])) (fun q' => hb (by simp [q'])) (fun q' => hb (by simp [q'])) (fun q' => hb (by simp [q'])) q)) hf (Nat.le_refl _) new
    refine ⟨.ref s.heap.objs.size, _, I1, rfl, ⟨_, x, rfl, I.hok.fresh (Nat.le_refl _), rfl, fun l hl => by rw [I.list_inj hl hq]; exact hx⟩, ⟨z'', ?_, ⟨x1, .int (0 + (i : Nat)) t, ?_⟩, ?_, ?_⟩, fun c hcm => ?_⟩
    · exact (sb.2 _ S.TIz).trans (hk _ _ S.TIz S.TITO S.TIi1 S.TIi2 g2)
    · exact (sb.2 _ S.TOz).trans b2
    · exact d1.1.at fun o q => (sb.2 _ S.zi1.symm).trans q
    · exact (sb.2 _ S.zi2.symm).trans d2
    · have hlt : c < s.heap.objs.size := by
        simp only [List.mem_cons, List.not_mem_nil, or_false] at hcm
        rcases hcm with rfl | rfl | rfl | rfl | rfl
        · exact hzl
        · exact Heap.lt_size g2
        · exact Heap.lt_size g3
        · obtain ⟨_, e1, _⟩ := g4; exact Heap.lt_size e1
        · exact Heap.lt_size g5
      rw [upd_ne (Nat.ne_of_lt hlt)]
      exact (hf c hcm).1
  done := by
    intro X hP hw hK hc i pins s σ H E I hf st hg
    subst hP hw hK
    obtain ⟨g1, g2, ⟨x0, y0, g3⟩, g4, g5⟩ := st
    obtain ⟨xs, hq, hi⟩ := hg
    obtain ⟨its, rv, p, _⟩ := I.list hq
    have l1 := rv.length
    have hh : X.A.in1.handled = none := I.ok.hd hc
    have ha1 : a ≠ i1 := fun e => by
      obtain ⟨o, n1, ho, hcl, _⟩ := p
      obtain ⟨o2, ho2, hcl2, _⟩ := g4
      rw [e, ho2] at ho
      cases ho
      rw [hcl2] at hcl
      exact absurd hcl (by decide)
    refine wpAny_pyNext_zipD2_end S (Draws.list hh i1 a ha1 its.toArray) (draws_rng hh i2 0 n) g1 g2 g3 ⟨g4, p.isList⟩ g5 (by rw [List.size_toArray]; omega) (by omega) (by rw [List.size_toArray]; omega) fun h' tk hk => ⟨rfl, I.turnedL (t' := tk) (ch := [z, TI, TO, i1, i2]) (fun c o hb q => hk c o (fun q' => hb (by simp [q'])) (fun q' => hb (by simp [q'])) (fun q' => hb (by simp [q'])) (fun q' => hb (by simp [q'])) q) hf⟩
  self := fun A i s Q E st h => wpAny_pyIter_zip st.1 h
end DL
namespace DL
open PySem PySem.Spec PyProof.Rows L2
theorem begins_rng (r : Addr) (j : Int) (t u v : Tok) (h3 : -(2 ^ 62) ≤ j) (h4 : j < 2 ^ 62) : Begins (.ref r) { cls := .type "range_iterator", data := .fields #[rawInt 0, rawInt (Builtin.Range.rangeSize 0 j 1), rawInt 1] } (fun h => IsRange h r 0 j 1 t u v) where
  iter := fun prog w A E s Q hr h => wpAny_pyIter_range hr (small_one (by omega) (by omega) h3 h4) h
  keeps := fun h h' x hk => hk r _ x
  free := rfl
section
variable {X : Cx} {W : WX} {e b : Expr} {fe fb : DEnv → M D} {p p2 pos pos2 tpos : Pos} {elts : List Expr} {kk : Nat}
theorem cr_rng1 : CallR X (.type "range") (fun vs H Q => ∃ j : Int, vs = [V.int j] ∧ ∀ q, H q = none → Q (.ref q) (upd H q (.rng 0 j))) := by
  intro pins s σ H vs us Q I r h
  obtain ⟨j, rfl, q⟩ := h
  obtain ⟨u1, rfl, rj⟩ := vals1 r
  obtain ⟨t, rfl⟩ := rj
  refine call_range_1 ⟨.ref s.heap.objs.size, upd H s.heap.objs.size (.rng 0 j), I.laid (t' := s.toks + 1 + 1) (fun b o e => Heap.get?_push_of_some _ e) (Nat.le_refl _) ⟨s.toks, t, s.toks + 1, Heap.get?_push_size _ rfl⟩, rfl, q _ (I.hok.fresh (Nat.le_refl _))⟩
def iZipR (K : PySem.W.Frag) (ta : TA) : TI := fun σ H R => ta σ H fun vs H1 => ∃ (a r : Addr) (xs : List V) (j : Int), vs = [.ref a, .ref r] ∧ SqL K H1 a xs ∧ H1 r = some (.rng 0 j) ∧ -(2 ^ 62) ≤ j ∧ j < 2 ^ 62 ∧ R (ItzR K a j.toNat) H1
theorem pi_zipR {e2 : Expr} {ta : TA} (hg : Gl X "zip") (hm : X.mg "zip" = none) (ha : PA X [e, e2] ta)
    (hs : starEach [e, e2] X.env = (false, eval e X.env) :: starEach [e2] X.env := by rfl) (hpl : (backTo pos (starEach [e2] X.env)).any (·.1) = false := by rfl) :
    PI X (.Tuple elts kk tpos) (.Call (.Name "zip" p) [e, e2] [] pos) (iZipR X.K ta) := by
  refine ⟨fun pins s σ H R I h => Call_ (ld_blt I hg hm PyProof.Rows.boot_zip (PyProof.Rows.callWith_type1 (thn (ha.run pos pins s σ H _ I h) fun us s1 ⟨vs, H1, I1, r1, a, r, xs, j, ex, hq, hr, j1, j2, q⟩ => ?_) hs hpl))⟩
  subst ex
  cases r1 with
  | cons ra rr =>
    cases rr with
    | cons rb rr =>
      cases rr
      cases ra
      cases rb
      obtain ⟨its, rv, p1, _⟩ := I1.list hq
      obtain ⟨t, u, v, ho⟩ := (show ObjOk X.prog X.w H1 s1.heap r (.rng 0 j) from I1.hok r _ hr)
      have hal : a < s1.heap.objs.size := p1.lt
      refine zip_begins2 (begins_list a its.toArray) (begins_rng r j t u v j1 j2) p1.isList ho fun h' c1 c2 c3 c4 c5 c6 hk => wpAny_pyIter_zip c1 ?_
      have I2 : Inv X pins σ H1 { s1 with heap := h' } := I1.kept (t' := s1.toks) hk
      refine ⟨s1.heap.objs.size + 4, [s1.heap.objs.size + 4, s1.heap.objs.size + 2, s1.heap.objs.size + 3, s1.heap.objs.size, s1.heap.objs.size + 1], _, _, H1, rfl, I2, turn_zipR j.toNat (zip_sep2 (fp1 := [a]) (fp2 := []) (fun b hb => by rw [List.mem_singleton.mp hb]; exact hal) (fun b hb => by cases hb)), ⟨c1, c2, ⟨_, _, c3⟩, ⟨_, c4, rfl, rfl⟩, ?_⟩, fun c hcm => ?_, q⟩
      · have e1 : (0 : Int) + ((0 : Nat) : Int) = 0 := by omega
        have e2 : ((j.toNat : Nat) : Int) - ((0 : Nat) : Int) = Builtin.Range.rangeSize 0 j 1 := by rw [rangeSize_one]; split <;> omega
        show IsRangeIter h' (s1.heap.objs.size + 1) (0 + ((0 : Nat) : Int)) (((j.toNat : Nat) : Int) - ((0 : Nat) : Int)) 1
        rw [e1, e2]
        exact c5
      · have hle : s1.heap.objs.size ≤ c := by
          simp only [List.mem_cons, List.not_mem_nil, or_false] at hcm
          rcases hcm with h | h | h | h | h <;> rw [h] <;> first | exact Nat.le_add_right _ _ | exact Nat.le_refl _
        exact I1.fpOk hle (I1.hok.fresh hle)
def zipRL (l : List D) (n : Nat) : List D := (l.zip (List.range n)).map fun q => PyData.tuple [q.1, .int (q.2 : Nat)]
theorem zipRL_get {l : List D} {n i : Nat} {d : D} (h : (zipRL l n)[i]? = some d) : ∃ x, l[i]? = some x ∧ i < n ∧ d = .tuple [x, .int (i : Nat)] := by
  unfold zipRL at h
  rw [List.getElem?_map] at h
  obtain ⟨q, h1, rfl⟩ := Option.map_eq_some_iff.mp h
  obtain ⟨h2, h3⟩ := List.getElem?_zip_eq_some.mp h1
  obtain ⟨h4, h5⟩ := List.getElem?_eq_some_iff.mp h3
  rw [List.length_range] at h4
  rw [List.getElem_range] at h5
  exact ⟨q.1, h2, h4, by rw [← h5]⟩
theorem zipRL_len (l : List D) (n : Nat) : (zipRL l n).length = min l.length n := by simp [zipRL]
def zipRX (l : List D) : D → M (List D)
  | .int j => if j.natAbs < 4611686018427387904 then mok (zipRL l j.toNat) else none
  | _ => none
def dZipR (f g : DEnv → M D) (env : DEnv) : M (List D) := mbind (f env) fun x => match x with
  | .list l => mbind (g env) (zipRX l)
  | _ => none
theorem di_zipR (hg : Gl X "zip") (hm : X.mg "zip" = none) (hg2 : Gl X "range") (hm2 : X.mg "range" = none) (he : DE X W .v e fe) (hb : DE X W .v b fb)
    (hs : starEach [e, .Call (.Name "range" p2) [b] [] pos2] X.env = (false, eval e X.env) :: starEach [.Call (.Name "range" p2) [b] [] pos2] X.env := by rfl) (hpl : (backTo pos (starEach [.Call (.Name "range" p2) [b] [] pos2] X.env)).any (·.1) = false := by rfl)
    (hs2 : starEach [.Call (.Name "range" p2) [b] [] pos2] X.env = (false, eval (.Call (.Name "range" p2) [b] [] pos2) X.env) :: starEach [] X.env := by rfl)
    (hs3 : starEach [b] X.env = (false, eval b X.env) :: starEach [] X.env := by rfl) (hpl3 : (backTo pos2 (starEach [] X.env)).any (·.1) = false := by rfl) :
    DI X W (.Tuple elts kk tpos) (.Call (.Name "zip" p) [e, .Call (.Name "range" p2) [b] [] pos2] [] pos) (dZipR fe fb) := by
  obtain ⟨te, he, qe⟩ := he
  obtain ⟨tb, hb, qb⟩ := hb
  refine ⟨_, pi_zipR hg hm (pa_cons he (pa_cons (pe_callTy cr_rng1 hg2 hm2 (by decide +kernel) (pa_cons hb pa_nil hs3) (by decide) (by decide) hs3 hpl3) pa_nil hs2) hs) hs hpl, fun B F H σ env R ok h => qe B F H σ env _ ok (h.bind.mono (fun d k v F1 H1 x1 r1 => ?_) fun c k => k)⟩
  have r1 : Rp X.K X.w F1 v d := r1
  cases r1 with
  | lst h1 ra =>
    rename_i a xs ds
    have k : Ans (mbind (fb env) (zipRX ds)) _ _ := k
    refine qb B F1 H1 σ env _ (ok.mono x1) (k.bind.mono (fun dj k u F2 H2 x2 r2 => ?_) fun c k F' H' e => k F' H' (x1.trans e))
    have r2 : Rp X.K X.w F2 u dj := r2
    cases r2 with
    | int j =>
      unfold zipRX at k
      simp only at k
      split at k
      · rename_i hj
        refine ⟨j, rfl, fun r hr => ⟨a, r, xs, j, rfl, ?_, upd_same, by omega, by omega, ?_⟩⟩
        · exact (x2.fh.trans (same_upd hr)).seq (x2.ff.seq h1)
        · have x3 : Ext F2 H2 F2 (upd H2 r (.rng 0 j)) := Ext.newO x2.fh hr
          refine k _ F2 _ (x1.trans (x2.trans x3)) ⟨fun F3 H3 i d1 s1 s2 hd => ?_, fun F3 H3 s1 s2 => ?_⟩
          · obtain ⟨z, e1, hi, rfl⟩ := zipRL_get hd
            have hq := (s1.trans s2).seq (x2.ff.seq h1)
            obtain ⟨w1, g1, g2⟩ := ra.get e1
            refine ⟨⟨_, w1, hq, g1, hi⟩, fun y1 H4 yy => ?_⟩
            obtain ⟨T, w2, rfl, hT, rfl, y⟩ := yy
            have e3 := (y _ hq).symm.trans g1
            cases e3
            have x4 := Ext.newF (o := .tup [w1, .int (i : Nat)]) s2 hT
            exact ⟨_, x4, .tup (.inl (.inl upd_same)) (.cons (((g2.mono x2.ff).mono s1).mono x4.ff) (.cons (.int _) .nil))⟩
          · exact ⟨_, (s1.trans s2).seq (x2.ff.seq h1), by rw [zipRL_len, ra.length]⟩
      · exact k.elim
    | _ => exact k.elim
  | _ => exact k.elim
end
end DL
namespace DL
open PySem PySem.Spec PyProof.Rows L2
section
variable {prog : Program} {w : World} {A : Around} {E : Value → Shared → Prop} {s : Shared}
/-- a new empty list takes the items of reversed(a list) -/
theorem extend_rev {R : Result → Shared → Prop} {it l S : Addr} {xs : Array Value} {res : Value} {c₀ : Nat} (hh : A.handled = none) (hit : s.heap.IsRevIter it l ((xs.size : Int) - 1)) (hl : s.heap.IsList l xs) (hne : l ≠ it) (hn : xs.size ≤ sizeLine) (hSi : S ≠ it) (hSl : S ≠ l)
    (hS : s.heap.get? S = some { cls := .type "list", data := .seq #[] c₀ })
    (hR : ∀ (h' : Heap) (tk : Nat) (acc : Array Value) (c : Nat), (∀ b o, b ≠ S → b ≠ it → s.heap.get? b = some o → h'.get? b = some o) → h'.get? S = some { cls := .type "list", dict := none, data := .seq acc c, slots := #[] } → ItemsOf (fun i v => xs[xs.size - 1 - i]? = some v) acc xs.size → R (.ok (.ret res)) { s with heap := h', toks := tk }) :
    wpAny (model prog w) A.in1 (Builtin.List.listExtendWith (.ref S) (.ref it) res) (fun fin s' => match fin with | .done f => R (.ok f) s' | .again c' => c'.quiet = true ∧ codeAny (model prog w) A c' R s') (fun e s' => R (.error e) s') s := by
  have W := (Walks.listRev (prog := prog) (w := w) (A := A.in1) hh it l hne xs).toS
  have hSf : S ∉ [it, l] := by simp only [List.mem_cons, List.not_mem_nil, or_false, not_or]; exact ⟨hSi, hSl⟩
  have hT : s.TypeIs (.ref it) "list_reverseiterator" := Heap.IsRevIter.typeIs hit
  have h1 : Builtin.List.listSameRef (.ref S) (.ref it) = false := by simp [Builtin.List.listSameRef, hSi]
  unfold Builtin.List.listExtendWith
  refine wpAny_bind (wpAny_typeOf hT ?_)
  rw [if_neg (by rw [h1]; decide)]
  refine wpAny_bind (wpAny_pyIter_revIter hit (wpAny_bind (wpAny_holding ?_)))
  unfold Builtin.List.listLengthHint
  refine wpAny_bind (wpAny_specialOf hT RT.nolen_lri ?_)
  show wpAny (model prog w) A.in1 (specialOf (.ref it) (Str.ofString "__length_hint__") >>= _) _ _ s
  refine wpAny_bind (wpAny_specialOf hT RT.hint_lri ?_)
  generalize hid : ("list_reverseiterator.__length_hint__" : String) = id0
  wp_delta
  rw [show splitId id0 = some ("list_reverseiterator", "__length_hint__") from by subst hid; decide +kernel]
  subst hid
  refine wpAny_bind (wpAny_isInstance (b := true) hT (by rw [isSubtype_type]; kernel_rfl) (wpAny_pure ?_))
  rw [if_neg (by decide)]
  have e0 : ((xs.size : Nat) : Int) - 1 - ((0 : Nat) : Int) = (xs.size : Int) - 1 := by omega
  refine wpAny_pure ⟨plainId_quiet PySem.F.plain_extend_loop _, codeAny_extend_loopS W hn _ hSf _ xs.size 0 _ _ _ rfl (Nat.zero_le _) ⟨Nat.zero_le _, by rw [e0]; exact hit, hl⟩ hS (ItemsOf.nil _) fun s' acc' c' hm hS' hacc => ?_⟩
  rw [Moved.eq_with hm]
  refine hR s'.heap s'.toks acc' c' (fun b o hb hb2 e => hm.heap b o (fun hmem => ?_) e) hS' hacc
  rcases List.mem_cons.mp hmem with e' | hmem
  · exact hb e'
  · exact hb2 (List.mem_singleton.mp hmem)
theorem call_list_rev {it l : Addr} {xs : Array Value} {Q : Value → Shared → Prop} (hh : A.handled = none) (hit : s.heap.IsRevIter it l ((xs.size : Int) - 1)) (hl : s.heap.IsList l xs) (hne : l ≠ it) (hn : xs.size ≤ sizeLine)
    (hQ : ∀ (h' : Heap) (tk : Nat) (acc : Array Value) (c : Nat), (∀ b o, b ≠ it → s.heap.get? b = some o → h'.get? b = some o) → h'.get? s.heap.objs.size = some { cls := .type "list", dict := none, data := .seq acc c, slots := #[] } → ItemsOf (fun i v => xs[xs.size - 1 - i]? = some v) acc xs.size → Q (.ref s.heap.objs.size) { s with heap := h', toks := tk }) :
    wpAny (model prog w) A (call (.type "list") [.ref it]) Q E s := by
  refine callType_codes (Q₁ := fun obj s₁ => obj = .ref s.heap.objs.size ∧ s₁ = { s with heap := s.heap.push { cls := .type "list", data := .seq #[] } }) PySem.F.called_list (PySem.F.typeCall_list_1 _) PySem.F.entry_list_init (code_list_new _ ⟨rfl, rfl⟩) fun obj s₁ h₁ => ?_
  obtain ⟨rfl, rfl⟩ := h₁
  have hS : (s.heap.push { cls := .type "list", data := .seq #[] }).get? s.heap.objs.size = some { cls := .type "list", data := .seq #[] } := Heap.get?_push_size _ rfl
  obtain ⟨oi, hoi, _⟩ := id hit
  obtain ⟨ol, hol, _⟩ := id hl
  have hSi : s.heap.objs.size ≠ it := Nat.ne_of_gt (Heap.lt_size hoi)
  have hSl : s.heap.objs.size ≠ l := Nat.ne_of_gt (Heap.lt_size hol)
  refine ⟨⟨_, hS, rfl⟩, PySem.F.args_list_init_2 _ _, ?_⟩
  show wpAny _ _ (Builtin.List.listItems (.ref s.heap.objs.size) >>= fun old => Builtin.List.listUpdate (.ref s.heap.objs.size) (fun _ => #[]) >>= fun _ => letGo old.toList.reverse >>= fun _ => Builtin.List.listExtendWith (.ref s.heap.objs.size) (.ref it) .none) _ _ _
  refine wpAny_bind ?_
  unfold Builtin.List.listItems
  refine wpAny_bind (wpAny_seqItems hS rfl (wpAny_pure ?_))
  refine wpAny_bind (m := updateSeq s.heap.objs.size (fun _ => #[])) (wpAny_updateSeq hS rfl (wpAny_bind (wpAny_letGo ?_)))
  have hS₂ := Heap.get?_update_self (Obj.mapSeq (fun _ => (#[] : Array Value))) hS rfl
  have oth : ∀ b o, b ≠ s.heap.objs.size → s.heap.get? b = some o → ((s.heap.push { cls := .type "list", data := .seq #[] }).update s.heap.objs.size (Obj.mapSeq (fun _ => (#[] : Array Value)))).get? b = some o :=
    fun b o hb e => (Heap.get?_update_other _ _ (Ne.symm hb)).trans (Heap.get?_push_of_some _ e)
  refine extend_rev (A := A.in1) hh (hit.at fun o e => oth it o (Ne.symm hSi) e) (hl.at fun o e => oth l o (Ne.symm hSl) e) hne hn hSi hSl hS₂ fun h' tk acc c hk hS' hacc => ?_
  exact ⟨rfl, hQ h' tk acc c (fun b o hb e => hk b o (Nat.ne_of_lt (Heap.lt_size e)) hb (oth b o (Nat.ne_of_lt (Heap.lt_size e)) e)) hS' hacc⟩
end
end DL
namespace DL
open PySem PySem.Spec PyProof.Rows L2
theorem RpA.reverse {K : PySem.W.Frag} {w : World} {F : Hp} : ∀ {vs : List V} {ds : List D}, RpA K w F vs ds → RpA K w F vs.reverse ds.reverse
  | _, _, .nil => .nil
  | _, _, .cons h t => by
    rw [List.reverse_cons, List.reverse_cons]
    exact RpA.append (RpA.reverse t) (.cons h .nil)
def revD : D → M D
  | .list xs => mok (.list xs.reverse)
  | _ => none
section
variable {X : Cx} {W : WX} {e : Expr} {fe : DEnv → M D} {p p2 pos pos2 : Pos}
theorem pe_listRev {te : TE} (hc : X.calm = true) (hg : Gl X "list") (hm : X.mg "list" = none) (hg2 : Gl X "reversed") (hm2 : X.mg "reversed" = none) (he : PE X e te)
    (hs : starEach [e] X.env = (false, eval e X.env) :: starEach [] X.env := by rfl)
    (hs2 : starEach [.Call (.Name "reversed" p2) [e] [] pos2] X.env = (false, eval (.Call (.Name "reversed" p2) [e] [] pos2) X.env) :: starEach [] X.env := by rfl) :
    PE X (.Call (.Name "list" p) [.Call (.Name "reversed" p2) [e] [] pos2] [] pos) (fun σ H Q => te σ H fun v H1 => ∃ a xs, v = .ref a ∧ SqL X.K H1 a xs ∧ ∀ q, H1 q = none → Q (.ref q) (upd H1 q (.lst xs.reverse))) := by
  refine ⟨fun pins s σ H Q I h => Call_ (ld_blt I hg hm (show bootBuiltins "list" = some (.type "list") by decide +kernel) (PyProof.Rows.callWith_type1 (args_cons (Call_ (ld_blt I hg2 hm2 PyProof.Rows.boot_reversed (PyProof.Rows.callWith_type1 (args_cons (thn (he.run pins s σ H _ I h) fun u s1 ⟨v, H1, I1, r1, a, xs, ev, hq, q⟩ => args_nil ?_) hs) hs rfl))) hs2) hs2 rfl))⟩
  subst ev
  obtain rfl : u = Value.ref a := r1
  obtain ⟨its, rv, pl, hz⟩ := I1.list hq
  have hl := pl.isList
  refine call_reversed_list hl (args_nil ?_)
  have k0 : ∀ b o, s1.heap.get? b = some o → (s1.heap.push (revObj a ((its.toArray.size : Int) - 1))).get? b = some o := fun b o e => Heap.get?_push_of_some _ e
  have I2 : Inv X pins σ H1 { s1 with heap := s1.heap.push (revObj a ((its.toArray.size : Int) - 1)) } := I1.kept (t' := s1.toks) k0
  obtain ⟨f0, f1, f2, f3, f4, f5⟩ := I1.fpOk (H' := H1) (b := s1.heap.objs.size) (Nat.le_refl _) (I1.hok.fresh (Nat.le_refl _))
  obtain ⟨ol, hol, _⟩ := id hl
  have hne : a ≠ s1.heap.objs.size := Nat.ne_of_lt (Heap.lt_size hol)
  refine call_list_rev (s := { s1 with heap := s1.heap.push (revObj a ((its.toArray.size : Int) - 1)) }) (I1.ok.hd hc) ⟨_, Heap.get?_push_size _ rfl, rfl, rfl⟩ (hl.push _) hne (by rw [List.size_toArray, ← rv.length]; exact hz) fun h' tk acc c hk hS' hi => ?_
  have I3 : Inv X pins σ H1 { s1 with heap := h', toks := tk } := I2.turned (t' := tk) (fun b o hb e => hk b o hb e) f0 f1 f3 f4 f5
  have hsz : (s1.heap.push (revObj a ((its.toArray.size : Int) - 1))).objs.size = s1.heap.objs.size + 1 := size_push' ..
  have hfr : H1 (s1.heap.push (revObj a ((its.toArray.size : Int) - 1))).objs.size = none := I1.hok.fresh (by rw [hsz]; exact Nat.le_succ _)
  refine ⟨.ref _, upd H1 (s1.heap.push (revObj a ((its.toArray.size : Int) - 1))).objs.size (.lst xs.reverse), ?_, rfl, q _ hfr⟩
  refine I3.take (t' := tk) (fun b ob _ e => e) (I1.fpOk (by rw [hsz]; exact Nat.le_succ _) hfr) ⟨by rw [List.length_reverse]; exact hz, acc.toList, c, RT.vals_rev rv hi, ?_⟩
  rw [Array.toArray_toList]
  exact hS'
theorem de_lrev (hc : X.calm = true) (hg : Gl X "list") (hm : X.mg "list" = none) (hg2 : Gl X "reversed") (hm2 : X.mg "reversed" = none) (he : DE X W .v e fe)
    (hs : starEach [e] X.env = (false, eval e X.env) :: starEach [] X.env := by rfl)
    (hs2 : starEach [.Call (.Name "reversed" p2) [e] [] pos2] X.env = (false, eval (.Call (.Name "reversed" p2) [e] [] pos2) X.env) :: starEach [] X.env := by rfl) :
    DE X W .o (.Call (.Name "list" p) [.Call (.Name "reversed" p2) [e] [] pos2] [] pos) (d1 revD fe) := by
  obtain ⟨te, he, qe⟩ := he
  refine ⟨_, pe_listRev hc hg hm hg2 hm2 he hs hs2, fun B F H σ env Q ok h => qe B F H σ env _ ok (h.bind.mono (fun d k v F1 H1 x1 r1 => ?_) fun c k => k)⟩
  have r1 : Rp X.K X.w F1 v d := r1
  cases r1 with
  | lst h1 ra =>
    refine ⟨_, _, rfl, x1.fh.seq h1, fun q hq => ?_⟩
    exact k (.ref q) F1 _ (x1.trans (Ext.newO x1.fh hq)) ⟨⟨q, rfl, .inl ⟨_, _, rfl, upd_same, RpA.reverse ra⟩⟩, q, rfl, x1.hh.free hq, x1.fh.free hq⟩
  | _ => exact k.elim
end
end DL

/-! The data layer: errors: raise, try .. except X as e, isinstance(e, C). -/
namespace DL
open PySem PySem.Spec PyProof.Rows L2
section
variable {X : Cx} {W : WX} {sts : List Stmt} {g : DEnv → Option Out}
def tDSs (K : PySem.W.Frag) (w : World) (hd : Option Value) (W : WX) (g : DEnv → Option Out) : TS := fun D σ H => ∃ (B : Bs hd) (F : Hp) (env : DEnv), EnvOk K w B F H σ env ∧ AnsO (g env) (OutOk K w B W D)
theorem DSs.pss (h : DSs X W sts g) : PSs X sts (tDSs X.K X.w X.A.handled W g) := by
  obtain ⟨t, h, q⟩ := h
  exact ⟨fun pins s σ H D I ⟨B, F, env, ok, a⟩ => h.run pins s σ H D I (q B F H σ env D ok a)⟩
/-! ### raise -/
def dRaise (c : Value) (env : DEnv) : Option Out := some (.xc c env)
/-- an own error class without own __init__, under ValueError -/
structure XcC (K : PySem.W.Frag) (C : Addr) : Prop where
  q : PySem.W.excIn K C HandSPX.veTail "ValueError.__new__" = true
  k : PySem.W.keepIn K (.ref C) = true
  c : ExcC K C
  t : PySem.W.typeIn K (.ref C) = some (.type "type")
theorem ds_raise {x m : Str} {j : _} {p p2 pos pos' : Pos} {C : Addr} (hc : X.calm = true) (tk : Takes X W) (E : XcC X.K C) (gC : X.mg x = some (.ref C)) (hg : Gl X x) (hdb : (x == ("__debug__" : Str)) = false := by decide) :
    DS X W (.Raise (some (.Call (.Name x p) [.Constant (.str m) j p2] [] pos)) none pos') (dRaise (.ref C)) :=
  ⟨_, ps_raise hc tk (pmk_own PySem.F.excBase_ValueError E.q gC E.k (raises_own E.c.hs E.t) hg hdb), fun B F H σ env D ok h => h F H σ ok⟩
/-! ### try .. except X as e -/
def noXp (env : DEnv) : Bool := env.all fun o => match o with
  | some .xp => false
  | _ => true
def backX (i : Nat) : Option Out → Option Out
  | some (.nx e) => if noXp (e.set i none) = true then some (.nx (e.set i none)) else none
  | some (.bk e) => if noXp (e.set i none) = true then some (.bk (e.set i none)) else none
  | some (.ct e) => if noXp (e.set i none) = true then some (.ct (e.set i none)) else none
  | some (.rt o d) => some (.rt o d)
  | _ => none
def catchX (i : Nat) (ca : Value → Option Bool) (gs : Value → DEnv → Option Out) (c : Value) (e : DEnv) : Option Out := match ca c with
  | none => none
  | some false => some (.xc c e)
  | some true => if noXp e = true then backX i (gs c (e.set i (some .xp))) else none
def dTry (i : Nat) (ca : Value → Option Bool) (gb : DEnv → Option Out) (gs : Value → DEnv → Option Out) (env : DEnv) : Option Out := match gb env with
  | some (.xc c e) => catchX i ca gs c e
  | o => o
theorem noXp_at {env : DEnv} (h : noXp env = true) {i : Nat} {s : Sl} (e : env[i]? = some (some s)) : s ≠ .xp := by
  rintro rfl
  have := List.all_eq_true.mp h (some .xp) (List.mem_of_getElem? e)
  cases this
theorem EnvOk.held {K : PySem.W.Frag} {w : World} {hd hd' : Option Value} {B : Bs hd} {F H : Hp} {σ : L2.St} {env : DEnv} (x : EnvOk K w B F H σ env) (h : noXp env = true) : EnvOk K w (⟨B.F, B.H⟩ : Bs hd') F H σ env := by
  refine ⟨x.ext, x.len, fun i s e => ?_, x.ap⟩
  obtain ⟨v, h1, h2⟩ := x.sl i s e
  refine ⟨v, h1, ?_⟩
  cases s with
  | xp => exact absurd rfl (noXp_at h e)
  | fz d => exact h2
  | ow d => exact h2
theorem EnvOk.setX {K : PySem.W.Frag} {w : World} {a : Addr} {B : Bs (some (.ref a))} {F H : Hp} {σ : L2.St} {env : DEnv} (x : EnvOk K w B F H σ env) (i : Nat) : EnvOk K w B F H (σ.set i (some (.ref a))) (env.set i (some .xp)) := by
  have y := x.drop i (some (.ref a))
  refine ⟨y.ext, by simpa using y.len, fun j s e => ?_, fun j k d e b hjk h1 h2 h3 h4 => ?_⟩
  · by_cases hj : i = j
    · subst hj
      have hl : i < env.length := by
        rcases Nat.lt_or_ge i env.length with z | z
        · exact z
        · rw [List.getElem?_eq_none (by simpa using z)] at e; cases e
      rw [List.getElem?_set_self hl] at e
      cases e
      exact ⟨_, List.getElem?_set_self (by rw [← x.len]; exact hl), a, rfl, rfl⟩
    · rw [List.getElem?_set_ne hj] at e
      exact y.sl j s (by rw [List.getElem?_set_ne hj]; exact e)
  · have ne : ∀ {j : Nat} {d : D}, (env.set i (some .xp))[j]? = some (some (.ow d)) → (env.set i none)[j]? = some (some (.ow d)) := fun {j d} q => by
      by_cases hj : i = j
      · subst hj
        by_cases hl : i < env.length
        · rw [List.getElem?_set_self hl] at q; cases q
        · rw [List.getElem?_eq_none (by simpa using hl)] at q; cases q
      · rw [List.getElem?_set_ne hj] at q ⊢; exact q
    exact y.ap j k d e b hjk (ne h1) (ne h2) h3 h4
theorem ds_try {x n : Str} {c : Value} {i : Nat} {body suite : List Stmt} {b₀ : Stmt} {np pos pos' : Pos} {gb : DEnv → Option Out} {gs : Value → DEnv → Option Out} {ca : Value → Option Bool}
    (hs : X.stack = X.env :: X.outer) (hf : X.env.frame = some X.env.locals) (hN : X.N.Nodup) (hi : X.N[i]? = some n) (hln : X.env.kindOf n = some .local) (hc : Names X x c) (tk : Takes X W)
    (hca : ∀ cls b, ca cls = some b → PySem.W.exmOne X.K cls c = some b)
    (hb : ∀ (W : WX) (pn : List (Addr × Obj)) (xe : Value → Shared → Prop), Takes (X.tr pn xe) W → PassesOwn (model X.prog X.w) X.A X.env xe → DSs (X.tr pn xe) W body gb)
    (hsu : ∀ (a : Addr) (oe : Obj) (cls : Value) (pn : List (Addr × Obj)), Zc cls none oe → (∃ vs, oe.data = .fields vs) → ca cls = some true → DSs (X.suite a ((a, oe) :: pn)) W0 (b₀ :: suite) (gs cls)) :
    DS X W (.Try body [.ExceptHandler (some (.Name x np)) (some n) (b₀ :: suite) pos'] [] [] pos) (dTry i ca gb gs) := by
  have key := ps_try_as (X := X) (x := x) (n := n) (c := c) (i := i) (body := body) (suite := suite) (b₀ := b₀) (np := np) (pos := pos) (pos' := pos') (tb := fun W' => tDSs X.K X.w X.A.handled W' gb)
    (ts := fun a cls d D σ H => d = none ∧ ca cls = some true ∧ tDSs X.K X.w (some (.ref a)) W0 (gs cls) D σ H) (Wout := W) hs hf hN hi hln hc tk
    (fun W' pn xe t p => (hb W' pn xe t p).pss) (fun a oe cls d pn hz hd => ⟨fun pins s σ H D I ⟨e1, e2, z⟩ => by
      subst e1
      exact (hsu a oe cls pn hz hd e2).pss.run pins s σ H D I z⟩)
  refine ⟨_, key, fun B F H σ env D ok h => ⟨B, F, env, ok, ?_⟩⟩
  unfold dTry at h
  cases hg : gb env with
  | none => rw [hg] at h; exact h
  | some o =>
    rw [hg] at h
    cases o with
    | nx e1 => exact h
    | rt o d => exact h
    | bk e1 => exact h
    | ct e1 => exact h
    | xc cls e1 =>
      intro F1 H1 σ1 ok1
      simp only [catchX] at h
      cases hq : ca cls with
      | none => rw [hq] at h; exact h.elim
      | some b =>
        rw [hq] at h
        refine ⟨b, hca _ _ hq, fun eb a ha => ?_, fun eb => ?_⟩
        · subst eb
          simp only at h
          split at h
          · rename_i hx
            refine ⟨rfl, hq, ⟨B.F, B.H⟩, F1, e1.set i (some .xp), (ok1.held hx).setX i, ?_⟩
            cases hgs : gs cls (e1.set i (some .xp)) with
            | none => rw [hgs] at h; exact h.elim
            | some o2 =>
              rw [hgs] at h
              cases o2 with
              | nx e2 =>
                intro F2 H2 σ2 ok2
                simp only [backX] at h
                split at h
                · rename_i hx2
                  exact h F2 H2 _ ((ok2.drop i none).held hx2)
                · exact h.elim
              | bk e2 =>
                intro F2 H2 σ2 ok2
                simp only [backX] at h
                split at h
                · rename_i hx2
                  exact h F2 H2 _ ((ok2.drop i none).held hx2)
                · exact h.elim
              | ct e2 =>
                intro F2 H2 σ2 ok2
                simp only [backX] at h
                split at h
                · rename_i hx2
                  exact h F2 H2 _ ((ok2.drop i none).held hx2)
                · exact h.elim
              | rt o3 d3 => exact h
              | xc c3 e3 => exact h.elim
          · exact h.elim
        · subst eb
          exact h F1 H1 σ1 ok1
/-! ### the classes -/
/-- the own error classes: where each lies; which one a value is -/
structure Errs where
  c : String → Addr
  nm : Value → Option String
/-- which class is under which -/
def subN (a b : String) : Bool := a == b || b == "MixError" || b == "ValueError"
structure ErrsOk (K : PySem.W.Frag) (mg : Str → Option Value) (E : Errs) (raised own : List String) : Prop where
  g : ∀ n ∈ own, mg (Str.ofString n) = some (.ref (E.c n))
  nm : ∀ v n, E.nm v = some n → n ∈ raised ∧ v = .ref (E.c n)
  xc : ∀ n ∈ raised, XcC K (E.c n)
  kit : ∀ n ∈ raised, ∀ m ∈ own, PySem.W.kitOne K (.ref (E.c n)) (.ref (E.c m)) = some (subN n m)
  kitV : ∀ n ∈ raised, PySem.W.kitOne K (.ref (E.c n)) (.type "ValueError") = some (subN n "ValueError")
  exm : ∀ n ∈ raised, PySem.W.exmOne K (.ref (E.c n)) (.ref (E.c "MixError")) = some (subN n "MixError")
def Errs.ca (E : Errs) (m : String) (v : Value) : Option Bool := (E.nm v).map fun n => subN n m
def Errs.is (E : Errs) (v : Value) (m : String) : Bool := match E.nm v with
  | some n => subN n m
  | none => false
/-! ### isinstance(e, C), e the held error -/
def dIsE (i : Nat) (b : Bool) (env : DEnv) : M D := match env[i]? with
  | some (some .xp) => mok (.bool b)
  | _ => none
theorem de_isE {a D₀ : Addr} {oe : Obj} {pn : List (Addr × Obj)} {i : Nat} {x y : Str} {c : V} {cv : Value} {b : Bool} {p p1 p2 pos : Pos} (C : ExcC X.K D₀) (hz : Zc (.ref D₀) none oe) (hf : ∃ vs, oe.data = .fields vs)
    (hg : Gl X "isinstance") (hm : X.mg "isinstance" = none) (hc : PE (X.suite a ((a, oe) :: pn)) (.Name y p2) (tC c)) (hcv : ∀ u, RelV c u → u = cv) (hk : PySem.W.kitOne X.K (.ref D₀) cv = some b)
    (hi : X.N[i]? = some x) (hv : Vis X.env.scope x) (hd : (x == ("__debug__" : Str)) = false) (hcd : (x == ("__classdict__" : Str)) = false)
    (hs : starEach [.Name x p1, .Name y p2] X.env = (false, eval (.Name x p1) X.env) :: starEach [.Name y p2] X.env)
    (hs2 : starEach [.Name y p2] X.env = (false, eval (.Name y p2) X.env) :: starEach [] X.env) (hpl : (backTo pos (starEach [.Name y p2] X.env)).any (·.1) = false) :
    DE (X.suite a ((a, oe) :: pn)) W .v (.Call (.Name "isinstance" p) [.Name x p1, .Name y p2] [] pos) (dIsE i b) := by
  refine ⟨_, pe_callB (X := X.suite a ((a, oe) :: pn)) (call_isE C hz hf) hg hm (by decide +kernel) (pa_cons (pe_var (X := X.suite a ((a, oe) :: pn)) hi hv hd hcd) (pa_cons hc pa_nil hs2) hs) (by decide) (by decide) hs hpl, fun B F H σ env Q ok h => ?_⟩
  unfold dIsE at h
  split at h
  · rename_i q
    obtain ⟨v, h1, a', h2, h3⟩ := ok.sl i _ q
    cases h2
    subst h3
    exact ⟨_, h1, c, cv, b, rfl, hcv, hk, h _ F H (.refl ok.fh) (.bl b)⟩
  · exact h.elim
/-- isinstance(e, C), C an own class -/
theorem de_isOwn {E : Errs} {raised own : List String} {a : Addr} {oe : Obj} {cls : Value} {pn : List (Addr × Obj)} {i : Nat} {m : String} {x : Str} {p p1 p2 pos : Pos} (O : ErrsOk X.K X.mg E raised own) (hcl : E.ca "MixError" cls = some true) (hz : Zc cls none oe) (hf : ∃ vs, oe.data = .fields vs) (hmem : m ∈ own)
    (hg : Gl X "isinstance") (hm : X.mg "isinstance" = none) (hy : Gl X (Str.ofString m)) (hyd : ((Str.ofString m) == ("__debug__" : Str)) = false)
    (hi : X.N[i]? = some x) (hv : Vis X.env.scope x) (hd : (x == ("__debug__" : Str)) = false) (hcd : (x == ("__classdict__" : Str)) = false)
    (hs : starEach [.Name x p1, .Name (Str.ofString m) p2] X.env = (false, eval (.Name x p1) X.env) :: starEach [.Name (Str.ofString m) p2] X.env)
    (hs2 : starEach [.Name (Str.ofString m) p2] X.env = (false, eval (.Name (Str.ofString m) p2) X.env) :: starEach [] X.env) (hpl : (backTo pos (starEach [.Name (Str.ofString m) p2] X.env)).any (·.1) = false) :
    DE (X.suite a ((a, oe) :: pn)) W .v (.Call (.Name "isinstance" p) [.Name x p1, .Name (Str.ofString m) p2] [] pos) (dIsE i (E.is cls m)) := by
  unfold Errs.ca at hcl
  cases hn : E.nm cls with
  | none => rw [hn] at hcl; cases hcl
  | some n =>
    obtain ⟨h1, rfl⟩ := O.nm _ _ hn
    have e : E.is (.ref (E.c n)) m = subN n m := by unfold Errs.is; rw [hn]
    rw [e]
    exact de_isE (c := .ref (E.c m)) (cv := .ref (E.c m)) (O.xc n h1).c hz hf hg hm (pe_glob (X := X.suite a ((a, oe) :: pn)) hy (O.g m hmem) rfl hyd) (fun u r => r) (O.kit n h1 m hmem) hi hv hd hcd hs hs2 hpl
/-- isinstance(e, ValueError) -/
theorem de_isVE {E : Errs} {raised own : List String} {a : Addr} {oe : Obj} {cls : Value} {pn : List (Addr × Obj)} {i : Nat} {x : Str} {p p1 p2 pos : Pos} (O : ErrsOk X.K X.mg E raised own) (hcl : E.ca "MixError" cls = some true) (hz : Zc cls none oe) (hf : ∃ vs, oe.data = .fields vs)
    (hg : Gl X "isinstance") (hm : X.mg "isinstance" = none) (hy : Gl X "ValueError") (hym : X.mg "ValueError" = none)
    (hi : X.N[i]? = some x) (hv : Vis X.env.scope x) (hd : (x == ("__debug__" : Str)) = false) (hcd : (x == ("__classdict__" : Str)) = false)
    (hs : starEach [.Name x p1, .Name "ValueError" p2] X.env = (false, eval (.Name x p1) X.env) :: starEach [.Name "ValueError" p2] X.env)
    (hs2 : starEach [.Name "ValueError" p2] X.env = (false, eval (.Name "ValueError" p2) X.env) :: starEach [] X.env) (hpl : (backTo pos (starEach [.Name "ValueError" p2] X.env)).any (·.1) = false) :
    DE (X.suite a ((a, oe) :: pn)) W .v (.Call (.Name "isinstance" p) [.Name x p1, .Name "ValueError" p2] [] pos) (dIsE i (E.is cls "ValueError")) := by
  unfold Errs.ca at hcl
  cases hn : E.nm cls with
  | none => rw [hn] at hcl; cases hcl
  | some n =>
    obtain ⟨h1, rfl⟩ := O.nm _ _ hn
    have e : E.is (.ref (E.c n)) "ValueError" = subN n "ValueError" := by unfold Errs.is; rw [hn]
    rw [e]
    exact de_isE (c := .ty "ValueError") (cv := .type "ValueError") (O.xc n h1).c hz hf hg hm (pe_bltn (X := X.suite a ((a, oe) :: pn)) hy hym (by decide +kernel) rfl) (fun u r => r) (O.kitV n h1) hi hv hd hcd hs hs2 hpl
theorem ErrsOk.catches {K : PySem.W.Frag} {mg : Str → Option Value} {E : Errs} {raised own : List String} (O : ErrsOk K mg E raised own) (cls : Value) (b : Bool) (h : E.ca "MixError" cls = some b) : PySem.W.exmOne K cls (.ref (E.c "MixError")) = some b := by
  unfold Errs.ca at h
  cases hn : E.nm cls with
  | none => rw [hn] at h; cases h
  | some n =>
    rw [hn] at h
    obtain ⟨h1, rfl⟩ := O.nm _ _ hn
    cases h
    exact O.exm n h1
/-! ### xs.clear() -/
def dClear (i : Nat) (env : DEnv) : Option Out := match env[i]? with
  | some (some (.ow (.list _))) => some (.nx (env.set i (some (.ow (.list [])))))
  | _ => none
theorem ds_clear {i : Nat} {x : Str} {p2 apos cpos pos : Pos} (hi : X.N[i]? = some x := by rfl) (hv : Vis X.env.scope x := by first | exact Or.inl rfl | exact Or.inr (Or.inl rfl) | exact Or.inr (Or.inr rfl))
    (hd : (x == ("__debug__" : Str)) = false := by decide) (hcd : (x == ("__classdict__" : Str)) = false := by decide)
    (hbase : attributeBase (.Name x p2) "clear" X.env (eval (.Name x p2) X.env) = eval (.Name x p2) X.env := by rfl) (hline : (apos.endLine == cpos.line) = true := by rfl)
    (hsw : swapsWith (.Call (.Attribute (.Name x p2) "clear" apos) [] [] cpos) none pos.line X.env = pure false := by rfl) :
    DS X W (.Expr (.Call (.Attribute (.Name x p2) "clear" apos) [] [] cpos) pos) (dClear i) := by
  refine ⟨_, ps_expr (pe_bm0 PySem.F.plainAttrs_list PySem.F.slot_list_clear PySem.F.type_list_clear mt_clear (pe_var hi hv hd hcd) hbase hline) hsw, fun B F H σ env D ok h => ?_⟩
  unfold dClear at h
  split at h
  · rename_i ds q
    obtain ⟨l, vs, h1, h2, h3, h4⟩ := own_list ok q
    exact ⟨.ref l, h1, .inl ⟨rfl, _, .inl (.inl h2)⟩, l, vs, rfl, rfl, h2, h F _ σ (ok.write q h1 ⟨l, rfl, .inl ⟨[], [], rfl, upd_same, .nil⟩⟩)⟩
  · exact h.elim
end
/-! ### a law that knows errors -/
def Errs.Good (E : Errs) (raised : List String) : Prop := ∀ n ∈ raised, E.nm (.ref (E.c n)) = some n
def spE (K : PySem.W.Frag) (w : World) (raised : List String) (G : Errs → List D → Option Res) : Sp := fun vs H Q X => ∀ E : Errs, E.Good raised → spD K w 1 (G E) vs H Q X
theorem spE_ok {P : Program} {w : World} {K : PySem.W.Frag} {mg : Str → Option Value} {base : Heap} {k : Nat} {fn : Addr} {fd : FuncData} {ps : List Str} {raised : List String} {G : Errs → List D → Option Res} {E : Errs} (hE : E.Good raised)
    (h : FnOk P w K mg base (L2.CX P w) k fn fd ps (spD K w 1 (G E))) : FnOk P w K mg base (L2.CX P w) k fn fd ps (spE K w raised G) :=
  ⟨fun vs H Q X z => h.len vs H Q X (z E hE), fun A outer s H args us vs Q X r e b v z => h.run A outer s H args us vs Q X r e b v (z E hE)⟩
theorem errs_nm {l : List (Value × String)} {raised : List String} {Ec : String → Addr} (h : ∀ p ∈ l, p.2 ∈ raised ∧ p.1 = .ref (Ec p.2)) {v : Value} {n : String} (e : l.lookup v = some n) : n ∈ raised ∧ v = .ref (Ec n) := by
  induction l with
  | nil => cases e
  | cons p l ih =>
    obtain ⟨a, b⟩ := p
    rw [List.lookup_cons] at e
    split at e
    · rename_i hb
      cases e
      have hv : v = a := eq_of_beq hb
      subst hv
      exact h _ List.mem_cons_self
    · exact ih (fun q hq => h q (List.mem_cons_of_mem _ hq)) e
theorem kit_ne {K : PySem.W.Frag} {a b : Addr} (h1 : PySem.W.kitOne K (.ref a) (.ref a) = some true) (h2 : PySem.W.kitOne K (.ref a) (.ref b) = some false) : (Value.ref a == Value.ref b) = false := by
  refine Bool.eq_false_iff.mpr fun q => ?_
  have e := eq_of_beq q
  rw [← e, h1] at h2
  cases h2
end DL

/-! The data layer: (x,) * n, int(flag), min(xs), d != {}, {k: v}, for k, v in d.items(). -/
namespace DL
open PySem PySem.Spec PyProof.Rows L2
/-! ### (x,) * n -/
theorem tuple_mul1 (l : Addr) (items : Array Value) (n : Nat) (dd : Option Addr) (sl : Array (Option Value)) (u : Tok) :
    Meets (Builtin.«tuple.__mul__» ⟨[.ref l, .int 1 u], []⟩) (fun _ R s => s.heap.get? l = some { cls := .type "tuple", dict := dd, data := .seq items n, slots := sl } ∧ R (.ok (.ret (Value.ref l))) s) :=
  .of_wp fun prog w A R s h => by
    obtain ⟨hp, g, d, tk, os⟩ := s
    obtain ⟨hl, h⟩ := h
    have f1 := AutoSeq1.idx_int
    have c0 : (decide ((1 : Int) < -(2 ^ 63)) || decide ((1 : Int) ≥ 2 ^ 63)) = false := by decide
    have c1 : (items.isEmpty || (1 : Int) == 1) = true := by simp
    wp_walk using wpAny_loadPart' hl
    repeat (first
      | (refine wpAny_ite_false (decide_eq_false (by rw [c0]; exact Bool.false_ne_true)) ?_; wp_walk using wpAny_loadPart' hl)
      | (refine wpAny_ite_true (decide_eq_true (by rw [c1])) ?_; wp_walk using wpAny_loadPart' hl))
    exact ⟨_, rfl, h⟩
section
variable {X : Cx} {W : WX}
def repT : D → D → M D
  | .tuple xs, .int k => if xs ≠ [] ∧ 1 ≤ k ∧ k ≤ 1000 ∧ xs.length ≤ 1000 then mok (.tuple (List.replicate k.toNat xs).flatten) else none
  | _, _ => none
theorem repT_ne (x y : D) (c : Value) : repT x y ≠ some (.error c) := by
  unfold repT
  split
  · split <;> intro h <;> cases h
  · intro h; cases h
theorem RpA.rep {K : PySem.W.Frag} {w : World} {F : Hp} {vs : List V} {ds : List D} (h : RpA K w F vs ds) : ∀ n : Nat, RpA K w F (List.replicate n vs).flatten (List.replicate n ds).flatten
  | 0 => .nil
  | n + 1 => by
    rw [List.replicate_succ, List.replicate_succ, List.flatten_cons, List.flatten_cons]
    exact h.append (RpA.rep h n)
theorem op_rep1 {l : Addr} {xs : List V} {pins : List (Addr × Obj)} {s : Shared} {σ : L2.St} {H : Hp} {u : Value} {Q : VK} (I : Inv X pins σ H s) (hT : SqT X.K H l xs) (ru : RelV (.int 1) u) (q : Q (.ref l) H) : wpAny (model X.prog X.w) X.A (binaryOp .Mult (.ref l) u) (EP X pins σ Q) X.xe s := by
  obtain ⟨t, rfl⟩ := ru
  obtain ⟨its, r, ⟨⟨cls, dd, data, sl⟩, ho, hc, n, hd⟩, hs⟩ := I.tuple hT
  simp only at hc hd
  subst hc hd
  refine wpAny_binaryOp_repeat_ref (T := "tuple") (U := "int") (by decide) ⟨_, ho, rfl⟩ (fun s' => typeIs_int s' 1 t) noFill_tuple_mul PySem.F.fills_int_mul PySem.F.slot_int_rmul repeat_tuple PySem.F.slot_int_index.lookup
    (call_meets PySem.F.slot_int_rmul (typeIs_int s 1 t) PySem.F.entry_int_rmul (PySem.F.args_int_rmul_2 _ _) (int_rmul_tuple 1 t l its.toArray n dd sl)
      ⟨ho, rfl, ⟨_, ho, rfl⟩, call_meets PySem.F.slot_tuple_mul ⟨_, ho, rfl⟩ PySem.F.entry_tuple_mul (PySem.F.args_tuple_mul_2 _ _) (tuple_mul1 l its.toArray n dd sl t) ⟨ho, ?_⟩⟩)
  exact ⟨.ref l, H, I, rfl, q⟩
theorem op_repV : OpR X (binaryOp .Mult) (rD X .v repT) := by
  intro pins s σ H x y v u Q I rx ry h
  obtain ⟨F, d, e, sm, sx, sy, h⟩ := h
  unfold repT at h
  split at h
  · rename_i xs k
    split at h
    · rename_i hc
      obtain ⟨a, vs, rfl, hT, ra⟩ := sx.tuple sm
      have ey := sy.int
      subst ey
      have hl := ra.length
      have hne : vs ≠ [] := fun z => hc.1 (ra.nil_iff.mp z)
      by_cases h1 : k = 1
      · subst h1
        cases rx
        refine op_rep1 I hT ry (h (.ref a) F H (.refl sm) ?_)
        have e1 : (List.replicate (1 : Int).toNat xs).flatten = xs := by simp
        rw [e1]
        rcases sx with g | ⟨b, e, ⟨vs, es, e1, e2, r⟩ | ⟨es, kvs, e1, e2, r⟩⟩
        · exact g
        · cases e1
        · cases e1
      · refine op_repT pins s σ H _ _ v u Q I rx ry ⟨a, k, vs, rfl, rfl, hT, hne, by omega, by omega, by omega, fun p hp => ?_⟩
        have x := Ext.newF (o := .tup (List.replicate k.toNat vs).flatten) sm hp
        exact h (.ref p) _ _ x (.tup (.inl (.inl upd_same)) ((RpA.rep ra k.toNat).mono x.ff))
    · exact h.elim
  · exact h.elim
/-! ### int(flag) -/
def intD : List D → M D
  | [.int i] => mok (.int i)
  | [.bool b] => mok (.int (if b then 1 else 0))
  | _ => none
theorem intD_ne (ds : List D) (c : Value) : intD ds ≠ some (.error c) := by
  unfold intD
  split <;> intro h <;> cases h
theorem call_intV : CallR X (.type "int") (rC X .v intD) := by
  intro pins s σ H xs us Q I r h
  obtain ⟨F, ds, sm, sx, h⟩ := h
  unfold intD at h
  split at h
  · obtain ⟨v, rfl, k⟩ := pair1 sx
    have := k.int
    subst this
    exact call_int1 pins s σ H _ us Q I r (.inl ⟨_, rfl, h _ F H (.refl sm) (.int _)⟩)
  · obtain ⟨v, rfl, k⟩ := pair1 sx
    have := k.bool
    subst this
    exact call_int1 pins s σ H _ us Q I r (.inr ⟨_, rfl, h _ F H (.refl sm) (.int _)⟩)
  · exact h.elim
/-! ### min(xs) -/
def minI : Int → List Int → Int
  | m, [] => m
  | m, n :: ns => minI (if n < m then n else m) ns
theorem minI_le : ∀ (ns : List Int) (m : Int), minI m ns ≤ m ∧ ∀ n ∈ ns, minI m ns ≤ n
  | [], m => ⟨Int.le_refl _, by intro n hn; cases hn⟩
  | n :: ns, m => by
    obtain ⟨h1, h2⟩ := minI_le ns (if n < m then n else m)
    show minI (if n < m then n else m) ns ≤ m ∧ _
    refine ⟨Int.le_trans h1 (by split <;> omega), fun k hk => ?_⟩
    rcases List.mem_cons.mp hk with rfl | hk
    · exact Int.le_trans h1 (by split <;> omega)
    · exact h2 k hk
theorem minI_mem : ∀ (ns : List Int) (m : Int), minI m ns = m ∨ minI m ns ∈ ns
  | [], m => .inl rfl
  | n :: ns, m => by
    show minI (if n < m then n else m) ns = m ∨ minI (if n < m then n else m) ns ∈ n :: ns
    rcases minI_mem ns (if n < m then n else m) with h | h
    · by_cases hn : n < m
      · rw [if_pos hn] at h ⊢; rw [h]; exact .inr List.mem_cons_self
      · rw [if_neg hn] at h ⊢; exact .inl h
    · exact .inr (List.mem_cons_of_mem _ h)
def minLD : List D → M D
  | [.list xs] => match intsOf xs with
    | some (n :: ns) => mok (.int (minI n ns))
    | _ => none
  | _ => none
theorem minLD_ne (ds : List D) (c : Value) : minLD ds ≠ some (.error c) := by
  unfold minLD
  split
  · split <;> intro h <;> cases h
  · intro h; cases h
theorem call_minLV (hc : X.calm = true) : CallR X (.builtin "min") (rC X .v minLD) := by
  intro pins s σ H xs us Q I r h
  obtain ⟨F, ds, sm, sx, h⟩ := h
  unfold minLD at h
  split at h
  · split at h
    · rename_i n ns hn
      obtain ⟨v, rfl, k⟩ := pair1 sx
      obtain ⟨a, vs, rfl, ha, ra⟩ := k.list sm
      rw [of_intsOf hn] at ra
      rw [ints_rel ra] at ha
      refine cr_min hc pins s σ H _ us Q I r ⟨a, _, rfl, ha, by simp, fun m hm hle => ?_⟩
      have e : m = minI n ns := by
        obtain ⟨h1, h2⟩ := minI_le ns n
        have h3 : minI n ns ∈ n :: ns := by
          rcases minI_mem ns n with z | z
          · rw [z]; exact List.mem_cons_self
          · exact List.mem_cons_of_mem _ z
        have h4 := hle _ h3
        rcases List.mem_cons.mp hm with rfl | hm
        · omega
        · have := h2 m hm
          omega
      subst e
      exact h _ F H (.refl sm) (.int _)
    · exact h.elim
  · exact h.elim
/-! ### d != {} -/
theorem same_empty {prog : Program} {w : World} {A : Around} {E : Value → Shared → Prop} {s : Shared} {nm : String} {a b : Addr} {es : Array DictEntry} {ep ep' : Nat} {Q : Bool → Shared → Prop} (ha : (a == sysModules) = false) (hb : (b == sysModules) = false)
    (da : DT.Raw s.heap a es ep) (db : DT.Raw s.heap b #[] ep') (h : Q (es.size == 0) s) : wpAny (model prog w) A (Builtin.Dict.samePairs nm a b) Q E s := by
  obtain ⟨oa, hoa, _, hda⟩ := da
  obtain ⟨ob, hob, _, hdb⟩ := db
  unfold Builtin.Dict.samePairs Builtin.Dict.showsAll
  rw [if_neg (show ¬ (a == sysModules) = true by rw [ha]; exact Bool.false_ne_true), if_neg (show ¬ (b == sysModules) = true by rw [hb]; exact Bool.false_ne_true)]
  refine wpAny_bind (wpAny_pure (wpAny_bind (wpAny_pure ?_)))
  refine wpAny_bind (wpAny_dictEntries hoa hda ?_)
  dsimp only
  refine wpAny_bind (wpAny_dictEntries hob hdb ?_)
  by_cases hsz : es.size = 0
  case neg =>
    rw [if_pos (by simpa using hsz)]
    have hbf : (es.size == 0) = false := by simpa using hsz
    rw [hbf] at h
    exact wpAny_bind (wpAny_rule (wpAny_pure h))
  case pos =>
    have h' : Q true s := by simpa [hsz] using h
    rw [if_neg (by rw [hsz]; simp)]
    refine wpAny_bind (wpAny_dictEpoch hoa hda ?_)
    refine wpAny_bind ?_
    rw [Std.Legacy.Range.forIn_eq_forIn_range']
    simp only [Std.Legacy.Range.size, Nat.sub_zero, Nat.add_sub_cancel, Nat.div_one, hsz, List.range'_zero, List.forIn_nil]
    exact wpAny_pure (wpAny_pure h')
theorem ne_empty {prog : Program} {w : World} {A : Around} {E : Value → Shared → Prop} {s : Shared} {a b : Addr} {es : Array DictEntry} {ep ep' : Nat} {Q : Value → Shared → Prop} (ha : (a == sysModules) = false) (hb : (b == sysModules) = false)
    (da : DT.Raw s.heap a es ep) (db : DT.Raw s.heap b #[] ep') (hu : A.units < cLine) (h : Q (.bool (!(es.size == 0))) s) : wpAny (model prog w) A (compareOp .NotEq (.ref a) (.ref b)) Q E s := by
  refine wpAny_richCompare_same_room (op := .NotEq) da.typeIs db.typeIs PySem.F.slot_dict_ne (wpAny_call_entry PySem.F.slot_dict_ne da.typeIs PySem.F.entry_dict_ne ?_ (PySem.F.args_dict_ne_2 _ _)) hu
  show wpAny _ _ (Builtin.Dict.dictSlotArgs "__ne__" ⟨[.ref a, .ref b], []⟩ >>= _) _ _ s
  refine wpAny_bind ?_
  unfold Builtin.Dict.dictSlotArgs
  refine wpAny_bind (wpAny_notOrdered_dict da.typeIs ?_)
  show wpAny _ _ (pure (Value.ref a, Value.ref b)) _ _ s
  refine wpAny_pure ?_
  refine wpAny_bind (wpAny_isInstance (T := "dict") db.typeIs PySem.F.sub_dict_dict ?_)
  simp only [Bool.not_true, Bool.false_eq_true, if_false]
  refine wpAny_bind (wpAny_pure (wpAny_bind (wpAny_pure ?_)))
  refine wpAny_bind (same_empty ha hb da db ?_)
  refine wpAny_pure ⟨_, rfl, ?_, ?_⟩
  · exact fun x => nomatch x
  · simpa using h
/-- compared with a dict that is empty -/
def neE : D → D → M D
  | .dict kvs, .dict [] => mok (.bool (!(kvs.length == 0)))
  | _, _ => none
theorem neE_ne (x y : D) (c : Value) : neE x y ≠ some (.error c) := by
  unfold neE
  split <;> intro h <;> cases h
theorem op_neE (hu : X.A.units + 64 < cLine) : OpR X (compareOp .NotEq) (rD X .v neE) := by
  intro pins s σ H x y v u Q I rx ry h
  obtain ⟨F, d, e, sm, sx, sy, h⟩ := h
  unfold neE at h
  split at h
  · obtain ⟨p, es, rfl, hp, re⟩ := sx.dict sm
    obtain ⟨p2, es2, rfl, hp2, re2⟩ := sy.dict sm
    cases rx
    cases ry
    obtain ⟨⟨hs1, _, _, _, o1, ho1, hx1, hd1, hp1⟩, _, _⟩ := I.hok p _ hp
    obtain ⟨⟨hs2, _, _, _, o2, ho2, hx2, hd2, hp2'⟩, _, _⟩ := I.hok p2 _ hp2
    have l1 : es.en.size = es.es.length := by rw [Paired.length hp1]; simp
    have l2 := RpE.length re
    have l3 : es2.en.size = es2.es.length := by rw [Paired.length hp2']; simp
    have l4 := RpE.length re2
    have e2 : es2.en = #[] := by
      refine Array.eq_empty_of_size_eq_zero ?_
      rw [l3, l4]
      rfl
    have q := h (.bl _) F H (.refl sm) (.bl _)
    refine ne_empty hs1 hs2 ⟨o1, ho1, hx1, hd1⟩ ⟨o2, ho2, hx2, by rw [hd2, e2]⟩ (by omega) ⟨.bl _, H, I, rfl, ?_⟩
    rw [l1, l2]
    exact q
  · exact h.elim
/-! ### for k, v in d.items() -/
def ItD (w : World) (a : Addr) (x : DR) : It :=
  ⟨fun i H => H a = some (dO w a x) ∧ i < x.es.length, fun i H v H' => ∃ T k kv u, x.es[i]? = some (k, kv, u) ∧ v = .ref T ∧ H T = none ∧ H' = upd H T (.tup [kv, u]), fun i H => H a = some (dO w a x) ∧ x.es.length ≤ i⟩
theorem turn_itemsD {P : Program} {w : World} {K : PySem.W.Frag} {a : Addr} {x : DR} {elts : List Expr} {kk : Nat} {tpos : Pos} (it : Addr) :
    Turn P w K (.Tuple elts kk tpos) (ItD w a x) [it] it (fun i h => ∃ ok ov, IsItemIter h it a i x.en.size x.ep ok ov) where
  mem := by simp
  obj := fun i h st b hb => by
    have e : b = it := by simpa using hb
    subst e
    obtain ⟨ok, ov, e⟩ := st
    exact ⟨_, e, fun v z => nomatch z⟩
  keep := fun i h h' st k => let ⟨ok, ov, e⟩ := st; ⟨ok, ov, k it (by simp) _ e⟩
  item := by
    intro X hP hw hK hc i pins s σ H E I hf st hg
    subst hP hw hK
    obtain ⟨ha, hi⟩ := hg
    obtain ⟨⟨_, _, _, _, o, ho, hx, hdat, hp⟩, _, _⟩ := I.hok a _ ha
    have l1 : x.es.length = x.en.size := by rw [Paired.length hp]; simp
    obtain ⟨ok, ov, he⟩ := st
    have hlt : it < s.heap.objs.size := Heap.lt_size he
    have hi2 : i < x.en.size := by omega
    obtain ⟨e, h1, _, h3, h4⟩ := paired_get (i := i) (y := x.en[i]) hp (by rw [Array.getElem?_toList]; exact Array.getElem?_eq_getElem hi2)
    refine DT.nextI he ⟨o, ho, hx, hdat⟩ hi2 fun h' ho' hT hz hk => ?_
    refine ⟨_, rfl, wpAny_letOwnedTupleGo_items (s := { s with heap := h' }) ho' fun h'' he' sb => ?_⟩
    have hT2 : h''.get? s.heap.objs.size = some { cls := .type "tuple", data := .seq #[x.en[i].key, x.en[i].val] } := (sb.2 _ (Nat.ne_of_gt hlt)).trans hT
    have new : ObjOk X.prog X.w (upd H s.heap.objs.size (.tup [e.2.1, e.2.2])) h'' s.heap.objs.size (.tup [e.2.1, e.2.2]) :=
      ⟨by show 2 ≤ sizeLine; decide, [x.en[i].key, x.en[i].val], .cons h3 (.cons h4 .nil), ⟨_, hT2, rfl, _, rfl⟩⟩
    have I1 : Inv X pins σ (upd H s.heap.objs.size (.tup [e.2.1, e.2.2])) { s with heap := h'' } :=
      I.turnedNew (t' := s.toks) (ch := [it]) (fun b ob hb e => (sb.2 b (by simpa using hb)).trans (hk b ob (by simpa using hb) e)) hf (Nat.le_refl _) new
    refine ⟨.ref s.heap.objs.size, _, I1, rfl, ⟨_, e.1, e.2.1, e.2.2, h1, rfl, I.hok.fresh (Nat.le_refl _), rfl⟩, ⟨_, _, he'⟩, fun b hb => ?_⟩
    have e : b = it := by simpa using hb
    rw [e, upd_ne (Nat.ne_of_lt hlt)]
    exact (hf it (by simp)).1
  done := by
    intro X hP hw hK hc i pins s σ H E I hf st hg
    subst hP hw hK
    obtain ⟨ha, hi⟩ := hg
    obtain ⟨f0, f1, f2, f3, f4, f5⟩ := hf it (by simp)
    obtain ⟨⟨_, _, _, _, o, ho, hx, hdat, hp⟩, _, _⟩ := I.hok a _ ha
    have l1 : x.es.length = x.en.size := by rw [Paired.length hp]; simp
    obtain ⟨ok, ov, he⟩ := st
    exact DT.endI (I.ok.hd hc) he ⟨o, ho, hx, hdat⟩ (by omega) fun h' eb => ⟨rfl, I.turned (t' := s.toks) (fun b ob hb e => eb b ob hb e) f0 f1 f3 f4 f5⟩
  self := fun A i s Q E st h => let ⟨_, _, e⟩ := st; PySem.W.kcp_self e h
def iItemsD (w : World) (td : TE) : TI := fun σ H R => td σ H fun v H1 => ∃ a x, v = .ref a ∧ H1 a = some (dO w a x) ∧ R (ItD w a x) H1
theorem pi_itemsD {e : Expr} {td : TE} {apos cpos : Pos} {elts : List Expr} {kk : Nat} {tpos : Pos} (he : PE X e td) (hbase : attributeBase e "items" X.env (eval e X.env) = eval e X.env := by rfl) (hline : (apos.endLine == cpos.line) = true := by rfl) :
    PI X (.Tuple elts kk tpos) (.Call (.Attribute e "items" apos) [] [] cpos) (iItemsD X.w td) := by
  refine ⟨fun pins s σ H R I h => ?_⟩
  refine wpAny_Call_method (T := "dict") (id := "dict.items") hbase rfl hline PySem.F.plainAttrs_dict PySem.F.slot_dict_items PySem.F.type_dict_items (thn (he.run pins s σ H _ I h) fun u s1 ⟨x, H1, I1, rx, d, dr, ex, hd, q⟩ => ?_)
  subst ex
  obtain rfl : u = Value.ref d := rx
  obtain ⟨t1, t2⟩ := dict_ty I1 hd
  obtain ⟨⟨hs, _, _, _, o, ho, hx, hdat, hp⟩, _, _⟩ := I1.hok d _ hd
  refine ⟨t1, t2, ?_⟩
  have I2 : Inv X pins σ H1 { s1 with heap := s1.heap.push { cls := .type "dict_items", data := .fields #[.ref d] } } := I1.kept (t' := s1.toks) fun b ob q => Heap.get?_push_of_some _ q
  have rw1 : DT.Raw s1.heap d dr.en dr.ep := ⟨o, ho, hx, hdat⟩
  have fin : wpAny (model X.prog X.w) X.A (pyIter (.ref s1.heap.objs.size)) (PIE X pins σ (.Tuple elts kk tpos) R) X.xe { s1 with heap := s1.heap.push { cls := .type "dict_items", data := .fields #[.ref d] } } :=
    DT.iterI (d := d) ⟨_, Heap.get?_push_size _ rfl, rfl, rfl⟩ (rw1.push _) (pi_one (tk := s1.toks) I2 _ (turn_itemsD _) ⟨.none, .none, Heap.get?_push_size _ rfl⟩ q)
  show wpAny _ _ (callWith cpos (.builtin "dict.items") [.ref d] [] []) _ X.xe s1
  exact method_meetsIn PySem.F.slot_dict_items PySem.F.entry_dict_items rfl (PySem.evalArgs_none ⟨rfl, rw1.typeIs, PySem.F.args_dict_items_1 _, _, DT.meetsItems (es := dr.en) (ep := dr.ep) hs, ⟨rw1, fin⟩⟩)
def asItems : D → M (List D)
  | .dict kvs => mok (itemsD kvs)
  | _ => none
theorem di_items {e : Expr} {f : DEnv → M D} {apos cpos : Pos} {elts : List Expr} {kk : Nat} {tpos : Pos} (he : DE X W .v e f) (hbase : attributeBase e "items" X.env (eval e X.env) = eval e X.env := by rfl) (hline : (apos.endLine == cpos.line) = true := by rfl) :
    DI X W (.Tuple elts kk tpos) (.Call (.Attribute e "items" apos) [] [] cpos) (dIt asItems f) := by
  obtain ⟨t, he, q⟩ := he
  refine ⟨_, pi_itemsD he hbase hline, fun B F H σ env R ok h => q B F H σ env _ ok (h.bind.mono (fun d k v F' H' x r => ?_) fun c k => k)⟩
  have r : Rp X.K X.w F' v d := r
  unfold asItems at k
  split at k
  · cases r with
    | dic h1 re =>
      refine ⟨_, _, rfl, x.fh _ _ h1, k _ F' H' x ⟨fun F2 H2 i d1 s1 s2 hd => ?_, fun F2 H2 s1 s2 => ?_⟩⟩
      · have ha := s2 _ _ (s1 _ _ h1)
        have hl := RpE.length re
        have hil : i < _ := (List.getElem?_eq_some_iff.mp hd).1
        unfold itemsD at hil hd
        rw [List.length_map] at hil
        refine ⟨⟨ha, by omega⟩, fun x1 H3 y => ?_⟩
        obtain ⟨T, k, kv, u, e1, rfl, hT, rfl⟩ := y
        obtain ⟨dd, e2, r1, r2⟩ := rpE_get re e1
        rw [List.getElem?_map, e2] at hd
        cases hd
        have xx := Ext.newF (o := .tup [kv, u]) s2 hT
        exact ⟨_, xx, .tup (.inl (.inl upd_same)) (.cons ((r1.mono s1).mono xx.ff) (.cons ((r2.mono s1).mono xx.ff) .nil))⟩
      · refine ⟨s2 _ _ (s1 _ _ h1), ?_⟩
        unfold itemsD
        rw [List.length_map, RpE.length re]
        exact Nat.le_refl _
  · exact k.elim
/-! ### {k: v} -/
def dD1 (fk fv : DEnv → M D) (env : DEnv) : M D := mbind (fk env) fun k => mbind (fv env) fun d => if keyOk k = true then mok (.dict [(k, d)]) else none
theorem pe_dict1 {k v : Expr} {tk tv : TE} {pos : Pos} (hu : X.A.units + 64 < cLine) (hk : PE X k tk) (hv : PE X v tv) :
    PE X (.Dict [some k] [v] pos) (fun σ H Q => ∀ p, H p = none → tk σ (upd H p (dO X.w p ⟨[], #[], 0⟩)) fun kv H1 => tv σ H1 fun vv H2 => ∃ (F : Hp) (ks : List NestedKey) (d : D), Same F H2 ∧ H2 p = some (dO X.w p ⟨[], #[], 0⟩) ∧ Rp X.K X.w F kv (NestedKey.tup ks).data ∧ (NestedKey.tup ks).depth ≤ 8 ∧ Rp X.K X.w F vv d ∧
      ∀ es' : DR, RpE X.K X.w F es'.es [((NestedKey.tup ks).data, d)] → Q (.ref p) (upd H2 p (dO X.w p es'))) := by
  refine ⟨fun pins s σ H Q I h => ?_⟩
  have hno : ObjOk X.prog X.w (upd H s.heap.objs.size (dO X.w s.heap.objs.size ⟨[], #[], 0⟩)) (s.heap.push { cls := .type "dict", data := .dict #[] }) s.heap.objs.size (dO X.w s.heap.objs.size ⟨[], #[], 0⟩) :=
    dO_ok (beq_eq_false_iff_ne.mpr (Ne.symm (Nat.ne_of_lt I.big))) (Nat.zero_le _) List.nodup_nil (by intro x hx; cases hx) (Heap.get?_push_size _ rfl) ⟨rfl, rfl, rfl⟩ rfl .nil
  have hn := I.hok.fresh (Nat.le_refl s.heap.objs.size)
  have I1 := I.laid (a := s.heap.objs.size) (t' := s.toks) (fun _ _ q => Heap.get?_push_of_some _ q) (Nat.le_refl _) hno
  have sh := zip_pairTrees [some k] [v] X.env pos rfl rfl
  rw [arm_eval_Dict, sh, dictDisplay_pairs (pairTrees [some k] [v] X.env pos) (by intro z; cases z) (by rw [pairTrees_length _ _ _ _ rfl rfl]; exact (by decide : (1 : Nat) < 17))]
  refine wpAny_bind (wpAny_standAt (wpAny_bind (wpAny_subDictH (knd := nestedKind X.prog X.w) (Q := fun d s' => wpAny (model X.prog X.w) X.A (pure (Value.ref d)) (EP X pins σ Q) X.xe s') (by show X.A.units + 8 < cLine; omega) (by rw [pairTrees_length _ _ _ _ rfl rfl]; exact (by decide : (1 : Nat) ≤ 15)) ?_)))
  refine pairTrees_cons_walk ?_
  refine thn (hk.run pins _ σ _ _ I1 (h _ hn)) fun kv s2 ⟨xk, H1, I2, rk, q1⟩ => ?_
  refine thn (hv.run pins _ σ _ _ I2 q1) fun vv s3 ⟨xv, H2, I3, rv, F, ks, d, sm, hp, rpk, hdp, rpd, q2⟩ => ?_
  refine pairTrees_nil_walk ?_
  obtain ⟨c, rfl, rfl, hkey⟩ := key_is I3 sm rpk rk hdp
  obtain ⟨hd, _, xs, hm, px⟩ := dict_of (F := F) (kvs := []) I3 sm hp .nil
  cases px
  refine ⟨[(.tup ks, c, vv)], ⟨rfl, rfl, hkey, trivial⟩, hm, fun h' tk hm' hs => wpAny_pure ?_⟩
  have ho : ∃ u, h'.get? s.heap.objs.size = some u := by
    obtain ⟨o, _, _, ho, _⟩ := hm'
    exact ⟨o, ho⟩
  have e0 : storedAllH ([] : List (NestedKey × Addr × Value)) [(NestedKey.tup ks, c, vv)] = [(.tup ks, c, vv)] := rfl
  rw [e0] at hm'
  obtain ⟨x', ex', hno'⟩ := dict_to (P := X.prog) (w := X.w) (H' := H2) (es := [(.tup ks, .ref c, xv)]) (xs := [(.tup ks, c, vv)]) hd (by show 1 ≤ sizeLine; decide) (by intro x hx; rw [List.mem_singleton.mp hx]; exact ⟨hdp, ks, rfl⟩) hm' (.cons ⟨rfl, rfl, rv⟩ .nil)
  refine ⟨.ref s.heap.objs.size, _, I3.write (x := s.heap.objs.size) (e := s.heap.objs.size) (t' := _) (by rw [hp]; trivial) (.inl rfl) (fun b ob hb hg => by rw [hs.2 b hb]; exact hg) ho hno', rfl, q2 _ ?_⟩
  rw [ex']
  exact .cons rpk rpd .nil
theorem de_dict1 {k v : Expr} {fk fv : DEnv → M D} {pos : Pos} (hu : X.A.units + 64 < cLine) (hk : DE X W .v k fk) (hv : DE X W .v v fv) : DE X W .o (.Dict [some k] [v] pos) (dD1 fk fv) := by
  obtain ⟨tk, hk, qk⟩ := hk
  obtain ⟨tv, hv, qv⟩ := hv
  refine ⟨_, pe_dict1 hu hk hv, fun B F H σ env Q ok h p hp => ?_⟩
  have x0 : Ext F H F (upd H p (dO X.w p ⟨[], #[], 0⟩)) := Ext.newO ok.fh hp
  have ok0 := ok.mono x0
  refine qk B F _ σ env _ ok0 (h.bind.mono (fun k1 h1 kv F1 H1 x1 r1 => ?_) fun c hc F' H' x => hc F' H' (x0.trans x))
  have ok1 := ok0.mono x1
  refine qv B F1 H1 σ env _ ok1 (h1.bind.mono (fun d1 h2 vv F2 H2 x2 r2 => ?_) fun c hc F' H' x => hc F' H' ((x0.trans x1).trans x))
  split at h2
  · rename_i hko
    obtain ⟨ks, rfl, hdp⟩ := keyOk_key hko
    have x12 := x1.trans x2
    have hp2 : H2 p = some (dO X.w p ⟨[], #[], 0⟩) := x12.hh _ _ upd_same
    have hf : F p = none := ok.fh.free hp
    have hf2 : F2 p = none := by
      cases q : F2 p with
      | none => rfl
      | some o =>
        rcases x12.nw p o q with z | z | z
        · rw [hf] at z; cases z
        · rw [upd_same] at z; cases z
        · have e1 := x12.fh _ _ q
          rw [hp2] at e1; cases e1
          exact z.elim
    refine ⟨F2, ks, d1, x12.fh, hp2, Rp.mono x2.ff r1, hdp, r2, fun es' re => ?_⟩
    have xt : Ext F H F2 (upd H2 p (dO X.w p es')) := by
      refine ⟨x12.ff, fun a o ha => ?_, same_upd2 x12.fh hf2, fun a o ha => ?_⟩
      · have na : a ≠ p := fun z => by rw [z, hp] at ha; cases ha
        rw [upd_ne na]
        exact x12.hh _ _ (by rw [upd_ne na]; exact ha)
      · rcases x12.nw a o ha with z | z | z
        · exact .inl z
        · refine .inr (.inl ?_)
          have na : a ≠ p := fun q => by rw [q, upd_same] at z; cases z
          rwa [upd_ne na] at z
        · exact .inr (.inr z)
    exact h2 (.ref p) F2 _ xt ⟨⟨p, rfl, .inr ⟨es', _, rfl, upd_same, re⟩⟩, p, rfl, hp, hf2⟩
  · exact h2.elim
/-! ### a comprehension's scope, for one within it -/
def retEx : Stmt → Expr
  | .Return (some e) _ => e
  | _ => .Tuple [] 0 ⟨0, 0, 0, 0⟩
def compSc : Expr → Scope
  | .ListComp _ _ sc _ => sc
  | _ => ⟨.function, [], false, false, []⟩
end
end DL

/-! The data layer: x >= y of alike data, xs.insert(i, x), one of some new lists. -/
namespace DL
open PySem PySem.Spec PyProof.Rows L2
section
variable {X : Cx} {W : WX}
/-! ### x >= y -/
def geT (x y : D) : M D := if PySem.W.alike x y = true ∧ notNone x = true ∧ eqOk x = true ∧ eqOk y = true then mok (.bool (!PySem.W.dataLt x y)) else none
theorem geT_ne (x y : D) (c : Value) : geT x y ≠ some (.error c) := by
  unfold geT
  split <;> intro h <;> cases h
theorem op_geTV (hu : X.A.units + 64 < cLine) : OpR X (compareOp .GtE) (rD X .v geT) := by
  intro pins s σ H x y v u Q I rx ry h
  obtain ⟨F, d, e, sm, sx, sy, h⟩ := h
  unfold geT at h
  split at h
  · rename_i hc
    obtain ⟨h1, h2, h3, h4⟩ := hc
    unfold eqOk at h3 h4
    rw [Bool.and_eq_true, decide_eq_true_eq] at h3 h4
    have e3 := h3
    have e4 := h4
    obtain ⟨as, ra⟩ := Rp.reads I d x v e3.1 (sx.all sm) rx
    obtain ⟨bs, rb⟩ := Rp.reads I e y u e4.1 (sy.all sm) ry
    have q := h (.bl _) F H (.refl sm) (.bl _)
    have hn : d ≠ .none := by rintro rfl; cases h2
    exact PySem.W.ge_data ra rb h1 hn (by have := e3.2; omega) ⟨.bl _, H, I, rfl, q⟩
  · exact h.elim
/-! ### xs.insert(i, x) -/
def dIns (i : Nat) (fk fx : DEnv → M D) (env : DEnv) : Option Out := match env[i]? with
  | some (some (.ow (.list ds))) => eS (fk env) env fun k => eS (fx env) env fun d => match k with
    | .int n => if 0 ≤ n ∧ n < 1000000 ∧ ds.length < sizeLine then some (.nx (env.set i (some (.ow (.list (ds.take n.toNat ++ [d] ++ ds.drop n.toNat)))))) else none
    | _ => none
  | _ => none
theorem ds_insert {i : Nat} {x : Str} {a b : Expr} {fa fb : DEnv → M D} {p2 apos cpos pos : Pos} (ha : DE X W .v a fa) (hb : DE X W .v b fb) (hi : X.N[i]? = some x := by rfl) (hv : Vis X.env.scope x := by first | exact Or.inl rfl | exact Or.inr (Or.inl rfl) | exact Or.inr (Or.inr rfl))
    (hd : (x == ("__debug__" : Str)) = false := by decide) (hcd : (x == ("__classdict__" : Str)) = false := by decide)
    (hbase : attributeBase (.Name x p2) "insert" X.env (eval (.Name x p2) X.env) = eval (.Name x p2) X.env := by rfl)
    (hfew : ((backTo cpos (starEach [a, b] X.env)).all (fun x => !x.1) && (backToKw cpos (keywordEach [] X.env)).all (fun x => x.1.isSome)
      && decide ([a, b].length + ([] : List Keyword).length + (if ([] : List Keyword).isEmpty then 0 else 1) < 30)) = true := by rfl)
    (hline : (apos.endLine == cpos.line) = true := by rfl) (hs : starEach [a, b] X.env = (false, eval a X.env) :: starEach [b] X.env := by rfl) (hs2 : starEach [b] X.env = (false, eval b X.env) :: starEach [] X.env := by rfl) (hplain : (backTo cpos (starEach [b] X.env)).any (·.1) = false := by rfl)
    (hsw : swapsWith (.Call (.Attribute (.Name x p2) "insert" apos) [a, b] [] cpos) none pos.line X.env = pure false := by rfl) :
    DS X W (.Expr (.Call (.Attribute (.Name x p2) "insert" apos) [a, b] [] cpos) pos) (dIns i fa fb) := by
  obtain ⟨ta, ha, qa⟩ := ha
  obtain ⟨tb, hb, qb⟩ := hb
  refine ⟨_, ps_expr (pe_bm PySem.F.plainAttrs_list PySem.F.slot_list_insert PySem.F.type_list_insert mt_insert (pe_var hi hv hd hcd) (pa_cons ha (pa_cons hb pa_nil hs2) hs) hbase hfew hline hs hplain) hsw, fun B F H σ env D ok h => ?_⟩
  unfold dIns at h
  split at h
  · rename_i ds q
    obtain ⟨l, vs, h1, h2, h3, h4⟩ := own_list ok q
    refine ⟨.ref l, h1, .inl ⟨rfl, _, .inl (.inl h2)⟩, qa B F H σ env _ ok ((AnsO.eS ok h).mono (fun d k v F' H' x r => ?_) fun c k => k)⟩
    have ok' := ok.mono x
    refine qb B F' H' σ env _ ok' ((AnsO.eS ok' k).mono (fun d2 k2 v2 F2 H2 x2 r2 => ?_) fun c k => k)
    split at k2
    · split at k2
      · rename_i n hz
        have r : Rp X.K X.w F' v (.int n) := r
        cases r
        have xx := x.trans x2
        refine ⟨l, vs, n, v2, rfl, rfl, xx.hh _ _ h2, by rw [h3.length]; exact hz.2.2, hz.1, by omega, ?_⟩
        refine k2 F2 _ σ ((ok.mono xx).write q h1 ⟨l, rfl, .inl ⟨vs.take n.toNat ++ [v2] ++ vs.drop n.toNat, _, rfl, upd_same, ?_⟩⟩)
        exact ((RpA.take n.toNat (h3.mono xx.ff)).append (.cons r2 .nil)).append (RpA.drop n.toNat (h3.mono xx.ff))
      · exact k2.elim
    · exact k2.elim
  · exact h.elim
/-! ### one of some new lists -/
theorem own_mono {K : PySem.W.Frag} {w : World} {H F1 H1 F2 H2 : Hp} {v : V} {d : D} (r : RM K w H F1 H1 .o v d) (e : Ext F1 H1 F2 H2) : RM K w H F2 H2 .o v d := by
  obtain ⟨h3, a, h4, h5, h6⟩ := r
  refine ⟨h3.mono e.ff e.hh, a, h4, h5, ?_⟩
  cases q : F2 a with
  | none => rfl
  | some o =>
    obtain ⟨b, o', h7, h8⟩ := h3.obj
    rw [h4] at h7; cases h7
    rcases e.nw a o q with z | z | z
    · rw [h6] at z; cases z
    · rw [h8] at z; cases z
    · have e1 := e.fh _ _ q
      rw [e.hh _ _ h8] at e1; cases e1
      subst h4
      exact absurd z (h3.notTp h8)
structure DAo (X : Cx) (W : WX) (es : List Expr) (f : DEnv → M (List D)) : Prop where
  len : ∀ env ds, f env = some (.ok ds) → ds.length = es.length
  run : ∃ t : TA, PA X es t ∧ ∀ (B : Bs X.A.handled) (F H : Hp) (σ : L2.St) (env : DEnv) (Q : List V → Hp → Prop), EnvOk X.K X.w B F H σ env →
    Ans (f env) (fun ds => ∀ vs F' H', Ext F H F' H' → Paired (RM X.K X.w H F' H' .o) vs ds → Q vs H') (fun c => ∀ F' H', Ext F H F' H' → W c none σ H') → t σ H Q
theorem dao_nil : DAo X W [] dNil := ⟨fun env ds h => by cases h; rfl, _, pa_nil, fun B F H σ env Q ok h => h [] F H (.refl ok.fh) .nil⟩
theorem dao_cons {a : Expr} {es : List Expr} {fa : DEnv → M D} {g : DEnv → M (List D)} (ha : DE X W .o a fa) (hr : DAo X W es g) (hs : starEach (a :: es) X.env = (false, eval a X.env) :: starEach es X.env := by rfl) : DAo X W (a :: es) (dCons fa g) := by
  obtain ⟨ta, ha, qa⟩ := ha
  obtain ⟨len, tb, hb, qb⟩ := hr
  refine ⟨fun env ds h => ?_, _, pa_cons ha hb hs, fun B F H σ env Q ok h => qa B F H σ env _ ok (h.bind.mono (fun d k v F1 H1 e1 r => ?_) fun c k => k)⟩
  · unfold dCons at h
    cases h1 : fa env with
    | none => rw [h1] at h; cases h
    | some r =>
      cases r with
      | error c => rw [h1] at h; cases h
      | ok x =>
        rw [h1] at h
        cases h2 : g env with
        | none => rw [mbind_ok, h2] at h; cases h
        | some r =>
          cases r with
          | error c => rw [mbind_ok, h2] at h; cases h
          | ok xs =>
            rw [mbind_ok, h2] at h
            cases h
            simp [len env xs h2]
  · refine qb B F1 H1 σ env _ (ok.mono e1) (k.bind.mono (fun ds k vs F2 H2 e2 rs => ?_) fun c k F' H' e => k F' H' (e1.trans e))
    refine k (v :: vs) F2 H2 (e1.trans e2) (.cons (own_mono r e2) ?_)
    clear k
    induction rs with
    | nil => exact .nil
    | cons p _ ih => exact .cons (RM.back e1.hh p) ih
def dPick (g : DEnv → M (List D)) (fb : DEnv → M D) (env : DEnv) : M D := mbind (g env) fun ds => mbind (fb env) fun k => match k with
  | .int i => match atI ds i with
    | some d => mok d
    | none => none
  | _ => none
theorem atI_pair {R : V → D → Prop} {vs : List V} {ds : List D} {i : Int} {d : D} (r : Paired R vs ds) (h : atI ds i = some d) : ∃ v, atI vs i = some v ∧ R v d := by
  unfold atI at h ⊢
  rw [Paired.length r]
  cases q : ixN ds.length i with
  | none => rw [q] at h; cases h
  | some j =>
    rw [q] at h
    exact paired_get r h
theorem de_pickO {es : List Expr} {b : Expr} {g : DEnv → M (List D)} {fb : DEnv → M D} {p pos : Pos} (hr : DAo X W es g) (hb : DE X W .v b fb) (hs : PlainIx b := by exact fun _ _ => rfl) (hz : es.length ≤ 1000 := by decide) : DE X W .o (.Subscript (.List es p) b pos) (dPick g fb) := by
  obtain ⟨len, ta, ha, qa⟩ := hr
  obtain ⟨tb, hb, qb⟩ := hb
  refine ⟨_, pe_ix ix_list (pe_lst ha) hb hs, fun B F H σ env Q ok h => ?_⟩
  refine qa B F H σ env _ ok (h.bind.monoE (fun ds e k vs F1 H1 e1 rs => ?_) fun c _ k => k)
  refine ⟨small_of hz ((Paired.length rs).trans (len env ds e)), fun q hq => ?_⟩
  have x := Ext.newO (o := .lst vs) e1.fh hq
  have ex := e1.trans x
  refine qb B F1 _ σ env _ (ok.mono ex) (k.bind.mono (fun d1 k1 v1 F2 H2 e2 r1 => ?_) fun c k F' H' e => k F' H' (ex.trans e))
  split at k1
  · split at k1
    · rename_i i _ d hd
      have r1 : Rp X.K X.w F2 v1 (.int i) := r1
      cases r1
      obtain ⟨v, hv, rv⟩ := atI_pair rs hd
      refine ⟨q, vs, i, v, rfl, rfl, .inl (.inl (e2.hh _ _ upd_same)), hv, ?_⟩
      exact k1 v F2 H2 (ex.trans e2) (own_mono (own_mono rv x) e2)
    · exact k1.elim
  · exact k1.elim
/-! ### sum(t), t a tuple or a list -/
theorem sum_tup {prog : Program} {w : World} {A : Around} {E : Value → Shared → Prop} {s : Shared} {l : Addr} {its : List Value} {ns : List Int} {Q : Value → Shared → Prop} (hh : A.handled = none) (hl : s.heap.IsTuple l its.toArray) (hi : IntsAre its ns)
    (h : ∀ h' tk t', (∀ b o, s.heap.get? b = some o → h'.get? b = some o) → Q (.int ns.sum t') { s with heap := h', toks := tk }) : wpAny (model prog w) A (call (.builtin "sum") [.ref l]) Q E s := by
  obtain ⟨xs, e⟩ := hi.allInts.items
  have hn : numsOf (intItems xs).toList = ns := by rw [← e]; exact hi.numsOf
  rw [nums_intItems] at hn
  rw [e] at hl
  refine PySem.W.ktm_sumG hh hl fun h' tk t' hk => ?_
  have := h h' tk t' hk
  first
    | (rw [preSum_eq, List.take_of_length_le (by simp), hn]; exact this)
    | (rw [hn]; exact this)
def sumT : List D → M D
  | [.tuple xs] => match intsOf xs with
    | some ns => mok (.int ns.sum)
    | none => none
  | _ => none
theorem sumT_ne (ds : List D) (c : Value) : sumT ds ≠ some (.error c) := by
  unfold sumT
  split
  · split <;> intro h <;> cases h
  · intro h; cases h
theorem call_sumTV (hc : X.calm = true) : CallR X (.builtin "sum") (rC X .v sumT) := by
  intro pins s σ H xs us Q I r h
  obtain ⟨F, ds, sm, sx, h⟩ := h
  unfold sumT at h
  split at h
  · split at h
    · rename_i hn
      obtain ⟨v, rfl, k⟩ := pair1 sx
      obtain ⟨a, vs, rfl, ha, ra⟩ := k.tuple sm
      rw [of_intsOf hn] at ra
      rw [ints_rel ra] at ha
      obtain ⟨its, rv, hl, _⟩ := I.tuple ha
      rw [Vals.ref1 r]
      exact sum_tup (I.ok.hd hc) hl rv.ints fun h' tk t' hk => ⟨.int _, H, I.kept hk, ⟨_, rfl⟩, h _ F H (.refl sm) (.int _)⟩
    · exact h.elim
  · exact h.elim
end
end DL

/-! The data layer: reckoning. -/
namespace DL
open PySem PySem.Spec PyProof.Rows L2

section
variable {i j : Int} {x y : D}
theorem addD_int : addD (.int i) (.int j) = mok (.int (i + j)) := rfl
theorem iaddD_int : iaddD (.int i) (.int j) = mok (.int (i + j)) := rfl
theorem subD_int : subD (.int i) (.int j) = mok (.int (i - j)) := rfl
theorem ltD_int : ltD (.int i) (.int j) = mok (.bool (decide (i < j))) := rfl
theorem leD_int : leD (.int i) (.int j) = mok (.bool (decide (i ≤ j))) := rfl
theorem gtD_int : gtD (.int i) (.int j) = mok (.bool (decide (j < i))) := rfl
theorem geD_int : geD (.int i) (.int j) = mok (.bool (decide (j ≤ i))) := rfl
theorem modD_int (h : 0 < j) : modD (.int i) (.int j) = mok (.int (i % j)) := by simp [modD, int2, h]
theorem divD_int (h : 0 < j) (h2 : j < 1073741824) : divD (.int i) (.int j) = mok (.int (i / j)) := by
  have h3 : j.natAbs < 1073741824 := by omega
  simp [divD, int2, h, h3]
theorem mulD_l (h1 : -18446744073709551616 < i) (h2 : i < 18446744073709551616) : mulD (.int i) (.int j) = mok (.int (i * j)) := by
  unfold mulD int2
  simp only
  rw [if_pos (by simp only [Bool.or_eq_true, decide_eq_true_eq]; omega)]
theorem mulD_r (h1 : -18446744073709551616 < j) (h2 : j < 18446744073709551616) : mulD (.int i) (.int j) = mok (.int (i * j)) := by
  unfold mulD int2
  simp only
  rw [if_pos (by simp only [Bool.or_eq_true, decide_eq_true_eq]; omega)]
theorem powD_int (h1 : 0 ≤ j) (h2 : j ≤ 1000000) (h3 : i.natAbs < 18446744073709551616) : powD (.int i) (.int j) = mok (.int (i ^ j.toNat)) := by
  unfold powD int2
  simp only
  rw [if_pos (by simp only [Bool.and_eq_true, decide_eq_true_eq]; omega)]
theorem eqD_int : eqD (.int i) (.int j) = mok (.bool (decide (i = j))) := by
  unfold eqD
  rw [if_pos ⟨rfl, rfl⟩]
  simp only [PyData.eqv, Bool.beq_eq_decide_eq]
theorem neD_int : neD (.int i) (.int j) = mok (.bool (!decide (i = j))) := by
  unfold neD
  rw [if_pos ⟨rfl, rfl⟩]
  simp only [PyData.eqv, Bool.beq_eq_decide_eq]
theorem eqD_bool {p q : Bool} : eqD (.bool p) (.bool q) = mok (.bool (p == q)) := rfl
theorem eqD_str {p q : Str} : eqD (.str p) (.str q) = mok (.bool (p == q)) := rfl
theorem neD_str {p q : Str} : neD (.str p) (.str q) = mok (.bool (!(p == q))) := rfl
theorem asB_bool {b : Bool} : asB (.bool b) = mok b := rfl
theorem asI_int {i : Int} : asI (.int i) = mok (some i) := rfl
theorem lenD_list {xs : List D} : lenD [.list xs] = mok (.int xs.length) := rfl
theorem lenD_tuple {xs : List D} : lenD [.tuple xs] = mok (.int xs.length) := rfl
theorem tupleD_list {xs : List D} : tupleD [.list xs] = mok (.tuple xs) := rfl
theorem tupleD_tuple {xs : List D} : tupleD [.tuple xs] = mok (.tuple xs) := rfl
theorem listD_list {xs : List D} : listD [.list xs] = mok (.list xs) := rfl
theorem listD_tuple {xs : List D} : listD [.tuple xs] = mok (.list xs) := rfl
theorem isD_none {d : D} : isD d .none = mok (.bool (isNone d)) := rfl
theorem isNotD_none {d : D} : isNotD d .none = mok (.bool (!isNone d)) := rfl
theorem atI_nat' {α : Type} {xs : List α} {k : Int} {d : α} (h0 : 0 ≤ k) (h : xs[k.toNat]? = some d) : atI xs k = some d := by
  have e : k = (k.toNat : Int) := by omega
  rw [e]
  exact atI_nat h
theorem getD'_list {xs : List D} {d : D} (h : atI xs i = some d) : getD' (.list xs) (.int i) = mok d := by simp [getD', h]
theorem getD'_tuple {xs : List D} {d : D} (h : atI xs i = some d) : getD' (.tuple xs) (.int i) = mok d := by simp [getD', h]
/-- an item of a list made by f -/
theorem getD'_listF {α : Type} {f : α → D} {xs : List α} (z : α) (h0 : 0 ≤ i) (h : i < xs.length) : getD' (.list (xs.map f)) (.int i) = mok (f (xs.getD i.toNat z)) := by
  refine getD'_list (atI_nat' h0 ?_)
  have hi : i.toNat < xs.length := by omega
  rw [List.getElem?_map, List.getElem?_eq_getElem hi, List.getD_eq_getElem?_getD, List.getElem?_eq_getElem hi]
  rfl
theorem getD'_tupleF {α : Type} {f : α → D} {xs : List α} (z : α) (h0 : 0 ≤ i) (h : i < xs.length) : getD' (.tuple (xs.map f)) (.int i) = mok (f (xs.getD i.toNat z)) := by
  refine getD'_tuple (atI_nat' h0 ?_)
  have hi : i.toNat < xs.length := by omega
  rw [List.getElem?_map, List.getElem?_eq_getElem hi, List.getD_eq_getElem?_getD, List.getElem?_eq_getElem hi]
  rfl
theorem getD'_ints {ns : List Int} (h0 : 0 ≤ i) (h : i < ns.length) : getD' (.list (ns.map .int)) (.int i) = mok (.int (ns.getD i.toNat 0)) := getD'_listF 0 h0 h
theorem getD'_intsT {ns : List Int} (h0 : 0 ≤ i) (h : i < ns.length) : getD' (.tuple (ns.map .int)) (.int i) = mok (.int (ns.getD i.toNat 0)) := getD'_tupleF 0 h0 h
end
section
variable {g h : DEnv → Option Out} {env e : DEnv} {r : Option Out} {o : Bool} {d : D} {n : Nat} {ds : List D}
theorem dSeq_nx (h1 : g env = some (.nx e)) (h2 : h e = r) : dSeq g h env = r := by
  unfold dSeq
  rw [h1]
  exact h2
theorem dSeq_rt (h1 : g env = some (.rt o d)) : dSeq g h env = some (.rt o d) := by
  unfold dSeq
  rw [h1]
theorem dSeq_xc {c : Value} (h1 : g env = some (.xc c e)) : dSeq g h env = some (.xc c e) := by
  unfold dSeq
  rw [h1]
theorem run_rt (h1 : g (startD n ds) = some (.rt o d)) : runD n g ds = some (.ret o d) := by
  unfold runD
  rw [h1]
  rfl
theorem run_xc {c : Value} (h1 : g (startD n ds) = some (.xc c e)) : runD n g ds = some (.exc c) := by
  unfold runD
  rw [h1]
  rfl
theorem dIfS_t {p : DEnv → M Bool} (h1 : p env = mok true) (h2 : g env = r) : dIfS p g h env = r := by
  unfold dIfS
  rw [h1]
  exact h2
theorem dIfS_f {p : DEnv → M Bool} (h1 : p env = mok false) (h2 : h env = r) : dIfS p g h env = r := by
  unfold dIfS
  rw [h1]
  exact h2
theorem dFor_of {p : D → DEnv → Option DEnv} {s : DEnv → M (List D)} (h1 : s env = mok ds) (h2 : forD p g ds env = r) : dFor p s g env = r := by
  unfold dFor
  rw [h1]
  exact h2
/-- a loop that goes through: J of the items gone through -/
theorem forD_inv {p : D → DEnv → Option DEnv} (J : Nat → DEnv → Prop) (h0 : J 0 env) (hs : ∀ i d e, ds[i]? = some d → J i e → ∃ e1 e2, p d e = some e1 ∧ (g e1 = some (.nx e2) ∨ g e1 = some (.ct e2)) ∧ J (i + 1) e2) :
    ∃ e, forD p g ds env = some (.nx e) ∧ J ds.length e := by
  have key : ∀ (l : List D) (k : Nat) (e : DEnv), k + l.length = ds.length → ds.drop k = l → J k e → ∃ e', forD p g l e = some (.nx e') ∧ J ds.length e' := by
    intro l
    induction l with
    | nil =>
      intro k e hk _ hj
      have : k = ds.length := by simpa using hk
      subst this
      exact ⟨e, rfl, hj⟩
    | cons d l ih =>
      intro k e hk hd hj
      have hkd : ds[k]? = some d := by
        have := congrArg (fun z => z[0]?) hd
        simpa using this
      obtain ⟨e1, e2, h1, h2, h3⟩ := hs k d e hkd hj
      have hd2 : ds.drop (k + 1) = l := by
        rw [← List.tail_drop, hd]
        rfl
      obtain ⟨e', h4, h5⟩ := ih (k + 1) e2 (by simp at hk; omega) hd2 h3
      refine ⟨e', ?_, h5⟩
      unfold forD
      rw [h1]
      rcases h2 with h2 | h2
      · simp only [h2]; exact h4
      · simp only [h2]; exact h4
  exact key ds 0 env (by simp) rfl h0
/-- a comprehension, item by item -/
theorem lcD_map {p : D → DEnv → Option DEnv} {t : DEnv → M Bool} {f : DEnv → M D} {α : Type} {ei : α → D} {F : α → D} {xs : List α} (h : ∀ x ∈ xs, ∃ e1, p (ei x) env = some e1 ∧ t e1 = mok true ∧ f e1 = mok (F x)) :
    lcD p t f env (xs.map ei) = some (xs.map F) := by
  induction xs with
  | nil => rfl
  | cons x xs ih =>
    obtain ⟨e1, h1, h2, h3⟩ := h x List.mem_cons_self
    have ih := ih fun y hy => h y (List.mem_cons_of_mem _ hy)
    rw [List.map_cons, List.map_cons]
    unfold lcD
    rw [h1]
    simp only [h2, h3, mok, ih, Option.map_some]
theorem lcD_filter {p : D → DEnv → Option DEnv} {t : DEnv → M Bool} {f : DEnv → M D} {α : Type} {ei : α → D} {F : α → D} {c : α → Bool} {xs : List α} (h : ∀ x ∈ xs, ∃ e1, p (ei x) env = some e1 ∧ t e1 = mok (c x) ∧ (c x = true → f e1 = mok (F x))) :
    lcD p t f env (xs.map ei) = some ((xs.filter c).map F) := by
  induction xs with
  | nil => rfl
  | cons x xs ih =>
    obtain ⟨e1, h1, h2, h3⟩ := h x List.mem_cons_self
    have ih := ih fun y hy => h y (List.mem_cons_of_mem _ hy)
    rw [List.map_cons]
    unfold lcD
    rw [h1]
    cases hc : c x with
    | false =>
      rw [hc] at h2
      simp only [h2, mok, ih]
      simp [hc]
    | true =>
      rw [hc] at h2
      simp only [h2, h3 hc, mok, ih, Option.map_some]
      simp [hc]
theorem dLc_ok {vs : List Nat} {p : D → DEnv → Option DEnv} {s : DEnv → M (List D)} {t : DEnv → M Bool} {f : DEnv → M D} {out : List D} (h1 : s env = mok ds) (h2 : ds.length ≤ sizeLine) (h3 : lcD p t f (wipeD env vs) ds = some out) : dLc vs p s t f env = mok (.list out) := by
  unfold dLc
  rw [h1]
  rw [mbind_mok, if_pos h2, h3]
end
theorem sizeLine_ge {n : Nat} (h : n ≤ 16777216) : n ≤ sizeLine := h
end DL
namespace DL
theorem okT {p : Prop} [Decidable p] (h : p) : mok (decide p) = mok true := by rw [decide_eq_true h]
theorem okF {p : Prop} [Decidable p] (h : ¬ p) : mok (decide p) = mok false := by rw [decide_eq_false h]
end DL

namespace DL
open PySem PySem.Spec PyProof.Rows L2
/-- a loop that leaves at the first item of which c is false -/
theorem forD_find {α : Type} {ei : α → D} {p : D → DEnv → Option DEnv} {g : DEnv → Option Out} {o : Bool} {d : D} (J : DEnv → Prop) (c : α → Bool) : ∀ {xs : List α} {env : DEnv}, J env →
    (∀ x e, x ∈ xs → J e → ∃ e1, p (ei x) e = some e1 ∧ ((c x = true ∧ ∃ e2, g e1 = some (.nx e2) ∧ J e2) ∨ (c x = false ∧ g e1 = some (.rt o d)))) →
    (xs.all c = true ∧ ∃ e, forD p g (xs.map ei) env = some (.nx e) ∧ J e) ∨ (xs.all c = false ∧ forD p g (xs.map ei) env = some (.rt o d))
  | [], env, h0, _ => .inl ⟨rfl, env, rfl, h0⟩
  | x :: xs, env, h0, hs => by
    obtain ⟨e1, h1, h2⟩ := hs x env List.mem_cons_self h0
    rw [List.map_cons, List.all_cons]
    rcases h2 with ⟨hc, e2, h2, h3⟩ | ⟨hc, h2⟩
    · have ih := forD_find (xs := xs) (env := e2) J c h3 fun y e hy hj => hs y e (List.mem_cons_of_mem _ hy) hj
      rw [hc, Bool.true_and]
      unfold forD
      simp only [h1, h2]
      exact ih
    · rw [hc, Bool.false_and]
      right
      refine ⟨rfl, ?_⟩
      unfold forD
      simp only [h1, h2]
theorem rngL_map (n : Nat) : rngL 0 (n : Int) = (List.range n).map fun (i : Nat) => PyData.int (i : Int) := by
  unfold rngL
  simp
theorem rngD_one {j : Int} (h : j.natAbs < 4611686018427387904) : rngD [.int j] = mok (rngL 0 j) := by
  unfold rngD
  simp only
  rw [if_pos h]
theorem rngD_two {i j : Int} (h : i.natAbs < 4611686018427387904) (h2 : j.natAbs < 4611686018427387904) : rngD [.int i, .int j] = mok (rngL i j) := by
  unfold rngD
  simp only
  rw [if_pos ⟨h, h2⟩]
theorem dIt_of {s : D → M (List D)} {f : DEnv → M D} {env : DEnv} {d : D} (h : f env = mok d) : dIt s f env = s d := by
  unfold dIt
  rw [h]
  rfl
end DL

/-! The data layer: reckoning, statement by statement. -/
namespace DL
open PySem PySem.Spec PyProof.Rows L2
def Wp (m : Option Out) (Q : Out → Prop) : Prop := ∃ o, m = some o ∧ Q o
def seqO (m : Option Out) (h : DEnv → Option Out) : Option Out := match m with
  | some (.nx e) => h e
  | o => o
def ifO (b : Bool) (g h : DEnv → Option Out) (env : DEnv) : Option Out := if b then g env else h env
def stepO (p : D → DEnv → Option DEnv) (g : DEnv → Option Out) (d : D) (env : DEnv) : Option Out := match p d env with
  | none => none
  | some e => g e
/-- what a loop's body has to end in -/
def LP (J : DEnv → Prop) (h : DEnv → Option Out) (Q : Out → Prop) : Out → Prop
  | .nx e => J e
  | .ct e => J e
  | .bk e => Wp (h e) Q
  | .rt o d => Q (.rt o d)
  | .xc c e => Q (.xc c e)
section
variable {g h k : DEnv → Option Out} {env e : DEnv} {Q : Out → Prop} {o : Bool} {d : D} {c : Value} {J : DEnv → Prop} {m : Option Out}
theorem ev_seq : dSeq g h env = seqO (g env) h := rfl
theorem ev_nx : seqO (some (.nx e)) h = h e := rfl
theorem ev_rt : seqO (some (.rt o d)) h = some (.rt o d) := rfl
theorem ev_xc : seqO (some (.xc c e)) h = some (.xc c e) := rfl
theorem ev_bk : seqO (some (.bk e)) h = some (.bk e) := rfl
theorem ev_ct : seqO (some (.ct e)) h = some (.ct e) := rfl
theorem ev_ss : seqO (seqO m h) k = seqO m (fun e => seqO (h e) k) := by
  unfold seqO
  match m with
  | none => rfl
  | some (.nx e) => rfl
  | some (.rt o d) => rfl
  | some (.xc c e) => rfl
  | some (.bk e) => rfl
  | some (.ct e) => rfl
theorem ev_if {p : DEnv → M Bool} : dIfS p g h env = eS (p env) env fun b => ifO b g h env := rfl
theorem ev_ifT : ifO true g h env = g env := rfl
theorem ev_ifF : ifO false g h env = h env := rfl
theorem ev_step {p : D → DEnv → Option DEnv} (h1 : p d env = some e) : stepO p g d env = g e := by unfold stepO; rw [h1]
theorem ev_stepN {i : Nat} : stepO (gN i) g d env = g (env.set i (some (.fz d))) := rfl
theorem lp_nx : LP J h Q (.nx e) = J e := rfl
theorem lp_ct : LP J h Q (.ct e) = J e := rfl
theorem lp_bk : LP J h Q (.bk e) = Wp (h e) Q := rfl
theorem lp_rt : LP J h Q (.rt o d) = Q (.rt o d) := rfl
theorem lp_xc : LP J h Q (.xc c e) = Q (.xc c e) := rfl
theorem wp_some {x : Out} : Wp (some x) Q = Q x := by
  unfold Wp
  apply propext
  constructor
  · rintro ⟨o, h, hq⟩
    cases h
    exact hq
  · exact fun h => ⟨x, rfl, h⟩
theorem wp_if {b : Bool} (h1 : b = true → Wp (g env) Q) (h2 : b = false → Wp (h env) Q) : Wp (ifO b g h env) Q := by
  cases b with
  | true => exact h1 rfl
  | false => exact h2 rfl
theorem wp_ifK {b : Bool} (h1 : b = true → Wp (seqO (g env) k) Q) (h2 : b = false → Wp (seqO (h env) k) Q) : Wp (seqO (ifO b g h env) k) Q := by
  cases b with
  | true => exact h1 rfl
  | false => exact h2 rfl
/-- cut: what the first half has reached -/
theorem wp_cut (P : DEnv → Prop) (h1 : Wp m (LP P k Q)) (hb : ∀ e, Wp (k e) Q → Q (.bk e)) (hct : ∀ e, P e → Q (.ct e)) (h2 : ∀ e, P e → Wp (k e) Q) : Wp (seqO m k) Q := by
  obtain ⟨o, rfl, ho⟩ := h1
  match o, ho with
  | .nx e, ho => exact h2 e ho
  | .rt o d, ho => exact ⟨_, rfl, ho⟩
  | .xc c e, ho => exact ⟨_, rfl, ho⟩
  | .bk e, ho => exact ⟨_, rfl, hb e ho⟩
  | .ct e, ho => exact ⟨_, rfl, hct e ho⟩
theorem wp_forL {p : D → DEnv → Option DEnv} {ds : List D} (J : Nat → DEnv → Prop) (h0 : J 0 env)
    (hs : ∀ i d e, ds[i]? = some d → J i e → Wp (stepO p g d e) (LP (J (i + 1)) h Q)) (hh : ∀ e, J ds.length e → Wp (h e) Q) : Wp (seqO (forD p g ds env) h) Q := by
  have key : ∀ (l : List D) (k : Nat) (e : DEnv), k + l.length = ds.length → ds.drop k = l → J k e → Wp (seqO (forD p g l e) h) Q := by
    intro l
    induction l with
    | nil =>
      intro k e hk _ hj
      have : k = ds.length := by simpa using hk
      subst this
      exact hh e hj
    | cons d l ih =>
      intro k e hk hd hj
      have hkd : ds[k]? = some d := by
        have := congrArg (fun z => z[0]?) hd
        simpa using this
      have hd2 : ds.drop (k + 1) = l := by
        rw [← List.tail_drop, hd]
        rfl
      have hk2 : k + 1 + l.length = ds.length := by simp at hk; omega
      obtain ⟨o, h1, h2⟩ := hs k d e hkd hj
      unfold stepO at h1
      unfold forD
      cases hp : p d e with
      | none => rw [hp] at h1; exact absurd h1 (by simp)
      | some e1 =>
        rw [hp] at h1
        simp only at h1
        simp only [h1]
        match o, h2 with
        | .nx e2, h2 => exact ih (k + 1) e2 hk2 hd2 h2
        | .ct e2, h2 => exact ih (k + 1) e2 hk2 hd2 h2
        | .bk e2, h2 => exact h2
        | .rt o d, h2 => exact ⟨_, rfl, h2⟩
        | .xc c e2, h2 => exact ⟨_, rfl, h2⟩
  exact key ds 0 env (by simp) rfl h0
theorem wp_for {p : D → DEnv → Option DEnv} {s : DEnv → M (List D)} {ds : List D} (h1 : s env = mok ds) (J : Nat → DEnv → Prop) (h0 : J 0 env)
    (hs : ∀ i d e, ds[i]? = some d → J i e → Wp (stepO p g d e) (LP (J (i + 1)) h Q)) (hh : ∀ e, J ds.length e → Wp (h e) Q) : Wp (seqO (dFor p s g env) h) Q := by
  unfold dFor
  rw [h1, eS_mok]
  exact wp_forL J h0 hs hh
/-- as the last statement -/
theorem wp_for1 {p : D → DEnv → Option DEnv} {s : DEnv → M (List D)} {ds : List D} (h1 : s env = mok ds) (J : Nat → DEnv → Prop) (h0 : J 0 env)
    (hs : ∀ i d e, ds[i]? = some d → J i e → Wp (stepO p g d e) (LP (J (i + 1)) dNx Q)) (hh : ∀ e, J ds.length e → Q (.nx e)) : Wp (dFor p s g env) Q := by
  have key := wp_for (h := dNx) (Q := Q) h1 J h0 hs fun e he => ⟨_, rfl, hh e he⟩
  have : ∀ m, seqO m dNx = m := fun m => by
    unfold seqO
    match m with
    | none => rfl
    | some (.nx e) => rfl
    | some (.rt o d) => rfl
    | some (.xc c e) => rfl
    | some (.bk e) => rfl
    | some (.ct e) => rfl
  rwa [this] at key
theorem ev_forC {p : D → DEnv → Option DEnv} {s : DEnv → M (List D)} {ds : List D} (h1 : s env = mok ds) : dFor p s g env = forD p g ds env := by
  unfold dFor
  rw [h1, eS_mok]
/-- an unrolled loop -/
def loopO (m : Option Out) (p : D → DEnv → Option DEnv) (g : DEnv → Option Out) (ds : List D) : Option Out := match m with
  | some (.nx e) => forD p g ds e
  | some (.ct e) => forD p g ds e
  | some (.bk e) => some (.nx e)
  | o => o
section
variable {p : D → DEnv → Option DEnv} {ds : List D}
theorem ev_forN : forD p g [] env = some (.nx env) := rfl
theorem ev_forS : forD p g (d :: ds) env = loopO (stepO p g d env) p g ds := by
  unfold stepO loopO
  rw [forD]
  cases p d env with
  | none => rfl
  | some e =>
    cases hg : g e with
    | none => simp only [hg]
    | some z => cases z <;> simp only [hg]
theorem ev_lnx : loopO (some (.nx e)) p g ds = forD p g ds e := rfl
theorem ev_lct : loopO (some (.ct e)) p g ds = forD p g ds e := rfl
theorem ev_lbk : loopO (some (.bk e)) p g ds = some (.nx e) := rfl
theorem ev_lrt : loopO (some (.rt o d)) p g ds = some (.rt o d) := rfl
theorem ev_lxc : loopO (some (.xc c e)) p g ds = some (.xc c e) := rfl
end
section
variable {p : D → DEnv → Option DEnv} {t : DEnv → M Bool} {f : DEnv → M D} {ds xs : List D} {x : D}
theorem ev_lcN : lcD p t f env [] = some [] := rfl
theorem ev_lcS (h1 : p d env = some e) (h2 : t e = mok true) (h3 : f e = mok x) (h4 : lcD p t f env ds = some xs) : lcD p t f env (d :: ds) = some (x :: xs) := by
  unfold lcD
  rw [h1]
  simp only [h2, h3, mok, h4, Option.map_some]
end
theorem ev_app {i : Nat} {f : DEnv → M D} {ds : List D} (h1 : env[i]? = some (some (.ow (.list ds)))) : dApp i f env = eS (f env) env fun d => if ds.length < sizeLine then some (.nx (env.set i (some (.ow (.list (ds ++ [d])))))) else none := by
  unfold dApp
  rw [h1]
theorem ev_appOk {n : Nat} {x : Option Out} (h : n < 16777216) : (if n < sizeLine then x else none) = x := if_pos h
end
theorem ixN_ok {n : Nat} {i : Int} (h0 : 0 ≤ i) (h : i < n) : ixN n i = some i.toNat := by
  unfold ixN
  first
  | (rw [if_pos h0, if_pos (by omega)])
  | (simp; omega)
theorem run_wp {n : Nat} {g : DEnv → Option Out} {ds : List D} {P : Bool → D → Prop} (h : Wp (g (startD n ds)) fun o => ∃ b d, o = .rt b d ∧ P b d) : ∃ b d, runD n g ds = some (.ret b d) ∧ P b d := by
  obtain ⟨o, h1, b, d, rfl, hp⟩ := h
  exact ⟨b, d, run_rt h1, hp⟩
theorem rng_at {lo hi : Int} {i : Nat} {d : D} (h : (rngL lo hi)[i]? = some d) : lo + i < hi ∧ d = .int (lo + i) := by
  unfold rngL at h
  rw [List.getElem?_map] at h
  cases hr : (List.range (hi - lo).toNat)[i]? with
  | none => rw [hr] at h; simp at h
  | some j =>
    rw [hr] at h
    obtain ⟨h1, h2⟩ := List.getElem?_eq_some_iff.mp hr
    simp at h1 h2 h
    subst h2
    refine ⟨by omega, h.symm⟩
theorem rng_len {lo hi : Int} : (rngL lo hi).length = (hi - lo).toNat := by simp [rngL]
end DL
namespace DL
open PySem PySem.Spec PyProof.Rows L2
theorem dLc_rng {vs : List Nat} {p : D → DEnv → Option DEnv} {s : DEnv → M (List D)} {t : DEnv → M Bool} {f : DEnv → M D} {env : DEnv} {n : Int} (F : Nat → D) (h1 : s env = mok (rngL 0 n)) (h2 : n ≤ 16777216)
    (h3 : ∀ i : Nat, (i : Int) < n → ∃ e1, p (.int i) (wipeD env vs) = some e1 ∧ t e1 = mok true ∧ f e1 = mok (F i)) : dLc vs p s t f env = mok (.list ((List.range n.toNat).map F)) := by
  refine dLc_ok h1 (by rw [rng_len]; exact sizeLine_ge (by omega)) ?_
  unfold rngL
  simp only [Int.sub_zero, Int.zero_add]
  exact lcD_map fun i hi => h3 i (by have := List.mem_range.mp hi; omega)
theorem dLc_all {vs : List Nat} {p : D → DEnv → Option DEnv} {s : DEnv → M (List D)} {t : DEnv → M Bool} {f : DEnv → M D} {env : DEnv} {α : Type} {ei : α → D} {xs : List α} (F : α → D) (h1 : s env = mok (xs.map ei)) (h2 : xs.length ≤ 16777216)
    (h3 : ∀ x ∈ xs, ∃ e1, p (ei x) (wipeD env vs) = some e1 ∧ t e1 = mok true ∧ f e1 = mok (F x)) : dLc vs p s t f env = mok (.list (xs.map F)) :=
  dLc_ok h1 (by rw [List.length_map]; exact sizeLine_ge h2) (lcD_map h3)
theorem dLc_flt {vs : List Nat} {p : D → DEnv → Option DEnv} {s : DEnv → M (List D)} {t : DEnv → M Bool} {f : DEnv → M D} {env : DEnv} {α : Type} {ei : α → D} {xs : List α} (c : α → Bool) (F : α → D) (h1 : s env = mok (xs.map ei)) (h2 : xs.length ≤ 16777216)
    (h3 : ∀ x ∈ xs, ∃ e1, p (ei x) (wipeD env vs) = some e1 ∧ t e1 = mok (c x) ∧ (c x = true → f e1 = mok (F x))) : dLc vs p s t f env = mok (.list ((xs.filter c).map F)) :=
  dLc_ok h1 (by rw [List.length_map]; exact sizeLine_ge h2) (lcD_filter h3)
theorem getD'_at {xs : List D} {i : Int} (h0 : 0 ≤ i) (h : i < xs.length) : getD' (.list xs) (.int i) = mok (xs.getD i.toNat .none) := by
  refine getD'_list (atI_nat' h0 ?_)
  have hi : i.toNat < xs.length := by omega
  rw [List.getElem?_eq_getElem hi, List.getD_eq_getElem?_getD, List.getElem?_eq_getElem hi]
  rfl
theorem getD'_atT {xs : List D} {i : Int} (h0 : 0 ≤ i) (h : i < xs.length) : getD' (.tuple xs) (.int i) = mok (xs.getD i.toNat .none) := by
  refine getD'_tuple (atI_nat' h0 ?_)
  have hi : i.toNat < xs.length := by omega
  rw [List.getElem?_eq_getElem hi, List.getD_eq_getElem?_getD, List.getElem?_eq_getElem hi]
  rfl
theorem getD'_atC {x : D} {xs : List D} {i : Int} (h0 : 0 ≤ i) (h : i < (x :: xs).length) : getD' (.list (x :: xs)) (.int i) = mok ((x :: xs).getD i.toNat .none) := getD'_at h0 h
theorem getD'_atCT {x : D} {xs : List D} {i : Int} (h0 : 0 ≤ i) (h : i < (x :: xs).length) : getD' (.tuple (x :: xs)) (.int i) = mok ((x :: xs).getD i.toNat .none) := getD'_atT h0 h
theorem ints_of {out : List D} {P : Int → Prop} (h : ∀ d ∈ out, ∃ n, d = .int n ∧ P n) : ∃ ns : List Int, out = ns.map .int ∧ ∀ n ∈ ns, P n := by
  induction out with
  | nil => exact ⟨[], rfl, by simp⟩
  | cons d out ih =>
    obtain ⟨n, rfl, hn⟩ := h d List.mem_cons_self
    obtain ⟨ns, rfl, hs⟩ := ih fun d hd => h d (List.mem_cons_of_mem _ hd)
    exact ⟨n :: ns, rfl, by intro m hm; rcases List.mem_cons.mp hm with rfl | hm <;> first | exact hn | exact hs m hm⟩
theorem map_of {α : Type} {f : α → D} {out : List D} {P : α → Prop} (h : ∀ d ∈ out, ∃ a, d = f a ∧ P a) : ∃ as : List α, out = as.map f ∧ ∀ a ∈ as, P a := by
  induction out with
  | nil => exact ⟨[], rfl, by simp⟩
  | cons d out ih =>
    obtain ⟨n, rfl, hn⟩ := h d List.mem_cons_self
    obtain ⟨ns, rfl, hs⟩ := ih fun d hd => h d (List.mem_cons_of_mem _ hd)
    exact ⟨n :: ns, rfl, by intro m hm; rcases List.mem_cons.mp hm with rfl | hm <;> first | exact hn | exact hs m hm⟩
end DL
namespace DL
open PySem PySem.Spec PyProof.Rows L2
theorem wp_eS {α : Type} {m : M α} {a : α} {env : DEnv} {k : α → Option Out} {Q : Out → Prop} (h : m = mok a) (h2 : Wp (k a) Q) : Wp (eS m env k) Q := by rw [h]; exact h2
theorem wp_eSK {α : Type} {m : M α} {a : α} {env : DEnv} {k : α → Option Out} {h : DEnv → Option Out} {Q : Out → Prop} (h1 : m = mok a) (h2 : Wp (seqO (k a) h) Q) : Wp (seqO (eS m env k) h) Q := by rw [h1]; exact h2
theorem rngL_step {lo hi : Int} (h : lo < hi) : rngL lo hi = .int lo :: rngL (lo + 1) hi := by
  unfold rngL
  have e : (hi - lo).toNat = (hi - (lo + 1)).toNat + 1 := by omega
  rw [e, List.range_succ_eq_map, List.map_cons, List.map_map]
  congr 1
  · simp
  · apply List.map_congr_left
    intro a _
    simp only [Function.comp, Nat.succ_eq_add_one]
    congr 1
    omega
theorem rngL_nil {lo hi : Int} (h : hi ≤ lo) : rngL lo hi = [] := by
  unfold rngL
  have e : (hi - lo).toNat = 0 := by omega
  rw [e]
  rfl
theorem ev_ret {o : Bool} {d : D} : dRes (some (.ret o d)) = mok d := rfl
theorem ev_exc {c : Value} : dRes (some (.exc c)) = some (.error c) := rfl
theorem maxD_int {i j : Int} : maxD [.int i, .int j] = mok (.int (if j > i then j else i)) := rfl
theorem minD_int {i j : Int} : minD [.int i, .int j] = mok (.int (if j < i then j else i)) := rfl
theorem absD_int {i : Int} : absD [.int i] = mok (.int (if i < 0 then -i else i)) := rfl
theorem isiD_bool {b : Bool} : isiD "bool" (.bool b) = mok (.bool true) := rfl
theorem ev_andM {c : Prop} [Decidable c] {b : Bool} : (if c then mok b else mok false) = mok (decide c && b) := by
  by_cases h : c <;> simp [h]
theorem ev_orM {c : Prop} [Decidable c] {b : Bool} : (if c then mok true else mok b) = mok (decide c || b) := by
  by_cases h : c <;> simp [h]
theorem range_0 : List.range 0 = [] := rfl
theorem range_1 : List.range 1 = [0] := rfl
theorem range_2 : List.range 2 = [0, 1] := rfl
theorem range_3 : List.range 3 = [0, 1, 2] := rfl
theorem range_4 : List.range 4 = [0, 1, 2, 3] := rfl
theorem range_5 : List.range 5 = [0, 1, 2, 3, 4] := rfl
end DL

/-! The data layer: sameness, reckoned. -/
namespace DL
open PySem PySem.Spec PyProof.Rows L2
mutual
theorem eqv_self : ∀ d : D, noD d = true → PyData.eqv d d = true
  | .none, _ => rfl
  | .bool b, _ => by simp [PyData.eqv]
  | .int i, _ => by simp [PyData.eqv]
  | .str s, _ => by simp [PyData.eqv]
  | .list xs, h => by
    rw [PyData.eqv]
    exact eqvs_self xs (by simpa [noD] using h)
  | .tuple xs, h => by
    rw [PyData.eqv]
    exact eqvs_self xs (by simpa [noD] using h)
  | .dict _, h => by simp [noD] at h
theorem eqvs_self : ∀ xs : List D, noDs xs = true → PyData.eqvAll xs xs = true
  | [], _ => rfl
  | x :: xs, h => by
    have h' : noD x = true ∧ noDs xs = true := by simpa [noDs] using h
    rw [PyData.eqvAll, eqv_self x h'.1, eqvs_self xs h'.2]
    rfl
end
/-- no dict within, and no deeper than n -/
def Nd (n : Nat) (d : D) : Prop := noD d = true ∧ d.depth ≤ n
theorem Nd.mono {n m : Nat} {d : D} (h : Nd n d) (hm : n ≤ m) : Nd m d := ⟨h.1, Nat.le_trans h.2 hm⟩
theorem nd_none {n : Nat} : Nd (n + 1) .none := ⟨rfl, by simp [PyData.depth]⟩
theorem nd_bool {n : Nat} {b : Bool} : Nd (n + 1) (.bool b) := ⟨rfl, by simp [PyData.depth]⟩
theorem nd_int {n : Nat} {i : Int} : Nd (n + 1) (.int i) := ⟨rfl, by simp [PyData.depth]⟩
theorem nd_str {n : Nat} {s : Str} : Nd (n + 1) (.str s) := ⟨rfl, by simp [PyData.depth]⟩
theorem nds_of {n : Nat} : ∀ {xs : List D}, (∀ x ∈ xs, Nd n x) → noDs xs = true ∧ PyData.depthAll xs ≤ n
  | [], _ => ⟨rfl, by simp [PyData.depthAll]⟩
  | x :: xs, h => by
    have h1 := h x List.mem_cons_self
    have h2 := nds_of fun y hy => h y (List.mem_cons_of_mem _ hy)
    refine ⟨by simp [noDs, h1.1, h2.1], ?_⟩
    have a := h1.2
    have b := h2.2
    simp only [PyData.depthAll]
    omega
theorem nd_list {n : Nat} {xs : List D} (h : ∀ x ∈ xs, Nd n x) : Nd (n + 1) (.list xs) := by
  obtain ⟨h1, h2⟩ := nds_of h
  refine ⟨by rw [noD]; exact h1, ?_⟩
  simp only [PyData.depth]
  omega
theorem nd_tuple {n : Nat} {xs : List D} (h : ∀ x ∈ xs, Nd n x) : Nd (n + 1) (.tuple xs) := by
  obtain ⟨h1, h2⟩ := nds_of h
  refine ⟨by rw [noD]; exact h1, ?_⟩
  simp only [PyData.depth]
  omega
theorem Nd.eqOk {n : Nat} {d : D} (h : Nd n d) (hn : n ≤ 60) : eqOk d = true := by
  unfold DL.eqOk
  rw [h.1, decide_eq_true (Nat.le_trans h.2 hn)]
  rfl
theorem eqD_ok {d e : D} (h1 : eqOk d = true) (h2 : eqOk e = true) : eqD d e = mok (.bool (PyData.eqv d e)) := if_pos ⟨h1, h2⟩
theorem neD_ok {d e : D} (h1 : eqOk d = true) (h2 : eqOk e = true) : neD d e = mok (.bool (!PyData.eqv d e)) := if_pos ⟨h1, h2⟩
theorem eqD_self {d : D} {n : Nat} (h1 : Nd n d) (h2 : n ≤ 60) : eqD d d = mok (.bool true) := by rw [eqD_ok (h1.eqOk h2) (h1.eqOk h2), eqv_self d h1.1]
theorem neD_self {d : D} {n : Nat} (h1 : Nd n d) (h2 : n ≤ 60) : neD d d = mok (.bool false) := by rw [neD_ok (h1.eqOk h2) (h1.eqOk h2), eqv_self d h1.1]; rfl
theorem mem_map_nd {α : Type} {f : α → D} {xs : List α} {n : Nat} (h : ∀ x ∈ xs, Nd n (f x)) : ∀ d ∈ xs.map f, Nd n d := by
  intro d hd
  obtain ⟨x, hx, rfl⟩ := List.mem_map.mp hd
  exact h x hx
end DL
namespace DL
open PySem PySem.Spec PyProof.Rows L2
theorem wp_cutN {m : Option Out} {k : DEnv → Option Out} {Q : Out → Prop} (P : DEnv → Prop) (h1 : Wp m (fun o => ∃ e, o = .nx e ∧ P e)) (h2 : ∀ e, P e → Wp (k e) Q) : Wp (seqO m k) Q := by
  obtain ⟨o, rfl, e, rfl, he⟩ := h1
  exact h2 e he
theorem dFnK_of {G : List D → Option Res} {fs : DEnv → M (List D)} {f : DEnv → M D} {env : DEnv} {ds : List D} {d z : D} {b : Bool} (h1 : fs env = mok ds) (h2 : f env = mok d) (h3 : G (ds ++ [d]) = some (.ret b z)) : dFnK G fs f env = mok z := by
  unfold dFnK
  simp only [h1, h2, mbind_mok, h3]
end DL
namespace DL
open PySem PySem.Spec PyProof.Rows L2
theorem cx_no {P : Program} {w : World} {outer : List Env} {H : Hp} {s : Shared} {e : Value} {s' : Shared} (h : L2.CX P w outer H s (fun _ _ _ => False) e s') : False := by
  obtain ⟨_, _, _, _, _, _, _, _, _, _, _, _, z⟩ := h
  exact z
theorem rp_ints {K : PySem.W.Frag} {w : World} {H : Hp} : ∀ ns : List Int, RpA K w H (ns.map V.int) (ns.map PyData.int)
  | [] => .nil
  | n :: ns => .cons (.int n) (rp_ints ns)
/-- the law's own promise, from what its def computes -/
theorem law_sp {K : PySem.W.Frag} {w : World} {H : Hp} {a : Addr} {ns : List Int} {G : List D → Option Res} {E : XK} (hS : SqL K H a (ns.map V.int)) (h : ∃ b d, G [.list (ns.map .int)] = some (.ret b d) ∧ d = .bool true) :
    spD K w 1 G [.ref a] H (fun v _ => v = .bl true) E := by
  obtain ⟨b, d, h, rfl⟩ := h
  refine ⟨rfl, H, [.list (ns.map .int)], fun _ _ e => e, .cons (.lst hS (rp_ints ns)) .nil, ?_⟩
  rw [h]
  intro F' H' v x r
  cases b with
  | false => exact Sh.bool (K := K) (w := w) (F := F') (H := H') (.inl r)
  | true => exact Sh.bool (K := K) (w := w) (F := F') (H := H') (.inr r.1)
end DL

/-! The data layer: texts, reckoned. -/
namespace DL
open PySem PySem.Spec PyProof.Rows L2
/-- the text of these signs -/
def T (l : List Nat) : Str := ⟨l.toArray⟩
theorem T_cs (l : List Nat) : (T l).cps.toList = l := rfl
theorem T_of (x : Str) : x = T x.cps.toList := rfl
theorem T_len (l : List Nat) : (T l).length = l.length := by
  show l.toArray.size = _
  simp
theorem T_inj {a b : List Nat} (h : T a = T b) : a = b := by
  have := congrArg (fun x : Str => x.cps.toList) h
  exact this
theorem T_app (a b : List Nat) : T a ++ T b = T (a ++ b) := by
  have h : (T a ++ T b).cps = (T (a ++ b)).cps := by
    rw [Str.cps_append]
    show a.toArray ++ b.toArray = (a ++ b).toArray
    simp
  exact Str.ext' h
section
variable {a b : List Nat} {i : Int}
theorem addD_T (h : a.length + b.length ≤ 16777216) : addD (.str (T a)) (.str (T b)) = mok (.str (T (a ++ b))) := by
  unfold addD
  simp only
  rw [T_len, T_len, if_pos (show _ ≤ sizeLine from h), T_app]
theorem iaddD_T (h : a.length + b.length ≤ 16777216) : iaddD (.str (T a)) (.str (T b)) = mok (.str (T (a ++ b))) := by
  unfold iaddD
  simp only
  rw [T_len, T_len, if_pos (show _ ≤ sizeLine from h), T_app]
theorem lenD_T (h : a.length ≤ 16777216) : lenD [.str (T a)] = mok (.int a.length) := by
  unfold lenD
  simp only
  rw [T_len, if_pos (show _ ≤ sizeLine from h)]
theorem getD'_T {c : Nat} (h : a.length ≤ 16777216) (h0 : 0 ≤ i) (hi : a[i.toNat]? = some c) : getD' (.str (T a)) (.int i) = mok (.str (T [c])) := by
  unfold getD'
  simp only
  rw [T_len, if_pos (show _ ≤ sizeLine from h)]
  have : atI (T a).cps.toList i = some c := atI_nat' h0 hi
  rw [this]
  rfl
theorem cutD_T {lo hi : Option Int} (h : a.length ≤ 16777216) : cutD (.str (T a)) lo hi = mok (.str (T ((a.drop (HT.sIx a.length 0 lo)).take (HT.sIx a.length a.length hi - HT.sIx a.length 0 lo)))) := by
  unfold cutD
  simp only
  rw [T_len, if_pos (show _ ≤ sizeLine from h)]
  unfold cutS
  rw [T_len, T_cs]
  rfl
theorem cutD_to (h : a.length ≤ 16777216) (h0 : 0 ≤ i) : cutD (.str (T a)) none (some i) = mok (.str (T (a.take i.toNat))) := by
  rw [cutD_T h]
  have e : i = (i.toNat : Int) := by omega
  rw [e, HT.sIx_none, HT.sIx_nat, List.drop_zero, Nat.sub_zero, ← e]
  congr 3
  rcases Nat.le_total i.toNat a.length with h | h
  · rw [Nat.min_eq_left h]
  · rw [Nat.min_eq_right h, List.take_of_length_le (Nat.le_refl _), List.take_of_length_le h]
theorem cutD_from (h : a.length ≤ 16777216) (h0 : 0 ≤ i) : cutD (.str (T a)) (some i) none = mok (.str (T (a.drop i.toNat))) := by
  rw [cutD_T h]
  have e : i = (i.toNat : Int) := by omega
  rw [e, HT.sIx_none, HT.sIx_nat, ← e]
  congr 3
  rcases Nat.le_total i.toNat a.length with h | h
  · rw [Nat.min_eq_left h, List.take_of_length_le (by simp)]
  · rw [Nat.min_eq_right h, List.drop_of_length_le (Nat.le_refl _), List.drop_of_length_le h]
    simp
theorem eqv_T : PyData.eqv (.str (T a)) (.str (T b)) = decide (a = b) := by
  simp only [PyData.eqv]
  by_cases h : a = b
  · subst h; simp
  · have h2 : T a ≠ T b := fun e => h (T_inj e)
    simp [h, h2]
theorem eqD_T : eqD (.str (T a)) (.str (T b)) = mok (.bool (decide (a = b))) := by
  rw [eqD_ok rfl rfl, eqv_T]
theorem neD_T : neD (.str (T a)) (.str (T b)) = mok (.bool (!decide (a = b))) := by
  rw [neD_ok rfl rfl, eqv_T]
theorem isiD_str {x : Str} : isiD "str" (.str x) = mok (.bool true) := rfl
end
theorem letter_small {i : Int} (h0 : 0 ≤ i) (h1 : i < 26) : getD' (.str "abcdefghijklmnopqrstuvwxyz") (.int i) = mok (.str (T [97 + i.toNat])) := by
  have key : ∀ j : Fin 26, getD' (.str "abcdefghijklmnopqrstuvwxyz") (.int (j.1 : Int)) = mok (.str (T [97 + j.1])) := by
    intro j
    have : ∀ j : Fin 26, (T [97, 98, 99, 100, 101, 102, 103, 104, 105, 106, 107, 108, 109, 110, 111, 112, 113, 114, 115, 116, 117, 118, 119, 120, 121, 122]).cps.toList[j.1]? = some (97 + j.1) := by decide
    exact getD'_T (a := [97, 98, 99, 100, 101, 102, 103, 104, 105, 106, 107, 108, 109, 110, 111, 112, 113, 114, 115, 116, 117, 118, 119, 120, 121, 122]) (by decide) (by omega) (this j)
  have := key ⟨i.toNat, by omega⟩
  simp only at this
  rwa [show ((i.toNat : Nat) : Int) = i by omega] at this
theorem letter_great {i : Int} (h0 : 0 ≤ i) (h1 : i < 26) : getD' (.str "ABCDEFGHIJKLMNOPQRSTUVWXYZ") (.int i) = mok (.str (T [65 + i.toNat])) := by
  have key : ∀ j : Fin 26, getD' (.str "ABCDEFGHIJKLMNOPQRSTUVWXYZ") (.int (j.1 : Int)) = mok (.str (T [65 + j.1])) := by
    intro j
    have : ∀ j : Fin 26, (T [65, 66, 67, 68, 69, 70, 71, 72, 73, 74, 75, 76, 77, 78, 79, 80, 81, 82, 83, 84, 85, 86, 87, 88, 89, 90]).cps.toList[j.1]? = some (65 + j.1) := by decide
    exact getD'_T (a := [65, 66, 67, 68, 69, 70, 71, 72, 73, 74, 75, 76, 77, 78, 79, 80, 81, 82, 83, 84, 85, 86, 87, 88, 89, 90]) (by decide) (by omega) (this j)
  have := key ⟨i.toNat, by omega⟩
  simp only at this
  rwa [show ((i.toNat : Nat) : Int) = i by omega] at this
theorem addD_list {xs ys : List D} (h : xs.length + ys.length ≤ 16777216) : addD (.list xs) (.list ys) = mok (.list (xs ++ ys)) := by
  unfold addD
  simp only
  rw [if_pos (show _ ≤ sizeLine from h)]
theorem addL_list {xs ys : List D} (h : xs.length + ys.length ≤ 16777216) : addL (.list xs) (.list ys) = mok (.list (xs ++ ys)) := by
  unfold addL
  simp only
  rw [if_pos (show _ ≤ sizeLine from h)]
theorem addD_tuple {xs ys : List D} (h : xs.length + ys.length ≤ 16777216) : addD (.tuple xs) (.tuple ys) = mok (.tuple (xs ++ ys)) := by
  unfold addD
  simp only
  rw [if_pos (show _ ≤ sizeLine from h)]
theorem cutA_to {α : Type} {xs : List α} {i : Int} (h0 : 0 ≤ i) : cutA xs none (some i) = xs.take i.toNat := by
  unfold cutA
  have e : i = (i.toNat : Int) := by omega
  rw [e, HT.sIx_none, HT.sIx_nat, List.drop_zero, Nat.sub_zero, ← e]
  rcases Nat.le_total i.toNat xs.length with h | h
  · rw [Nat.min_eq_left h]
  · rw [Nat.min_eq_right h, List.take_of_length_le (Nat.le_refl _), List.take_of_length_le h]
theorem cutA_from {α : Type} {xs : List α} {i : Int} (h0 : 0 ≤ i) : cutA xs (some i) none = xs.drop i.toNat := by
  unfold cutA
  have e : i = (i.toNat : Int) := by omega
  rw [e, HT.sIx_none, HT.sIx_nat, ← e]
  rcases Nat.le_total i.toNat xs.length with h | h
  · rw [Nat.min_eq_left h, List.take_of_length_le (by simp)]
  · rw [Nat.min_eq_right h, List.drop_of_length_le (Nat.le_refl _), List.drop_of_length_le h]
    simp
theorem cutD_toT {xs : List D} {i : Int} (h0 : 0 ≤ i) : cutD (.tuple xs) none (some i) = mok (.tuple (xs.take i.toNat)) := by
  show mok (PyData.tuple (cutA xs none (some i))) = _
  rw [cutA_to h0]
theorem cutD_fromT {xs : List D} {i : Int} (h0 : 0 ≤ i) : cutD (.tuple xs) (some i) none = mok (.tuple (xs.drop i.toNat)) := by
  show mok (PyData.tuple (cutA xs (some i) none)) = _
  rw [cutA_from h0]
theorem cutD_toL {xs : List D} {i : Int} (h0 : 0 ≤ i) : cutD (.list xs) none (some i) = mok (.list (xs.take i.toNat)) := by
  show mok (PyData.list (cutA xs none (some i))) = _
  rw [cutA_to h0]
theorem cutD_fromL {xs : List D} {i : Int} (h0 : 0 ≤ i) : cutD (.list xs) (some i) none = mok (.list (xs.drop i.toNat)) := by
  show mok (PyData.list (cutA xs (some i) none)) = _
  rw [cutA_from h0]
theorem cutO_toL {xs : List D} {i : Int} (h0 : 0 ≤ i) : cutO (.list xs) none (some i) = mok (.list (xs.take i.toNat)) := by
  show mok (PyData.list (cutA xs none (some i))) = _
  rw [cutA_to h0]
theorem cutO_fromL {xs : List D} {i : Int} (h0 : 0 ≤ i) : cutO (.list xs) (some i) none = mok (.list (xs.drop i.toNat)) := by
  show mok (PyData.list (cutA xs (some i) none)) = _
  rw [cutA_from h0]
theorem sortD_list {xs : List D} : sortD [.list xs] = sortL xs := rfl
theorem sortD_tuple {xs : List D} : sortD [.tuple xs] = sortL xs := rfl
theorem zipD_list {xs ys : List D} : zipD [.list xs, .list ys] = mok (zipL xs ys) := rfl
theorem zipD_tuple {xs ys : List D} : zipD [.tuple xs, .tuple ys] = mok (zipL xs ys) := rfl
theorem asLT_list {xs : List D} : asLT (.list xs) = mok xs := rfl
theorem asLT_tuple {xs : List D} : asLT (.tuple xs) = mok xs := rfl
end DL

/-! Reckoning: comprehensions whose items are only bounded, dicts, try. -/
namespace DL
open PySem PySem.Spec PyProof.Rows L2
theorem lcD_ex {p : D → DEnv → Option DEnv} {t : DEnv → M Bool} {f : DEnv → M D} {env : DEnv} {P : D → Prop} : ∀ {ds : List D}, (∀ d ∈ ds, ∃ e x, p d env = some e ∧ t e = mok true ∧ f e = mok x ∧ P x) → ∃ xs, lcD p t f env ds = some xs ∧ xs.length = ds.length ∧ ∀ x ∈ xs, P x
  | [], _ => ⟨[], rfl, rfl, by intro x hx; cases hx⟩
  | d :: ds, h => by
    obtain ⟨e, x, h1, h2, h3, h4⟩ := h d List.mem_cons_self
    obtain ⟨xs, h5, h6, h7⟩ := lcD_ex fun y hy => h y (List.mem_cons_of_mem _ hy)
    refine ⟨x :: xs, ev_lcS h1 h2 h3 h5, by simp [h6], fun y hy => ?_⟩
    rcases List.mem_cons.mp hy with rfl | hy
    · exact h4
    · exact h7 y hy
theorem dLc_ex {vs : List Nat} {p : D → DEnv → Option DEnv} {s : DEnv → M (List D)} {t : DEnv → M Bool} {f : DEnv → M D} {env : DEnv} {P : D → Prop} {ds : List D} (h1 : s env = mok ds) (h2 : ds.length ≤ 16777216)
    (h3 : ∀ d ∈ ds, ∃ e x, p d (wipeD env vs) = some e ∧ t e = mok true ∧ f e = mok x ∧ P x) : ∃ xs, dLc vs p s t f env = mok (.list xs) ∧ xs.length = ds.length ∧ ∀ x ∈ xs, P x := by
  obtain ⟨xs, h4, h5, h6⟩ := lcD_ex h3
  exact ⟨xs, dLc_ok h1 (sizeLine_ge h2) h4, h5, h6⟩
theorem ev_put {i : Nat} {fk fe : DEnv → M D} {env : DEnv} {kvs : List (D × D)} {k d : D} (h1 : env[i]? = some (some (.ow (.dict kvs)))) (h2 : fe env = mok d) (h3 : fk env = mok k) (h4 : keyOk k = true) (h5 : kvs.length < 16777216) :
    dPut i fk fe env = some (.nx (env.set i (some (.ow (.dict (putD kvs k d)))))) := by
  unfold dPut
  rw [h1]
  simp only [h2, h3, eS_mok]
  rw [if_pos ⟨h4, h5⟩]
theorem ev_get {fd : DEnv → M D} {fs : DEnv → M (List D)} {env : DEnv} {kvs : List (D × D)} {k x : D} (h1 : fd env = mok (.dict kvs)) (h2 : fs env = mok [k, x]) (h3 : keyOk k = true) : dGet fd fs env = mok ((findD kvs k).getD x) := by
  unfold dGet
  rw [h1, mbind_mok]
  simp only [h2, mbind_mok, getX]
  rw [if_pos h3]
theorem rng_mem {lo hi : Int} {d : D} (h : d ∈ rngL lo hi) : ∃ i : Int, d = .int i ∧ lo ≤ i ∧ i < hi := by
  obtain ⟨n, h1, h2⟩ := List.mem_map.mp h
  have := List.mem_range.mp h1
  exact ⟨_, h2.symm, by omega, by omega⟩
theorem ev_augL {i : Nat} {f : DEnv → M D} {env : DEnv} {ds es : List D} (h1 : env[i]? = some (some (.ow (.list ds)))) (h2 : f env = mok (.list es)) (h3 : ds.length + es.length ≤ 16777216) : dAugL i f env = some (.nx (env.set i (some (.ow (.list (ds ++ es)))))) := by
  unfold dAugL
  rw [h1]
  simp only [h2, eS_mok]
  rw [if_pos (sizeLine_ge h3)]
theorem ev_move {i j : Nat} {env : DEnv} {s : Sl} (h : env[j]? = some (some s)) : dMove i j env = some (.nx ((env.set j none).set i (some s))) := by
  unfold dMove
  rw [h]
theorem ev_clear {i : Nat} {env : DEnv} {ds : List D} (h : env[i]? = some (some (.ow (.list ds)))) : dClear i env = some (.nx (env.set i (some (.ow (.list []))))) := by
  unfold dClear
  rw [h]
theorem run_wpR {n : Nat} {g : DEnv → Option Out} {ds : List D} {R : Option Res → Prop} (h : Wp (g (startD n ds)) fun o => R (resOf (some o))) : R (runD n g ds) := by
  obtain ⟨o, h1, h2⟩ := h
  unfold runD
  rw [h1]
  exact h2
theorem ev_try {i : Nat} {ca : Value → Option Bool} {gb : DEnv → Option Out} {gs : Value → DEnv → Option Out} {env e : DEnv} {c : Value} (h : gb env = some (.xc c e)) (hc : ca c = some true) (hx : noXp e = true) : dTry i ca gb gs env = backX i (gs c (e.set i (some .xp))) := by
  unfold dTry
  rw [h]
  simp only [catchX, hc, hx, if_true]
theorem ev_tryN {i : Nat} {ca : Value → Option Bool} {gb : DEnv → Option Out} {gs : Value → DEnv → Option Out} {env e : DEnv} (h : gb env = some (.nx e)) : dTry i ca gb gs env = some (.nx e) := by
  unfold dTry
  rw [h]
theorem caE {E : Errs} {raised : List String} (hE : E.Good raised) {n m : String} (hn : n ∈ raised) : E.ca m (.ref (E.c n)) = some (subN n m) := by
  unfold Errs.ca
  rw [hE n hn]
  rfl
theorem isE' {E : Errs} {raised : List String} (hE : E.Good raised) {n m : String} (hn : n ∈ raised) : E.is (.ref (E.c n)) m = subN n m := by
  unfold Errs.is
  rw [hE n hn]
theorem law_spE {K : PySem.W.Frag} {w : World} {H : Hp} {a : Addr} {ns : List Int} {raised : List String} {G : Errs → List D → Option Res} {X : XK} (hS : SqL K H a (ns.map V.int)) (h : ∀ E : Errs, E.Good raised → ∃ b d, G E [.list (ns.map .int)] = some (.ret b d) ∧ d = .bool true) :
    spE K w raised G [.ref a] H (fun v _ => v = .bl true) X := fun E hE => law_sp hS (h E hE)
theorem dSeq_def {g h : DEnv → Option Out} {env : DEnv} : dSeq g h env = match g env with
  | some (.nx e) => h e
  | o => o := rfl
theorem perm_map {α β : Type} {f : α → β} (inj : ∀ a b, f a = f b → a = b) : ∀ {xs ys : List α}, (xs.map f).Perm (ys.map f) → xs.Perm ys
  | [], ys, h => by
    have := h.length_eq
    simp at this
    have : ys = [] := List.length_eq_zero_iff.mp this.symm
    rw [this]
  | x :: xs, ys, h => by
    have hx : f x ∈ ys.map f := h.mem_iff.mp (by simp)
    obtain ⟨y, hy, e⟩ := List.mem_map.mp hx
    have := inj _ _ e
    subst this
    obtain ⟨s, t, rfl⟩ := List.append_of_mem hy
    have h2 : ((y :: xs).map f).Perm ((y :: (s ++ t)).map f) := by
      refine h.trans ?_
      rw [List.map_append, List.map_cons, List.map_cons, List.map_append]
      exact List.perm_middle
    rw [List.map_cons, List.map_cons] at h2
    have h3 := perm_map inj (List.Perm.cons_inv h2)
    exact (h3.cons y).trans List.perm_middle.symm
theorem ev_andB {f g : DEnv → M D} {env : DEnv} {b c : Bool} (h1 : f env = mok (.bool b)) (h2 : g env = mok (.bool c)) : dAndV f g env = mok (.bool (b && c)) := by
  unfold dAndV
  rw [h1, mbind_mok]
  cases b
  · rfl
  · simp only [h2, Bool.true_and]
end DL

namespace K25
open PySem PySem.Spec PyProof.Rows L2 DL
/-! ### the text -/
def topS (i : Nat) : Stmt := PySem.Challenge.pw_mixform_k25_one_equation.main.body.getD i (.Pass ⟨0, 0, 0, 0⟩)
abbrev s_weighed : Stmt := topS 8
abbrev n_weighed : List Str := ["line", "row", "found", "weight", "number"]
theorem sc_weighed : FnScope n_weighed ["line", "row"] (defScope s_weighed) := ⟨rfl, rfl, rfl, by decide +kernel, rfl, by decide +kernel, by decide +kernel⟩
abbrev s_ask_bounds : Stmt := topS 9
abbrev n_ask_bounds : List Str := ["rows", "many", "right", "line", "number"]
theorem sc_ask_bounds : FnScope n_ask_bounds ["rows", "many", "right"] (defScope s_ask_bounds) := ⟨rfl, rfl, rfl, by decide +kernel, rfl, by decide +kernel, by decide +kernel⟩
abbrev s_lies_under : Stmt := topS 11
abbrev n_lies_under : List Str := ["one", "other", "low", "high"]
theorem sc_lies_under : FnScope n_lies_under ["one", "other"] (defScope s_lies_under) := ⟨rfl, rfl, rfl, by decide +kernel, rfl, by decide +kernel, by decide +kernel⟩
abbrev s_lies_above : Stmt := topS 12
abbrev n_lies_above : List Str := ["row", "others", "other"]
theorem sc_lies_above : FnScope n_lies_above ["row", "others"] (defScope s_lies_above) := ⟨rfl, rfl, rfl, by decide +kernel, rfl, by decide +kernel, by decide +kernel⟩
abbrev s_columns_of : Stmt := topS 13
abbrev n_columns_of : List Str := ["rows", "many", "at", "line"]
theorem sc_columns_of : FnScope n_columns_of ["rows", "many"] (defScope s_columns_of) := ⟨rfl, rfl, rfl, by decide +kernel, rfl, by decide +kernel, by decide +kernel⟩
abbrev s_is_even : Stmt := topS 14
abbrev n_is_even : List Str := ["sums", "part"]
theorem sc_is_even : FnScope n_is_even ["sums"] (defScope s_is_even) := ⟨rfl, rfl, rfl, by decide +kernel, rfl, by decide +kernel, by decide +kernel⟩
abbrev s_one_more : Stmt := topS 15
abbrev n_one_more : List Str := ["row", "at"]
theorem sc_one_more : FnScope n_one_more ["row", "at"] (defScope s_one_more) := ⟨rfl, rfl, rfl, by decide +kernel, rfl, by decide +kernel, by decide +kernel⟩
abbrev s_summed : Stmt := topS 16
abbrev n_summed : List Str := ["one", "other", "here", "there"]
theorem sc_summed : FnScope n_summed ["one", "other"] (defScope s_summed) := ⟨rfl, rfl, rfl, by decide +kernel, rfl, by decide +kernel, by decide +kernel⟩
abbrev s_next_level : Stmt := topS 17
abbrev n_next_level : List Str := ["level", "columns", "barred", "found", "row", "sums", "at", "column", "longer"]
theorem sc_next_level : FnScope n_next_level ["level", "columns", "barred"] (defScope s_next_level) := ⟨rfl, rfl, rfl, by decide +kernel, rfl, by decide +kernel, by decide +kernel⟩
abbrev s_grown : Stmt := topS 18
abbrev n_grown : List Str := ["level", "columns", "barred", "found", "row", "sums"]
theorem sc_grown : FnScope n_grown ["level", "columns", "barred"] (defScope s_grown) := ⟨rfl, rfl, rfl, by decide +kernel, rfl, by decide +kernel, by decide +kernel⟩
abbrev s_least : Stmt := topS 19
abbrev n_least : List Str := ["rows", "many", "columns", "level", "at", "column"]
theorem sc_least : FnScope n_least ["rows", "many"] (defScope s_least) := ⟨rfl, rfl, rfl, by decide +kernel, rfl, by decide +kernel, by decide +kernel⟩
abbrev s_least_to : Stmt := topS 20
abbrev n_least_to : List Str := ["rows", "many", "right", "level", "part"]
theorem sc_least_to : FnScope n_least_to ["rows", "many", "right"] (defScope s_least_to) := ⟨rfl, rfl, rfl, by decide +kernel, rfl, by decide +kernel, by decide +kernel⟩
abbrev s_l_cell : Stmt := topS 22
abbrev n_l_cell : List Str := ["_law_script", "_law_k", "_law_number"]
theorem sc_l_cell : FnScope n_l_cell ["_law_script", "_law_k"] (defScope s_l_cell) := ⟨rfl, rfl, rfl, by decide +kernel, rfl, by decide +kernel, by decide +kernel⟩
abbrev s_l_pick : Stmt := topS 23
abbrev n_l_pick : List Str := ["_law_script", "_law_k", "_law_many", "_law_number"]
theorem sc_l_pick : FnScope n_l_pick ["_law_script", "_law_k", "_law_many"] (defScope s_l_pick) := ⟨rfl, rfl, rfl, by decide +kernel, rfl, by decide +kernel, by decide +kernel⟩
abbrev s_l_whole : Stmt := topS 24
abbrev n_l_whole : List Str := ["_law_found"]
theorem sc_l_whole : FnScope n_l_whole ["_law_found"] (defScope s_l_whole) := ⟨rfl, rfl, rfl, by decide +kernel, rfl, by decide +kernel, by decide +kernel⟩
abbrev s_l_under : Stmt := topS 25
abbrev n_l_under : List Str := ["_law_one", "_law_other", "_law_low", "_law_high"]
theorem sc_l_under : FnScope n_l_under ["_law_one", "_law_other"] (defScope s_l_under) := ⟨rfl, rfl, rfl, by decide +kernel, rfl, by decide +kernel, by decide +kernel⟩
abbrev s_l_any_under : Stmt := topS 26
abbrev n_l_any_under : List Str := ["_law_rows", "_law_row", "_law_other"]
theorem sc_l_any_under : FnScope n_l_any_under ["_law_rows", "_law_row"] (defScope s_l_any_under) := ⟨rfl, rfl, rfl, by decide +kernel, rfl, by decide +kernel, by decide +kernel⟩
abbrev s_l_are_rows : Stmt := topS 27
abbrev n_l_are_rows : List Str := ["_law_found", "_law_many", "_law_row", "_law_number", "_law_one", "_law_other"]
theorem sc_l_are_rows : FnScope n_l_are_rows ["_law_found", "_law_many"] (defScope s_l_are_rows) := ⟨rfl, rfl, rfl, by decide +kernel, rfl, by decide +kernel, by decide +kernel⟩
abbrev s_l_thinned : Stmt := topS 28
abbrev n_l_thinned : List Str := ["_law_rows", "_law_left", "_law_row", "_law_total"]
theorem sc_l_thinned : FnScope n_l_thinned ["_law_rows"] (defScope s_l_thinned) := ⟨rfl, rfl, rfl, by decide +kernel, rfl, by decide +kernel, by decide +kernel⟩
abbrev s_l_free : Stmt := topS 29
abbrev n_l_free : List Str := ["_law_a", "_law_b", "_law_c", "_law_found", "_law_x", "_law_y"]
theorem sc_l_free : FnScope n_l_free ["_law_a", "_law_b", "_law_c"] (defScope s_l_free) := ⟨rfl, rfl, rfl, by decide +kernel, rfl, by decide +kernel, by decide +kernel⟩
abbrev s_l_top : Stmt := topS 30
abbrev n_l_top : List Str := ["_law_a", "_law_c", "_law_right"]
theorem sc_l_top : FnScope n_l_top ["_law_a", "_law_c", "_law_right"] (defScope s_l_top) := ⟨rfl, rfl, rfl, by decide +kernel, rfl, by decide +kernel, by decide +kernel⟩
abbrev s_l_bound : Stmt := topS 31
abbrev n_l_bound : List Str := ["_law_a", "_law_b", "_law_c", "_law_right", "_law_found", "_law_x", "_law_y", "_law_number"]
theorem sc_l_bound : FnScope n_l_bound ["_law_a", "_law_b", "_law_c", "_law_right"] (defScope s_l_bound) := ⟨rfl, rfl, rfl, by decide +kernel, rfl, by decide +kernel, by decide +kernel⟩
abbrev s_l_order : Stmt := topS 32
abbrev n_l_order : List Str := ["_law_script", "_law_many", "_law_order_here"]
theorem sc_l_order : FnScope n_l_order ["_law_script", "_law_many"] (defScope s_l_order) := ⟨rfl, rfl, rfl, by decide +kernel, rfl, by decide +kernel, by decide +kernel⟩
abbrev s_l_turned : Stmt := topS 33
abbrev n_l_turned : List Str := ["_law_rows", "_law_order_here", "_law_found", "_law_row", "_law_longer", "_law_at"]
theorem sc_l_turned : FnScope n_l_turned ["_law_rows", "_law_order_here"] (defScope s_l_turned) := ⟨rfl, rfl, rfl, by decide +kernel, rfl, by decide +kernel, by decide +kernel⟩
abbrev s_l_same : Stmt := topS 34
abbrev n_l_same : List Str := ["_law_found", "_law_due", "_law_many"]
theorem sc_l_same : FnScope n_l_same ["_law_found", "_law_due", "_law_many"] (defScope s_l_same) := ⟨rfl, rfl, rfl, by decide +kernel, rfl, by decide +kernel, by decide +kernel⟩
abbrev s_law : Stmt := topS 35
abbrev n_law : List Str := ["_law_script", "_law_a", "_law_b", "_law_c", "_law_right", "_law_many", "_law_sign", "_law_order_here", "_law_line", "_law_often", "_law_rows", "_law_due", "_law_k", "_law_at"]
theorem sc_law : FnScope n_law ["_law_script"] (defScope s_law) := ⟨rfl, rfl, rfl, by decide +kernel, rfl, by decide +kernel, by decide +kernel⟩
/-! ### what the top leaves -/
structure Top (K : PySem.W.Frag) (mg : Str → Option Value) where
  f_weighed : Addr
  d_weighed : FuncData
  F_weighed : Fun K "weighed" "weighed" s_weighed f_weighed d_weighed
  b_weighed : Binds K d_weighed ["line", "row"] []
  m_weighed : mg "weighed" = some (.ref f_weighed)
  f_ask_bounds : Addr
  d_ask_bounds : FuncData
  F_ask_bounds : Fun K "ask_bounds" "ask_bounds" s_ask_bounds f_ask_bounds d_ask_bounds
  b_ask_bounds : Binds K d_ask_bounds ["rows", "many", "right"] []
  m_ask_bounds : mg "ask_bounds" = some (.ref f_ask_bounds)
  f_lies_under : Addr
  d_lies_under : FuncData
  F_lies_under : Fun K "lies_under" "lies_under" s_lies_under f_lies_under d_lies_under
  b_lies_under : Binds K d_lies_under ["one", "other"] []
  m_lies_under : mg "lies_under" = some (.ref f_lies_under)
  f_lies_above : Addr
  d_lies_above : FuncData
  F_lies_above : Fun K "lies_above" "lies_above" s_lies_above f_lies_above d_lies_above
  b_lies_above : Binds K d_lies_above ["row", "others"] []
  m_lies_above : mg "lies_above" = some (.ref f_lies_above)
  f_columns_of : Addr
  d_columns_of : FuncData
  F_columns_of : Fun K "columns_of" "columns_of" s_columns_of f_columns_of d_columns_of
  b_columns_of : Binds K d_columns_of ["rows", "many"] []
  m_columns_of : mg "columns_of" = some (.ref f_columns_of)
  f_is_even : Addr
  d_is_even : FuncData
  F_is_even : Fun K "is_even" "is_even" s_is_even f_is_even d_is_even
  b_is_even : Binds K d_is_even ["sums"] []
  m_is_even : mg "is_even" = some (.ref f_is_even)
  f_one_more : Addr
  d_one_more : FuncData
  F_one_more : Fun K "one_more" "one_more" s_one_more f_one_more d_one_more
  b_one_more : Binds K d_one_more ["row", "at"] []
  m_one_more : mg "one_more" = some (.ref f_one_more)
  f_summed : Addr
  d_summed : FuncData
  F_summed : Fun K "summed" "summed" s_summed f_summed d_summed
  b_summed : Binds K d_summed ["one", "other"] []
  m_summed : mg "summed" = some (.ref f_summed)
  f_next_level : Addr
  d_next_level : FuncData
  F_next_level : Fun K "next_level" "next_level" s_next_level f_next_level d_next_level
  b_next_level : Binds K d_next_level ["level", "columns", "barred"] []
  m_next_level : mg "next_level" = some (.ref f_next_level)
  f_grown : Addr
  d_grown : FuncData
  F_grown : Fun K "grown" "grown" s_grown f_grown d_grown
  b_grown : Binds K d_grown ["level", "columns", "barred"] []
  m_grown : mg "grown" = some (.ref f_grown)
  f_least : Addr
  d_least : FuncData
  F_least : Fun K "least" "least" s_least f_least d_least
  b_least : Binds K d_least ["rows", "many"] []
  m_least : mg "least" = some (.ref f_least)
  f_least_to : Addr
  d_least_to : FuncData
  F_least_to : Fun K "least_to" "least_to" s_least_to f_least_to d_least_to
  b_least_to : Binds K d_least_to ["rows", "many", "right"] []
  m_least_to : mg "least_to" = some (.ref f_least_to)
  f_l_cell : Addr
  d_l_cell : FuncData
  F_l_cell : Fun K "_law_cell" "_law_cell" s_l_cell f_l_cell d_l_cell
  b_l_cell : Binds K d_l_cell ["_law_script", "_law_k"] []
  m_l_cell : mg "_law_cell" = some (.ref f_l_cell)
  f_l_pick : Addr
  d_l_pick : FuncData
  F_l_pick : Fun K "_law_pick" "_law_pick" s_l_pick f_l_pick d_l_pick
  b_l_pick : Binds K d_l_pick ["_law_script", "_law_k", "_law_many"] []
  m_l_pick : mg "_law_pick" = some (.ref f_l_pick)
  f_l_whole : Addr
  d_l_whole : FuncData
  F_l_whole : Fun K "_law_whole" "_law_whole" s_l_whole f_l_whole d_l_whole
  b_l_whole : Binds K d_l_whole ["_law_found"] []
  m_l_whole : mg "_law_whole" = some (.ref f_l_whole)
  f_l_under : Addr
  d_l_under : FuncData
  F_l_under : Fun K "_law_under" "_law_under" s_l_under f_l_under d_l_under
  b_l_under : Binds K d_l_under ["_law_one", "_law_other"] []
  m_l_under : mg "_law_under" = some (.ref f_l_under)
  f_l_any_under : Addr
  d_l_any_under : FuncData
  F_l_any_under : Fun K "_law_any_under" "_law_any_under" s_l_any_under f_l_any_under d_l_any_under
  b_l_any_under : Binds K d_l_any_under ["_law_rows", "_law_row"] []
  m_l_any_under : mg "_law_any_under" = some (.ref f_l_any_under)
  f_l_are_rows : Addr
  d_l_are_rows : FuncData
  F_l_are_rows : Fun K "_law_are_rows" "_law_are_rows" s_l_are_rows f_l_are_rows d_l_are_rows
  b_l_are_rows : Binds K d_l_are_rows ["_law_found", "_law_many"] []
  m_l_are_rows : mg "_law_are_rows" = some (.ref f_l_are_rows)
  f_l_thinned : Addr
  d_l_thinned : FuncData
  F_l_thinned : Fun K "_law_thinned" "_law_thinned" s_l_thinned f_l_thinned d_l_thinned
  b_l_thinned : Binds K d_l_thinned ["_law_rows"] []
  m_l_thinned : mg "_law_thinned" = some (.ref f_l_thinned)
  f_l_free : Addr
  d_l_free : FuncData
  F_l_free : Fun K "_law_free" "_law_free" s_l_free f_l_free d_l_free
  b_l_free : Binds K d_l_free ["_law_a", "_law_b", "_law_c"] []
  m_l_free : mg "_law_free" = some (.ref f_l_free)
  f_l_top : Addr
  d_l_top : FuncData
  F_l_top : Fun K "_law_top" "_law_top" s_l_top f_l_top d_l_top
  b_l_top : Binds K d_l_top ["_law_a", "_law_c", "_law_right"] []
  m_l_top : mg "_law_top" = some (.ref f_l_top)
  f_l_bound : Addr
  d_l_bound : FuncData
  F_l_bound : Fun K "_law_bound" "_law_bound" s_l_bound f_l_bound d_l_bound
  b_l_bound : Binds K d_l_bound ["_law_a", "_law_b", "_law_c", "_law_right"] []
  m_l_bound : mg "_law_bound" = some (.ref f_l_bound)
  f_l_order : Addr
  d_l_order : FuncData
  F_l_order : Fun K "_law_order" "_law_order" s_l_order f_l_order d_l_order
  b_l_order : Binds K d_l_order ["_law_script", "_law_many"] []
  m_l_order : mg "_law_order" = some (.ref f_l_order)
  f_l_turned : Addr
  d_l_turned : FuncData
  F_l_turned : Fun K "_law_turned" "_law_turned" s_l_turned f_l_turned d_l_turned
  b_l_turned : Binds K d_l_turned ["_law_rows", "_law_order_here"] []
  m_l_turned : mg "_law_turned" = some (.ref f_l_turned)
  f_l_same : Addr
  d_l_same : FuncData
  F_l_same : Fun K "_law_same" "_law_same" s_l_same f_l_same d_l_same
  b_l_same : Binds K d_l_same ["_law_found", "_law_due", "_law_many"] []
  m_l_same : mg "_law_same" = some (.ref f_l_same)
  f_law : Addr
  d_law : FuncData
  F_law : Fun K "law" "law" s_law f_law d_law
  b_law : Binds K d_law ["_law_script"] []
  m_law : mg "law" = some (.ref f_law)
  z_abs : mg "abs" = none
  z_bool : mg "bool" = none
  z_enumerate : mg "enumerate" = none
  z_int : mg "int" = none
  z_isinstance : mg "isinstance" = none
  z_len : mg "len" = none
  z_list : mg "list" = none
  z_max : mg "max" = none
  z_range : mg "range" = none
  z_sorted : mg "sorted" = none
  z_sum : mg "sum" = none
  z_tuple : mg "tuple" = none
  z_zip : mg "zip" = none
  c_MOST_MANY : ∃ t, mg "MOST_MANY" = some (.int 4 t)
  c_MOST_NUMBER : ∃ t, mg "MOST_NUMBER" = some (.int 3 t)
  c_MOST_RIGHT : ∃ t, mg "MOST_RIGHT" = some (.int 20 t)
  c_MOST_ROWS : ∃ t, mg "MOST_ROWS" = some (.int 16 t)
  E : Errs
  eo : ErrsOk K mg E ["TooMany"] ["MixError", "TooMany"]
/-! ### the bodies as functions on data -/
def g_weighed : DEnv → Option Out :=
  (dSeq (dSet 2 (dC (.int 0)))
  (dSeq (dFor (gT 2 (gCons' (gN 3) (gCons' (gN 4) gNil'))) (dItA zipD (dCons (dVar 0) (dCons (dVar 1) dNil)))
    (dAug 2 iaddD (d2 mulD (dVarS 3) (dVarS 4))))
  (dRetVar 2)))
def G_weighed : List D → Option Res := runD 5 g_weighed
def g_ask_bounds (E : Errs) : DEnv → Option Out :=
  (dSeq (dIfS (dOr (dTst (d2 gtD (dCall lenD (dCons (dVarS 0) dNil)) (dC (.int 16)))) (dTst (d2 gtD (dVarS 1) (dC (.int 4)))))
    (dRaise (.ref (E.c "TooMany")))
    dNx)
  (dSeq (dFor (gN 3) (dIt asLT (dVar 0))
    (dFor (gN 4) (dIt asLT (dVar 3))
    (dIfS (dTst (d2 gtD (dCall absD (dCons (dVarS 4) dNil)) (dC (.int 3))))
    (dRaise (.ref (E.c "TooMany")))
    dNx)))
  (dFor (gN 4) (dIt asLT (dVar 2))
    (dIfS (dTst (d2 gtD (dCall absD (dCons (dVarS 4) dNil)) (dC (.int 20))))
    (dRaise (.ref (E.c "TooMany")))
    dNx))))
def G_ask_bounds (E : Errs) : List D → Option Res := runD 5 (g_ask_bounds E)
def g_lies_under : DEnv → Option Out :=
  (dSeq (dFor (gT 2 (gCons' (gN 2) (gCons' (gN 3) gNil'))) (dItA zipD (dCons (dVar 0) (dCons (dVar 1) dNil)))
    (dIfS (dTst (d2 gtD (dVarS 2) (dVarS 3)))
    (dRet (dC (.bool false)))
    dNx))
  (dRet (dC (.bool true))))
def G_lies_under : List D → Option Res := runD 4 g_lies_under
def g_lies_above : DEnv → Option Out :=
  (dSeq (dFor (gN 2) (dIt asLT (dVar 1))
    (dIfS (dTst (dFn (fun ds => G_lies_under (ds ++ [])) (dCons (dVar 2) (dCons (dVar 0) dNil))))
    (dRet (dC (.bool true)))
    dNx))
  (dRet (dC (.bool false))))
def G_lies_above : List D → Option Res := runD 3 g_lies_above
def g_columns_of : DEnv → Option Out :=
  (dRetO (dLc [2] (gN 2) (dItA rngD (dCons (dVar 1) dNil)) dYes (dCall tupleD (dCons (dLc [3] (gN 3) (dIt asLT (dVar 0)) dYes (d2 getD' (dVarS 3) (dVarS 2))) dNil))))
def G_columns_of : List D → Option Res := runD 4 g_columns_of
def g_is_even : DEnv → Option Out :=
  (dRet (d2 eqD (dCall lenD (dCons (dLc [1] (gN 1) (dIt asLT (dVar 0)) (dTst (d2 neD (dVarS 1) (dC (.int 0)))) (dVar 1)) dNil)) (dC (.int 0))))
def G_is_even : List D → Option Res := runD 2 g_is_even
def g_one_more : DEnv → Option Out :=
  (dRet (d2 addD (d2 addD (dSl cutD (dVarS 0) dNo (dSome (dVar 1))) (dTup (dCons (d2 addD (d2 getD' (dVarS 0) (dVarS 1)) (dC (.int 1))) dNil))) (dSl cutD (dVarS 0) (dSome (d2 addD (dVarS 1) (dC (.int 1)))) dNo)))
def G_one_more : List D → Option Res := runD 2 g_one_more
def g_summed : DEnv → Option Out :=
  (dRet (dCall tupleD (dCons (dLc [2, 3] (gT 2 (gCons' (gN 2) (gCons' (gN 3) gNil'))) (dItA zipD (dCons (dVar 0) (dCons (dVar 1) dNil))) dYes (d2 addD (dVarS 2) (dVarS 3))) dNil)))
def G_summed : List D → Option Res := runD 4 g_summed
def g_next_level : DEnv → Option Out :=
  (dSeq (dSetO 3 dDnew)
  (dSeq (dFor (gT 2 (gCons' (gN 4) (gCons' (gN 5) gNil'))) (dIt asItems (dVar 0))
    (dFor (gT 2 (gCons' (gN 6) (gCons' (gN 7) gNil'))) (dItA enumA (dCons (dVar 1) dNil))
    (dIfS (dTst (d2 ltD (dFn (fun ds => G_weighed (ds ++ [])) (dCons (dVar 5) (dCons (dVar 7) dNil))) (dC (.int 0))))
    (dSeq (dSet 8 (dFn (fun ds => G_one_more (ds ++ [])) (dCons (dVar 4) (dCons (dVar 6) dNil))))
  (dIfS (dAnd (dTst (d2 notInD (dVarS 8) (dVarS 3))) (dNot (dTst (dFn (fun ds => G_lies_above (ds ++ [])) (dCons (dVar 8) (dCons (dVar 2) dNil))))))
    (dPut 3 (dVar 8) (dFn (fun ds => G_summed (ds ++ [])) (dCons (dVar 5) (dCons (dVar 7) dNil))))
    dNx))
    dNx)))
  (dRetVar 3)))
def G_next_level : List D → Option Res := runD 9 g_next_level
def g_grown : DEnv → Option Out :=
  (dSeq (dSetO 3 (dLst dNil))
  (dSeq (whileD (dTst (d2 neE (dVarS 0) dDnew))
    (dSeq (dAugL 3 (dLc [4, 5] (gT 2 (gCons' (gN 4) (gCons' (gN 5) gNil'))) (dIt asItems (dVar 0)) (dTst (dFn (fun ds => G_is_even (ds ++ [])) (dCons (dVar 5) dNil))) (dVar 4)))
  (dSet 0 (dFn (fun ds => G_next_level (ds ++ [])) (dCons (dVar 0) (dCons (dVar 1) (dCons (d2 addD (dVarS 3) (dVarS 2)) dNil)))))) 1000)
  (dRetO (dCall sortD (dCons (dVarS 3) dNil)))))
def G_grown : List D → Option Res := runD 6 g_grown
def g_least (E : Errs) : DEnv → Option Out :=
  (dSeq (dExpr (dFn (fun ds => (G_ask_bounds E) (ds ++ [])) (dCons (dVar 0) (dCons (dVar 1) (dCons (dLst dNil) dNil)))))
  (dSeq (dSet 2 (dFn (fun ds => G_columns_of (ds ++ [])) (dCons (dVar 0) (dCons (dVar 1) dNil))))
  (dSeq (dSetO 3 dDnew)
  (dSeq (dFor (gT 2 (gCons' (gN 4) (gCons' (gN 5) gNil'))) (dItA enumA (dCons (dVar 2) dNil))
    (dPut 3 (dFn (fun ds => G_one_more (ds ++ [])) (dCons (d2 repT (dTup (dCons (dC (.int 0)) dNil)) (dVarS 1)) (dCons (dVar 4) dNil))) (dVar 5)))
  (dFrz 3 (dRetO (dFnO (fun ds => G_grown (ds ++ [])) (dCons (dVar 3) (dCons (dVar 2) (dCons (dLst dNil) dNil))))))))))
def G_least (E : Errs) : List D → Option Res := runD 6 (g_least E)
def g_least_to (E : Errs) : DEnv → Option Out :=
  (dSeq (dExpr (dFn (fun ds => (G_ask_bounds E) (ds ++ [])) (dCons (dVar 0) (dCons (dVar 1) (dCons (dVar 2) dNil)))))
  (dSeq (dSetO 3 (dD1 (d2 repT (dTup (dCons (dC (.int 0)) dNil)) (dVarS 1)) (dCall tupleD (dCons (dLc [4] (gN 4) (dIt asLT (dVar 2)) dYes (d2 subD (dC (.int 0)) (dVarS 4))) dNil))))
  (dFrz 3 (dRetO (dFnO (fun ds => G_grown (ds ++ [])) (dCons (dVar 3) (dCons (dFn (fun ds => G_columns_of (ds ++ [])) (dCons (dVar 0) (dCons (dVar 1) dNil))) (dCons (dFn (fun ds => (G_least E) (ds ++ [])) (dCons (dVar 0) (dCons (dVar 1) dNil))) dNil))))))))
def G_least_to (E : Errs) : List D → Option Res := runD 5 (g_least_to E)
def g_l_cell : DEnv → Option Out :=
  (dSeq (dIfS (dTst (d2 ltD (dVarS 1) (dCall lenD (dCons (dVarS 0) dNil))))
    (dRet (d2 getD' (dVarS 0) (dVarS 1)))
    dNx)
  (dSeq (dSet 2 (d2 addD (d2 mulD (dVarS 1) (dC (.int 7919))) (dC (.int 5))))
  (dSeq (dIfS (dTst (d2 gtD (dCall lenD (dCons (dVarS 0) dNil)) (dC (.int 0))))
    (dSet 2 (d2 addD (d2 addD (d2 mulD (d2 modD (d2 getD' (dVarS 0) (d2 modD (dVarS 1) (dCall lenD (dCons (dVarS 0) dNil)))) (dC (.int 2147483647))) (dC (.int 48271))) (d2 mulD (d2 mulD (dVarS 1) (dVarS 1)) (dC (.int 7919)))) (dC (.int 11))))
    dNx)
  (dRet (d2 modD (d2 mulD (dVarS 2) (dVarS 2)) (dC (.int 2147483629)))))))
def G_l_cell : List D → Option Res := runD 3 g_l_cell
def g_l_pick : DEnv → Option Out :=
  (dSeq (dSet 3 (d2 addD (d2 mulD (d2 modD (dFn (fun ds => G_l_cell (ds ++ [])) (dCons (dVar 0) (dCons (dVar 1) dNil))) (dC (.int 2147483647))) (d2 addD (dC (.int 48271)) (d2 mulD (dC (.int 2)) (dVarS 1)))) (d2 mulD (dC (.int 31)) (dVarS 1))))
  (dRet (d2 modD (d2 divD (d2 modD (dVarS 3) (dC (.int 2147483629))) (dC (.int 7))) (dVarS 2))))
def G_l_pick : List D → Option Res := runD 4 g_l_pick
def g_l_whole : DEnv → Option Out :=
  (dRet (dAndV (d1 (isiD "int") (dVarS 0)) (dNotV (d1 (isiD "bool") (dVarS 0)))))
def G_l_whole : List D → Option Res := runD 1 g_l_whole
def g_l_under : DEnv → Option Out :=
  (dSeq (dFor (gT 2 (gCons' (gN 2) (gCons' (gN 3) gNil'))) (dItA zipD (dCons (dVar 0) (dCons (dVar 1) dNil)))
    (dIfS (dTst (d2 gtD (dVarS 2) (dVarS 3)))
    (dRet (dC (.bool false)))
    dNx))
  (dRet (dC (.bool true))))
def G_l_under : List D → Option Res := runD 4 g_l_under
def g_l_any_under : DEnv → Option Out :=
  (dSeq (dFor (gN 2) (dIt asLT (dVar 0))
    (dIfS (dTst (dFn (fun ds => G_l_under (ds ++ [])) (dCons (dVar 2) (dCons (dVar 1) dNil))))
    (dRet (dC (.bool true)))
    dNx))
  (dRet (dC (.bool false))))
def G_l_any_under : List D → Option Res := runD 3 g_l_any_under
def g_l_are_rows : DEnv → Option Out :=
  (dSeq (dIfS (dNot (dTst (d1 (isiD "list") (dVarS 0))))
    (dRet (dC (.bool false)))
    dNx)
  (dSeq (dFor (gN 2) (dIt asLT (dVar 0))
    (dSeq (dIfS (dOr (dNot (dTst (d1 (isiD "tuple") (dVarS 2)))) (dTst (d2 neD (dCall lenD (dCons (dVarS 2) dNil)) (dVarS 1))))
    (dRet (dC (.bool false)))
    dNx)
  (dFor (gN 3) (dIt asLT (dVar 2))
    (dIfS (dOr (dNot (dTst (dFn (fun ds => G_l_whole (ds ++ [])) (dCons (dVar 3) dNil)))) (dTst (d2 ltD (dVarS 3) (dC (.int 0)))))
    (dRet (dC (.bool false)))
    dNx))))
  (dSeq (dFor (gT 2 (gCons' (gN 4) (gCons' (gN 5) gNil'))) (dItA zipD (dCons (dSl cutD (dVarS 0) dNo (dSome (d1 negD (dC (.int 1))))) (dCons (dSl cutD (dVarS 0) (dSome (dC (.int 1))) dNo) dNil)))
    (dIfS (dTst (d2 geT (dVarS 4) (dVarS 5)))
    (dRet (dC (.bool false)))
    dNx))
  (dRet (dC (.bool true))))))
def G_l_are_rows : List D → Option Res := runD 6 g_l_are_rows
def g_l_thinned : DEnv → Option Out :=
  (dSeq (dSetO 1 (dLst dNil))
  (dSeq (dFor (gT 2 (gCons' (gN 3) (gCons' (gN 2) gNil'))) (dIt asLT (dCall sortD (dCons (dLc [2] (gN 2) (dIt asLT (dVar 0)) dYes (dTup (dCons (dCall sumT (dCons (dVarS 2) dNil)) (dCons (dVar 2) dNil)))) dNil)))
    (dIfS (dNot (dTst (dFnS (fun ds => G_l_any_under (ds ++ [])) (dCons (dVarS 1) (dCons (dVarS 2) dNil)))))
    (dApp 1 (dVar 2))
    dNx))
  (dRetVar 1)))
def G_l_thinned : List D → Option Res := runD 4 g_l_thinned
def g_l_free : DEnv → Option Out :=
  (dSeq (dSetO 3 (dLst dNil))
  (dSeq (dFor (gN 4) (dItA rngD (dCons (d2 addD (dVarS 2) (dC (.int 1))) dNil))
    (dFor (gN 5) (dItA rngD (dCons (d2 addD (dVarS 2) (dC (.int 1))) dNil))
    (dIfS (dAnd (dTst (d2 gtD (d2 addD (dVarS 4) (dVarS 5)) (dC (.int 0)))) (dTst (d2 eqD (d2 modD (d2 addD (d2 mulD (dVarS 0) (dVarS 4)) (d2 mulD (dVarS 1) (dVarS 5))) (dVarS 2)) (dC (.int 0)))))
    (dApp 3 (dTup (dCons (dVar 4) (dCons (dVar 5) (dCons (d2 divD (d2 addD (d2 mulD (dVarS 0) (dVarS 4)) (d2 mulD (dVarS 1) (dVarS 5))) (dVarS 2)) dNil)))))
    dNx)))
  (dFrz 3 (dRetO (dFnO (fun ds => G_l_thinned (ds ++ [])) (dCons (dVar 3) dNil))))))
def G_l_free : List D → Option Res := runD 6 g_l_free
def g_l_top : DEnv → Option Out :=
  (dSeq (dIfS (dTst (d2 eqD (dVarS 0) (dC (.int 0))))
    (dRet (dC (.int 0)))
    dNx)
  (dRet (dCall maxD (dCons (d2 subD (dVarS 1) (dC (.int 1))) (dCons (d2 divD (d2 addD (dVarS 2) (d2 mulD (dVarS 1) (d2 subD (dVarS 0) (dC (.int 1))))) (dVarS 0)) dNil)))))
def G_l_top : List D → Option Res := runD 3 g_l_top
def g_l_bound : DEnv → Option Out :=
  (dSeq (dSetO 4 (dLst dNil))
  (dSeq (dFor (gN 5) (dItA rngD (dCons (d2 addD (dFn (fun ds => G_l_top (ds ++ [])) (dCons (dVar 0) (dCons (dVar 2) (dCons (dVar 3) dNil)))) (dC (.int 1))) dNil))
    (dFor (gN 6) (dItA rngD (dCons (d2 addD (dFn (fun ds => G_l_top (ds ++ [])) (dCons (dVar 1) (dCons (dVar 2) (dCons (dVar 3) dNil)))) (dC (.int 1))) dNil))
    (dSeq (dSet 7 (d2 subD (d2 addD (d2 mulD (dVarS 0) (dVarS 5)) (d2 mulD (dVarS 1) (dVarS 6))) (dVarS 3)))
  (dIfS (dAnd (dTst (d2 geD (dVarS 7) (dC (.int 0)))) (dTst (d2 eqD (d2 modD (dVarS 7) (dVarS 2)) (dC (.int 0)))))
    (dApp 4 (dTup (dCons (dVar 5) (dCons (dVar 6) (dCons (d2 divD (dVarS 7) (dVarS 2)) dNil)))))
    dNx))))
  (dFrz 4 (dRetO (dFnO (fun ds => G_l_thinned (ds ++ [])) (dCons (dVar 4) dNil))))))
def G_l_bound : List D → Option Res := runD 8 g_l_bound
def g_l_order : DEnv → Option Out :=
  (dSeq (dSetO 2 (dPick (dCons (dLst (dCons (dC (.int 0)) (dCons (dC (.int 1)) (dCons (dC (.int 2)) dNil)))) (dCons (dLst (dCons (dC (.int 0)) (dCons (dC (.int 2)) (dCons (dC (.int 1)) dNil)))) (dCons (dLst (dCons (dC (.int 1)) (dCons (dC (.int 0)) (dCons (dC (.int 2)) dNil)))) (dCons (dLst (dCons (dC (.int 1)) (dCons (dC (.int 2)) (dCons (dC (.int 0)) dNil)))) (dCons (dLst (dCons (dC (.int 2)) (dCons (dC (.int 0)) (dCons (dC (.int 1)) dNil)))) (dCons (dLst (dCons (dC (.int 2)) (dCons (dC (.int 1)) (dCons (dC (.int 0)) dNil)))) dNil)))))) (dFn (fun ds => G_l_pick (ds ++ [])) (dCons (dVar 0) (dCons (dC (.int 5)) (dCons (dC (.int 6)) dNil))))))
  (dSeq (dIfS (dTst (d2 eqD (dVarS 1) (dC (.int 4))))
    (dIns 2 (dFn (fun ds => G_l_pick (ds ++ [])) (dCons (dVar 0) (dCons (dC (.int 6)) (dCons (dC (.int 4)) dNil)))) (dC (.int 3)))
    dNx)
  (dRetVar 2)))
def G_l_order : List D → Option Res := runD 3 g_l_order
def g_l_turned : DEnv → Option Out :=
  (dSeq (dSetO 2 (dLst dNil))
  (dSeq (dFor (gN 3) (dIt asLT (dVar 0))
    (dSeq (dSet 4 (d2 addD (dVarS 3) (dTup (dCons (dC (.int 0)) dNil))))
  (dApp 2 (dCall tupleD (dCons (dLc [5] (gN 5) (dIt asLT (dVar 1)) dYes (d2 getD' (dVarS 4) (dVarS 5))) dNil)))))
  (dRetO (dCall sortD (dCons (dVarS 2) dNil)))))
def G_l_turned : List D → Option Res := runD 6 g_l_turned
def g_l_same : DEnv → Option Out :=
  (dRet (dAndV (dFn (fun ds => G_l_are_rows (ds ++ [])) (dCons (dVar 0) (dCons (dVar 2) dNil))) (d2 eqD (dVarS 0) (dVarS 1))))
def G_l_same : List D → Option Res := runD 3 g_l_same
def g_law (E : Errs) : DEnv → Option Out :=
  (dSeq (dSet 1 (d2 modD (dFn (fun ds => G_l_cell (ds ++ [])) (dCons (dVar 0) (dCons (dC (.int 0)) dNil))) (dC (.int 4))))
  (dSeq (dSet 2 (d2 modD (dFn (fun ds => G_l_cell (ds ++ [])) (dCons (dVar 0) (dCons (dC (.int 1)) dNil))) (dC (.int 4))))
  (dSeq (dSet 3 (d2 addD (dC (.int 1)) (d2 modD (dFn (fun ds => G_l_cell (ds ++ [])) (dCons (dVar 0) (dCons (dC (.int 2)) dNil))) (dC (.int 3)))))
  (dSeq (dSet 4 (d2 subD (d2 modD (dFn (fun ds => G_l_cell (ds ++ [])) (dCons (dVar 0) (dCons (dC (.int 3)) dNil))) (dC (.int 41))) (dC (.int 20))))
  (dSeq (dSet 5 (d2 addD (dC (.int 3)) (dFn (fun ds => G_l_pick (ds ++ [])) (dCons (dVar 0) (dCons (dC (.int 4)) (dCons (dC (.int 2)) dNil))))))
  (dSeq (dSet 6 (d2 subD (dC (.int 1)) (d2 mulD (dC (.int 2)) (dFn (fun ds => G_l_pick (ds ++ [])) (dCons (dVar 0) (dCons (dC (.int 7)) (dCons (dC (.int 2)) dNil)))))))
  (dSeq (dSet 7 (dFn (fun ds => G_l_order (ds ++ [])) (dCons (dVar 0) (dCons (dVar 5) dNil))))
  (dSeq (dSet 8 (d2 getD' (dFn (fun ds => G_l_turned (ds ++ [])) (dCons (dLst (dCons (dTup (dCons (d2 mulD (dVarS 6) (dVarS 1)) (dCons (d2 mulD (dVarS 6) (dVarS 2)) (dCons (d2 subD (dC (.int 0)) (d2 mulD (dVarS 6) (dVarS 3))) dNil)))) dNil)) (dCons (dVar 7) dNil))) (dC (.int 0))))
  (dSeq (dSet 9 (d2 addD (dC (.int 1)) (dFn (fun ds => G_l_pick (ds ++ [])) (dCons (dVar 0) (dCons (dC (.int 8)) (dCons (dC (.int 3)) dNil))))))
  (dSeq (dSetO 10 (dLc [12] (gN 12) (dItA rngD (dCons (dVar 9) dNil)) dYes (dVar 8)))
  (dFrz 10
  (dSeq (dSet 11 (dFn (fun ds => G_l_turned (ds ++ [])) (dCons (dFn (fun ds => G_l_free (ds ++ [])) (dCons (dVar 1) (dCons (dVar 2) (dCons (dVar 3) dNil)))) (dCons (dVar 7) dNil))))
  (dSeq (dIfS (dTst (d2 eqD (dVarS 5) (dC (.int 4))))
    (dSet 11 (dCall sortD (dCons (d2 addD (dVarS 11) (dLst (dCons (dCall tupleD (dCons (dLc [13] (gN 13) (dIt asLT (dVar 7)) dYes (dCall intD (dCons (d2 eqD (dVarS 13) (dC (.int 3))) dNil))) dNil)) dNil))) dNil)))
    dNx)
  (dSeq (dIfS (dNot (dTst (dFn (fun ds => G_l_same (ds ++ [])) (dCons (dFn (fun ds => (G_least E) (ds ++ [])) (dCons (dVar 10) (dCons (dVar 5) dNil))) (dCons (dVar 11) (dCons (dVar 5) dNil))))))
    (dRet (dC (.bool false)))
    dNx)
  (dSeq (dSet 11 (dFn (fun ds => G_l_turned (ds ++ [])) (dCons (dFn (fun ds => G_l_bound (ds ++ [])) (dCons (dVar 1) (dCons (dVar 2) (dCons (dVar 3) (dCons (dVar 4) dNil))))) (dCons (dVar 7) dNil))))
  (dRet (dFn (fun ds => G_l_same (ds ++ [])) (dCons (dFn (fun ds => (G_least_to E) (ds ++ [])) (dCons (dVar 10) (dCons (dVar 5) (dCons (dCall tupleD (dCons (dLc [8] (gN 8) (dIt asLT (dVar 10)) dYes (d2 mulD (dVarS 6) (dVarS 4))) dNil)) dNil)))) (dCons (dVar 11) (dCons (dVar 5) dNil))))))))))))))))))))
def G_law (E : Errs) : List D → Option Res := runD 14 (g_law E)
/-! ### the defs keep them -/
section
variable {P : Program} {w : World} {K : PySem.W.Frag} {mg : Str → Option Value} {base : Heap}
set_option maxRecDepth 100000 in
theorem ok_weighed (T : Top K mg) : FnOk P w K mg base (L2.CX P w) 1 T.f_weighed T.d_weighed ["line", "row"] (spD K w 2 G_weighed) :=
  fn_ok T.F_weighed sc_weighed rfl fun cdv A outer s H E hr =>
    (dss_cons (ds_set (i := 2) sc_weighed.nd rfl (Or.inl rfl) de_int)
    (dss_cons (ds_for (passes_of rfl) rfl (di_zip (by rfl) T.z_zip (da_consV (de_var 0) (da_consV (de_var 1) da_nil))) (dg_tup rfl (dgs_cons (dg_name (i := 3) sc_weighed.nd rfl (Or.inl rfl)) (dgs_cons (dg_name (i := 4) sc_weighed.nd rfl (Or.inl rfl)) dgs_nil)))
    (dss_one (ds_aug (i := 2) iop_addV iaddD_ne sc_weighed.nd rfl (Or.inl rfl) (DE.toS (de_op op_mulV int2_ne (de_varS 3) (de_varS 4))))))
    (dss_one (ds_retVar 2))))
set_option maxRecDepth 100000 in
theorem ok_ask_bounds (T : Top K mg) : FnOk P w K mg base (L2.CX P w) 1 T.f_ask_bounds T.d_ask_bounds ["rows", "many", "right"] (spD K w 3 (G_ask_bounds T.E)) :=
  fn_ok T.F_ask_bounds sc_ask_bounds rfl fun cdv A outer s H E hr =>
    (dss_cons (ds_if (DW.dt (dw_or (dt_cmp op_gtV int2_ne (DE.toS (de_callB call_lenV lenD_ne (by rfl) T.z_len (by decide +kernel) (da_consS (de_varS 0) da_nil))) (DE.toS (de_globI (by rfl) T.c_MOST_ROWS.choose_spec)) (nomark _)) (dw_or1 (dt_cmp op_gtV int2_ne (de_varS 1) (DE.toS (de_globI (by rfl) T.c_MOST_MANY.choose_spec)) (nomark _))))) (dss_one (ds_raise rfl (takes_of rfl rfl rfl rfl) (T.eo.xc "TooMany" (by decide)) (T.eo.g "TooMany" (by decide)) (by rfl))) dss_nil)
    (dss_cons (ds_for (passes_of rfl) rfl (di_seq (de_var 0)) (dg_name (i := 3) sc_ask_bounds.nd rfl (Or.inl rfl))
    (dss_one (ds_for (passes_of rfl) rfl (di_seq (de_var 3)) (dg_name (i := 4) sc_ask_bounds.nd rfl (Or.inl rfl))
    (dss_one (ds_if (dt_cmp op_gtV int2_ne (DE.toS (de_callB call_absV absD_ne (by rfl) T.z_abs (by decide +kernel) (da_consS (de_varS 4) da_nil))) (DE.toS (de_globI (by rfl) T.c_MOST_NUMBER.choose_spec)) (nomark _)) (dss_one (ds_raise rfl (takes_of rfl rfl rfl rfl) (T.eo.xc "TooMany" (by decide)) (T.eo.g "TooMany" (by decide)) (by rfl))) dss_nil)))))
    (dss_one (ds_for (passes_of rfl) rfl (di_seq (de_var 2)) (dg_name (i := 4) sc_ask_bounds.nd rfl (Or.inl rfl))
    (dss_one (ds_if (dt_cmp op_gtV int2_ne (DE.toS (de_callB call_absV absD_ne (by rfl) T.z_abs (by decide +kernel) (da_consS (de_varS 4) da_nil))) (DE.toS (de_globI (by rfl) T.c_MOST_RIGHT.choose_spec)) (nomark _)) (dss_one (ds_raise rfl (takes_of rfl rfl rfl rfl) (T.eo.xc "TooMany" (by decide)) (T.eo.g "TooMany" (by decide)) (by rfl))) dss_nil))))))
set_option maxRecDepth 100000 in
theorem ok_lies_under (T : Top K mg) : FnOk P w K mg base (L2.CX P w) 1 T.f_lies_under T.d_lies_under ["one", "other"] (spD K w 2 G_lies_under) :=
  fn_ok T.F_lies_under sc_lies_under rfl fun cdv A outer s H E hr =>
    (dss_cons (ds_for (passes_of rfl) rfl (di_zip (by rfl) T.z_zip (da_consV (de_var 0) (da_consV (de_var 1) da_nil))) (dg_tup rfl (dgs_cons (dg_name (i := 2) sc_lies_under.nd rfl (Or.inl rfl)) (dgs_cons (dg_name (i := 3) sc_lies_under.nd rfl (Or.inl rfl)) dgs_nil)))
    (dss_one (ds_if (dt_cmp op_gtV int2_ne (de_varS 2) (de_varS 3) (nomark _)) (dss_one (ds_ret de_bl)) dss_nil)))
    (dss_one (ds_ret de_bl)))
set_option maxRecDepth 100000 in
theorem ok_lies_above (T : Top K mg) : FnOk P w K mg base (L2.CX P w) 2 T.f_lies_above T.d_lies_above ["row", "others"] (spD K w 2 G_lies_above) :=
  fn_ok T.F_lies_above sc_lies_above rfl fun cdv A outer s H E hr =>
    (dss_cons (ds_for (passes_of rfl) rfl (di_seq (de_var 1)) (dg_name (i := 2) sc_lies_above.nd rfl (Or.inl rfl))
    (dss_one (ds_if (dt_val (de_call (ok_lies_under T) (hr.mono (by decide)) (by rfl) T.m_lies_under T.F_lies_under.kp T.b_lies_under .nil (fun _ => .nil) (takes_of rfl rfl rfl rfl) (da_consV (de_var 2) (da_consV (de_var 0) da_nil)))) (dss_one (ds_ret de_bl)) dss_nil)))
    (dss_one (ds_ret de_bl)))
set_option maxRecDepth 100000 in
theorem ok_columns_of (T : Top K mg) : FnOk P w K mg base (L2.CX P w) 1 T.f_columns_of T.d_columns_of ["rows", "many"] (spD K w 2 G_columns_of) :=
  fn_ok T.F_columns_of sc_columns_of rfl fun cdv A outer s H E hr =>
    (dss_one (ds_retO (de_lc rfl sc_columns_of.nd (di_range1 (by rfl) T.z_range (da_consV (de_var 1) da_nil)) (blkOk_by (own := [("at", 2)]) (N := n_columns_of) (sc := defScope s_columns_of) (by decide +kernel)) (fun _ _ _ _ _ => (dg_name (i := 2) sc_columns_of.nd rfl (Or.inr rfl))) (fun _ _ _ _ _ => dts_nil) (fun _ _ _ _ _ => (de_callTy call_tupleV tupleD_ne (by rfl) T.z_tuple (by decide +kernel) (da_consS (DE.oS (de_lc rfl sc_columns_of.nd (di_seq (de_var 0)) (blkOk_by (own := [("line", 3)]) (N := n_columns_of) (sc := { kind := .function, names := [(".0", .local), ("at", .cell), ("tuple", .globalImplicit), ("rows", .cell)], isGenerator := false, isCoroutine := false }) (by decide +kernel)) (fun _ _ _ _ _ => (dg_name (i := 3) sc_columns_of.nd rfl (Or.inl rfl))) (fun _ _ _ _ _ => dts_nil) (fun _ _ _ _ _ => (de_ix (de_varS 3) (de_varS 2))))) da_nil))))))
set_option maxRecDepth 100000 in
theorem ok_is_even (T : Top K mg) : FnOk P w K mg base (L2.CX P w) 1 T.f_is_even T.d_is_even ["sums"] (spD K w 1 G_is_even) :=
  fn_ok T.F_is_even sc_is_even rfl fun cdv A outer s H E hr =>
    (dss_one (ds_ret (de_cmp (op_eqV hr.units) eqD_ne (DE.toS (de_callB call_lenV lenD_ne (by rfl) T.z_len (by decide +kernel) (da_consS (DE.oS (de_lc rfl sc_is_even.nd (di_seq (de_var 0)) (blkOk_by (own := [("part", 1)]) (N := n_is_even) (sc := defScope s_is_even) (by decide +kernel)) (fun _ _ _ _ _ => (dg_name (i := 1) sc_is_even.nd rfl (Or.inl rfl))) (fun _ _ _ _ _ => (dts_one (dt_cmp (op_neV hr.units) neD_ne (de_varS 1) (DE.toS de_int) (nomark _)))) (fun _ _ _ _ _ => (de_var 1)))) da_nil))) (DE.toS de_int) (nomark _))))
set_option maxRecDepth 100000 in
theorem ok_one_more (T : Top K mg) : FnOk P w K mg base (L2.CX P w) 1 T.f_one_more T.d_one_more ["row", "at"] (spD K w 2 G_one_more) :=
  fn_ok T.F_one_more sc_one_more rfl fun cdv A outer s H E hr =>
    (dss_one (ds_ret (de_op op_addV addD_ne (DE.toS (de_op op_addV addD_ne (DE.toS (de_slice sl_V cutD_ne (de_varS 0) do_none (do_some (de_var 1)))) (DE.toS (de_tup (da_consV (de_op op_addV addD_ne (DE.toS (de_ix (de_varS 0) (de_varS 1))) (DE.toS de_int)) da_nil))))) (DE.toS (de_slice sl_V cutD_ne (de_varS 0) (do_some (de_op op_addV addD_ne (de_varS 1) (DE.toS de_int))) do_none)))))
set_option maxRecDepth 100000 in
theorem ok_summed (T : Top K mg) : FnOk P w K mg base (L2.CX P w) 1 T.f_summed T.d_summed ["one", "other"] (spD K w 2 G_summed) :=
  fn_ok T.F_summed sc_summed rfl fun cdv A outer s H E hr =>
    (dss_one (ds_ret (de_callTy call_tupleV tupleD_ne (by rfl) T.z_tuple (by decide +kernel) (da_consS (DE.oS (de_lc rfl sc_summed.nd (di_zip (by rfl) T.z_zip (da_consV (de_var 0) (da_consV (de_var 1) da_nil))) (blkOk_by (own := [("here", 2), ("there", 3)]) (N := n_summed) (sc := defScope s_summed) (by decide +kernel)) (fun _ _ _ _ _ => (dg_tup rfl (dgs_cons (dg_name (i := 2) sc_summed.nd rfl (Or.inl rfl)) (dgs_cons (dg_name (i := 3) sc_summed.nd rfl (Or.inl rfl)) dgs_nil)))) (fun _ _ _ _ _ => dts_nil) (fun _ _ _ _ _ => (de_op op_addV addD_ne (de_varS 2) (de_varS 3))))) da_nil))))
set_option maxRecDepth 100000 in
theorem ok_next_level (T : Top K mg) : FnOk P w K mg base (L2.CX P w) 3 T.f_next_level T.d_next_level ["level", "columns", "barred"] (spD K w 3 G_next_level) :=
  fn_ok T.F_next_level sc_next_level rfl fun cdv A outer s H E hr =>
    (dss_cons (ds_setO (i := 3) sc_next_level.nd rfl (Or.inl rfl) de_dnew)
    (dss_cons (ds_for (passes_of rfl) rfl (di_items (de_var 0)) (dg_tup rfl (dgs_cons (dg_name (i := 4) sc_next_level.nd rfl (Or.inl rfl)) (dgs_cons (dg_name (i := 5) sc_next_level.nd rfl (Or.inl rfl)) dgs_nil)))
    (dss_one (ds_for (passes_of rfl) rfl (di_enumA (by rfl) T.z_enumerate (da_consV (de_var 1) da_nil)) (dg_tup rfl (dgs_cons (dg_name (i := 6) sc_next_level.nd rfl (Or.inl rfl)) (dgs_cons (dg_name (i := 7) sc_next_level.nd rfl (Or.inl rfl)) dgs_nil)))
    (dss_one (ds_if (dt_cmp op_ltV int2_ne (DE.toS (de_call (ok_weighed T) (hr.mono (by decide)) (by rfl) T.m_weighed T.F_weighed.kp T.b_weighed .nil (fun _ => .nil) (takes_of rfl rfl rfl rfl) (da_consV (de_var 5) (da_consV (de_var 7) da_nil)))) (DE.toS de_int) (nomark _)) (dss_cons (ds_set (i := 8) sc_next_level.nd rfl (Or.inl rfl) (de_call (ok_one_more T) (hr.mono (by decide)) (by rfl) T.m_one_more T.F_one_more.kp T.b_one_more .nil (fun _ => .nil) (takes_of rfl rfl rfl rfl) (da_consV (de_var 4) (da_consV (de_var 6) da_nil))))
    (dss_one (ds_if (DW.dt (dw_and (dt_cmp (op_notInV hr.units) notInD_ne (de_varS 8) (de_varS 3) (by rfl)) (dw_and1 (dt_not (dt_val (de_call (ok_lies_above T) (hr.mono (by decide)) (by rfl) T.m_lies_above T.F_lies_above.kp T.b_lies_above .nil (fun _ => .nil) (takes_of rfl rfl rfl rfl) (da_consV (de_var 8) (da_consV (de_var 2) da_nil)))))))) (dss_one (ds_put (i := 3) hr.units (de_var 8) (de_call (ok_summed T) (hr.mono (by decide)) (by rfl) T.m_summed T.F_summed.kp T.b_summed .nil (fun _ => .nil) (takes_of rfl rfl rfl rfl) (da_consV (de_var 5) (da_consV (de_var 7) da_nil))))) dss_nil))) dss_nil)))))
    (dss_one (ds_retVar 3))))
set_option maxRecDepth 100000 in
theorem ok_grown (T : Top K mg) : FnOk P w K mg base (L2.CX P w) 4 T.f_grown T.d_grown ["level", "columns", "barred"] (spD K w 3 G_grown) :=
  fn_ok T.F_grown sc_grown rfl fun cdv A outer s H E hr =>
    (dss_cons (ds_setO (i := 3) sc_grown.nd rfl (Or.inl rfl) (de_lst da_nil))
    (dss_cons (ds_while 1000 (passes_of rfl) (dt_cmp (op_neE hr.units) neE_ne (de_varS 0) (DE.oS de_dnew) (nomark _))
    (dss_cons (ds_augL (i := 3) sc_grown.nd rfl (Or.inl rfl) (de_lc rfl sc_grown.nd (di_items (de_var 0)) (blkOk_by (own := [("row", 4), ("sums", 5)]) (N := n_grown) (sc := defScope s_grown) (by decide +kernel)) (fun _ _ _ _ _ => (dg_tup rfl (dgs_cons (dg_name (i := 4) sc_grown.nd rfl (Or.inl rfl)) (dgs_cons (dg_name (i := 5) sc_grown.nd rfl (Or.inl rfl)) dgs_nil)))) (fun _ _ _ _ _ => (dts_one (dt_val (de_call (ok_is_even T) (hr.mono (by decide)) (by rfl) T.m_is_even T.F_is_even.kp T.b_is_even .nil (fun _ => .nil) takes0 (da_consV (de_var 5) da_nil))))) (fun _ _ _ _ _ => (de_var 4))))
    (dss_one (ds_set (i := 0) sc_grown.nd rfl (Or.inl rfl) (de_call (ok_next_level T) (hr.mono (by decide)) (by rfl) T.m_next_level T.F_next_level.kp T.b_next_level .nil (fun _ => .nil) (takes_of rfl rfl rfl rfl) (da_consV (de_var 0) (da_consV (de_var 1) (da_consV (de_op op_addV addD_ne (de_varS 3) (de_varS 2)) da_nil))))))))
    (dss_one (ds_retO (de_callB (call_sortO hr.units) sortD_ne (by rfl) T.z_sorted (by decide +kernel) (da_consS (de_varS 3) da_nil))))))
set_option maxRecDepth 100000 in
theorem ok_least (T : Top K mg) : FnOk P w K mg base (L2.CX P w) 5 T.f_least T.d_least ["rows", "many"] (spD K w 2 (G_least T.E)) :=
  fn_ok T.F_least sc_least rfl fun cdv A outer s H E hr =>
    (dss_cons (ds_expr (DE.toS (de_call (ok_ask_bounds T) (hr.mono (by decide)) (by rfl) T.m_ask_bounds T.F_ask_bounds.kp T.b_ask_bounds .nil (fun _ => .nil) (takes_of rfl rfl rfl rfl) (da_consV (de_var 0) (da_consV (de_var 1) (da_consV (DE.toV (de_lst da_nil)) da_nil))))))
    (dss_cons (ds_set (i := 2) sc_least.nd rfl (Or.inl rfl) (de_call (ok_columns_of T) (hr.mono (by decide)) (by rfl) T.m_columns_of T.F_columns_of.kp T.b_columns_of .nil (fun _ => .nil) (takes_of rfl rfl rfl rfl) (da_consV (de_var 0) (da_consV (de_var 1) da_nil))))
    (dss_cons (ds_setO (i := 3) sc_least.nd rfl (Or.inl rfl) de_dnew)
    (dss_cons (ds_for (passes_of rfl) rfl (di_enumA (by rfl) T.z_enumerate (da_consV (de_var 2) da_nil)) (dg_tup rfl (dgs_cons (dg_name (i := 4) sc_least.nd rfl (Or.inl rfl)) (dgs_cons (dg_name (i := 5) sc_least.nd rfl (Or.inl rfl)) dgs_nil)))
    (dss_one (ds_put (i := 3) hr.units (de_call (ok_one_more T) (hr.mono (by decide)) (by rfl) T.m_one_more T.F_one_more.kp T.b_one_more .nil (fun _ => .nil) (takes_of rfl rfl rfl rfl) (da_consV (de_op op_repV repT_ne (DE.toS (de_tup (da_consV de_int da_nil))) (de_varS 1)) (da_consV (de_var 4) da_nil))) (de_var 5))))
    (dss_frz 3 (dss_one (ds_retO (de_callO (ok_grown T) (hr.mono (by decide)) (by rfl) T.m_grown T.F_grown.kp T.b_grown .nil (fun _ => .nil) (takes_of rfl rfl rfl rfl) (da_consV (de_var 3) (da_consV (de_var 2) (da_consV (DE.toV (de_lst da_nil)) da_nil)))))))))))
set_option maxRecDepth 100000 in
theorem ok_least_to (T : Top K mg) : FnOk P w K mg base (L2.CX P w) 6 T.f_least_to T.d_least_to ["rows", "many", "right"] (spD K w 3 (G_least_to T.E)) :=
  fn_ok T.F_least_to sc_least_to rfl fun cdv A outer s H E hr =>
    (dss_cons (ds_expr (DE.toS (de_call (ok_ask_bounds T) (hr.mono (by decide)) (by rfl) T.m_ask_bounds T.F_ask_bounds.kp T.b_ask_bounds .nil (fun _ => .nil) (takes_of rfl rfl rfl rfl) (da_consV (de_var 0) (da_consV (de_var 1) (da_consV (de_var 2) da_nil))))))
    (dss_cons (ds_setO (i := 3) sc_least_to.nd rfl (Or.inl rfl) (de_dict1 hr.units (de_op op_repV repT_ne (DE.toS (de_tup (da_consV de_int da_nil))) (de_varS 1)) (de_callTy call_tupleV tupleD_ne (by rfl) T.z_tuple (by decide +kernel) (da_consS (DE.oS (de_lc rfl sc_least_to.nd (di_seq (de_var 2)) (blkOk_by (own := [("part", 4)]) (N := n_least_to) (sc := defScope s_least_to) (by decide +kernel)) (fun _ _ _ _ _ => (dg_name (i := 4) sc_least_to.nd rfl (Or.inl rfl))) (fun _ _ _ _ _ => dts_nil) (fun _ _ _ _ _ => (de_op op_subV int2_ne (DE.toS de_int) (de_varS 4))))) da_nil))))
    (dss_frz 3 (dss_one (ds_retO (de_callO (ok_grown T) (hr.mono (by decide)) (by rfl) T.m_grown T.F_grown.kp T.b_grown .nil (fun _ => .nil) (takes_of rfl rfl rfl rfl) (da_consV (de_var 3) (da_consV (de_call (ok_columns_of T) (hr.mono (by decide)) (by rfl) T.m_columns_of T.F_columns_of.kp T.b_columns_of .nil (fun _ => .nil) (takes_of rfl rfl rfl rfl) (da_consV (de_var 0) (da_consV (de_var 1) da_nil))) (da_consV (de_call (ok_least T) (hr.mono (by decide)) (by rfl) T.m_least T.F_least.kp T.b_least .nil (fun _ => .nil) (takes_of rfl rfl rfl rfl) (da_consV (de_var 0) (da_consV (de_var 1) da_nil))) da_nil)))))))))
set_option maxRecDepth 100000 in
theorem ok_l_cell (T : Top K mg) : FnOk P w K mg base (L2.CX P w) 1 T.f_l_cell T.d_l_cell ["_law_script", "_law_k"] (spD K w 2 G_l_cell) :=
  fn_ok T.F_l_cell sc_l_cell rfl fun cdv A outer s H E hr =>
    (dss_cons (ds_if (dt_cmp op_ltV int2_ne (de_varS 1) (DE.toS (de_callB call_lenV lenD_ne (by rfl) T.z_len (by decide +kernel) (da_consS (de_varS 0) da_nil))) (nomark _)) (dss_one (ds_ret (de_ix (de_varS 0) (de_varS 1)))) dss_nil)
    (dss_cons (ds_set (i := 2) sc_l_cell.nd rfl (Or.inl rfl) (de_op op_addV addD_ne (DE.toS (de_op op_mulV int2_ne (de_varS 1) (DE.toS de_int))) (DE.toS de_int)))
    (dss_cons (ds_if (dt_cmp op_gtV int2_ne (DE.toS (de_callB call_lenV lenD_ne (by rfl) T.z_len (by decide +kernel) (da_consS (de_varS 0) da_nil))) (DE.toS de_int) (nomark _)) (dss_one (ds_set (i := 2) sc_l_cell.nd rfl (Or.inl rfl) (de_op op_addV addD_ne (DE.toS (de_op op_addV addD_ne (DE.toS (de_op op_mulV int2_ne (DE.toS (de_op op_modV int2_ne (DE.toS (de_ix (de_varS 0) (DE.toS (de_op op_modV int2_ne (de_varS 1) (DE.toS (de_callB call_lenV lenD_ne (by rfl) T.z_len (by decide +kernel) (da_consS (de_varS 0) da_nil))))))) (DE.toS de_int))) (DE.toS de_int))) (DE.toS (de_op op_mulV int2_ne (DE.toS (de_op op_mulV int2_ne (de_varS 1) (de_varS 1))) (DE.toS de_int))))) (DE.toS de_int)))) dss_nil)
    (dss_one (ds_ret (de_op op_modV int2_ne (DE.toS (de_op op_mulV int2_ne (de_varS 2) (de_varS 2))) (DE.toS de_int)))))))
set_option maxRecDepth 100000 in
theorem ok_l_pick (T : Top K mg) : FnOk P w K mg base (L2.CX P w) 2 T.f_l_pick T.d_l_pick ["_law_script", "_law_k", "_law_many"] (spD K w 3 G_l_pick) :=
  fn_ok T.F_l_pick sc_l_pick rfl fun cdv A outer s H E hr =>
    (dss_cons (ds_set (i := 3) sc_l_pick.nd rfl (Or.inl rfl) (de_op op_addV addD_ne (DE.toS (de_op op_mulV int2_ne (DE.toS (de_op op_modV int2_ne (DE.toS (de_call (ok_l_cell T) (hr.mono (by decide)) (by rfl) T.m_l_cell T.F_l_cell.kp T.b_l_cell .nil (fun _ => .nil) (takes_of rfl rfl rfl rfl) (da_consV (de_var 0) (da_consV (de_var 1) da_nil)))) (DE.toS de_int))) (DE.toS (de_op op_addV addD_ne (DE.toS de_int) (DE.toS (de_op op_mulV int2_ne (DE.toS de_int) (de_varS 1))))))) (DE.toS (de_op op_mulV int2_ne (DE.toS de_int) (de_varS 1)))))
    (dss_one (ds_ret (de_op op_modV int2_ne (DE.toS (de_op op_divV int2_ne (DE.toS (de_op op_modV int2_ne (de_varS 3) (DE.toS de_int))) (DE.toS de_int))) (de_varS 2)))))
set_option maxRecDepth 100000 in
theorem ok_l_whole (T : Top K mg) : FnOk P w K mg base (L2.CX P w) 1 T.f_l_whole T.d_l_whole ["_law_found"] (spD K w 1 G_l_whole) :=
  fn_ok T.F_l_whole sc_l_whole rfl fun cdv A outer s H E hr =>
    (dss_one (ds_ret (de_and (de_isi (T := "int") (by rfl) T.z_isinstance (by rfl) T.z_int (by decide +kernel) (de_varS 0)) (de_one (de_not (de_isi (T := "bool") (by rfl) T.z_isinstance (by rfl) T.z_bool (by decide +kernel) (de_varS 0)))))))
set_option maxRecDepth 100000 in
theorem ok_l_under (T : Top K mg) : FnOk P w K mg base (L2.CX P w) 1 T.f_l_under T.d_l_under ["_law_one", "_law_other"] (spD K w 2 G_l_under) :=
  fn_ok T.F_l_under sc_l_under rfl fun cdv A outer s H E hr =>
    (dss_cons (ds_for (passes_of rfl) rfl (di_zip (by rfl) T.z_zip (da_consV (de_var 0) (da_consV (de_var 1) da_nil))) (dg_tup rfl (dgs_cons (dg_name (i := 2) sc_l_under.nd rfl (Or.inl rfl)) (dgs_cons (dg_name (i := 3) sc_l_under.nd rfl (Or.inl rfl)) dgs_nil)))
    (dss_one (ds_if (dt_cmp op_gtV int2_ne (de_varS 2) (de_varS 3) (nomark _)) (dss_one (ds_ret de_bl)) dss_nil)))
    (dss_one (ds_ret de_bl)))
set_option maxRecDepth 100000 in
theorem ok_l_any_under (T : Top K mg) : FnOk P w K mg base (L2.CX P w) 2 T.f_l_any_under T.d_l_any_under ["_law_rows", "_law_row"] (spD K w 2 G_l_any_under) :=
  fn_ok T.F_l_any_under sc_l_any_under rfl fun cdv A outer s H E hr =>
    (dss_cons (ds_for (passes_of rfl) rfl (di_seq (de_var 0)) (dg_name (i := 2) sc_l_any_under.nd rfl (Or.inl rfl))
    (dss_one (ds_if (dt_val (de_call (ok_l_under T) (hr.mono (by decide)) (by rfl) T.m_l_under T.F_l_under.kp T.b_l_under .nil (fun _ => .nil) (takes_of rfl rfl rfl rfl) (da_consV (de_var 2) (da_consV (de_var 1) da_nil)))) (dss_one (ds_ret de_bl)) dss_nil)))
    (dss_one (ds_ret de_bl)))
set_option maxRecDepth 100000 in
theorem ok_l_are_rows (T : Top K mg) : FnOk P w K mg base (L2.CX P w) 2 T.f_l_are_rows T.d_l_are_rows ["_law_found", "_law_many"] (spD K w 2 G_l_are_rows) :=
  fn_ok T.F_l_are_rows sc_l_are_rows rfl fun cdv A outer s H E hr =>
    (dss_cons (ds_if (dt_not (dt_val (de_isi (T := "list") (by rfl) T.z_isinstance (by rfl) T.z_list (by decide +kernel) (de_varS 0)))) (dss_one (ds_ret de_bl)) dss_nil)
    (dss_cons (ds_for (passes_of rfl) rfl (di_seq (de_var 0)) (dg_name (i := 2) sc_l_are_rows.nd rfl (Or.inl rfl))
    (dss_cons (ds_if (DW.dt (dw_or (dt_not (dt_val (de_isi (T := "tuple") (by rfl) T.z_isinstance (by rfl) T.z_tuple (by decide +kernel) (de_varS 2)))) (dw_or1 (dt_cmp (op_neV hr.units) neD_ne (DE.toS (de_callB call_lenV lenD_ne (by rfl) T.z_len (by decide +kernel) (da_consS (de_varS 2) da_nil))) (de_varS 1) (nomark _))))) (dss_one (ds_ret de_bl)) dss_nil)
    (dss_one (ds_for (passes_of rfl) rfl (di_seq (de_var 2)) (dg_name (i := 3) sc_l_are_rows.nd rfl (Or.inl rfl))
    (dss_one (ds_if (DW.dt (dw_or (dt_not (dt_val (de_call (ok_l_whole T) (hr.mono (by decide)) (by rfl) T.m_l_whole T.F_l_whole.kp T.b_l_whole .nil (fun _ => .nil) (takes_of rfl rfl rfl rfl) (da_consV (de_var 3) da_nil)))) (dw_or1 (dt_cmp op_ltV int2_ne (de_varS 3) (DE.toS de_int) (nomark _))))) (dss_one (ds_ret de_bl)) dss_nil))))))
    (dss_cons (ds_for (passes_of rfl) rfl (di_zip (by rfl) T.z_zip (da_consV (de_slice sl_V cutD_ne (de_varS 0) do_none (do_some (de_neg de_int))) (da_consV (de_slice sl_V cutD_ne (de_varS 0) (do_some de_int) do_none) da_nil))) (dg_tup rfl (dgs_cons (dg_name (i := 4) sc_l_are_rows.nd rfl (Or.inl rfl)) (dgs_cons (dg_name (i := 5) sc_l_are_rows.nd rfl (Or.inl rfl)) dgs_nil)))
    (dss_one (ds_if (dt_cmp (op_geTV hr.units) geT_ne (de_varS 4) (de_varS 5) (nomark _)) (dss_one (ds_ret de_bl)) dss_nil)))
    (dss_one (ds_ret de_bl)))))
set_option maxRecDepth 100000 in
theorem ok_l_thinned (T : Top K mg) : FnOk P w K mg base (L2.CX P w) 3 T.f_l_thinned T.d_l_thinned ["_law_rows"] (spD K w 1 G_l_thinned) :=
  fn_ok T.F_l_thinned sc_l_thinned rfl fun cdv A outer s H E hr =>
    (dss_cons (ds_setO (i := 1) sc_l_thinned.nd rfl (Or.inl rfl) (de_lst da_nil))
    (dss_cons (ds_for (passes_of rfl) rfl (di_seq (DE.toV (de_callB (call_sortO hr.units) sortD_ne (by rfl) T.z_sorted (by decide +kernel) (da_consS (DE.oS (de_lc rfl sc_l_thinned.nd (di_seq (de_var 0)) (blkOk_by (own := [("_law_row", 2)]) (N := n_l_thinned) (sc := defScope s_l_thinned) (by decide +kernel)) (fun _ _ _ _ _ => (dg_name (i := 2) sc_l_thinned.nd rfl (Or.inl rfl))) (fun _ _ _ _ _ => dts_nil) (fun _ _ _ _ _ => (de_tup (da_consV (de_callB (call_sumTV rfl) sumT_ne (by rfl) T.z_sum (by decide +kernel) (da_consS (de_varS 2) da_nil)) (da_consV (de_var 2) da_nil)))))) da_nil)))) (dg_tup rfl (dgs_cons (dg_name (i := 3) sc_l_thinned.nd rfl (Or.inl rfl)) (dgs_cons (dg_name (i := 2) sc_l_thinned.nd rfl (Or.inl rfl)) dgs_nil)))
    (dss_one (ds_if (dt_not (dt_val (de_callS (ok_l_any_under T) (hr.mono (by decide)) (by rfl) T.m_l_any_under T.F_l_any_under.kp T.b_l_any_under .nil (fun _ => .nil) (takes_of rfl rfl rfl rfl) (da_consS (de_varS 1) (da_consS (de_varS 2) da_nil))))) (dss_one (ds_append (i := 1) (de_var 2))) dss_nil)))
    (dss_one (ds_retVar 1))))
set_option maxRecDepth 100000 in
theorem ok_l_free (T : Top K mg) : FnOk P w K mg base (L2.CX P w) 4 T.f_l_free T.d_l_free ["_law_a", "_law_b", "_law_c"] (spD K w 3 G_l_free) :=
  fn_ok T.F_l_free sc_l_free rfl fun cdv A outer s H E hr =>
    (dss_cons (ds_setO (i := 3) sc_l_free.nd rfl (Or.inl rfl) (de_lst da_nil))
    (dss_cons (ds_for (passes_of rfl) rfl (di_range1 (by rfl) T.z_range (da_consV (de_op op_addV addD_ne (de_varS 2) (DE.toS de_int)) da_nil)) (dg_name (i := 4) sc_l_free.nd rfl (Or.inl rfl))
    (dss_one (ds_for (passes_of rfl) rfl (di_range1 (by rfl) T.z_range (da_consV (de_op op_addV addD_ne (de_varS 2) (DE.toS de_int)) da_nil)) (dg_name (i := 5) sc_l_free.nd rfl (Or.inl rfl))
    (dss_one (ds_if (DW.dt (dw_and (dt_cmp op_gtV int2_ne (DE.toS (de_op op_addV addD_ne (de_varS 4) (de_varS 5))) (DE.toS de_int) (nomark _)) (dw_and1 (dt_cmp (op_eqV hr.units) eqD_ne (DE.toS (de_op op_modV int2_ne (DE.toS (de_op op_addV addD_ne (DE.toS (de_op op_mulV int2_ne (de_varS 0) (de_varS 4))) (DE.toS (de_op op_mulV int2_ne (de_varS 1) (de_varS 5))))) (de_varS 2))) (DE.toS de_int) (nomark _))))) (dss_one (ds_append (i := 3) (de_tup (da_consV (de_var 4) (da_consV (de_var 5) (da_consV (de_op op_divV int2_ne (DE.toS (de_op op_addV addD_ne (DE.toS (de_op op_mulV int2_ne (de_varS 0) (de_varS 4))) (DE.toS (de_op op_mulV int2_ne (de_varS 1) (de_varS 5))))) (de_varS 2)) da_nil)))))) dss_nil)))))
    (dss_frz 3 (dss_one (ds_retO (de_callO (ok_l_thinned T) (hr.mono (by decide)) (by rfl) T.m_l_thinned T.F_l_thinned.kp T.b_l_thinned .nil (fun _ => .nil) (takes_of rfl rfl rfl rfl) (da_consV (de_var 3) da_nil)))))))
set_option maxRecDepth 100000 in
theorem ok_l_top (T : Top K mg) : FnOk P w K mg base (L2.CX P w) 1 T.f_l_top T.d_l_top ["_law_a", "_law_c", "_law_right"] (spD K w 3 G_l_top) :=
  fn_ok T.F_l_top sc_l_top rfl fun cdv A outer s H E hr =>
    (dss_cons (ds_if (dt_cmp (op_eqV hr.units) eqD_ne (de_varS 0) (DE.toS de_int) (nomark _)) (dss_one (ds_ret de_int)) dss_nil)
    (dss_one (ds_ret (de_callB (call_maxV rfl) maxD_ne (by rfl) T.z_max (by decide +kernel) (da_consS (DE.toS (de_op op_subV int2_ne (de_varS 1) (DE.toS de_int))) (da_consS (DE.toS (de_op op_divV int2_ne (DE.toS (de_op op_addV addD_ne (de_varS 2) (DE.toS (de_op op_mulV int2_ne (de_varS 1) (DE.toS (de_op op_subV int2_ne (de_varS 0) (DE.toS de_int))))))) (de_varS 0))) da_nil))))))
set_option maxRecDepth 100000 in
theorem ok_l_bound (T : Top K mg) : FnOk P w K mg base (L2.CX P w) 4 T.f_l_bound T.d_l_bound ["_law_a", "_law_b", "_law_c", "_law_right"] (spD K w 4 G_l_bound) :=
  fn_ok T.F_l_bound sc_l_bound rfl fun cdv A outer s H E hr =>
    (dss_cons (ds_setO (i := 4) sc_l_bound.nd rfl (Or.inl rfl) (de_lst da_nil))
    (dss_cons (ds_for (passes_of rfl) rfl (di_range1 (by rfl) T.z_range (da_consV (de_op op_addV addD_ne (DE.toS (de_call (ok_l_top T) (hr.mono (by decide)) (by rfl) T.m_l_top T.F_l_top.kp T.b_l_top .nil (fun _ => .nil) (takes_of rfl rfl rfl rfl) (da_consV (de_var 0) (da_consV (de_var 2) (da_consV (de_var 3) da_nil))))) (DE.toS de_int)) da_nil)) (dg_name (i := 5) sc_l_bound.nd rfl (Or.inl rfl))
    (dss_one (ds_for (passes_of rfl) rfl (di_range1 (by rfl) T.z_range (da_consV (de_op op_addV addD_ne (DE.toS (de_call (ok_l_top T) (hr.mono (by decide)) (by rfl) T.m_l_top T.F_l_top.kp T.b_l_top .nil (fun _ => .nil) (takes_of rfl rfl rfl rfl) (da_consV (de_var 1) (da_consV (de_var 2) (da_consV (de_var 3) da_nil))))) (DE.toS de_int)) da_nil)) (dg_name (i := 6) sc_l_bound.nd rfl (Or.inl rfl))
    (dss_cons (ds_set (i := 7) sc_l_bound.nd rfl (Or.inl rfl) (de_op op_subV int2_ne (DE.toS (de_op op_addV addD_ne (DE.toS (de_op op_mulV int2_ne (de_varS 0) (de_varS 5))) (DE.toS (de_op op_mulV int2_ne (de_varS 1) (de_varS 6))))) (de_varS 3)))
    (dss_one (ds_if (DW.dt (dw_and (dt_cmp op_geV int2_ne (de_varS 7) (DE.toS de_int) (nomark _)) (dw_and1 (dt_cmp (op_eqV hr.units) eqD_ne (DE.toS (de_op op_modV int2_ne (de_varS 7) (de_varS 2))) (DE.toS de_int) (nomark _))))) (dss_one (ds_append (i := 4) (de_tup (da_consV (de_var 5) (da_consV (de_var 6) (da_consV (de_op op_divV int2_ne (de_varS 7) (de_varS 2)) da_nil)))))) dss_nil))))))
    (dss_frz 4 (dss_one (ds_retO (de_callO (ok_l_thinned T) (hr.mono (by decide)) (by rfl) T.m_l_thinned T.F_l_thinned.kp T.b_l_thinned .nil (fun _ => .nil) (takes_of rfl rfl rfl rfl) (da_consV (de_var 4) da_nil)))))))
set_option maxRecDepth 100000 in
theorem ok_l_order (T : Top K mg) : FnOk P w K mg base (L2.CX P w) 3 T.f_l_order T.d_l_order ["_law_script", "_law_many"] (spD K w 2 G_l_order) :=
  fn_ok T.F_l_order sc_l_order rfl fun cdv A outer s H E hr =>
    (dss_cons (ds_setO (i := 2) sc_l_order.nd rfl (Or.inl rfl) (de_pickO (dao_cons (de_lst (da_consV de_int (da_consV de_int (da_consV de_int da_nil)))) (dao_cons (de_lst (da_consV de_int (da_consV de_int (da_consV de_int da_nil)))) (dao_cons (de_lst (da_consV de_int (da_consV de_int (da_consV de_int da_nil)))) (dao_cons (de_lst (da_consV de_int (da_consV de_int (da_consV de_int da_nil)))) (dao_cons (de_lst (da_consV de_int (da_consV de_int (da_consV de_int da_nil)))) (dao_cons (de_lst (da_consV de_int (da_consV de_int (da_consV de_int da_nil)))) dao_nil)))))) (de_call (ok_l_pick T) (hr.mono (by decide)) (by rfl) T.m_l_pick T.F_l_pick.kp T.b_l_pick .nil (fun _ => .nil) (takes_of rfl rfl rfl rfl) (da_consV (de_var 0) (da_consV de_int (da_consV de_int da_nil))))))
    (dss_cons (ds_if (dt_cmp (op_eqV hr.units) eqD_ne (de_varS 1) (DE.toS de_int) (nomark _)) (dss_one (ds_insert (i := 2) (de_call (ok_l_pick T) (hr.mono (by decide)) (by rfl) T.m_l_pick T.F_l_pick.kp T.b_l_pick .nil (fun _ => .nil) (takes_of rfl rfl rfl rfl) (da_consV (de_var 0) (da_consV de_int (da_consV de_int da_nil)))) de_int)) dss_nil)
    (dss_one (ds_retVar 2))))
set_option maxRecDepth 100000 in
theorem ok_l_turned (T : Top K mg) : FnOk P w K mg base (L2.CX P w) 1 T.f_l_turned T.d_l_turned ["_law_rows", "_law_order_here"] (spD K w 2 G_l_turned) :=
  fn_ok T.F_l_turned sc_l_turned rfl fun cdv A outer s H E hr =>
    (dss_cons (ds_setO (i := 2) sc_l_turned.nd rfl (Or.inl rfl) (de_lst da_nil))
    (dss_cons (ds_for (passes_of rfl) rfl (di_seq (de_var 0)) (dg_name (i := 3) sc_l_turned.nd rfl (Or.inl rfl))
    (dss_cons (ds_set (i := 4) sc_l_turned.nd rfl (Or.inr rfl) (de_op op_addV addD_ne (de_varS 3) (DE.toS (de_tup (da_consV de_int da_nil)))))
    (dss_one (ds_append (i := 2) (de_callTy call_tupleV tupleD_ne (by rfl) T.z_tuple (by decide +kernel) (da_consS (DE.oS (de_lc rfl sc_l_turned.nd (di_seq (de_var 1)) (blkOk_by (own := [("_law_at", 5)]) (N := n_l_turned) (sc := defScope s_l_turned) (by decide +kernel)) (fun _ _ _ _ _ => (dg_name (i := 5) sc_l_turned.nd rfl (Or.inl rfl))) (fun _ _ _ _ _ => dts_nil) (fun _ _ _ _ _ => (de_ix (de_varS 4) (de_varS 5))))) da_nil))))))
    (dss_one (ds_retO (de_callB (call_sortO hr.units) sortD_ne (by rfl) T.z_sorted (by decide +kernel) (da_consS (de_varS 2) da_nil))))))
set_option maxRecDepth 100000 in
theorem ok_l_same (T : Top K mg) : FnOk P w K mg base (L2.CX P w) 3 T.f_l_same T.d_l_same ["_law_found", "_law_due", "_law_many"] (spD K w 3 G_l_same) :=
  fn_ok T.F_l_same sc_l_same rfl fun cdv A outer s H E hr =>
    (dss_one (ds_ret (de_and (de_call (ok_l_are_rows T) (hr.mono (by decide)) (by rfl) T.m_l_are_rows T.F_l_are_rows.kp T.b_l_are_rows .nil (fun _ => .nil) (takes_of rfl rfl rfl rfl) (da_consV (de_var 0) (da_consV (de_var 2) da_nil))) (de_one (de_cmp (op_eqV hr.units) eqD_ne (de_varS 0) (de_varS 1) (nomark _))))))
set_option maxRecDepth 100000 in
theorem ok_law (T : Top K mg) : FnOk P w K mg base (L2.CX P w) 7 T.f_law T.d_law ["_law_script"] (spD K w 1 (G_law T.E)) :=
  fn_ok T.F_law sc_law rfl fun cdv A outer s H E hr =>
    (dss_cons (ds_set (i := 1) sc_law.nd rfl (Or.inl rfl) (de_op op_modV int2_ne (DE.toS (de_call (ok_l_cell T) (hr.mono (by decide)) (by rfl) T.m_l_cell T.F_l_cell.kp T.b_l_cell .nil (fun _ => .nil) (takes_of rfl rfl rfl rfl) (da_consV (de_var 0) (da_consV de_int da_nil)))) (DE.toS de_int)))
    (dss_cons (ds_set (i := 2) sc_law.nd rfl (Or.inl rfl) (de_op op_modV int2_ne (DE.toS (de_call (ok_l_cell T) (hr.mono (by decide)) (by rfl) T.m_l_cell T.F_l_cell.kp T.b_l_cell .nil (fun _ => .nil) (takes_of rfl rfl rfl rfl) (da_consV (de_var 0) (da_consV de_int da_nil)))) (DE.toS de_int)))
    (dss_cons (ds_set (i := 3) sc_law.nd rfl (Or.inl rfl) (de_op op_addV addD_ne (DE.toS de_int) (DE.toS (de_op op_modV int2_ne (DE.toS (de_call (ok_l_cell T) (hr.mono (by decide)) (by rfl) T.m_l_cell T.F_l_cell.kp T.b_l_cell .nil (fun _ => .nil) (takes_of rfl rfl rfl rfl) (da_consV (de_var 0) (da_consV de_int da_nil)))) (DE.toS de_int)))))
    (dss_cons (ds_set (i := 4) sc_law.nd rfl (Or.inr rfl) (de_op op_subV int2_ne (DE.toS (de_op op_modV int2_ne (DE.toS (de_call (ok_l_cell T) (hr.mono (by decide)) (by rfl) T.m_l_cell T.F_l_cell.kp T.b_l_cell .nil (fun _ => .nil) (takes_of rfl rfl rfl rfl) (da_consV (de_var 0) (da_consV de_int da_nil)))) (DE.toS de_int))) (DE.toS de_int)))
    (dss_cons (ds_set (i := 5) sc_law.nd rfl (Or.inl rfl) (de_op op_addV addD_ne (DE.toS de_int) (DE.toS (de_call (ok_l_pick T) (hr.mono (by decide)) (by rfl) T.m_l_pick T.F_l_pick.kp T.b_l_pick .nil (fun _ => .nil) (takes_of rfl rfl rfl rfl) (da_consV (de_var 0) (da_consV de_int (da_consV de_int da_nil)))))))
    (dss_cons (ds_set (i := 6) sc_law.nd rfl (Or.inr rfl) (de_op op_subV int2_ne (DE.toS de_int) (DE.toS (de_op op_mulV int2_ne (DE.toS de_int) (DE.toS (de_call (ok_l_pick T) (hr.mono (by decide)) (by rfl) T.m_l_pick T.F_l_pick.kp T.b_l_pick .nil (fun _ => .nil) (takes_of rfl rfl rfl rfl) (da_consV (de_var 0) (da_consV de_int (da_consV de_int da_nil)))))))))
    (dss_cons (ds_set (i := 7) sc_law.nd rfl (Or.inl rfl) (de_call (ok_l_order T) (hr.mono (by decide)) (by rfl) T.m_l_order T.F_l_order.kp T.b_l_order .nil (fun _ => .nil) (takes_of rfl rfl rfl rfl) (da_consV (de_var 0) (da_consV (de_var 5) da_nil))))
    (dss_cons (ds_set (i := 8) sc_law.nd rfl (Or.inr rfl) (de_ix (DE.toS (de_call (ok_l_turned T) (hr.mono (by decide)) (by rfl) T.m_l_turned T.F_l_turned.kp T.b_l_turned .nil (fun _ => .nil) (takes_of rfl rfl rfl rfl) (da_consV (DE.toV (de_lst (da_consV (de_tup (da_consV (de_op op_mulV int2_ne (de_varS 6) (de_varS 1)) (da_consV (de_op op_mulV int2_ne (de_varS 6) (de_varS 2)) (da_consV (de_op op_subV int2_ne (DE.toS de_int) (DE.toS (de_op op_mulV int2_ne (de_varS 6) (de_varS 3)))) da_nil)))) da_nil))) (da_consV (de_var 7) da_nil)))) (DE.toS de_int)))
    (dss_cons (ds_set (i := 9) sc_law.nd rfl (Or.inl rfl) (de_op op_addV addD_ne (DE.toS de_int) (DE.toS (de_call (ok_l_pick T) (hr.mono (by decide)) (by rfl) T.m_l_pick T.F_l_pick.kp T.b_l_pick .nil (fun _ => .nil) (takes_of rfl rfl rfl rfl) (da_consV (de_var 0) (da_consV de_int (da_consV de_int da_nil)))))))
    (dss_cons (ds_setLc (i := 10) rfl sc_law.nd rfl rfl (sw_true rfl rfl rfl (by decide +kernel)) (di_range1 (by rfl) T.z_range (da_consV (de_var 9) da_nil)) (blkOk_by (own := [("_law_k", 12)]) (N := n_law) (sc := defScope s_law) (by decide +kernel)) (fun _ _ _ _ _ => (dg_name (i := 12) sc_law.nd rfl (Or.inl rfl))) (fun _ _ _ _ _ => dts_nil) (fun _ _ _ _ _ => (de_var 8)))
    (dss_frz 10 (dss_cons (ds_set (i := 11) sc_law.nd rfl (Or.inl rfl) (de_call (ok_l_turned T) (hr.mono (by decide)) (by rfl) T.m_l_turned T.F_l_turned.kp T.b_l_turned .nil (fun _ => .nil) (takes_of rfl rfl rfl rfl) (da_consV (de_call (ok_l_free T) (hr.mono (by decide)) (by rfl) T.m_l_free T.F_l_free.kp T.b_l_free .nil (fun _ => .nil) (takes_of rfl rfl rfl rfl) (da_consV (de_var 1) (da_consV (de_var 2) (da_consV (de_var 3) da_nil)))) (da_consV (de_var 7) da_nil))))
    (dss_cons (ds_if (dt_cmp (op_eqV hr.units) eqD_ne (de_varS 5) (DE.toS de_int) (nomark _)) (dss_one (ds_set (i := 11) sc_law.nd rfl (Or.inl rfl) (DE.toV (de_callB (call_sortO hr.units) sortD_ne (by rfl) T.z_sorted (by decide +kernel) (da_consS (DE.toS (de_op op_addV addD_ne (de_varS 11) (DE.oS (de_lst (da_consV (de_callTy call_tupleV tupleD_ne (by rfl) T.z_tuple (by decide +kernel) (da_consS (DE.oS (de_lc rfl sc_law.nd (di_seq (de_var 7)) (blkOk_by (own := [("_law_at", 13)]) (N := n_law) (sc := defScope s_law) (by decide +kernel)) (fun _ _ _ _ _ => (dg_name (i := 13) sc_law.nd rfl (Or.inl rfl))) (fun _ _ _ _ _ => dts_nil) (fun _ _ _ _ _ => (de_callTy call_intV intD_ne (by rfl) T.z_int (by decide +kernel) (da_consS (DE.toS (de_cmp (op_eqV hr.units) eqD_ne (de_varS 13) (DE.toS de_int) (nomark _))) da_nil))))) da_nil)) da_nil))))) da_nil))))) dss_nil)
    (dss_cons (ds_if (dt_not (dt_val (de_call (ok_l_same T) (hr.mono (by decide)) (by rfl) T.m_l_same T.F_l_same.kp T.b_l_same .nil (fun _ => .nil) (takes_of rfl rfl rfl rfl) (da_consV (de_call (ok_least T) (hr.mono (by decide)) (by rfl) T.m_least T.F_least.kp T.b_least .nil (fun _ => .nil) (takes_of rfl rfl rfl rfl) (da_consV (de_var 10) (da_consV (de_var 5) da_nil))) (da_consV (de_var 11) (da_consV (de_var 5) da_nil)))))) (dss_one (ds_ret de_bl)) dss_nil)
    (dss_cons (ds_set (i := 11) sc_law.nd rfl (Or.inl rfl) (de_call (ok_l_turned T) (hr.mono (by decide)) (by rfl) T.m_l_turned T.F_l_turned.kp T.b_l_turned .nil (fun _ => .nil) (takes_of rfl rfl rfl rfl) (da_consV (de_call (ok_l_bound T) (hr.mono (by decide)) (by rfl) T.m_l_bound T.F_l_bound.kp T.b_l_bound .nil (fun _ => .nil) (takes_of rfl rfl rfl rfl) (da_consV (de_var 1) (da_consV (de_var 2) (da_consV (de_var 3) (da_consV (de_var 4) da_nil))))) (da_consV (de_var 7) da_nil))))
    (dss_one (ds_ret (de_call (ok_l_same T) (hr.mono (by decide)) (by rfl) T.m_l_same T.F_l_same.kp T.b_l_same .nil (fun _ => .nil) (takes_of rfl rfl rfl rfl) (da_consV (de_call (ok_least_to T) (hr.mono (by decide)) (by rfl) T.m_least_to T.F_least_to.kp T.b_least_to .nil (fun _ => .nil) (takes_of rfl rfl rfl rfl) (da_consV (de_var 10) (da_consV (de_var 5) (da_consV (de_callTy call_tupleV tupleD_ne (by rfl) T.z_tuple (by decide +kernel) (da_consS (DE.oS (de_lc rfl sc_law.nd (di_seq (de_var 10)) (blkOk_by (own := [("_law_line", 8)]) (N := n_law) (sc := defScope s_law) (by decide +kernel)) (fun _ _ _ _ _ => (dg_name (i := 8) sc_law.nd rfl (Or.inl rfl))) (fun _ _ _ _ _ => dts_nil) (fun _ _ _ _ _ => (de_op op_mulV int2_ne (de_varS 6) (de_varS 4))))) da_nil)) da_nil)))) (da_consV (de_var 11) (da_consV (de_var 5) da_nil)))))))))))))))))))))
end
end K25

namespace K25
open PySem PySem.Spec PyProof.Rows L2 DL
local macro_rules | `(tactic| walk_at "ev") => `(tactic| simp (disch := first | omega | (simp only [List.length_cons, List.length_nil, List.length_map, List.length_append, List.length_take, List.length_drop] <;> omega) | fail) only [ startD, List.map_cons, List.map_nil, List.cons_append, List.nil_append, List.length_cons, List.length_nil, List.length_map, List.replicate, List.append_nil,
  ev_seq, ev_nx, ev_rt, ev_xc, ev_bk, ev_ct, ev_ss, ev_if, ev_ifT, ev_ifF, ev_stepN, lp_nx, lp_ct, lp_bk, lp_rt, lp_xc, wp_some,
  dSet, dSetO, dRet, dRetO, dRetVar, dNx, eS_ok, eS_mok, mbind_ok, mbind_mok, dTst, d2, d1, dVar, dVarS, dC, dCall, dCons, dNil, dFn, ev_ret, ev_exc, dAnd, dOr, dNot, dAndV, dOrV, dNotV, dTup, dLst, dApp, dSetIx, dAug, dYes, dIt, dItA,  wipeD, gN, gT, gCons', gNil', ev_appOk, ixN_ok, Option.bind_some,
  if_true, if_false, Bool.true_and, Bool.false_and, Bool.and_true, Bool.and_false, Bool.true_or, Bool.false_or, Bool.or_true, Bool.or_false, Bool.not_true, Bool.not_false, decide_true, decide_false, reduceIte, Bool.false_eq_true,
  Int.reduceToNat, Int.reduceAdd, Int.reduceSub, Int.reduceMul, Int.reduceMod, Int.reduceLT, Int.reduceLE, Int.reduceEq, Nat.reduceAdd, Nat.reduceSub, Nat.reduceEqDiff, Nat.reduceLT, Int.reducePow, gt_iff_lt, ge_iff_le, Int.reduceGT, Int.toNat_zero, Int.toNat_one, List.set_cons_zero, List.set_cons_succ, List.getD_cons_zero, List.getD_cons_succ, decide_eq_true_eq, decide_eq_false_iff_not,
  List.getElem?_cons_zero, List.getElem?_cons_succ, addD_int, iaddD_int, subD_int, ltD_int, leD_int, gtD_int, geD_int, eqD_int, neD_int, eqD_bool, asB_bool, lenD_list, lenD_tuple, tupleD_list, tupleD_tuple, listD_list, listD_tuple, resOf, mulD_r, mulD_l, modD_int, divD_int, powD_int, addD_list, addL_list, addD_tuple, cutD_toT, cutD_fromT, cutD_toL, cutD_fromL, cutO_toL, cutO_fromL, sortD_list, sortD_tuple, zipD_list, zipD_tuple, asLT_list, asLT_tuple, dFnO, dResO, dFnS, List.take_succ_cons, List.take_zero, List.drop_succ_cons, List.drop_zero, addD_T, iaddD_T, lenD_T, cutD_to, cutD_from, eqD_T, neD_T, isiD_str, dSl, dSome, dNo, asI_int, letter_small, letter_great, ev_andM, ev_orM, maxD_int, minD_int, absD_int, isiD_bool, getD'_ints, getD'_intsT, getD'_atC, getD'_atCT, rngD_one, rngD_two, isNotD_none, isD_none])
local macro_rules | `(tactic| walk_at "un") => `(tactic| simp (disch := first | omega | (simp only [List.length_cons, List.length_nil, List.length_map, List.length_append, List.length_take, List.length_drop] <;> omega) | fail) only [ dFor, ev_forN, ev_forS, ev_lnx, ev_lct, ev_lbk, ev_lrt, ev_lxc, rngL_step, rngL_nil, range_0, range_1, range_2, range_3, range_4, range_5, startD, List.map_cons, List.map_nil, List.cons_append, List.nil_append, List.length_cons, List.length_nil, List.length_map, List.replicate, List.append_nil,
  ev_seq, ev_nx, ev_rt, ev_xc, ev_bk, ev_ct, ev_ss, ev_if, ev_ifT, ev_ifF, ev_stepN, lp_nx, lp_ct, lp_bk, lp_rt, lp_xc, wp_some,
  dSet, dSetO, dRet, dRetO, dRetVar, dNx, eS_ok, eS_mok, mbind_ok, mbind_mok, dTst, d2, d1, dVar, dVarS, dC, dCall, dCons, dNil, dFn, ev_ret, ev_exc, dAnd, dOr, dNot, dAndV, dOrV, dNotV, dTup, dLst, dApp, dSetIx, dAug, dYes, dIt, dItA,  wipeD, gN, gT, gCons', gNil', ev_appOk, ixN_ok, Option.bind_some,
  if_true, if_false, Bool.true_and, Bool.false_and, Bool.and_true, Bool.and_false, Bool.true_or, Bool.false_or, Bool.or_true, Bool.or_false, Bool.not_true, Bool.not_false, decide_true, decide_false, reduceIte, Bool.false_eq_true,
  Int.reduceToNat, Int.reduceAdd, Int.reduceSub, Int.reduceMul, Int.reduceMod, Int.reduceLT, Int.reduceLE, Int.reduceEq, Nat.reduceAdd, Nat.reduceSub, Nat.reduceEqDiff, Nat.reduceLT, Int.reducePow, gt_iff_lt, ge_iff_le, Int.reduceGT, Int.toNat_zero, Int.toNat_one, List.set_cons_zero, List.set_cons_succ, List.getD_cons_zero, List.getD_cons_succ, decide_eq_true_eq, decide_eq_false_iff_not,
  List.getElem?_cons_zero, List.getElem?_cons_succ, addD_int, iaddD_int, subD_int, ltD_int, leD_int, gtD_int, geD_int, eqD_int, neD_int, eqD_bool, asB_bool, lenD_list, lenD_tuple, tupleD_list, tupleD_tuple, listD_list, listD_tuple, resOf, mulD_r, mulD_l, modD_int, divD_int, powD_int, addD_list, addL_list, addD_tuple, cutD_toT, cutD_fromT, cutD_toL, cutD_fromL, cutO_toL, cutO_fromL, sortD_list, sortD_tuple, zipD_list, zipD_tuple, asLT_list, asLT_tuple, dFnO, dResO, dFnS, List.take_succ_cons, List.take_zero, List.drop_succ_cons, List.drop_zero, addD_T, iaddD_T, lenD_T, cutD_to, cutD_from, eqD_T, neD_T, isiD_str, dSl, dSome, dNo, asI_int, letter_small, letter_great, ev_andM, ev_orM, maxD_int, minD_int, absD_int, isiD_bool, getD'_ints, getD'_intsT, getD'_atC, getD'_atCT, rngD_one, rngD_two, isNotD_none, isD_none])
def cellF (ns : List Int) (k : Int) : Int := if k < ns.length then ns.getD k.toNat 0 else
  (if 0 < ns.length then ns.getD (k % ns.length).toNat 0 % 2147483647 * 48271 + k * k * 7919 + 11 else k * 7919 + 5) * (if 0 < ns.length then ns.getD (k % ns.length).toNat 0 % 2147483647 * 48271 + k * k * 7919 + 11 else k * 7919 + 5) % 2147483629
theorem sq_bound {k : Int} (h0 : 0 ≤ k) (h1 : k < 1000000) : 0 ≤ k * k ∧ k * k < 1000000000000 := by
  constructor
  · exact Int.mul_nonneg h0 h0
  · have : k * k ≤ 999999 * 999999 := Int.mul_le_mul (by omega) (by omega) h0 (by omega)
    omega
theorem cell_ok (ns : List Int) (k : Int) (h0 : 0 ≤ k) (hk : k < 1000000) : G_l_cell [.list (ns.map .int), .int k] = some (.ret false (.int (cellF ns k))) := by
  refine run_rt ?_
  unfold g_l_cell cellF
  obtain ⟨q0, q1⟩ := sq_bound h0 hk
  by_cases h1 : k < ns.length
  · refine dSeq_rt (dIfS_t (by walk_at "ev"; exact okT (by omega)) ?_)
    rw [if_pos h1]
    walk_at "ev"
  · refine dSeq_nx (dIfS_f (by walk_at "ev"; exact okF (by omega)) (by walk_at "ev"; exact rfl)) ?_
    refine dSeq_nx (by walk_at "ev"; exact rfl) ?_
    rw [if_neg h1]
    by_cases h2 : 0 < ns.length
    · have m0 : 0 ≤ k % (ns.length : Int) := Int.emod_nonneg _ (by omega)
      have m1 : k % (ns.length : Int) < ns.length := Int.emod_lt_of_pos _ (by omega)
      refine dSeq_nx (dIfS_t (by walk_at "ev"; exact okT (by omega)) (by walk_at "ev"; exact rfl)) ?_
      rw [if_pos h2]
      generalize ns.getD (k % (ns.length : Int)).toNat 0 = z
      have z0 : 0 ≤ z % 2147483647 := Int.emod_nonneg _ (by omega)
      have z1 : z % 2147483647 < 2147483647 := Int.emod_lt_of_pos _ (by omega)
      generalize z % 2147483647 = y at z0 z1
      generalize k * k = kk at q0 q1
      walk_at "ev"
    · refine dSeq_nx (dIfS_f (by walk_at "ev"; exact okF (by omega)) (by walk_at "ev"; exact rfl)) ?_
      rw [if_neg h2]
      walk_at "ev"
def pickF (ns : List Int) (k m : Int) : Int := (cellF ns k % 2147483647 * (48271 + 2 * k) + 31 * k) % 2147483629 / 7 % m
theorem pick_ok (ns : List Int) (k m : Int) (h0 : 0 ≤ k) (hk : k < 1000000) (hm : 0 < m) : G_l_pick [.list (ns.map .int), .int k, .int m] = some (.ret false (.int (pickF ns k m))) := by
  refine run_rt ?_
  unfold g_l_pick
  have c := cell_ok ns k h0 hk
  refine dSeq_nx (by walk_at "ev"; simp (disch := omega) only [c, ev_ret, mbind_mok, modD_int, mulD_r, addD_int, eS_mok, List.set_cons_zero, List.set_cons_succ]; exact rfl) ?_
  walk_at "ev"
  rfl
theorem pick_nn (ns : List Int) (k m : Int) (hm : 0 < m) : 0 ≤ pickF ns k m ∧ pickF ns k m < m := ⟨Int.emod_nonneg _ (by omega), Int.emod_lt_of_pos _ hm⟩

end K25

namespace K25
open PySem PySem.Spec PyProof.Rows L2 DL
local macro_rules | `(tactic| walk_at "ev") => `(tactic| simp (disch := first | omega | (simp only [List.length_cons, List.length_nil, List.length_map, List.length_append, List.length_take, List.length_drop] <;> omega) | fail) only [cell_ok, pick_ok, startD, List.map_cons, List.map_nil, List.cons_append, List.nil_append, List.length_cons, List.length_nil, List.length_map, List.replicate, List.append_nil,
  ev_seq, ev_nx, ev_rt, ev_xc, ev_bk, ev_ct, ev_ss, ev_if, ev_ifT, ev_ifF, ev_stepN, lp_nx, lp_ct, lp_bk, lp_rt, lp_xc, wp_some,
  dSet, dSetO, dRet, dRetO, dRetVar, dNx, eS_ok, eS_mok, mbind_ok, mbind_mok, dTst, d2, d1, dVar, dVarS, dC, dCall, dCons, dNil, dFn, ev_ret, ev_exc, dAnd, dOr, dNot, dAndV, dOrV, dNotV, dTup, dLst, dApp, dSetIx, dAug, dYes, dIt, dItA,  wipeD, gN, gT, gCons', gNil', ev_appOk, ixN_ok, Option.bind_some,
  if_true, if_false, Bool.true_and, Bool.false_and, Bool.and_true, Bool.and_false, Bool.true_or, Bool.false_or, Bool.or_true, Bool.or_false, Bool.not_true, Bool.not_false, decide_true, decide_false, reduceIte, Bool.false_eq_true,
  Int.reduceToNat, Int.reduceAdd, Int.reduceSub, Int.reduceMul, Int.reduceMod, Int.reduceLT, Int.reduceLE, Int.reduceEq, Nat.reduceAdd, Nat.reduceSub, Nat.reduceEqDiff, Nat.reduceLT, Int.reducePow, gt_iff_lt, ge_iff_le, Int.reduceGT, Int.toNat_zero, Int.toNat_one, List.set_cons_zero, List.set_cons_succ, List.getD_cons_zero, List.getD_cons_succ, decide_eq_true_eq, decide_eq_false_iff_not,
  List.getElem?_cons_zero, List.getElem?_cons_succ, addD_int, iaddD_int, subD_int, ltD_int, leD_int, gtD_int, geD_int, eqD_int, neD_int, eqD_bool, asB_bool, lenD_list, lenD_tuple, tupleD_list, tupleD_tuple, listD_list, listD_tuple, resOf, mulD_r, mulD_l, modD_int, divD_int, powD_int, addD_list, addL_list, addD_tuple, cutD_toT, cutD_fromT, cutD_toL, cutD_fromL, cutO_toL, cutO_fromL, sortD_list, sortD_tuple, zipD_list, zipD_tuple, asLT_list, asLT_tuple, dFnO, dResO, dFnS, List.take_succ_cons, List.take_zero, List.drop_succ_cons, List.drop_zero, addD_T, iaddD_T, lenD_T, cutD_to, cutD_from, eqD_T, neD_T, isiD_str, dSl, dSome, dNo, asI_int, letter_small, letter_great, ev_andM, ev_orM, maxD_int, minD_int, absD_int, isiD_bool, getD'_ints, getD'_intsT, getD'_atC, getD'_atCT, rngD_one, rngD_two, isNotD_none, isD_none])
local macro_rules | `(tactic| walk_at "un") => `(tactic| simp (disch := first | omega | (simp only [List.length_cons, List.length_nil, List.length_map, List.length_append, List.length_take, List.length_drop] <;> omega) | fail) only [cell_ok, pick_ok, dFor, ev_forN, ev_forS, ev_lnx, ev_lct, ev_lbk, ev_lrt, ev_lxc, rngL_step, rngL_nil, range_0, range_1, range_2, range_3, range_4, range_5, startD, List.map_cons, List.map_nil, List.cons_append, List.nil_append, List.length_cons, List.length_nil, List.length_map, List.replicate, List.append_nil,
  ev_seq, ev_nx, ev_rt, ev_xc, ev_bk, ev_ct, ev_ss, ev_if, ev_ifT, ev_ifF, ev_stepN, lp_nx, lp_ct, lp_bk, lp_rt, lp_xc, wp_some,
  dSet, dSetO, dRet, dRetO, dRetVar, dNx, eS_ok, eS_mok, mbind_ok, mbind_mok, dTst, d2, d1, dVar, dVarS, dC, dCall, dCons, dNil, dFn, ev_ret, ev_exc, dAnd, dOr, dNot, dAndV, dOrV, dNotV, dTup, dLst, dApp, dSetIx, dAug, dYes, dIt, dItA,  wipeD, gN, gT, gCons', gNil', ev_appOk, ixN_ok, Option.bind_some,
  if_true, if_false, Bool.true_and, Bool.false_and, Bool.and_true, Bool.and_false, Bool.true_or, Bool.false_or, Bool.or_true, Bool.or_false, Bool.not_true, Bool.not_false, decide_true, decide_false, reduceIte, Bool.false_eq_true,
  Int.reduceToNat, Int.reduceAdd, Int.reduceSub, Int.reduceMul, Int.reduceMod, Int.reduceLT, Int.reduceLE, Int.reduceEq, Nat.reduceAdd, Nat.reduceSub, Nat.reduceEqDiff, Nat.reduceLT, Int.reducePow, gt_iff_lt, ge_iff_le, Int.reduceGT, Int.toNat_zero, Int.toNat_one, List.set_cons_zero, List.set_cons_succ, List.getD_cons_zero, List.getD_cons_succ, decide_eq_true_eq, decide_eq_false_iff_not,
  List.getElem?_cons_zero, List.getElem?_cons_succ, addD_int, iaddD_int, subD_int, ltD_int, leD_int, gtD_int, geD_int, eqD_int, neD_int, eqD_bool, asB_bool, lenD_list, lenD_tuple, tupleD_list, tupleD_tuple, listD_list, listD_tuple, resOf, mulD_r, mulD_l, modD_int, divD_int, powD_int, addD_list, addL_list, addD_tuple, cutD_toT, cutD_fromT, cutD_toL, cutD_fromL, cutO_toL, cutO_fromL, sortD_list, sortD_tuple, zipD_list, zipD_tuple, asLT_list, asLT_tuple, dFnO, dResO, dFnS, List.take_succ_cons, List.take_zero, List.drop_succ_cons, List.drop_zero, addD_T, iaddD_T, lenD_T, cutD_to, cutD_from, eqD_T, neD_T, isiD_str, dSl, dSome, dNo, asI_int, letter_small, letter_great, ev_andM, ev_orM, maxD_int, minD_int, absD_int, isiD_bool, getD'_ints, getD'_intsT, getD'_atC, getD'_atCT, rngD_one, rngD_two, isNotD_none, isD_none])
/-! ### weighed -/
def dot : List Int → List Int → Int
  | x :: xs, y :: ys => x * y + dot xs ys
  | _, _ => 0
def Small (xs : List Int) : Prop := ∀ x ∈ xs, -1000 < x ∧ x < 1000
theorem zip_ints (xs ys : List Int) : zipL (xs.map .int) (ys.map .int) = (xs.zip ys).map fun p => PyData.tuple [.int p.1, .int p.2] := by
  induction xs generalizing ys with
  | nil => rfl
  | cons x xs ih =>
    cases ys with
    | nil => rfl
    | cons y ys =>
      show PyData.tuple [.int x, .int y] :: zipL (xs.map .int) (ys.map .int) = _
      rw [ih]
      rfl
theorem weighed_loop (L R : Option Sl) : ∀ (xs ys : List Int) (acc : Int) (a b : Option Sl), Small xs → ∃ a' b', forD (gT 2 (gCons' (gN 3) (gCons' (gN 4) gNil'))) (dAug 2 iaddD (d2 mulD (dVarS 3) (dVarS 4))) (zipL (xs.map .int) (ys.map .int)) [L, R, some (.fz (.int acc)), a, b] =
    some (.nx [L, R, some (.fz (.int (acc + dot xs ys))), a', b'])
  | [], ys, acc, a, b, _ => ⟨a, b, by simp [zipL, forD, dot]⟩
  | x :: xs, [], acc, a, b, _ => ⟨a, b, by simp [zipL, forD, dot]⟩
  | x :: xs, y :: ys, acc, a, b, h => by
    have hx := h x List.mem_cons_self
    obtain ⟨a', b', ih⟩ := weighed_loop L R xs ys (acc + x * y) (some (.fz (.int x))) (some (.fz (.int y))) fun z hz => h z (List.mem_cons_of_mem _ hz)
    refine ⟨a', b', ?_⟩
    show forD _ _ (PyData.tuple [.int x, .int y] :: zipL (xs.map .int) (ys.map .int)) _ = _
    unfold forD
    simp (disch := omega) only [gT, gCons', gN, gNil', Option.bind_some, List.length_cons, List.length_nil, if_true, List.set_cons_zero, List.set_cons_succ, dAug, d2, dVarS, List.getElem?_cons_zero, List.getElem?_cons_succ, mbind_mok, mulD_l, iaddD_int, eS_mok]
    rw [ih]
    simp only [dot]
    rw [Int.add_assoc]
theorem weighed_ok (xs ys : List Int) (h : Small xs) : G_weighed [.tuple (xs.map .int), .tuple (ys.map .int)] = some (.ret false (.int (dot xs ys))) := by
  refine run_rt ?_
  unfold g_weighed
  refine dSeq_nx (by walk_at "ev"; exact rfl) ?_
  obtain ⟨a, b, e⟩ := weighed_loop (some (.fz (.tuple (xs.map .int)))) (some (.fz (.tuple (ys.map .int)))) xs ys 0 none none h
  refine dSeq_nx (dFor_of (ds := zipL (xs.map .int) (ys.map .int)) (by simp only [dItA]; walk_at "ev") e) ?_
  walk_at "ev"
  rw [Int.zero_add]
def rowD (r : List Int) : D := .tuple (r.map .int)
/-! ### rows compared -/
def under : List Int → List Int → Bool
  | a :: as, b :: bs => decide (a ≤ b) && under as bs
  | _, _ => true
def above (r : List Int) (others : List (List Int)) : Bool := others.any fun o => under o r
theorem under_false_of : ∀ (xs ys : List Int) (i : Nat) (p : Int × Int), (xs.zip ys)[i]? = some p → p.2 < p.1 → under xs ys = false
  | [], _, i, p, h, _ => by simp at h
  | _ :: _, [], i, p, h, _ => by simp at h
  | x :: xs, y :: ys, 0, p, h, hp => by
    simp only [List.zip_cons_cons, List.getElem?_cons_zero, Option.some.injEq] at h
    subst h
    simp only [under]
    have : decide (x ≤ y) = false := decide_eq_false (by simpa using hp)
    rw [this]
    rfl
  | x :: xs, y :: ys, i + 1, p, h, hp => by
    simp only [List.zip_cons_cons, List.getElem?_cons_succ] at h
    simp only [under, under_false_of xs ys i p h hp, Bool.and_false]
theorem under_true_of : ∀ (xs ys : List Int), (∀ p ∈ xs.zip ys, p.1 ≤ p.2) → under xs ys = true
  | [], _, _ => by simp [under]
  | _ :: _, [], _ => by simp [under]
  | x :: xs, y :: ys, h => by
    simp only [under]
    have h1 := h (x, y) (by simp)
    rw [under_true_of xs ys fun p hp => h p (by simp [hp])]
    simpa using h1
theorem lu_ok (xs ys : List Int) : G_lies_under [rowD xs, rowD ys] = some (.ret false (.bool (under xs ys))) := by
  refine run_wpR (R := fun r => r = some (.ret false (.bool (under xs ys)))) ?_
  unfold g_lies_under rowD
  walk_at "ev"
  refine wp_for (ds := zipL (xs.map .int) (ys.map .int)) (by walk_at "ev") (fun i e => (∃ a b, e = [some (.fz (.tuple (xs.map .int))), some (.fz (.tuple (ys.map .int))), a, b]) ∧ ∀ j p, j < i → (xs.zip ys)[j]? = some p → p.1 ≤ p.2) ⟨⟨_, _, rfl⟩, by omega⟩ ?_ ?_
  · rintro i d e hi ⟨⟨a, b, rfl⟩, hj⟩
    rw [zip_ints, List.getElem?_map] at hi
    cases hq : (xs.zip ys)[i]? with
    | none => rw [hq] at hi; cases hi
    | some p =>
      rw [hq] at hi
      cases hi
      have hst : ∀ g (E : DEnv), stepO (gT 2 (gCons' (gN 2) (gCons' (gN 3) gNil'))) g (PyData.tuple [.int p.1, .int p.2]) E = g ((E.set 2 (some (.fz (.int p.1)))).set 3 (some (.fz (.int p.2)))) := fun _ _ => rfl
      rw [hst]
      walk_at "ev"
      refine wp_if ?_ ?_ <;> intro hc <;> walk_at "ev"
      · have hc : p.2 < p.1 := of_decide_eq_true hc
        rw [under_false_of xs ys i p hq hc]
      · have hc : ¬ p.2 < p.1 := of_decide_eq_false hc
        refine ⟨⟨_, _, rfl⟩, fun j q hji hjq => ?_⟩
        by_cases e : j = i
        · subst e
          rw [hq] at hjq
          cases hjq
          omega
        · exact hj j q (by omega) hjq
  · rintro e ⟨⟨a, b, rfl⟩, hj⟩
    walk_at "ev"
    rw [under_true_of xs ys fun p hp => by
      obtain ⟨j, hjj⟩ := List.mem_iff_getElem?.mp hp
      refine hj j p ?_ hjj
      rw [zip_ints, List.length_map]
      exact (List.getElem?_eq_some_iff.mp hjj).1]
theorem map_at' {α : Type} {f : α → D} {xs : List α} {i : Nat} {d : D} (h : (xs.map f)[i]? = some d) : ∃ x, xs[i]? = some x ∧ d = f x := by
  rw [List.getElem?_map] at h
  cases hq : xs[i]? with
  | none => rw [hq] at h; cases h
  | some x => rw [hq] at h; cases h; exact ⟨x, rfl, rfl⟩
theorem la_ok (r : List Int) (os : List (List Int)) : G_lies_above [rowD r, .list (os.map rowD)] = some (.ret false (.bool (above r os))) := by
  refine run_wpR (R := fun x => x = some (.ret false (.bool (above r os)))) ?_
  unfold g_lies_above
  walk_at "ev"
  refine wp_for (ds := os.map rowD) (by walk_at "ev") (fun i e => (∃ a, e = [some (.fz (rowD r)), some (.fz (.list (os.map rowD))), a]) ∧ ∀ o ∈ os.take i, under o r = false) ⟨⟨_, rfl⟩, by simp⟩ ?_ ?_
  · rintro i d e hi ⟨⟨a, rfl⟩, hj⟩
    obtain ⟨o, ho, rfl⟩ := map_at' hi
    have h := lu_ok o r
    repeat (first | walk_at "ev" | simp only [h])
    refine wp_if ?_ ?_ <;> intro hc <;> walk_at "ev"
    · have : above r os = true := List.any_eq_true.mpr ⟨o, List.mem_of_getElem? ho, hc⟩
      rw [this]
    · refine ⟨⟨_, rfl⟩, fun q hq => ?_⟩
      rw [List.take_add_one, ho] at hq
      rcases List.mem_append.mp hq with hq | hq
      · exact hj q hq
      · simp at hq
        subst hq
        exact hc
  · rintro e ⟨⟨a, rfl⟩, hj⟩
    rw [List.length_map, List.take_length] at hj
    walk_at "ev"
    have : above r os = false := by
      unfold above
      rw [Bool.eq_false_iff]
      intro h
      obtain ⟨o, ho, h⟩ := List.any_eq_true.mp h
      rw [hj o ho] at h
      cases h
    rw [this]
/-! ### sums, one more, columns -/
def addR (xs ys : List Int) : List Int := (xs.zip ys).map fun p => p.1 + p.2
def oneMore (r : List Int) (k : Nat) : List Int := r.take k ++ [r.getD k 0 + 1] ++ r.drop (k + 1)
def cols (R : List (List Int)) (m : Nat) : List (List Int) := (List.range m).map fun k => R.map fun r => r.getD k 0
def even (s : List Int) : Bool := s.all fun x => decide (x = 0)
theorem even_ok (s : List Int) (h : s.length ≤ 1000) : G_is_even [rowD s] = some (.ret false (.bool (even s))) := by
  refine run_rt ?_
  unfold g_is_even rowD
  have hl : dLc [1] (gN 1) (dIt asLT (dVar 0)) (dTst (d2 neD (dVarS 1) (dC (.int 0)))) (dVar 1) (startD 2 [.tuple (s.map .int)]) = mok (.list ((s.filter fun x => decide (x ≠ 0)).map .int)) := by
    refine dLc_flt (ei := .int) (fun x => decide (x ≠ 0)) .int (by walk_at "ev") (by omega) fun x hx => ⟨_, rfl, ?_, fun _ => rfl⟩
    walk_at "ev"
    by_cases h : x = 0 <;> simp [h]
  show eS (d2 eqD (dCall lenD (dCons _ dNil)) (dC (.int 0)) (startD 2 [.tuple (s.map .int)])) _ _ = _
  have e0 : (decide (((s.filter fun x => decide (x ≠ 0)).length : Int) = 0)) = even s := by
    unfold even
    by_cases hz : ∀ x ∈ s, x = 0
    · have : s.filter (fun x => decide (x ≠ 0)) = [] := List.filter_eq_nil_iff.mpr fun x hx => by simpa using hz x hx
      rw [this]
      symm
      simpa using hz
    · have h1 : s.all (fun x => decide (x = 0)) = false := by
        rw [Bool.eq_false_iff]
        intro q
        exact hz fun x hx => of_decide_eq_true (List.all_eq_true.mp q x hx)
      rw [h1]
      refine decide_eq_false fun q => hz fun x hx => ?_
      have : (s.filter fun x => decide (x ≠ 0)) = [] := List.length_eq_zero_iff.mp (by omega)
      have := List.filter_eq_nil_iff.mp this x hx
      simpa using this
  simp only [d2, dCall, dCons, dNil, hl, dC, mbind_mok, lenD_list, List.length_map, eqD_int, eS_mok, e0]
theorem summed_ok (xs ys : List Int) (h : xs.length ≤ 1000) : G_summed [rowD xs, rowD ys] = some (.ret false (rowD (addR xs ys))) := by
  refine run_rt ?_
  unfold g_summed rowD
  have hl : dLc [2, 3] (gT 2 (gCons' (gN 2) (gCons' (gN 3) gNil'))) (dItA zipD (dCons (dVar 0) (dCons (dVar 1) dNil))) dYes (d2 addD (dVarS 2) (dVarS 3)) (startD 4 [.tuple (xs.map .int), .tuple (ys.map .int)]) = mok (.list ((xs.zip ys).map fun p => .int (p.1 + p.2))) := by
    refine dLc_all (xs := xs.zip ys) (ei := fun p : Int × Int => .tuple [.int p.1, .int p.2]) (fun p : Int × Int => .int (p.1 + p.2)) (by walk_at "ev"; rw [zip_ints]) (by rw [List.length_zip]; omega) fun p hp => ⟨_, rfl, rfl, ?_⟩
    walk_at "ev"
  show eS (dCall tupleD (dCons _ dNil) _) _ _ = _
  simp only [dCall, dCons, dNil, hl, mbind_mok, tupleD_list, eS_mok]
  unfold addR
  rw [List.map_map]
  rfl
theorem more_ok (r : List Int) (k : Nat) (h : k < r.length) (hl : r.length ≤ 1000) : G_one_more [rowD r, .int k] = some (.ret false (rowD (oneMore r k))) := by
  refine run_rt ?_
  unfold g_one_more rowD
  have g1 : getD' (.tuple (r.map .int)) (.int (k : Int)) = mok (.int (r.getD k 0)) := by
    rw [getD'_atT (by omega) (by rw [List.length_map]; omega), Int.toNat_natCast, List.getD_eq_getElem?_getD, List.getElem?_map, List.getD_eq_getElem?_getD, List.getElem?_eq_getElem h]
    rfl
  have hk1 : ((k : Int) + 1).toNat = k + 1 := by omega
  repeat (first | walk_at "ev" | simp only [g1, hk1, Int.toNat_natCast])
  unfold oneMore
  rw [List.map_append, List.map_append, List.map_take, List.map_drop]
  rfl
def rsD (t : Bool) (R : List (List Int)) : D := if t then .tuple (R.map rowD) else .list (R.map rowD)
theorem asLT_rs {t : Bool} {R : List (List Int)} : asLT (rsD t R) = mok (R.map rowD) := by cases t <;> rfl
theorem lenD_rs {t : Bool} {R : List (List Int)} : lenD [rsD t R] = mok (.int R.length) := by
  cases t
  · show lenD [.list (R.map rowD)] = _
    rw [lenD_list, List.length_map]
  · show lenD [.tuple (R.map rowD)] = _
    rw [lenD_tuple, List.length_map]
theorem cols_ok (t : Bool) (R : List (List Int)) (m : Nat) (hR : ∀ r ∈ R, r.length = m) (hm : m ≤ 1000) (hl : R.length ≤ 1000) : G_columns_of [rsD t R, .int m] = some (.ret true (.list ((cols R m).map rowD))) := by
  refine run_wpR (R := fun r => r = some (.ret true (.list ((cols R m).map rowD)))) ?_
  unfold g_columns_of
  have hl : dLc [2] (gN 2) (dItA rngD (dCons (dVar 1) dNil)) dYes (dCall tupleD (dCons (dLc [3] (gN 3) (dIt asLT (dVar 0)) dYes (d2 getD' (dVarS 3) (dVarS 2))) dNil)) (startD 4 [rsD t R, .int m]) = mok (.list ((List.range (m : Int).toNat).map fun k => rowD (R.map fun r => r.getD k 0))) := by
    refine dLc_rng (n := (m : Int)) _ ?_ ?_ ?_
    · walk_at "ev"
    · omega
    intro k hk
    refine ⟨_, rfl, rfl, ?_⟩
    have hin : dLc [3] (gN 3) (dIt asLT (dVar 0)) dYes (d2 getD' (dVarS 3) (dVarS 2)) [some (.fz (rsD t R)), some (.fz (.int m)), some (.fz (.int k)), none] = mok (.list (R.map fun r => .int (r.getD k 0))) := by
      refine dLc_all (ei := rowD) (fun r => .int (r.getD k 0)) (by repeat (first | walk_at "ev" | simp only [asLT_rs])) (by omega) fun r hr => ⟨_, rfl, rfl, ?_⟩
      have hrl := hR r hr
      have : k < r.length := by omega
      have g1 : getD' (rowD r) (.int (k : Int)) = mok (.int (r.getD k 0)) := by
        unfold rowD
        rw [getD'_atT (by omega) (by rw [List.length_map]; omega), Int.toNat_natCast, List.getD_eq_getElem?_getD, List.getElem?_map, List.getD_eq_getElem?_getD, List.getElem?_eq_getElem this]
        rfl
      repeat (first | walk_at "ev" | simp only [g1])
    show dCall tupleD (dCons _ dNil) [some (.fz (rsD t R)), some (.fz (.int m)), some (.fz (.int k)), none] = _
    simp only [dCall, dCons, dNil, hin, mbind_mok, tupleD_list]
    unfold rowD
    rw [List.map_map]
    rfl
  simp only [dRetO, hl, eS_mok, wp_some, resOf]
  unfold cols
  rw [List.map_map, Int.toNat_natCast]
  rfl
end K25

namespace K25
open PySem PySem.Spec PyProof.Rows L2 DL
local macro_rules | `(tactic| walk_at "ev") => `(tactic| simp (disch := first | omega | (simp only [List.length_cons, List.length_nil, List.length_map, List.length_append, List.length_take, List.length_drop] <;> omega) | fail) only [cell_ok, pick_ok, startD, List.map_cons, List.map_nil, List.cons_append, List.nil_append, List.length_cons, List.length_nil, List.length_map, List.replicate, List.append_nil,
  ev_seq, ev_nx, ev_rt, ev_xc, ev_bk, ev_ct, ev_ss, ev_if, ev_ifT, ev_ifF, ev_stepN, lp_nx, lp_ct, lp_bk, lp_rt, lp_xc, wp_some,
  dSet, dSetO, dRet, dRetO, dRetVar, dNx, eS_ok, eS_mok, mbind_ok, mbind_mok, dTst, d2, d1, dVar, dVarS, dC, dCall, dCons, dNil, dFn, ev_ret, ev_exc, dAnd, dOr, dNot, dAndV, dOrV, dNotV, dTup, dLst, dApp, dSetIx, dAug, dYes, dIt, dItA,  wipeD, gN, gT, gCons', gNil', ev_appOk, ixN_ok, Option.bind_some,
  if_true, if_false, Bool.true_and, Bool.false_and, Bool.and_true, Bool.and_false, Bool.true_or, Bool.false_or, Bool.or_true, Bool.or_false, Bool.not_true, Bool.not_false, decide_true, decide_false, reduceIte, Bool.false_eq_true,
  Int.reduceToNat, Int.reduceAdd, Int.reduceSub, Int.reduceMul, Int.reduceMod, Int.reduceLT, Int.reduceLE, Int.reduceEq, Nat.reduceAdd, Nat.reduceSub, Nat.reduceEqDiff, Nat.reduceLT, Int.reducePow, gt_iff_lt, ge_iff_le, Int.reduceGT, Int.toNat_zero, Int.toNat_one, List.set_cons_zero, List.set_cons_succ, List.getD_cons_zero, List.getD_cons_succ, decide_eq_true_eq, decide_eq_false_iff_not,
  List.getElem?_cons_zero, List.getElem?_cons_succ, addD_int, iaddD_int, subD_int, ltD_int, leD_int, gtD_int, geD_int, eqD_int, neD_int, eqD_bool, asB_bool, lenD_list, lenD_tuple, tupleD_list, tupleD_tuple, listD_list, listD_tuple, resOf, mulD_r, mulD_l, modD_int, divD_int, powD_int, addD_list, addL_list, addD_tuple, cutD_toT, cutD_fromT, cutD_toL, cutD_fromL, cutO_toL, cutO_fromL, sortD_list, sortD_tuple, zipD_list, zipD_tuple, asLT_list, asLT_tuple, dFnO, dResO, dFnS, List.take_succ_cons, List.take_zero, List.drop_succ_cons, List.drop_zero, addD_T, iaddD_T, lenD_T, cutD_to, cutD_from, eqD_T, neD_T, isiD_str, dSl, dSome, dNo, asI_int, letter_small, letter_great, ev_andM, ev_orM, maxD_int, minD_int, absD_int, isiD_bool, getD'_ints, getD'_intsT, getD'_atC, getD'_atCT, rngD_one, rngD_two, isNotD_none, isD_none])
local macro_rules | `(tactic| walk_at "un") => `(tactic| simp (disch := first | omega | (simp only [List.length_cons, List.length_nil, List.length_map, List.length_append, List.length_take, List.length_drop] <;> omega) | fail) only [cell_ok, pick_ok, dFor, ev_forN, ev_forS, ev_lnx, ev_lct, ev_lbk, ev_lrt, ev_lxc, rngL_step, rngL_nil, range_0, range_1, range_2, range_3, range_4, range_5, startD, List.map_cons, List.map_nil, List.cons_append, List.nil_append, List.length_cons, List.length_nil, List.length_map, List.replicate, List.append_nil,
  ev_seq, ev_nx, ev_rt, ev_xc, ev_bk, ev_ct, ev_ss, ev_if, ev_ifT, ev_ifF, ev_stepN, lp_nx, lp_ct, lp_bk, lp_rt, lp_xc, wp_some,
  dSet, dSetO, dRet, dRetO, dRetVar, dNx, eS_ok, eS_mok, mbind_ok, mbind_mok, dTst, d2, d1, dVar, dVarS, dC, dCall, dCons, dNil, dFn, ev_ret, ev_exc, dAnd, dOr, dNot, dAndV, dOrV, dNotV, dTup, dLst, dApp, dSetIx, dAug, dYes, dIt, dItA,  wipeD, gN, gT, gCons', gNil', ev_appOk, ixN_ok, Option.bind_some,
  if_true, if_false, Bool.true_and, Bool.false_and, Bool.and_true, Bool.and_false, Bool.true_or, Bool.false_or, Bool.or_true, Bool.or_false, Bool.not_true, Bool.not_false, decide_true, decide_false, reduceIte, Bool.false_eq_true,
  Int.reduceToNat, Int.reduceAdd, Int.reduceSub, Int.reduceMul, Int.reduceMod, Int.reduceLT, Int.reduceLE, Int.reduceEq, Nat.reduceAdd, Nat.reduceSub, Nat.reduceEqDiff, Nat.reduceLT, Int.reducePow, gt_iff_lt, ge_iff_le, Int.reduceGT, Int.toNat_zero, Int.toNat_one, List.set_cons_zero, List.set_cons_succ, List.getD_cons_zero, List.getD_cons_succ, decide_eq_true_eq, decide_eq_false_iff_not,
  List.getElem?_cons_zero, List.getElem?_cons_succ, addD_int, iaddD_int, subD_int, ltD_int, leD_int, gtD_int, geD_int, eqD_int, neD_int, eqD_bool, asB_bool, lenD_list, lenD_tuple, tupleD_list, tupleD_tuple, listD_list, listD_tuple, resOf, mulD_r, mulD_l, modD_int, divD_int, powD_int, addD_list, addL_list, addD_tuple, cutD_toT, cutD_fromT, cutD_toL, cutD_fromL, cutO_toL, cutO_fromL, sortD_list, sortD_tuple, zipD_list, zipD_tuple, asLT_list, asLT_tuple, dFnO, dResO, dFnS, List.take_succ_cons, List.take_zero, List.drop_succ_cons, List.drop_zero, addD_T, iaddD_T, lenD_T, cutD_to, cutD_from, eqD_T, neD_T, isiD_str, dSl, dSome, dNo, asI_int, letter_small, letter_great, ev_andM, ev_orM, maxD_int, minD_int, absD_int, isiD_bool, getD'_ints, getD'_intsT, getD'_atC, getD'_atCT, rngD_one, rngD_two, isNotD_none, isD_none])
/-! ### levels -/
abbrev Lv := List (List Int × List Int)
def kvL (L : Lv) : List (D × D) := L.map fun p => (rowD p.1, rowD p.2)
def lvD (L : Lv) : D := .dict (kvL L)
theorem eqvs_ints : ∀ a b : List Int, PyData.eqvAll (a.map .int) (b.map .int) = decide (a = b)
  | [], [] => by simp [PyData.eqvAll]
  | [], _ :: _ => by simp [PyData.eqvAll]
  | _ :: _, [] => by simp [PyData.eqvAll]
  | a :: as, b :: bs => by
    rw [List.map_cons, List.map_cons, PyData.eqvAll, eqvs_ints as bs]
    by_cases h1 : a = b <;> by_cases h2 : as = bs <;> simp [h1, h2, PyData.eqv]
theorem eqv_row (a b : List Int) : PyData.eqv (rowD a) (rowD b) = decide (a = b) := by
  unfold rowD
  rw [PyData.eqv]
  exact eqvs_ints a b
theorem toKeys_ints : ∀ r : List Int, ∃ ks, toKeys (r.map .int) = some ks ∧ NestedKey.depthAll ks = 0
  | [] => ⟨[], rfl, rfl⟩
  | n :: r => by
    obtain ⟨ks, h1, h2⟩ := toKeys_ints r
    refine ⟨.num n :: ks, by rw [List.map_cons, toKeys, h1]; rfl, ?_⟩
    simp [NestedKey.depthAll, NestedKey.depth, h2]
theorem keyOk_row (r : List Int) : keyOk (rowD r) = true := by
  obtain ⟨ks, h1, h2⟩ := toKeys_ints r
  unfold keyOk rowD
  simp only [toKey, h1, Option.map_some]
  refine decide_eq_true ?_
  simp only [NestedKey.depth, h2]
  omega
def hasRow (L : Lv) (r : List Int) : Bool := L.any fun p => decide (p.1 = r)
theorem find_has (L : Lv) (r : List Int) : (findD (kvL L) (rowD r)).isSome = hasRow L r := by
  unfold findD kvL hasRow
  induction L with
  | nil => rfl
  | cons p L ih =>
    rw [List.map_cons, List.find?_cons, List.any_cons]
    have e := eqv_row p.1 r
    simp only [e]
    by_cases h : p.1 = r
    · simp [h]
    · have : decide (p.1 = r) = false := decide_eq_false h
      rw [this, Bool.false_or]
      exact ih
theorem notIn_row (L : Lv) (r : List Int) : notInD (rowD r) (lvD L) = mok (.bool (!hasRow L r)) := by
  show inX true (rowD r) (.dict (kvL L)) = _
  unfold inX
  simp only [keyOk_row, if_true, find_has]
theorem put_new {L : Lv} {r s : List Int} (h : hasRow L r = false) : putD (kvL L) (rowD r) (rowD s) = kvL (L ++ [(r, s)]) := by
  unfold putD
  rw [find_has, h, if_neg (by simp)]
  unfold kvL
  rw [List.map_append]
  rfl
def step1 (barred : List (List Int)) (p : List Int × List Int) (acc : Lv) (c : List Int × Nat) : Lv :=
  if dot p.2 c.1 < 0 ∧ hasRow acc (oneMore p.1 c.2) = false ∧ above (oneMore p.1 c.2) barred = false then acc ++ [(oneMore p.1 c.2, addR p.2 c.1)] else acc
def rowStep (cs barred : List (List Int)) (acc : Lv) (p : List Int × List Int) : Lv := cs.zipIdx.foldl (step1 barred p) acc
def nextL (L : Lv) (cs barred : List (List Int)) : Lv := L.foldl (rowStep cs barred) []
theorem step1_len {barred : List (List Int)} {p : List Int × List Int} {acc : Lv} {c : List Int × Nat} : (step1 barred p acc c).length ≤ acc.length + 1 := by
  unfold step1
  split <;> simp
theorem fold_len {α : Type} {f : Lv → α → Lv} {n : Nat} (h : ∀ acc c, (f acc c).length ≤ acc.length + n) : ∀ (xs : List α) (acc : Lv), (xs.foldl f acc).length ≤ acc.length + xs.length * n
  | [], acc => by simp
  | x :: xs, acc => by
    rw [List.foldl_cons, List.length_cons, Nat.succ_mul]
    have := fold_len h xs (f acc x)
    have := h acc x
    omega
theorem rowStep_len {cs barred : List (List Int)} {acc : Lv} {p : List Int × List Int} : (rowStep cs barred acc p).length ≤ acc.length + cs.length := by
  have := fold_len (f := step1 barred p) (n := 1) (fun acc c => step1_len) cs.zipIdx acc
  unfold rowStep
  rw [List.length_zipIdx] at this
  omega
theorem nextL_len {L : Lv} {cs barred : List (List Int)} : (nextL L cs barred).length ≤ L.length * cs.length := by
  have := fold_len (f := rowStep cs barred) (n := cs.length) (fun acc c => rowStep_len) L []
  unfold nextL
  simpa using this
theorem foldl_snoc {α β : Type} (f : β → α → β) (b : β) {xs : List α} {i : Nat} {x : α} (h : xs[i]? = some x) : (xs.take (i + 1)).foldl f b = f ((xs.take i).foldl f b) x := by
  rw [List.take_add_one, h, List.foldl_append]
  rfl
theorem enum_at {ds : List D} {i : Nat} {d : D} (h : (enumL ds)[i]? = some d) : ∃ x, ds[i]? = some x ∧ d = .tuple [.int (i : Int), x] := by
  unfold enumL at h
  rw [List.getElem?_map, List.getElem?_zipIdx] at h
  cases hq : ds[i]? with
  | none => rw [hq] at h; cases h
  | some x =>
    rw [hq] at h
    simp at h
    exact ⟨x, rfl, h.symm⟩
theorem zipIdx_at {α : Type} {xs : List α} {i : Nat} {x : α} (h : xs[i]? = some x) : xs.zipIdx[i]? = some (x, i) := by
  rw [List.getElem?_zipIdx, h]
  simp
/-- what is asked of a level: rows of m numbers, small sums -/
def LvOk (m : Nat) (L : Lv) : Prop := ∀ p ∈ L, p.1.length = m ∧ Small p.2 ∧ p.2.length ≤ 1000
theorem next_ok (L : Lv) (cs barred : List (List Int)) (hL : LvOk cs.length L) (hz : L.length ≤ 1000000) (hc : cs.length ≤ 10) : G_next_level [lvD L, .list (cs.map rowD), .list (barred.map rowD)] = some (.ret true (lvD (nextL L cs barred))) := by
  refine run_wpR (R := fun r => r = some (.ret true (lvD (nextL L cs barred)))) ?_
  unfold g_next_level
  repeat (first | walk_at "ev" | simp only [dDnew])
  have hit : itemsD (kvL L) = L.map fun p => .tuple [rowD p.1, rowD p.2] := by
    unfold itemsD kvL
    rw [List.map_map]
    rfl
  refine wp_for (ds := L.map fun p => .tuple [rowD p.1, rowD p.2]) (by walk_at "ev"; rw [← hit]; rfl) (fun i e => ∃ x4 x5 x6 x7 x8, e = [some (.fz (lvD L)), some (.fz (.list (cs.map rowD))), some (.fz (.list (barred.map rowD))), some (.ow (lvD ((L.take i).foldl (rowStep cs barred) []))), x4, x5, x6, x7, x8]) ⟨_, _, _, _, _, rfl⟩ ?_ ?_
  · rintro i d e hi ⟨x4, x5, x6, x7, x8, rfl⟩
    obtain ⟨p, hp, rfl⟩ := map_at' hi
    have hil : i < L.length := (List.getElem?_eq_some_iff.mp hp).1
    obtain ⟨h1, h2, h3⟩ := hL p (List.mem_of_getElem? hp)
    have hacc : ((L.take i).foldl (rowStep cs barred) []).length ≤ 1000000 * 10 := by
      have := fold_len (f := rowStep cs barred) (n := cs.length) (fun acc c => rowStep_len) (L.take i) []
      have h4 : (L.take i).length * cs.length ≤ 1000000 * 10 := Nat.mul_le_mul (by rw [List.length_take]; omega) hc
      simp only [List.length_nil, Nat.zero_add] at this
      exact Nat.le_trans this h4
    rw [foldl_snoc _ _ hp]
    generalize (L.take i).foldl (rowStep cs barred) [] = A at hacc
    have hst : ∀ g (E : DEnv), stepO (gT 2 (gCons' (gN 4) (gCons' (gN 5) gNil'))) g (PyData.tuple [rowD p.1, rowD p.2]) E = g ((E.set 4 (some (.fz (rowD p.1)))).set 5 (some (.fz (rowD p.2)))) := fun _ _ => rfl
    rw [hst]
    walk_at "ev"
    refine wp_for1 (ds := enumL (cs.map rowD)) (by walk_at "ev"; rfl) (fun j e => ∃ x6 x7 x8, e = [some (.fz (lvD L)), some (.fz (.list (cs.map rowD))), some (.fz (.list (barred.map rowD))), some (.ow (lvD ((cs.zipIdx.take j).foldl (step1 barred p) A))), some (.fz (rowD p.1)), some (.fz (rowD p.2)), x6, x7, x8]) ⟨_, _, _, rfl⟩ ?_ ?_
    · rintro j d e hj ⟨x6, x7, x8, rfl⟩
      obtain ⟨x, hx, rfl⟩ := enum_at hj
      obtain ⟨c, hc1, rfl⟩ := map_at' hx
      have hjl : j < cs.length := (List.getElem?_eq_some_iff.mp hc1).1
      have hB : ((cs.zipIdx.take j).foldl (step1 barred p) A).length ≤ 1000000 * 10 + 10 := by
        have := fold_len (f := step1 barred p) (n := 1) (fun acc c => step1_len) (cs.zipIdx.take j) A
        rw [List.length_take, List.length_zipIdx] at this
        omega
      rw [foldl_snoc _ _ (zipIdx_at hc1)]
      generalize (cs.zipIdx.take j).foldl (step1 barred p) A = B at hB
      have hst2 : ∀ g (E : DEnv), stepO (gT 2 (gCons' (gN 6) (gCons' (gN 7) gNil'))) g (PyData.tuple [.int (j : Int), rowD c]) E = g ((E.set 6 (some (.fz (.int (j : Int))))).set 7 (some (.fz (rowD c)))) := fun _ _ => rfl
      rw [hst2]
      have w1 := weighed_ok p.2 c h2
      have w1 : G_weighed [rowD p.2, rowD c] = _ := w1
      have m1 := more_ok p.1 j (by omega) (by omega)
      have n1 := notIn_row B (oneMore p.1 j)
      have a1 := la_ok (oneMore p.1 j) barred
      have s1 := summed_ok p.2 c h3
      repeat (first | walk_at "ev" | simp only [w1])
      refine wp_if ?_ ?_ <;> intro hd
      · have hd : dot p.2 c < 0 := of_decide_eq_true hd
        repeat (first | walk_at "ev" | simp only [m1, n1, a1, ev_andM])
        have key : ∀ b1 b2 : Bool, hasRow B (oneMore p.1 j) = b1 → above (oneMore p.1 j) barred = b2 → step1 barred p B (c, j) = if (!b1 && !b2) = true then B ++ [(oneMore p.1 j, addR p.2 c)] else B := by
          intro b1 b2 e1 e2
          unfold step1
          simp only [e1, e2, hd, true_and]
          cases b1 <;> cases b2 <;> simp
        cases hb1 : hasRow B (oneMore p.1 j) <;> cases hb2 : above (oneMore p.1 j) barred <;> rw [key _ _ hb1 hb2] <;> repeat (first | walk_at "ev" | simp only [m1, n1, a1, hb1, hb2])
        · rw [ev_put (kvs := kvL B) (k := rowD (oneMore p.1 j)) (d := rowD (addR p.2 c)) rfl (by repeat (first | walk_at "ev" | simp only [s1])) rfl (keyOk_row _) (by unfold kvL; rw [List.length_map]; omega), put_new hb1]
          walk_at "ev"
          exact ⟨_, _, _, rfl⟩
        all_goals exact ⟨_, _, _, rfl⟩
      · have hd : ¬ dot p.2 c < 0 := of_decide_eq_false hd
        have : step1 barred p B (c, j) = B := by
          unfold step1
          rw [if_neg (fun h => hd h.1)]
        rw [this]
        walk_at "ev"
        exact ⟨_, _, _, rfl⟩
    · rintro e ⟨x6, x7, x8, rfl⟩
      have e1 : (enumL (cs.map rowD)).length = cs.zipIdx.length := by rw [enum_len, List.length_map, List.length_zipIdx]
      rw [e1, List.take_length]
      walk_at "ev"
      exact ⟨_, _, _, _, _, rfl⟩
  · rintro e ⟨x4, x5, x6, x7, x8, rfl⟩
    rw [List.length_map, List.take_length]
    walk_at "ev"
    rfl
end K25

namespace K25
open PySem PySem.Spec PyProof.Rows L2 DL
local macro_rules | `(tactic| walk_at "ev") => `(tactic| simp (disch := first | omega | (simp only [List.length_cons, List.length_nil, List.length_map, List.length_append, List.length_take, List.length_drop] <;> omega) | fail) only [cell_ok, pick_ok, startD, List.map_cons, List.map_nil, List.cons_append, List.nil_append, List.length_cons, List.length_nil, List.length_map, List.replicate, List.append_nil,
  ev_seq, ev_nx, ev_rt, ev_xc, ev_bk, ev_ct, ev_ss, ev_if, ev_ifT, ev_ifF, ev_stepN, lp_nx, lp_ct, lp_bk, lp_rt, lp_xc, wp_some,
  dSet, dSetO, dRet, dRetO, dRetVar, dNx, eS_ok, eS_mok, mbind_ok, mbind_mok, dTst, d2, d1, dVar, dVarS, dC, dCall, dCons, dNil, dFn, ev_ret, ev_exc, dAnd, dOr, dNot, dAndV, dOrV, dNotV, dTup, dLst, dApp, dSetIx, dAug, dYes, dIt, dItA,  wipeD, gN, gT, gCons', gNil', ev_appOk, ixN_ok, Option.bind_some,
  if_true, if_false, Bool.true_and, Bool.false_and, Bool.and_true, Bool.and_false, Bool.true_or, Bool.false_or, Bool.or_true, Bool.or_false, Bool.not_true, Bool.not_false, decide_true, decide_false, reduceIte, Bool.false_eq_true,
  Int.reduceToNat, Int.reduceAdd, Int.reduceSub, Int.reduceMul, Int.reduceMod, Int.reduceLT, Int.reduceLE, Int.reduceEq, Nat.reduceAdd, Nat.reduceSub, Nat.reduceEqDiff, Nat.reduceLT, Int.reducePow, gt_iff_lt, ge_iff_le, Int.reduceGT, Int.toNat_zero, Int.toNat_one, List.set_cons_zero, List.set_cons_succ, List.getD_cons_zero, List.getD_cons_succ, decide_eq_true_eq, decide_eq_false_iff_not,
  List.getElem?_cons_zero, List.getElem?_cons_succ, addD_int, iaddD_int, subD_int, ltD_int, leD_int, gtD_int, geD_int, eqD_int, neD_int, eqD_bool, asB_bool, lenD_list, lenD_tuple, tupleD_list, tupleD_tuple, listD_list, listD_tuple, resOf, mulD_r, mulD_l, modD_int, divD_int, powD_int, addD_list, addL_list, addD_tuple, cutD_toT, cutD_fromT, cutD_toL, cutD_fromL, cutO_toL, cutO_fromL, sortD_list, sortD_tuple, zipD_list, zipD_tuple, asLT_list, asLT_tuple, dFnO, dResO, dFnS, List.take_succ_cons, List.take_zero, List.drop_succ_cons, List.drop_zero, addD_T, iaddD_T, lenD_T, cutD_to, cutD_from, eqD_T, neD_T, isiD_str, dSl, dSome, dNo, asI_int, letter_small, letter_great, ev_andM, ev_orM, maxD_int, minD_int, absD_int, isiD_bool, getD'_ints, getD'_intsT, getD'_atC, getD'_atCT, rngD_one, rngD_two, isNotD_none, isD_none])
local macro_rules | `(tactic| walk_at "un") => `(tactic| simp (disch := first | omega | (simp only [List.length_cons, List.length_nil, List.length_map, List.length_append, List.length_take, List.length_drop] <;> omega) | fail) only [cell_ok, pick_ok, dFor, ev_forN, ev_forS, ev_lnx, ev_lct, ev_lbk, ev_lrt, ev_lxc, rngL_step, rngL_nil, range_0, range_1, range_2, range_3, range_4, range_5, startD, List.map_cons, List.map_nil, List.cons_append, List.nil_append, List.length_cons, List.length_nil, List.length_map, List.replicate, List.append_nil,
  ev_seq, ev_nx, ev_rt, ev_xc, ev_bk, ev_ct, ev_ss, ev_if, ev_ifT, ev_ifF, ev_stepN, lp_nx, lp_ct, lp_bk, lp_rt, lp_xc, wp_some,
  dSet, dSetO, dRet, dRetO, dRetVar, dNx, eS_ok, eS_mok, mbind_ok, mbind_mok, dTst, d2, d1, dVar, dVarS, dC, dCall, dCons, dNil, dFn, ev_ret, ev_exc, dAnd, dOr, dNot, dAndV, dOrV, dNotV, dTup, dLst, dApp, dSetIx, dAug, dYes, dIt, dItA,  wipeD, gN, gT, gCons', gNil', ev_appOk, ixN_ok, Option.bind_some,
  if_true, if_false, Bool.true_and, Bool.false_and, Bool.and_true, Bool.and_false, Bool.true_or, Bool.false_or, Bool.or_true, Bool.or_false, Bool.not_true, Bool.not_false, decide_true, decide_false, reduceIte, Bool.false_eq_true,
  Int.reduceToNat, Int.reduceAdd, Int.reduceSub, Int.reduceMul, Int.reduceMod, Int.reduceLT, Int.reduceLE, Int.reduceEq, Nat.reduceAdd, Nat.reduceSub, Nat.reduceEqDiff, Nat.reduceLT, Int.reducePow, gt_iff_lt, ge_iff_le, Int.reduceGT, Int.toNat_zero, Int.toNat_one, List.set_cons_zero, List.set_cons_succ, List.getD_cons_zero, List.getD_cons_succ, decide_eq_true_eq, decide_eq_false_iff_not,
  List.getElem?_cons_zero, List.getElem?_cons_succ, addD_int, iaddD_int, subD_int, ltD_int, leD_int, gtD_int, geD_int, eqD_int, neD_int, eqD_bool, asB_bool, lenD_list, lenD_tuple, tupleD_list, tupleD_tuple, listD_list, listD_tuple, resOf, mulD_r, mulD_l, modD_int, divD_int, powD_int, addD_list, addL_list, addD_tuple, cutD_toT, cutD_fromT, cutD_toL, cutD_fromL, cutO_toL, cutO_fromL, sortD_list, sortD_tuple, zipD_list, zipD_tuple, asLT_list, asLT_tuple, dFnO, dResO, dFnS, List.take_succ_cons, List.take_zero, List.drop_succ_cons, List.drop_zero, addD_T, iaddD_T, lenD_T, cutD_to, cutD_from, eqD_T, neD_T, isiD_str, dSl, dSome, dNo, asI_int, letter_small, letter_great, ev_andM, ev_orM, maxD_int, minD_int, absD_int, isiD_bool, getD'_ints, getD'_intsT, getD'_atC, getD'_atCT, rngD_one, rngD_two, isNotD_none, isD_none])
/-! ### grown -/
theorem ev_whileT {p : DEnv → M Bool} {g : DEnv → Option Out} {n : Nat} {env e : DEnv} (h : p env = mok true) (h2 : g env = some (.nx e)) : whileD p g (n + 1) env = whileD p g n e := by
  rw [whileD, h, eS_mok]
  simp only [if_true, h2]
theorem ev_whileF {p : DEnv → M Bool} {g : DEnv → Option Out} {n : Nat} {env : DEnv} (h : p env = mok false) : whileD p g (n + 1) env = some (.nx env) := by
  rw [whileD, h, eS_mok]
  rfl
def evens (L : Lv) : List (List Int) := (L.filter fun p => even p.2).map (·.1)
theorem row_nd (r : List Int) : Nd 3 (rowD r) := nd_tuple (n := 2) (mem_map_nd fun _ _ => nd_int)
theorem alike_ints : ∀ a b : List Int, PySem.W.alikeAll (a.map PyData.int) (b.map PyData.int) = true
  | [], b => by simp [PySem.W.alikeAll]
  | _ :: _, [] => by simp [PySem.W.alikeAll]
  | x :: xs, y :: ys => by
    rw [List.map_cons, List.map_cons, PySem.W.alikeAll, alike_ints xs ys]
    simp [PySem.W.alike]
theorem sort_rows {f : List (List Int)} (h : ∀ r ∈ f, r ≠ []) : sortL (f.map rowD) = mok (.list (srt (f.map rowD))) := by
  unfold sortL
  rw [if_pos]
  refine ⟨?_, ?_⟩
  · unfold srtOk alikeL
    simp only [Bool.and_eq_true, List.all_eq_true, Bool.or_eq_true, decide_eq_true_eq]
    refine ⟨⟨fun x hx y hy => ?_, .inl (.inl fun x hx => ?_)⟩, fun x hx => ?_⟩
    · obtain ⟨a, ha, rfl⟩ := List.mem_map.mp hx
      obtain ⟨b, hb, rfl⟩ := List.mem_map.mp hy
      unfold rowD
      rw [PySem.W.alike]
      exact alike_ints a b
    · obtain ⟨a, ha, rfl⟩ := List.mem_map.mp hx
      have := h a ha
      cases a with
      | nil => exact absurd rfl this
      | cons x l => rfl
    · obtain ⟨a, ha, rfl⟩ := List.mem_map.mp hx
      exact (row_nd a).eqOk (by omega)
  · rw [List.all_eq_true]
    intro x hx
    obtain ⟨a, ha, rfl⟩ := List.mem_map.mp hx
    rfl
theorem ints_inj : ∀ a b : List Int, a.map PyData.int = b.map PyData.int → a = b
  | [], [], _ => rfl
  | [], _ :: _, h => by simp at h
  | _ :: _, [], h => by simp at h
  | x :: xs, y :: ys, h => by
    rw [List.map_cons, List.map_cons] at h
    injection h with h1 h2
    injection h1 with h1
    rw [h1, ints_inj xs ys h2]
theorem srt_rows (f : List (List Int)) : ∃ g : List (List Int), srt (f.map rowD) = g.map rowD ∧ g.Perm f := by
  have hp : (srt (f.map rowD)).Perm (f.map rowD) := List.mergeSort_perm _ _
  have inj : ∀ a b : List Int, rowD a = rowD b → a = b := by
    intro a b h
    unfold rowD at h
    injection h with h
    exact ints_inj a b h
  obtain ⟨g, e, _⟩ := map_of (f := rowD) (out := srt (f.map rowD)) (P := fun t => t ∈ f) fun d hd => by
    obtain ⟨t, ht, rfl⟩ := List.mem_map.mp (hp.mem_iff.mp hd)
    exact ⟨t, rfl, ht⟩
  refine ⟨g, e, ?_⟩
  rw [e] at hp
  exact perm_map inj hp
/-- what a run of grown keeps: n more turns at most -/
structure Runs (cs barred : List (List Int)) (I : Nat → List (List Int) → Lv → Prop) : Prop where
  stop : ∀ f L, I 0 f L → L = []
  step : ∀ n f L, I (n + 1) f L → L ≠ [] → I n (f ++ evens L) (nextL L cs ((f ++ evens L) ++ barred))
  ok : ∀ n f L, I n f L → LvOk cs.length L ∧ L.length ≤ 1000000 ∧ f.length ≤ 1000000 ∧ ∀ r ∈ f, r ≠ []
theorem grown_ok {cs barred : List (List Int)} {I : Nat → List (List Int) → Lv → Prop} (hI : Runs cs barred I) {n : Nat} {L : Lv} (h : I n [] L) (hn : n < 1000) (hc : cs.length ≤ 10) (hb : barred.length ≤ 1000000) :
    ∃ k f, I k f [] ∧ G_grown [lvD L, .list (cs.map rowD), .list (barred.map rowD)] = some (.ret true (.list (srt (f.map rowD)))) := by
  suffices hs : ∃ k f, I k f [] ∧ Wp (g_grown (startD 6 [lvD L, .list (cs.map rowD), .list (barred.map rowD)])) (fun o => resOf (some o) = some (.ret true (.list (srt (f.map rowD))))) by
    obtain ⟨k, f, h1, h2⟩ := hs
    exact ⟨k, f, h1, run_wpR (R := fun r => r = some (.ret true (.list (srt (f.map rowD))))) h2⟩
  have loop : ∀ (m n : Nat) (f : List (List Int)) (L : Lv) (x4 x5 : Option Sl), I n f L → n < m → ∃ k f' x4' x5', I k f' [] ∧ whileD (dTst (d2 neE (dVarS 0) dDnew))
      (dSeq (dAugL 3 (dLc [4, 5] (gT 2 (gCons' (gN 4) (gCons' (gN 5) gNil'))) (dIt asItems (dVar 0)) (dTst (dFn (fun ds => G_is_even (ds ++ [])) (dCons (dVar 5) dNil))) (dVar 4)))
        (dSet 0 (dFn (fun ds => G_next_level (ds ++ [])) (dCons (dVar 0) (dCons (dVar 1) (dCons (d2 addD (dVarS 3) (dVarS 2)) dNil)))))) m
      [some (.fz (lvD L)), some (.fz (.list (cs.map rowD))), some (.fz (.list (barred.map rowD))), some (.ow (.list (f.map rowD))), x4, x5] = some (.nx [some (.fz (lvD [])), some (.fz (.list (cs.map rowD))), some (.fz (.list (barred.map rowD))), some (.ow (.list (f'.map rowD))), x4', x5']) := by
    intro m
    induction m with
    | zero => intro n f L x4 x5 h hm; omega
    | succ m ih =>
      intro n f L x4 x5 h hm
      have hne : neE (lvD L) (.dict []) = mok (.bool (!(L.length == 0))) := by
        unfold lvD neE
        simp only [kvL, List.length_map]
      cases hL : L with
      | nil =>
        subst hL
        refine ⟨n, f, x4, x5, h, ev_whileF ?_⟩
        simp only [dTst, d2, dVarS, List.getElem?_cons_zero, dDnew, mbind_mok, hne]
        rfl
      | cons p L' =>
        rw [← hL]
        have hLn : L ≠ [] := by rw [hL]; intro z; cases z
        cases n with
        | zero => exact absurd (hI.stop f L h) hLn
        | succ n =>
          have h2 := hI.step n f L h hLn
          obtain ⟨o1, o2, o3, o4⟩ := hI.ok _ _ _ h
          obtain ⟨o5, o6, o7, o8⟩ := hI.ok _ _ _ h2
          obtain ⟨k, f', x4', x5', h3, h4⟩ := ih n _ _ x4 x5 h2 (by omega)
          refine ⟨k, f', x4', x5', h3, ?_⟩
          rw [ev_whileT (e := [some (.fz (lvD (nextL L cs ((f ++ evens L) ++ barred)))), some (.fz (.list (cs.map rowD))), some (.fz (.list (barred.map rowD))), some (.ow (.list ((f ++ evens L).map rowD))), x4, x5])]
          · exact h4
          · simp only [dTst, d2, dVarS, List.getElem?_cons_zero, dDnew, mbind_mok, hne]
            rw [hL]
            rfl
          · have hit : itemsD (kvL L) = L.map fun p => .tuple [rowD p.1, rowD p.2] := by
              unfold itemsD kvL
              rw [List.map_map]
              rfl
            have hlc : dLc [4, 5] (gT 2 (gCons' (gN 4) (gCons' (gN 5) gNil'))) (dIt asItems (dVar 0)) (dTst (dFn (fun ds => G_is_even (ds ++ [])) (dCons (dVar 5) dNil))) (dVar 4) [some (.fz (lvD L)), some (.fz (.list (cs.map rowD))), some (.fz (.list (barred.map rowD))), some (.ow (.list (f.map rowD))), x4, x5] = mok (.list ((evens L).map rowD)) := by
              unfold evens
              rw [List.map_map]
              refine dLc_flt (xs := L) (ei := fun p => .tuple [rowD p.1, rowD p.2]) (fun p => even p.2) (fun p => rowD p.1) (by walk_at "ev"; rw [← hit]; rfl) (by omega) fun p hp => ⟨_, rfl, ?_, fun _ => rfl⟩
              have := even_ok p.2 (o1 p hp).2.2
              repeat (first | walk_at "ev" | simp only [this])
            have hel : (evens L).length ≤ 1000000 := by
              unfold evens
              rw [List.length_map]
              exact Nat.le_trans (List.length_filter_le _ _) o2
            have hnx := next_ok L cs ((f ++ evens L) ++ barred) o1 o2 hc
            have had : addD (.list ((f ++ evens L).map rowD)) (.list (barred.map rowD)) = mok (.list (((f ++ evens L) ++ barred).map rowD)) := by
              rw [addD_list (by rw [List.length_map, List.length_map]; omega), ← List.map_append]
            rw [dSeq_def, ev_augL (ds := f.map rowD) (es := (evens L).map rowD) rfl hlc (by rw [List.length_map, List.length_map]; omega)]
            simp only [List.set_cons_zero, List.set_cons_succ, ← List.map_append]
            simp only [dSet, dFn, dCons, dNil, dVar, dVarS, d2, List.getElem?_cons_zero, List.getElem?_cons_succ, mbind_mok, had, List.append_nil, hnx, dRes, eS_mok, List.set_cons_zero]
  unfold g_grown
  obtain ⟨k, f, x4', x5', h1, h2⟩ := loop 1000 n [] L none none h hn
  refine ⟨k, f, h1, ?_⟩
  obtain ⟨_, _, _, o4⟩ := hI.ok _ _ _ h1
  have hso := sort_rows o4
  walk_at "ev"
  have h2' := h2
  simp only [List.append_nil, List.map_nil] at h2'
  rw [h2']
  repeat (first | walk_at "ev" | simp only [hso])
end K25

namespace K25
open PySem PySem.Spec PyProof.Rows L2 DL
local macro_rules | `(tactic| walk_at "ev") => `(tactic| simp (disch := first | omega | (simp only [List.length_cons, List.length_nil, List.length_map, List.length_append, List.length_take, List.length_drop] <;> omega) | fail) only [cell_ok, pick_ok, startD, List.map_cons, List.map_nil, List.cons_append, List.nil_append, List.length_cons, List.length_nil, List.length_map, List.replicate, List.append_nil,
  ev_seq, ev_nx, ev_rt, ev_xc, ev_bk, ev_ct, ev_ss, ev_if, ev_ifT, ev_ifF, ev_stepN, lp_nx, lp_ct, lp_bk, lp_rt, lp_xc, wp_some,
  dSet, dSetO, dRet, dRetO, dRetVar, dNx, eS_ok, eS_mok, mbind_ok, mbind_mok, dTst, d2, d1, dVar, dVarS, dC, dCall, dCons, dNil, dFn, ev_ret, ev_exc, dAnd, dOr, dNot, dAndV, dOrV, dNotV, dTup, dLst, dApp, dSetIx, dAug, dYes, dIt, dItA,  wipeD, gN, gT, gCons', gNil', ev_appOk, ixN_ok, Option.bind_some,
  if_true, if_false, Bool.true_and, Bool.false_and, Bool.and_true, Bool.and_false, Bool.true_or, Bool.false_or, Bool.or_true, Bool.or_false, Bool.not_true, Bool.not_false, decide_true, decide_false, reduceIte, Bool.false_eq_true,
  Int.reduceToNat, Int.reduceAdd, Int.reduceSub, Int.reduceMul, Int.reduceMod, Int.reduceLT, Int.reduceLE, Int.reduceEq, Nat.reduceAdd, Nat.reduceSub, Nat.reduceEqDiff, Nat.reduceLT, Int.reducePow, gt_iff_lt, ge_iff_le, Int.reduceGT, Int.toNat_zero, Int.toNat_one, List.set_cons_zero, List.set_cons_succ, List.getD_cons_zero, List.getD_cons_succ, decide_eq_true_eq, decide_eq_false_iff_not,
  List.getElem?_cons_zero, List.getElem?_cons_succ, addD_int, iaddD_int, subD_int, ltD_int, leD_int, gtD_int, geD_int, eqD_int, neD_int, eqD_bool, asB_bool, lenD_list, lenD_tuple, tupleD_list, tupleD_tuple, listD_list, listD_tuple, resOf, mulD_r, mulD_l, modD_int, divD_int, powD_int, addD_list, addL_list, addD_tuple, cutD_toT, cutD_fromT, cutD_toL, cutD_fromL, cutO_toL, cutO_fromL, sortD_list, sortD_tuple, zipD_list, zipD_tuple, asLT_list, asLT_tuple, dFnO, dResO, dFnS, List.take_succ_cons, List.take_zero, List.drop_succ_cons, List.drop_zero, addD_T, iaddD_T, lenD_T, cutD_to, cutD_from, eqD_T, neD_T, isiD_str, dSl, dSome, dNo, asI_int, letter_small, letter_great, ev_andM, ev_orM, maxD_int, minD_int, absD_int, isiD_bool, getD'_ints, getD'_intsT, getD'_atC, getD'_atCT, rngD_one, rngD_two, isNotD_none, isD_none])
local macro_rules | `(tactic| walk_at "un") => `(tactic| simp (disch := first | omega | (simp only [List.length_cons, List.length_nil, List.length_map, List.length_append, List.length_take, List.length_drop] <;> omega) | fail) only [cell_ok, pick_ok, dFor, ev_forN, ev_forS, ev_lnx, ev_lct, ev_lbk, ev_lrt, ev_lxc, rngL_step, rngL_nil, range_0, range_1, range_2, range_3, range_4, range_5, startD, List.map_cons, List.map_nil, List.cons_append, List.nil_append, List.length_cons, List.length_nil, List.length_map, List.replicate, List.append_nil,
  ev_seq, ev_nx, ev_rt, ev_xc, ev_bk, ev_ct, ev_ss, ev_if, ev_ifT, ev_ifF, ev_stepN, lp_nx, lp_ct, lp_bk, lp_rt, lp_xc, wp_some,
  dSet, dSetO, dRet, dRetO, dRetVar, dNx, eS_ok, eS_mok, mbind_ok, mbind_mok, dTst, d2, d1, dVar, dVarS, dC, dCall, dCons, dNil, dFn, ev_ret, ev_exc, dAnd, dOr, dNot, dAndV, dOrV, dNotV, dTup, dLst, dApp, dSetIx, dAug, dYes, dIt, dItA,  wipeD, gN, gT, gCons', gNil', ev_appOk, ixN_ok, Option.bind_some,
  if_true, if_false, Bool.true_and, Bool.false_and, Bool.and_true, Bool.and_false, Bool.true_or, Bool.false_or, Bool.or_true, Bool.or_false, Bool.not_true, Bool.not_false, decide_true, decide_false, reduceIte, Bool.false_eq_true,
  Int.reduceToNat, Int.reduceAdd, Int.reduceSub, Int.reduceMul, Int.reduceMod, Int.reduceLT, Int.reduceLE, Int.reduceEq, Nat.reduceAdd, Nat.reduceSub, Nat.reduceEqDiff, Nat.reduceLT, Int.reducePow, gt_iff_lt, ge_iff_le, Int.reduceGT, Int.toNat_zero, Int.toNat_one, List.set_cons_zero, List.set_cons_succ, List.getD_cons_zero, List.getD_cons_succ, decide_eq_true_eq, decide_eq_false_iff_not,
  List.getElem?_cons_zero, List.getElem?_cons_succ, addD_int, iaddD_int, subD_int, ltD_int, leD_int, gtD_int, geD_int, eqD_int, neD_int, eqD_bool, asB_bool, lenD_list, lenD_tuple, tupleD_list, tupleD_tuple, listD_list, listD_tuple, resOf, mulD_r, mulD_l, modD_int, divD_int, powD_int, addD_list, addL_list, addD_tuple, cutD_toT, cutD_fromT, cutD_toL, cutD_fromL, cutO_toL, cutO_fromL, sortD_list, sortD_tuple, zipD_list, zipD_tuple, asLT_list, asLT_tuple, dFnO, dResO, dFnS, List.take_succ_cons, List.take_zero, List.drop_succ_cons, List.drop_zero, addD_T, iaddD_T, lenD_T, cutD_to, cutD_from, eqD_T, neD_T, isiD_str, dSl, dSome, dNo, asI_int, letter_small, letter_great, ev_andM, ev_orM, maxD_int, minD_int, absD_int, isiD_bool, getD'_ints, getD'_intsT, getD'_atC, getD'_atCT, rngD_one, rngD_two, isNotD_none, isD_none])
/-! ### the bounds -/
def isD (t : Bool) (xs : List Int) : D := if t then .tuple (xs.map .int) else .list (xs.map .int)
theorem asLT_is {t : Bool} {xs : List Int} : asLT (isD t xs) = mok (xs.map .int) := by cases t <;> rfl
def Bad (R : List (List Int)) (m : Int) (right : List Int) : Prop := 16 < R.length ∨ 4 < m ∨ (∃ r ∈ R, ∃ n ∈ r, 3 < n.natAbs) ∨ ∃ n ∈ right, 20 < n.natAbs
theorem ask_ok (E : Errs) (t u : Bool) (R : List (List Int)) (m : Int) (right : List Int) :
    (Bad R m right ∧ G_ask_bounds E [rsD t R, .int m, isD u right] = some (.exc (.ref (E.c "TooMany")))) ∨ (¬ Bad R m right ∧ G_ask_bounds E [rsD t R, .int m, isD u right] = some (.ret false .none)) := by
  refine run_wpR (R := fun r => (Bad R m right ∧ r = some (.exc (.ref (E.c "TooMany")))) ∨ (¬ Bad R m right ∧ r = some (.ret false .none))) ?_
  unfold g_ask_bounds
  repeat (first | walk_at "ev" | simp only [lenD_rs, ev_orM])
  refine wp_ifK ?_ ?_
  · intro hc
    simp only [Bool.or_eq_true, decide_eq_true_eq] at hc
    simp only [dRaise, ev_xc, wp_some, resOf]
    refine .inl ⟨?_, trivial⟩
    rcases hc with hc | hc
    · exact .inl (by omega)
    · exact .inr (.inl hc)
  intro hc
  simp only [Bool.or_eq_false_iff, decide_eq_false_iff_not] at hc
  walk_at "ev"
  refine wp_for (ds := R.map rowD) (by repeat (first | walk_at "ev" | simp only [asLT_rs])) (fun i e => (∃ x3 x4, e = [some (.fz (rsD t R)), some (.fz (.int m)), some (.fz (isD u right)), x3, x4]) ∧ ∀ r ∈ R.take i, ∀ n ∈ r, n.natAbs ≤ 3) ⟨⟨_, _, rfl⟩, by simp⟩ ?_ ?_
  · rintro i d e hi ⟨⟨x3, x4, rfl⟩, hg⟩
    obtain ⟨r, hr, rfl⟩ := map_at' hi
    have hrm := List.mem_of_getElem? hr
    walk_at "ev"
    refine wp_for1 (ds := r.map .int) (by walk_at "ev"; rfl) (fun j e => (∃ x4, e = [some (.fz (rsD t R)), some (.fz (.int m)), some (.fz (isD u right)), some (.fz (rowD r)), x4]) ∧ ∀ n ∈ r.take j, n.natAbs ≤ 3) ⟨⟨_, rfl⟩, by simp⟩ ?_ ?_
    · rintro j d e hj ⟨⟨x4, rfl⟩, hg2⟩
      obtain ⟨n, hn, rfl⟩ := map_at' hj
      repeat (first | walk_at "ev" | simp only [absD_int])
      refine wp_if ?_ ?_ <;> intro hc2
      · have hc2 := of_decide_eq_true hc2
        simp only [dRaise, wp_some, lp_xc, resOf]
        refine .inl ⟨.inr (.inr (.inl ⟨r, hrm, n, List.mem_of_getElem? hn, ?_⟩)), trivial⟩
        split at hc2 <;> omega
      · have hc2 := of_decide_eq_false hc2
        walk_at "ev"
        refine ⟨⟨_, rfl⟩, fun k hk => ?_⟩
        rw [List.take_add_one, hn] at hk
        rcases List.mem_append.mp hk with hk | hk
        · exact hg2 k hk
        · simp at hk
          subst hk
          split at hc2 <;> omega
    · rintro e ⟨⟨x4, rfl⟩, hg2⟩
      rw [List.length_map, List.take_length] at hg2
      walk_at "ev"
      refine ⟨⟨_, _, rfl⟩, fun q hq => ?_⟩
      rw [List.take_add_one, hr] at hq
      rcases List.mem_append.mp hq with hq | hq
      · exact hg q hq
      · simp at hq
        subst hq
        exact hg2
  · rintro e ⟨⟨x3, x4, rfl⟩, hg⟩
    rw [List.length_map, List.take_length] at hg
    refine wp_for1 (ds := right.map .int) (by repeat (first | walk_at "ev" | simp only [asLT_is])) (fun j e => (∃ x4, e = [some (.fz (rsD t R)), some (.fz (.int m)), some (.fz (isD u right)), x3, x4]) ∧ ∀ n ∈ right.take j, n.natAbs ≤ 20) ⟨⟨_, rfl⟩, by simp⟩ ?_ ?_
    · rintro j d e hj ⟨⟨x4, rfl⟩, hg2⟩
      obtain ⟨n, hn, rfl⟩ := map_at' hj
      repeat (first | walk_at "ev" | simp only [absD_int])
      refine wp_if ?_ ?_ <;> intro hc2
      · have hc2 := of_decide_eq_true hc2
        simp only [dRaise, wp_some, lp_xc, resOf]
        refine .inl ⟨.inr (.inr (.inr ⟨n, List.mem_of_getElem? hn, ?_⟩)), trivial⟩
        split at hc2 <;> omega
      · have hc2 := of_decide_eq_false hc2
        walk_at "ev"
        refine ⟨⟨_, rfl⟩, fun k hk => ?_⟩
        rw [List.take_add_one, hn] at hk
        rcases List.mem_append.mp hk with hk | hk
        · exact hg2 k hk
        · simp at hk
          subst hk
          split at hc2 <;> omega
    · rintro e ⟨⟨x4, rfl⟩, hg2⟩
      rw [List.length_map, List.take_length] at hg2
      refine .inr ⟨?_, rfl⟩
      rintro (z | z | ⟨r, hr, n, hn, z⟩ | ⟨n, hn, z⟩)
      · omega
      · omega
      · have := hg r hr n hn
        omega
      · have := hg2 n hn
        omega
theorem ask_bad {E : Errs} {t u : Bool} {R : List (List Int)} {m : Int} {right : List Int} (h : Bad R m right) : G_ask_bounds E [rsD t R, .int m, isD u right] = some (.exc (.ref (E.c "TooMany"))) := by
  rcases ask_ok E t u R m right with ⟨_, z⟩ | ⟨z, _⟩
  · exact z
  · exact absurd h z
theorem ask_good {E : Errs} {t u : Bool} {R : List (List Int)} {m : Int} {right : List Int} (h : ¬ Bad R m right) : G_ask_bounds E [rsD t R, .int m, isD u right] = some (.ret false .none) := by
  rcases ask_ok E t u R m right with ⟨z, _⟩ | ⟨_, z⟩
  · exact absurd z h
  · exact z
/-! ### least -/
def zeros (m : Nat) : List Int := List.replicate m 0
theorem rep_zeros {m : Nat} {x : Int} (h0 : 1 ≤ m) (h1 : m ≤ 1000) : repT (.tuple [.int x]) (.int m) = mok (rowD (List.replicate m x)) := by
  show (if ([.int x] : List D) ≠ [] ∧ 1 ≤ (m : Int) ∧ (m : Int) ≤ 1000 ∧ ([.int x] : List D).length ≤ 1000 then mok (PyData.tuple (List.replicate (m : Int).toNat [.int x]).flatten) else none) = _
  rw [if_pos ⟨by simp, by omega, by omega, by simp⟩, Int.toNat_natCast]
  unfold rowD
  rw [List.map_replicate]
  congr 2
  induction m with
  | zero => rfl
  | succ m ih =>
    rw [List.replicate_succ, List.replicate_succ, List.flatten_cons]
    by_cases h : m = 0
    · subst h; rfl
    · rw [ih (by omega) (by omega)]
      rfl
def unit (m k : Nat) : List Int := oneMore (zeros m) k
def startL (cs : List (List Int)) (m : Nat) : Lv := cs.zipIdx.map fun c => (unit m c.2, c.1)
theorem unit_get {m k j : Nat} (hk : k < m) (hj : j < m) : (unit m k).getD j 0 = if j = k then 1 else 0 := by
  unfold unit oneMore zeros
  rw [List.getD_eq_getElem?_getD]
  rcases Nat.lt_trichotomy j k with h | h | h
  · rw [List.append_assoc, List.getElem?_append_left (by simp; omega), List.getElem?_take_of_lt h, if_neg (by omega)]
    simp [List.getElem?_replicate, hj]
  · subst h
    rw [if_pos rfl, List.getElem?_append_left (by simp; omega), List.getElem?_append_right (by simp; omega)]
    simp [List.getElem?_replicate, hj, Nat.min_eq_left (Nat.le_of_lt hj)]
  · rw [if_neg (by omega), List.getElem?_append_right (by simp; omega)]
    simp [List.getElem?_drop, List.getElem?_replicate]
    split <;> rfl
theorem unit_len {m k : Nat} (hk : k < m) : (unit m k).length = m := by
  unfold unit oneMore zeros
  simp only [List.length_append, List.length_take, List.length_replicate, List.length_cons, List.length_nil, List.length_drop]
  omega
theorem unit_ne {m k j : Nat} (hk : k < m) (hj : j < m) (h : k ≠ j) : unit m k ≠ unit m j := by
  intro e
  have h1 := unit_get hk hk
  rw [e, unit_get hj hk, if_pos rfl, if_neg h] at h1
  omega
end K25

namespace K25
open PySem PySem.Spec PyProof.Rows L2 DL
local macro_rules | `(tactic| walk_at "ev") => `(tactic| simp (disch := first | omega | (simp only [List.length_cons, List.length_nil, List.length_map, List.length_append, List.length_take, List.length_drop] <;> omega) | fail) only [cell_ok, pick_ok, startD, List.map_cons, List.map_nil, List.cons_append, List.nil_append, List.length_cons, List.length_nil, List.length_map, List.replicate, List.append_nil,
  ev_seq, ev_nx, ev_rt, ev_xc, ev_bk, ev_ct, ev_ss, ev_if, ev_ifT, ev_ifF, ev_stepN, lp_nx, lp_ct, lp_bk, lp_rt, lp_xc, wp_some,
  dSet, dSetO, dRet, dRetO, dRetVar, dNx, eS_ok, eS_mok, mbind_ok, mbind_mok, dTst, d2, d1, dVar, dVarS, dC, dCall, dCons, dNil, dFn, ev_ret, ev_exc, dAnd, dOr, dNot, dAndV, dOrV, dNotV, dTup, dLst, dApp, dSetIx, dAug, dYes, dIt, dItA,  wipeD, gN, gT, gCons', gNil', ev_appOk, ixN_ok, Option.bind_some,
  if_true, if_false, Bool.true_and, Bool.false_and, Bool.and_true, Bool.and_false, Bool.true_or, Bool.false_or, Bool.or_true, Bool.or_false, Bool.not_true, Bool.not_false, decide_true, decide_false, reduceIte, Bool.false_eq_true,
  Int.reduceToNat, Int.reduceAdd, Int.reduceSub, Int.reduceMul, Int.reduceMod, Int.reduceLT, Int.reduceLE, Int.reduceEq, Nat.reduceAdd, Nat.reduceSub, Nat.reduceEqDiff, Nat.reduceLT, Int.reducePow, gt_iff_lt, ge_iff_le, Int.reduceGT, Int.toNat_zero, Int.toNat_one, List.set_cons_zero, List.set_cons_succ, List.getD_cons_zero, List.getD_cons_succ, decide_eq_true_eq, decide_eq_false_iff_not,
  List.getElem?_cons_zero, List.getElem?_cons_succ, addD_int, iaddD_int, subD_int, ltD_int, leD_int, gtD_int, geD_int, eqD_int, neD_int, eqD_bool, asB_bool, lenD_list, lenD_tuple, tupleD_list, tupleD_tuple, listD_list, listD_tuple, resOf, mulD_r, mulD_l, modD_int, divD_int, powD_int, addD_list, addL_list, addD_tuple, cutD_toT, cutD_fromT, cutD_toL, cutD_fromL, cutO_toL, cutO_fromL, sortD_list, sortD_tuple, zipD_list, zipD_tuple, asLT_list, asLT_tuple, dFnO, dResO, dFnS, List.take_succ_cons, List.take_zero, List.drop_succ_cons, List.drop_zero, addD_T, iaddD_T, lenD_T, cutD_to, cutD_from, eqD_T, neD_T, isiD_str, dSl, dSome, dNo, asI_int, letter_small, letter_great, ev_andM, ev_orM, maxD_int, minD_int, absD_int, isiD_bool, getD'_ints, getD'_intsT, getD'_atC, getD'_atCT, rngD_one, rngD_two, isNotD_none, isD_none])
local macro_rules | `(tactic| walk_at "un") => `(tactic| simp (disch := first | omega | (simp only [List.length_cons, List.length_nil, List.length_map, List.length_append, List.length_take, List.length_drop] <;> omega) | fail) only [cell_ok, pick_ok, dFor, ev_forN, ev_forS, ev_lnx, ev_lct, ev_lbk, ev_lrt, ev_lxc, rngL_step, rngL_nil, range_0, range_1, range_2, range_3, range_4, range_5, startD, List.map_cons, List.map_nil, List.cons_append, List.nil_append, List.length_cons, List.length_nil, List.length_map, List.replicate, List.append_nil,
  ev_seq, ev_nx, ev_rt, ev_xc, ev_bk, ev_ct, ev_ss, ev_if, ev_ifT, ev_ifF, ev_stepN, lp_nx, lp_ct, lp_bk, lp_rt, lp_xc, wp_some,
  dSet, dSetO, dRet, dRetO, dRetVar, dNx, eS_ok, eS_mok, mbind_ok, mbind_mok, dTst, d2, d1, dVar, dVarS, dC, dCall, dCons, dNil, dFn, ev_ret, ev_exc, dAnd, dOr, dNot, dAndV, dOrV, dNotV, dTup, dLst, dApp, dSetIx, dAug, dYes, dIt, dItA,  wipeD, gN, gT, gCons', gNil', ev_appOk, ixN_ok, Option.bind_some,
  if_true, if_false, Bool.true_and, Bool.false_and, Bool.and_true, Bool.and_false, Bool.true_or, Bool.false_or, Bool.or_true, Bool.or_false, Bool.not_true, Bool.not_false, decide_true, decide_false, reduceIte, Bool.false_eq_true,
  Int.reduceToNat, Int.reduceAdd, Int.reduceSub, Int.reduceMul, Int.reduceMod, Int.reduceLT, Int.reduceLE, Int.reduceEq, Nat.reduceAdd, Nat.reduceSub, Nat.reduceEqDiff, Nat.reduceLT, Int.reducePow, gt_iff_lt, ge_iff_le, Int.reduceGT, Int.toNat_zero, Int.toNat_one, List.set_cons_zero, List.set_cons_succ, List.getD_cons_zero, List.getD_cons_succ, decide_eq_true_eq, decide_eq_false_iff_not,
  List.getElem?_cons_zero, List.getElem?_cons_succ, addD_int, iaddD_int, subD_int, ltD_int, leD_int, gtD_int, geD_int, eqD_int, neD_int, eqD_bool, asB_bool, lenD_list, lenD_tuple, tupleD_list, tupleD_tuple, listD_list, listD_tuple, resOf, mulD_r, mulD_l, modD_int, divD_int, powD_int, addD_list, addL_list, addD_tuple, cutD_toT, cutD_fromT, cutD_toL, cutD_fromL, cutO_toL, cutO_fromL, sortD_list, sortD_tuple, zipD_list, zipD_tuple, asLT_list, asLT_tuple, dFnO, dResO, dFnS, List.take_succ_cons, List.take_zero, List.drop_succ_cons, List.drop_zero, addD_T, iaddD_T, lenD_T, cutD_to, cutD_from, eqD_T, neD_T, isiD_str, dSl, dSome, dNo, asI_int, letter_small, letter_great, ev_andM, ev_orM, maxD_int, minD_int, absD_int, isiD_bool, getD'_ints, getD'_intsT, getD'_atC, getD'_atCT, rngD_one, rngD_two, isNotD_none, isD_none])
theorem has_map {m : Nat} {xs : List (List Int × Nat)} {k : Nat} (hm : k < m) (h : ∀ c ∈ xs, c.2 < m ∧ c.2 ≠ k) : hasRow (xs.map fun c => (unit m c.2, c.1)) (unit m k) = false := by
  unfold hasRow
  rw [Bool.eq_false_iff]
  intro q
  obtain ⟨p, hp, e⟩ := List.any_eq_true.mp q
  obtain ⟨c, hc, rfl⟩ := List.mem_map.mp hp
  obtain ⟨h1, h2⟩ := h c hc
  exact unit_ne h1 hm h2 (of_decide_eq_true e)
theorem zipIdx_lt {α : Type} {xs : List α} {p : α × Nat} (h : p ∈ xs.zipIdx) : p.2 < xs.length := by
  obtain ⟨i, hi⟩ := List.mem_iff_getElem?.mp h
  have := (List.getElem?_eq_some_iff.mp hi).1
  rw [List.length_zipIdx] at this
  rw [List.getElem?_zipIdx] at hi
  cases hq : xs[i]? with
  | none => rw [hq] at hi; cases hi
  | some x =>
    rw [hq] at hi
    simp at hi
    subst hi
    simpa using this
theorem zipIdx_take_ne {α : Type} {xs : List α} {i : Nat} {p : α × Nat} (h : p ∈ xs.zipIdx.take i) : p.2 < i := by
  obtain ⟨j, hj⟩ := List.mem_iff_getElem?.mp h
  rw [List.getElem?_take] at hj
  split at hj
  · rw [List.getElem?_zipIdx] at hj
    cases hq : xs[j]? with
    | none => rw [hq] at hj; cases hj
    | some x =>
      rw [hq] at hj
      simp at hj
      subst hj
      simpa
  · cases hj
theorem cols_len {R : List (List Int)} {m : Nat} : (cols R m).length = m := by simp [cols]
theorem least_bad {E : Errs} {t : Bool} {R : List (List Int)} {m : Int} (h : Bad R m []) : G_least E [rsD t R, .int m] = some (.exc (.ref (E.c "TooMany"))) := by
  have ha := ask_bad (E := E) (t := t) (u := false) h
  refine run_xc (e := [some (.fz (rsD t R)), some (.fz (.int m)), none, none, none, none]) ?_
  unfold g_least
  have ha : G_ask_bounds E [rsD t R, .int m, .list []] = _ := ha
  repeat (first | walk_at "ev" | simp only [dExpr, ha, dRes])
  rfl
theorem least_to_bad {E : Errs} {t u : Bool} {R : List (List Int)} {m : Int} {right : List Int} (h : Bad R m right) : G_least_to E [rsD t R, .int m, isD u right] = some (.exc (.ref (E.c "TooMany"))) := by
  have ha := ask_bad (E := E) (t := t) (u := u) h
  refine run_xc (e := [some (.fz (rsD t R)), some (.fz (.int m)), some (.fz (isD u right)), none, none]) ?_
  unfold g_least_to
  repeat (first | walk_at "ev" | simp only [dExpr, ha, dRes])
  rfl
/-- least, by what a run keeps -/
theorem least_ok {E : Errs} {t : Bool} {R : List (List Int)} {m n : Nat} {I : Nat → List (List Int) → Lv → Prop} (hm : 1 ≤ m) (hR : ∀ r ∈ R, r.length = m) (h : ¬ Bad R m []) (hI : Runs (cols R m) [] I) (h0 : I n [] (startL (cols R m) m)) (hn : n < 1000) :
    ∃ k f, I k f [] ∧ G_least E [rsD t R, .int m] = some (.ret true (.list (srt (f.map rowD)))) := by
  have hm4 : m ≤ 4 := by
    rcases Nat.lt_or_ge 4 m with z | z
    · exact absurd (.inr (.inl (by omega))) h
    · exact z
  have hr16 : R.length ≤ 16 := by
    rcases Nat.lt_or_ge 16 R.length with z | z
    · exact absurd (.inl z) h
    · exact z
  have ha := ask_good (E := E) (t := t) (u := false) h
  have ha : G_ask_bounds E [rsD t R, .int m, .list []] = _ := ha
  have hc := cols_ok t R m hR (by omega) (by omega)
  obtain ⟨k, f, h1, h2⟩ := grown_ok hI h0 hn (by rw [cols_len]; omega) (by simp)
  refine ⟨k, f, h1, ?_⟩
  refine run_wpR (R := fun r => r = some (.ret true (.list (srt (f.map rowD))))) ?_
  unfold g_least
  repeat (first | walk_at "ev" | simp only [dExpr, ha, dRes, hc, dDnew])
  refine wp_for (ds := enumL ((cols R m).map rowD)) (by walk_at "ev"; rfl) (fun i e => ∃ x4 x5, e = [some (.fz (rsD t R)), some (.fz (.int m)), some (.fz (.list ((cols R m).map rowD))), some (.ow (lvD (((cols R m).zipIdx.take i).map fun c => (unit m c.2, c.1)))), x4, x5]) ⟨_, _, rfl⟩ ?_ ?_
  · rintro i d e hi ⟨x4, x5, rfl⟩
    obtain ⟨x, hx, rfl⟩ := enum_at hi
    obtain ⟨c, hc1, rfl⟩ := map_at' hx
    have hil : i < m := by
      have := (List.getElem?_eq_some_iff.mp hc1).1
      rwa [cols_len] at this
    have hst : ∀ g (E : DEnv), stepO (gT 2 (gCons' (gN 4) (gCons' (gN 5) gNil'))) g (PyData.tuple [.int (i : Int), rowD c]) E = g ((E.set 4 (some (.fz (.int (i : Int))))).set 5 (some (.fz (rowD c)))) := fun _ _ => rfl
    rw [hst]
    have hz := rep_zeros (m := m) (x := 0) hm (by omega)
    have hmo := more_ok (zeros m) i (by unfold zeros; simp; omega) (by unfold zeros; simp; omega)
    have hmo : G_one_more [rowD (List.replicate m 0), .int (i : Int)] = some (.ret false (rowD (unit m i))) := hmo
    have hnew : hasRow (((cols R m).zipIdx.take i).map fun c => (unit m c.2, c.1)) (unit m i) = false := by
      refine has_map hil fun c hc => ?_
      have := zipIdx_take_ne hc
      exact ⟨by omega, by omega⟩
    rw [ev_put (kvs := kvL (((cols R m).zipIdx.take i).map fun c => (unit m c.2, c.1))) (k := rowD (unit m i)) (d := rowD c) rfl rfl (by repeat (first | walk_at "ev" | simp only [hz, hmo])) (keyOk_row _) (by unfold kvL; rw [List.length_map, List.length_map, List.length_take, List.length_zipIdx, cols_len]; omega), put_new hnew]
    walk_at "ev"
    refine ⟨some (.fz (.int (i : Int))), some (.fz (rowD c)), ?_⟩
    rw [List.take_add_one, zipIdx_at hc1]
    simp [lvD]
  · rintro e ⟨x4, x5, rfl⟩
    have e1 : (enumL ((cols R m).map rowD)).length = (cols R m).zipIdx.length := by rw [enum_len, List.length_map, List.length_zipIdx]
    rw [e1, List.take_length]
    have h2 : G_grown [lvD ((cols R m).zipIdx.map fun c => (unit m c.2, c.1)), .list ((cols R m).map rowD), .list []] = _ := h2
    repeat (first | walk_at "ev" | simp only [dFrz, frzE, h2])
/-- least_to, by what a run keeps -/
theorem least_to_ok {E : Errs} {t u : Bool} {R : List (List Int)} {m n : Nat} {right : List Int} {I : Nat → List (List Int) → Lv → Prop} {bs : List (List Int)} (hm : 1 ≤ m) (hR : ∀ r ∈ R, r.length = m) (hrl : right.length ≤ 1000) (h : ¬ Bad R m right) (hb : ∃ b, G_least E [rsD t R, .int m] = some (.ret b (.list (bs.map rowD)))) (hbl : bs.length ≤ 1000000)
    (hI : Runs (cols R m) bs I) (h0 : I n [] [(zeros m, right.map fun x => 0 - x)]) (hn : n < 1000) :
    ∃ k f, I k f [] ∧ G_least_to E [rsD t R, .int m, isD u right] = some (.ret true (.list (srt (f.map rowD)))) := by
  have hm4 : m ≤ 4 := by
    rcases Nat.lt_or_ge 4 m with z | z
    · exact absurd (.inr (.inl (by omega))) h
    · exact z
  have hr16 : R.length ≤ 16 := by
    rcases Nat.lt_or_ge 16 R.length with z | z
    · exact absurd (.inl z) h
    · exact z
  have ha := ask_good (E := E) (t := t) (u := u) h
  have hc := cols_ok t R m hR (by omega) (by omega)
  obtain ⟨b, hb⟩ := hb
  obtain ⟨k, f, h1, h2⟩ := grown_ok hI h0 hn (by rw [cols_len]; omega) hbl
  refine ⟨k, f, h1, ?_⟩
  refine run_wpR (R := fun r => r = some (.ret true (.list (srt (f.map rowD))))) ?_
  unfold g_least_to
  have hz := rep_zeros (m := m) (x := 0) hm (by omega)
  have hlc : dLc [4] (gN 4) (dIt asLT (dVar 2)) dYes (d2 subD (dC (.int 0)) (dVarS 4)) [some (.fz (rsD t R)), some (.fz (.int m)), some (.fz (isD u right)), none, none] = mok (.list (right.map fun x => .int (0 - x))) := by
    refine dLc_all (ei := .int) (fun x => .int (0 - x)) (by repeat (first | walk_at "ev" | simp only [asLT_is])) (by omega) fun x hx => ⟨_, rfl, rfl, ?_⟩
    walk_at "ev"
  have hk := keyOk_row (zeros m)
  have hk : keyOk (rowD (List.replicate m 0)) = true := hk
  have h2 : G_grown [.dict [(rowD (List.replicate m 0), .tuple (right.map fun x => .int (0 - x)))], .list ((cols R m).map rowD), .list (bs.map rowD)] = some (.ret true (.list (srt (f.map rowD)))) := by
    rw [← h2]
    unfold lvD kvL zeros
    rw [List.map_cons, List.map_nil]
    unfold rowD
    rw [List.map_map]
    rfl
  repeat (first | walk_at "ev" | simp only [dExpr, ha, dRes, hc, dD1, hlc, hz, hk, dFrz, frzE, h2, hb])
end K25

namespace K25
open PySem PySem.Spec PyProof.Rows L2 DL
local macro_rules | `(tactic| walk_at "ev") => `(tactic| simp (disch := first | omega | (simp only [List.length_cons, List.length_nil, List.length_map, List.length_append, List.length_take, List.length_drop] <;> omega) | fail) only [cell_ok, pick_ok, startD, List.map_cons, List.map_nil, List.cons_append, List.nil_append, List.length_cons, List.length_nil, List.length_map, List.replicate, List.append_nil,
  ev_seq, ev_nx, ev_rt, ev_xc, ev_bk, ev_ct, ev_ss, ev_if, ev_ifT, ev_ifF, ev_stepN, lp_nx, lp_ct, lp_bk, lp_rt, lp_xc, wp_some,
  dSet, dSetO, dRet, dRetO, dRetVar, dNx, eS_ok, eS_mok, mbind_ok, mbind_mok, dTst, d2, d1, dVar, dVarS, dC, dCall, dCons, dNil, dFn, ev_ret, ev_exc, dAnd, dOr, dNot, dAndV, dOrV, dNotV, dTup, dLst, dApp, dSetIx, dAug, dYes, dIt, dItA,  wipeD, gN, gT, gCons', gNil', ev_appOk, ixN_ok, Option.bind_some,
  if_true, if_false, Bool.true_and, Bool.false_and, Bool.and_true, Bool.and_false, Bool.true_or, Bool.false_or, Bool.or_true, Bool.or_false, Bool.not_true, Bool.not_false, decide_true, decide_false, reduceIte, Bool.false_eq_true,
  Int.reduceToNat, Int.reduceAdd, Int.reduceSub, Int.reduceMul, Int.reduceMod, Int.reduceLT, Int.reduceLE, Int.reduceEq, Nat.reduceAdd, Nat.reduceSub, Nat.reduceEqDiff, Nat.reduceLT, Int.reducePow, gt_iff_lt, ge_iff_le, Int.reduceGT, Int.toNat_zero, Int.toNat_one, List.set_cons_zero, List.set_cons_succ, List.getD_cons_zero, List.getD_cons_succ, decide_eq_true_eq, decide_eq_false_iff_not,
  List.getElem?_cons_zero, List.getElem?_cons_succ, addD_int, iaddD_int, subD_int, ltD_int, leD_int, gtD_int, geD_int, eqD_int, neD_int, eqD_bool, asB_bool, lenD_list, lenD_tuple, tupleD_list, tupleD_tuple, listD_list, listD_tuple, resOf, mulD_r, mulD_l, modD_int, divD_int, powD_int, addD_list, addL_list, addD_tuple, cutD_toT, cutD_fromT, cutD_toL, cutD_fromL, cutO_toL, cutO_fromL, sortD_list, sortD_tuple, zipD_list, zipD_tuple, asLT_list, asLT_tuple, dFnO, dResO, dFnS, List.take_succ_cons, List.take_zero, List.drop_succ_cons, List.drop_zero, addD_T, iaddD_T, lenD_T, cutD_to, cutD_from, eqD_T, neD_T, isiD_str, dSl, dSome, dNo, asI_int, letter_small, letter_great, ev_andM, ev_orM, maxD_int, minD_int, absD_int, isiD_bool, getD'_ints, getD'_intsT, getD'_atC, getD'_atCT, rngD_one, rngD_two, isNotD_none, isD_none])
local macro_rules | `(tactic| walk_at "un") => `(tactic| simp (disch := first | omega | (simp only [List.length_cons, List.length_nil, List.length_map, List.length_append, List.length_take, List.length_drop] <;> omega) | fail) only [cell_ok, pick_ok, dFor, ev_forN, ev_forS, ev_lnx, ev_lct, ev_lbk, ev_lrt, ev_lxc, rngL_step, rngL_nil, range_0, range_1, range_2, range_3, range_4, range_5, startD, List.map_cons, List.map_nil, List.cons_append, List.nil_append, List.length_cons, List.length_nil, List.length_map, List.replicate, List.append_nil,
  ev_seq, ev_nx, ev_rt, ev_xc, ev_bk, ev_ct, ev_ss, ev_if, ev_ifT, ev_ifF, ev_stepN, lp_nx, lp_ct, lp_bk, lp_rt, lp_xc, wp_some,
  dSet, dSetO, dRet, dRetO, dRetVar, dNx, eS_ok, eS_mok, mbind_ok, mbind_mok, dTst, d2, d1, dVar, dVarS, dC, dCall, dCons, dNil, dFn, ev_ret, ev_exc, dAnd, dOr, dNot, dAndV, dOrV, dNotV, dTup, dLst, dApp, dSetIx, dAug, dYes, dIt, dItA,  wipeD, gN, gT, gCons', gNil', ev_appOk, ixN_ok, Option.bind_some,
  if_true, if_false, Bool.true_and, Bool.false_and, Bool.and_true, Bool.and_false, Bool.true_or, Bool.false_or, Bool.or_true, Bool.or_false, Bool.not_true, Bool.not_false, decide_true, decide_false, reduceIte, Bool.false_eq_true,
  Int.reduceToNat, Int.reduceAdd, Int.reduceSub, Int.reduceMul, Int.reduceMod, Int.reduceLT, Int.reduceLE, Int.reduceEq, Nat.reduceAdd, Nat.reduceSub, Nat.reduceEqDiff, Nat.reduceLT, Int.reducePow, gt_iff_lt, ge_iff_le, Int.reduceGT, Int.toNat_zero, Int.toNat_one, List.set_cons_zero, List.set_cons_succ, List.getD_cons_zero, List.getD_cons_succ, decide_eq_true_eq, decide_eq_false_iff_not,
  List.getElem?_cons_zero, List.getElem?_cons_succ, addD_int, iaddD_int, subD_int, ltD_int, leD_int, gtD_int, geD_int, eqD_int, neD_int, eqD_bool, asB_bool, lenD_list, lenD_tuple, tupleD_list, tupleD_tuple, listD_list, listD_tuple, resOf, mulD_r, mulD_l, modD_int, divD_int, powD_int, addD_list, addL_list, addD_tuple, cutD_toT, cutD_fromT, cutD_toL, cutD_fromL, cutO_toL, cutO_fromL, sortD_list, sortD_tuple, zipD_list, zipD_tuple, asLT_list, asLT_tuple, dFnO, dResO, dFnS, List.take_succ_cons, List.take_zero, List.drop_succ_cons, List.drop_zero, addD_T, iaddD_T, lenD_T, cutD_to, cutD_from, eqD_T, neD_T, isiD_str, dSl, dSome, dNo, asI_int, letter_small, letter_great, ev_andM, ev_orM, maxD_int, minD_int, absD_int, isiD_bool, getD'_ints, getD'_intsT, getD'_atC, getD'_atCT, rngD_one, rngD_two, isNotD_none, isD_none])
/-! ### rows of numbers from 0 on -/
def Row (m : Nat) (v : List Int) : Prop := v.length = m ∧ ∀ x ∈ v, 0 ≤ x
theorem sum_cons' (x : Int) (xs : List Int) : (x :: xs).sum = x + xs.sum := List.sum_cons
theorem row_sum : ∀ {v : List Int}, (∀ x ∈ v, 0 ≤ x) → 0 ≤ v.sum
  | [], _ => by simp
  | x :: v, h => by
    have := row_sum fun y hy => h y (List.mem_cons_of_mem _ hy)
    have := h x List.mem_cons_self
    rw [sum_cons']
    omega
theorem under_cons {a b : Int} {as bs : List Int} : under (a :: as) (b :: bs) = true ↔ a ≤ b ∧ under as bs = true := by
  simp [under]
theorem under_sum : ∀ {a b : List Int}, a.length = b.length → under a b = true → a.sum ≤ b.sum
  | [], [], _, _ => by simp
  | [], _ :: _, h, _ => by simp at h
  | _ :: _, [], h, _ => by simp at h
  | x :: a, y :: b, h, hu => by
    rw [under_cons] at hu
    have := under_sum (by simpa using h) hu.2
    rw [sum_cons', sum_cons']
    omega
theorem under_eq : ∀ {a b : List Int}, a.length = b.length → under a b = true → a.sum = b.sum → a = b
  | [], [], _, _, _ => rfl
  | [], _ :: _, h, _, _ => by simp at h
  | _ :: _, [], h, _, _ => by simp at h
  | x :: a, y :: b, h, hu, hs => by
    rw [under_cons] at hu
    have h1 := under_sum (by simpa using h) hu.2
    rw [sum_cons', sum_cons'] at hs
    have : x = y := by omega
    rw [this, under_eq (by simpa using h) hu.2 (by omega)]
theorem under_refl : ∀ a : List Int, under a a = true
  | [] => rfl
  | x :: a => by rw [under_cons]; exact ⟨Int.le_refl _, under_refl a⟩
theorem under_trans : ∀ {a b c : List Int}, a.length = b.length → under a b = true → under b c = true → under a c = true
  | [], _, _, _, _, _ => by simp [under]
  | _ :: _, [], _, h, _, _ => by simp at h
  | _ :: _, _ :: _, [], _, _, _ => by simp [under]
  | x :: a, y :: b, z :: c, h, h1, h2 => by
    rw [under_cons] at *
    exact ⟨Int.le_trans h1.1 h2.1, under_trans (by simpa using h) h1.2 h2.2⟩
theorem more_cons_zero {x : Int} {v : List Int} : oneMore (x :: v) 0 = (x + 1) :: v := by simp [oneMore]
theorem more_cons_succ {x : Int} {v : List Int} {j : Nat} : oneMore (x :: v) (j + 1) = x :: oneMore v j := by simp [oneMore]
theorem more_sum : ∀ {v : List Int} {j : Nat}, j < v.length → (oneMore v j).sum = v.sum + 1
  | [], _, h => by simp at h
  | x :: v, 0, _ => by rw [more_cons_zero, sum_cons', sum_cons']; omega
  | x :: v, j + 1, h => by rw [more_cons_succ, sum_cons', sum_cons', more_sum (by simpa using h)]; omega
theorem more_len' {r : List Int} {k : Nat} (h : k < r.length) : (oneMore r k).length = r.length := by
  unfold oneMore
  simp only [List.length_append, List.length_take, List.length_cons, List.length_nil, List.length_drop]
  omega
theorem more_row {m : Nat} {v : List Int} {j : Nat} (h : Row m v) (hj : j < m) : Row m (oneMore v j) := by
  refine ⟨by rw [more_len' (by rw [h.1]; exact hj), h.1], ?_⟩
  obtain ⟨hl, hn⟩ := h
  subst hl
  induction v generalizing j with
  | nil => simp at hj
  | cons x v ih =>
    cases j with
    | zero =>
      rw [more_cons_zero]
      intro y hy
      rcases List.mem_cons.mp hy with rfl | hy
      · have := hn x List.mem_cons_self; omega
      · exact hn y (List.mem_cons_of_mem _ hy)
    | succ j =>
      rw [more_cons_succ]
      intro y hy
      rcases List.mem_cons.mp hy with rfl | hy
      · exact hn _ List.mem_cons_self
      · exact ih (fun z hz => hn z (List.mem_cons_of_mem _ hz)) (by simpa using hj) y hy
theorem more_dot : ∀ {al v : List Int} {j : Nat}, j < v.length → al.length = v.length → dot al (oneMore v j) = dot al v + al.getD j 0
  | _, [], _, h, _ => by simp at h
  | [], _ :: _, _, _, h => by simp at h
  | a :: al, x :: v, 0, _, _ => by
    rw [more_cons_zero]
    show a * (x + 1) + dot al v = a * x + dot al v + a
    rw [Int.mul_add]
    omega
  | a :: al, x :: v, j + 1, h, hl => by
    rw [more_cons_succ]
    show a * x + dot al (oneMore v j) = a * x + dot al v + al.getD j 0
    rw [more_dot (by simpa using h) (by simpa using hl)]
    omega
theorem more_under : ∀ {v w : List Int} {j : Nat}, j < v.length → v.length = w.length → under v w = true → v.getD j 0 < w.getD j 0 → under (oneMore v j) w = true
  | [], _, _, h, _, _, _ => by simp at h
  | _ :: _, [], _, _, h, _, _ => by simp at h
  | x :: v, y :: w, 0, _, _, hu, hj => by
    rw [more_cons_zero, under_cons]
    rw [under_cons] at hu
    have hj : x < y := hj
    exact ⟨by omega, hu.2⟩
  | x :: v, y :: w, j + 1, h, hl, hu, hj => by
    rw [more_cons_succ, under_cons]
    rw [under_cons] at hu
    exact ⟨hu.1, more_under (by simpa using h) (by simpa using hl) hu.2 hj⟩
/-- one place at which the sum comes nearer -/
theorem near {s : Int} : ∀ {al v w : List Int}, al.length = v.length → v.length = w.length → under v w = true → (∀ j, j < v.length → v.getD j 0 < w.getD j 0 → 0 ≤ s * al.getD j 0) → 0 ≤ s * (dot al w - dot al v)
  | [], [], [], _, _, _, _ => by simp [dot]
  | [], _ :: _, _, h, _, _, _ => by simp at h
  | _ :: _, [], _, h, _, _, _ => by simp at h
  | _, [], _ :: _, _, h, _, _ => by simp at h
  | _, _ :: _, [], _, h, _, _ => by simp at h
  | a :: al, x :: v, y :: w, h1, h2, hu, hj => by
    rw [under_cons] at hu
    have ih := near (s := s) (al := al) (by simpa using h1) (by simpa using h2) hu.2 fun j hjl hlt => hj (j + 1) (by simpa using hjl) hlt
    show 0 ≤ s * (a * y + dot al w - (a * x + dot al v))
    have e : s * (a * y + dot al w - (a * x + dot al v)) = s * a * (y - x) + s * (dot al w - dot al v) := by
      simp only [Int.mul_sub, Int.mul_add, Int.mul_assoc]
      omega
    rw [e]
    have h0 : 0 ≤ s * a * (y - x) := by
      by_cases hxy : x < y
      · exact Int.mul_nonneg (hj 0 (by simp) hxy) (by omega)
      · have : y - x = 0 := by omega
        rw [this]
        simp
    omega
theorem near_ex {s : Int} {al v w : List Int} (h1 : al.length = v.length) (h2 : v.length = w.length) (hu : under v w = true) (hs : s * (dot al w - dot al v) < 0) : ∃ j, j < v.length ∧ v.getD j 0 < w.getD j 0 ∧ s * al.getD j 0 < 0 := by
  apply Classical.byContradiction
  intro hn
  have := near (s := s) h1 h2 hu fun j hj hlt => by
    by_cases z : s * al.getD j 0 < 0
    · exact absurd ⟨j, hj, hlt, z⟩ hn
    · omega
  omega
/-! ### what a level becomes -/
theorem has_mem {L : Lv} {r : List Int} : hasRow L r = true ↔ ∃ p ∈ L, p.1 = r := by
  unfold hasRow
  rw [List.any_eq_true]
  constructor
  · rintro ⟨p, hp, h⟩
    exact ⟨p, hp, of_decide_eq_true h⟩
  · rintro ⟨p, hp, h⟩
    exact ⟨p, hp, decide_eq_true h⟩
/-- where a row of the next level comes from -/
def From (L : Lv) (cs barred : List (List Int)) (q : List Int × List Int) : Prop :=
  ∃ p ∈ L, ∃ j c, cs[j]? = some c ∧ dot p.2 c < 0 ∧ above (oneMore p.1 j) barred = false ∧ q = (oneMore p.1 j, addR p.2 c)
theorem step1_keeps {barred : List (List Int)} {p : List Int × List Int} {acc : Lv} {c : List Int × Nat} {q : List Int × List Int} (h : q ∈ acc) : q ∈ step1 barred p acc c := by
  unfold step1
  split
  · exact List.mem_append_left _ h
  · exact h
theorem fold_keeps {α : Type} {f : Lv → α → Lv} {q : List Int × List Int} (hf : ∀ acc c, q ∈ acc → q ∈ f acc c) : ∀ (xs : List α) (acc : Lv), q ∈ acc → q ∈ xs.foldl f acc
  | [], _, h => h
  | x :: xs, acc, h => fold_keeps hf xs _ (hf acc x h)
theorem fold_inv {α : Type} {f : Lv → α → Lv} {P : Lv → Prop} : ∀ (xs : List α) (acc : Lv), P acc → (∀ acc c, c ∈ xs → P acc → P (f acc c)) → P (xs.foldl f acc)
  | [], _, h, _ => h
  | x :: xs, acc, h, hs => fold_inv xs _ (hs acc x List.mem_cons_self h) fun a c hc => hs a c (List.mem_cons_of_mem _ hc)
theorem zipIdx_mem {α : Type} {xs : List α} {c : α × Nat} (h : c ∈ xs.zipIdx) : xs[c.2]? = some c.1 := by
  obtain ⟨i, hi⟩ := List.mem_iff_getElem?.mp h
  rw [List.getElem?_zipIdx] at hi
  cases hq : xs[i]? with
  | none => rw [hq] at hi; cases hi
  | some x =>
    rw [hq] at hi
    simp at hi
    subst hi
    simpa using hq
theorem next_from {L : Lv} {cs barred : List (List Int)} : ∀ q ∈ nextL L cs barred, From L cs barred q := by
  unfold nextL
  refine fold_inv (P := fun acc => ∀ q ∈ acc, From L cs barred q) L [] (by intro q hq; cases hq) fun acc p hp h => ?_
  unfold rowStep
  refine fold_inv (P := fun acc => ∀ q ∈ acc, From L cs barred q) _ acc h fun acc c hc h => ?_
  unfold step1
  split
  · rename_i hcond
    intro q hq
    rcases List.mem_append.mp hq with hq | hq
    · exact h q hq
    · rw [List.mem_singleton.mp hq]
      exact ⟨p, hp, c.2, c.1, zipIdx_mem hc, hcond.1, hcond.2.2, rfl⟩
  · exact h
theorem next_nodup {L : Lv} {cs barred : List (List Int)} : ((nextL L cs barred).map (·.1)).Nodup := by
  unfold nextL
  refine fold_inv (P := fun acc => (acc.map (·.1)).Nodup) L [] (by simp) fun acc p hp h => ?_
  unfold rowStep
  refine fold_inv (P := fun acc => (acc.map (·.1)).Nodup) _ acc h fun acc c hc h => ?_
  unfold step1
  split
  · rename_i hcond
    rw [List.map_append, List.nodup_append]
    refine ⟨h, by simp, ?_⟩
    intro a ha b hb e
    obtain ⟨p', hp', rfl⟩ := List.mem_map.mp ha
    simp at hb
    subst hb
    have := has_mem.mpr ⟨p', hp', e⟩
    rw [hcond.2.1] at this
    cases this
  · exact h
theorem next_has {L : Lv} {cs barred : List (List Int)} {p : List Int × List Int} {j : Nat} {c : List Int} (hp : p ∈ L) (hc : cs[j]? = some c) (hd : dot p.2 c < 0) (ha : above (oneMore p.1 j) barred = false) : ∃ q ∈ nextL L cs barred, q.1 = oneMore p.1 j := by
  have key : ∀ acc : Lv, ∃ q ∈ step1 barred p acc (c, j), q.1 = oneMore p.1 j := by
    intro acc
    by_cases hh : hasRow acc (oneMore p.1 j) = true
    · obtain ⟨q, hq, e⟩ := has_mem.mp hh
      exact ⟨q, step1_keeps hq, e⟩
    · refine ⟨(oneMore p.1 j, addR p.2 c), ?_, rfl⟩
      unfold step1
      rw [if_pos ⟨hd, by simpa using hh, ha⟩]
      simp
  obtain ⟨s, t, rfl⟩ := List.append_of_mem hp
  have hz : (c, j) ∈ cs.zipIdx := List.mem_of_getElem? (zipIdx_at hc)
  obtain ⟨s2, t2, e2⟩ := List.append_of_mem hz
  unfold nextL
  rw [List.foldl_append, List.foldl_cons]
  generalize s.foldl (rowStep cs barred) [] = A
  have h1 : ∃ q ∈ rowStep cs barred A p, q.1 = oneMore p.1 j := by
    unfold rowStep
    rw [e2, List.foldl_append, List.foldl_cons]
    obtain ⟨q, hq, e⟩ := key (s2.foldl (step1 barred p) A)
    exact ⟨q, fold_keeps (fun acc c => step1_keeps) _ _ hq, e⟩
  obtain ⟨q, hq, e⟩ := h1
  refine ⟨q, fold_keeps (fun acc x hx => ?_) _ _ hq, e⟩
  unfold rowStep
  exact fold_keeps (fun acc c => step1_keeps) _ _ hx
/-! ### how many rows there are -/
def code (K : Nat) : List Int → Nat
  | [] => 0
  | x :: xs => x.toNat + K * code K xs
theorem code_lt {K : Nat} (hK : 0 < K) : ∀ {v : List Int}, (∀ x ∈ v, 0 ≤ x ∧ x < K) → code K v < K ^ v.length
  | [], _ => by simp [code]
  | x :: v, h => by
    have ih := code_lt hK fun y hy => h y (List.mem_cons_of_mem _ hy)
    have hx := h x List.mem_cons_self
    rw [List.length_cons, Nat.pow_succ, Nat.mul_comm]
    show x.toNat + K * code K v < K * K ^ v.length
    have h1 : K * (code K v + 1) ≤ K * K ^ v.length := Nat.mul_le_mul (Nat.le_refl _) ih
    rw [Nat.mul_add] at h1
    omega
theorem code_inj {K : Nat} (hK : 0 < K) : ∀ {v w : List Int}, v.length = w.length → (∀ x ∈ v, 0 ≤ x ∧ x < K) → (∀ x ∈ w, 0 ≤ x ∧ x < K) → code K v = code K w → v = w
  | [], [], _, _, _, _ => rfl
  | [], _ :: _, h, _, _, _ => by simp at h
  | _ :: _, [], h, _, _, _ => by simp at h
  | x :: v, y :: w, hl, hv, hw, h => by
    have hx := hv x List.mem_cons_self
    have hy := hw y List.mem_cons_self
    have h : x.toNat + K * code K v = y.toNat + K * code K w := h
    have h1 : (x.toNat + K * code K v) % K = (y.toNat + K * code K w) % K := by rw [h]
    rw [Nat.add_mul_mod_self_left, Nat.add_mul_mod_self_left, Nat.mod_eq_of_lt (by omega), Nat.mod_eq_of_lt (by omega)] at h1
    have h2 : code K v = code K w := by
      rw [h1] at h
      exact Nat.eq_of_mul_eq_mul_left hK (Nat.add_left_cancel h)
    rw [code_inj hK (by simpa using hl) (fun z hz => hv z (List.mem_cons_of_mem _ hz)) (fun z hz => hw z (List.mem_cons_of_mem _ hz)) h2]
    congr 1
    omega
theorem nodup_le : ∀ (n : Nat) {xs : List Nat}, xs.Nodup → (∀ x ∈ xs, x < n) → xs.length ≤ n
  | 0, [], _, _ => Nat.le_refl _
  | 0, x :: _, _, h => by have := h x List.mem_cons_self; omega
  | n + 1, xs, hn, h => by
    have h1 := nodup_le n (xs := xs.filter fun x => decide (x ≠ n)) (hn.filter _) fun x hx => by
      have := h x (List.mem_filter.mp hx).1
      have h2 := of_decide_eq_true (List.mem_filter.mp hx).2
      omega
    have h2 : xs.length ≤ (xs.filter fun x => decide (x ≠ n)).length + 1 := by
      clear h h1
      induction xs with
      | nil => simp
      | cons y ys ih =>
        rw [List.nodup_cons] at hn
        by_cases hy : y = n
        · subst hy
          have : (y :: ys).filter (fun x => decide (x ≠ y)) = ys := by
            rw [List.filter_cons, if_neg (by simp)]
            exact List.filter_eq_self.mpr fun z hz => by
              have : z ≠ y := fun e => hn.1 (e ▸ hz)
              simpa using this
          rw [this, List.length_cons]
          exact Nat.le_refl _
        · have := ih hn.2
          rw [List.filter_cons, if_pos (by simpa using hy), List.length_cons, List.length_cons]
          omega
    omega
theorem nodup_map' {α β : Type} {f : α → β} : ∀ {xs : List α}, xs.Nodup → (∀ a ∈ xs, ∀ b ∈ xs, f a = f b → a = b) → (xs.map f).Nodup
  | [], _, _ => by simp
  | x :: xs, hn, hi => by
    rw [List.nodup_cons] at hn
    rw [List.map_cons, List.nodup_cons]
    refine ⟨fun hx => ?_, nodup_map' hn.2 fun a ha b hb => hi a (List.mem_cons_of_mem _ ha) b (List.mem_cons_of_mem _ hb)⟩
    obtain ⟨y, hy, e⟩ := List.mem_map.mp hx
    have := hi x List.mem_cons_self y (List.mem_cons_of_mem _ hy) e.symm
    exact hn.1 (this ▸ hy)
theorem rows_few {K m : Nat} (hK : 0 < K) {xs : List (List Int)} (hn : xs.Nodup) (hr : ∀ v ∈ xs, v.length = m + 1 ∧ ∀ x ∈ v, 0 ≤ x ∧ x < K) (hi : ∀ v ∈ xs, ∀ w ∈ xs, v.take m = w.take m → v = w) : xs.length ≤ K ^ m := by
  have h1 : (xs.map fun v => code K (v.take m)).Nodup := by
    refine nodup_map' hn fun v hv w hw e => ?_
    refine hi v hv w hw (code_inj hK ?_ ?_ ?_ e)
    · rw [List.length_take, List.length_take, (hr v hv).1, (hr w hw).1]
    · exact fun x hx => (hr v hv).2 x (List.mem_of_mem_take hx)
    · exact fun x hx => (hr w hw).2 x (List.mem_of_mem_take hx)
  have := nodup_le (K ^ m) h1 fun x hx => by
    obtain ⟨v, hv, rfl⟩ := List.mem_map.mp hx
    have h2 := code_lt hK (v := v.take m) fun x hx => (hr v hv).2 x (List.mem_of_mem_take hx)
    rw [List.length_take, (hr v hv).1, Nat.min_eq_left (by omega)] at h2
    exact h2
  rwa [List.length_map] at this
end K25

namespace K25
open PySem PySem.Spec PyProof.Rows L2 DL
local macro_rules | `(tactic| walk_at "ev") => `(tactic| simp (disch := first | omega | (simp only [List.length_cons, List.length_nil, List.length_map, List.length_append, List.length_take, List.length_drop] <;> omega) | fail) only [cell_ok, pick_ok, startD, List.map_cons, List.map_nil, List.cons_append, List.nil_append, List.length_cons, List.length_nil, List.length_map, List.replicate, List.append_nil,
  ev_seq, ev_nx, ev_rt, ev_xc, ev_bk, ev_ct, ev_ss, ev_if, ev_ifT, ev_ifF, ev_stepN, lp_nx, lp_ct, lp_bk, lp_rt, lp_xc, wp_some,
  dSet, dSetO, dRet, dRetO, dRetVar, dNx, eS_ok, eS_mok, mbind_ok, mbind_mok, dTst, d2, d1, dVar, dVarS, dC, dCall, dCons, dNil, dFn, ev_ret, ev_exc, dAnd, dOr, dNot, dAndV, dOrV, dNotV, dTup, dLst, dApp, dSetIx, dAug, dYes, dIt, dItA,  wipeD, gN, gT, gCons', gNil', ev_appOk, ixN_ok, Option.bind_some,
  if_true, if_false, Bool.true_and, Bool.false_and, Bool.and_true, Bool.and_false, Bool.true_or, Bool.false_or, Bool.or_true, Bool.or_false, Bool.not_true, Bool.not_false, decide_true, decide_false, reduceIte, Bool.false_eq_true,
  Int.reduceToNat, Int.reduceAdd, Int.reduceSub, Int.reduceMul, Int.reduceMod, Int.reduceLT, Int.reduceLE, Int.reduceEq, Nat.reduceAdd, Nat.reduceSub, Nat.reduceEqDiff, Nat.reduceLT, Int.reducePow, gt_iff_lt, ge_iff_le, Int.reduceGT, Int.toNat_zero, Int.toNat_one, List.set_cons_zero, List.set_cons_succ, List.getD_cons_zero, List.getD_cons_succ, decide_eq_true_eq, decide_eq_false_iff_not,
  List.getElem?_cons_zero, List.getElem?_cons_succ, addD_int, iaddD_int, subD_int, ltD_int, leD_int, gtD_int, geD_int, eqD_int, neD_int, eqD_bool, asB_bool, lenD_list, lenD_tuple, tupleD_list, tupleD_tuple, listD_list, listD_tuple, resOf, mulD_r, mulD_l, modD_int, divD_int, powD_int, addD_list, addL_list, addD_tuple, cutD_toT, cutD_fromT, cutD_toL, cutD_fromL, cutO_toL, cutO_fromL, sortD_list, sortD_tuple, zipD_list, zipD_tuple, asLT_list, asLT_tuple, dFnO, dResO, dFnS, List.take_succ_cons, List.take_zero, List.drop_succ_cons, List.drop_zero, addD_T, iaddD_T, lenD_T, cutD_to, cutD_from, eqD_T, neD_T, isiD_str, dSl, dSome, dNo, asI_int, letter_small, letter_great, ev_andM, ev_orM, maxD_int, minD_int, absD_int, isiD_bool, getD'_ints, getD'_intsT, getD'_atC, getD'_atCT, rngD_one, rngD_two, isNotD_none, isD_none])
local macro_rules | `(tactic| walk_at "un") => `(tactic| simp (disch := first | omega | (simp only [List.length_cons, List.length_nil, List.length_map, List.length_append, List.length_take, List.length_drop] <;> omega) | fail) only [cell_ok, pick_ok, dFor, ev_forN, ev_forS, ev_lnx, ev_lct, ev_lbk, ev_lrt, ev_lxc, rngL_step, rngL_nil, range_0, range_1, range_2, range_3, range_4, range_5, startD, List.map_cons, List.map_nil, List.cons_append, List.nil_append, List.length_cons, List.length_nil, List.length_map, List.replicate, List.append_nil,
  ev_seq, ev_nx, ev_rt, ev_xc, ev_bk, ev_ct, ev_ss, ev_if, ev_ifT, ev_ifF, ev_stepN, lp_nx, lp_ct, lp_bk, lp_rt, lp_xc, wp_some,
  dSet, dSetO, dRet, dRetO, dRetVar, dNx, eS_ok, eS_mok, mbind_ok, mbind_mok, dTst, d2, d1, dVar, dVarS, dC, dCall, dCons, dNil, dFn, ev_ret, ev_exc, dAnd, dOr, dNot, dAndV, dOrV, dNotV, dTup, dLst, dApp, dSetIx, dAug, dYes, dIt, dItA,  wipeD, gN, gT, gCons', gNil', ev_appOk, ixN_ok, Option.bind_some,
  if_true, if_false, Bool.true_and, Bool.false_and, Bool.and_true, Bool.and_false, Bool.true_or, Bool.false_or, Bool.or_true, Bool.or_false, Bool.not_true, Bool.not_false, decide_true, decide_false, reduceIte, Bool.false_eq_true,
  Int.reduceToNat, Int.reduceAdd, Int.reduceSub, Int.reduceMul, Int.reduceMod, Int.reduceLT, Int.reduceLE, Int.reduceEq, Nat.reduceAdd, Nat.reduceSub, Nat.reduceEqDiff, Nat.reduceLT, Int.reducePow, gt_iff_lt, ge_iff_le, Int.reduceGT, Int.toNat_zero, Int.toNat_one, List.set_cons_zero, List.set_cons_succ, List.getD_cons_zero, List.getD_cons_succ, decide_eq_true_eq, decide_eq_false_iff_not,
  List.getElem?_cons_zero, List.getElem?_cons_succ, addD_int, iaddD_int, subD_int, ltD_int, leD_int, gtD_int, geD_int, eqD_int, neD_int, eqD_bool, asB_bool, lenD_list, lenD_tuple, tupleD_list, tupleD_tuple, listD_list, listD_tuple, resOf, mulD_r, mulD_l, modD_int, divD_int, powD_int, addD_list, addL_list, addD_tuple, cutD_toT, cutD_fromT, cutD_toL, cutD_fromL, cutO_toL, cutO_fromL, sortD_list, sortD_tuple, zipD_list, zipD_tuple, asLT_list, asLT_tuple, dFnO, dResO, dFnS, List.take_succ_cons, List.take_zero, List.drop_succ_cons, List.drop_zero, addD_T, iaddD_T, lenD_T, cutD_to, cutD_from, eqD_T, neD_T, isiD_str, dSl, dSome, dNo, asI_int, letter_small, letter_great, ev_andM, ev_orM, maxD_int, minD_int, absD_int, isiD_bool, getD'_ints, getD'_intsT, getD'_atC, getD'_atCT, rngD_one, rngD_two, isNotD_none, isD_none])
/-! ### one equation, told q times -/
def val (al : List Int) (s0 : Int) (v : List Int) : Int := dot al v + s0
def Sol (al : List Int) (s0 : Int) (m : Nat) (hom : Prop) (u : List Int) : Prop := Row m u ∧ val al s0 u = 0 ∧ (hom → 1 ≤ u.sum)
def Min (al : List Int) (s0 : Int) (m : Nat) (hom : Prop) (w : List Int) : Prop := Sol al s0 m hom w ∧ ∀ u, Sol al s0 m hom u → under u w = true → u = w
theorem min_ex {al : List Int} {s0 : Int} {m : Nat} {hom : Prop} : ∀ (n : Nat) (u : List Int), u.sum.toNat ≤ n → Sol al s0 m hom u → ∃ w, Min al s0 m hom w ∧ under w u = true := by
  intro n
  induction n with
  | zero =>
    intro u hn hu
    refine ⟨u, ⟨hu, fun v hv h => ?_⟩, under_refl u⟩
    have h1 := under_sum (hv.1.1.trans hu.1.1.symm) h
    have h2 := row_sum hv.1.2
    exact under_eq (hv.1.1.trans hu.1.1.symm) h (by omega)
  | succ n ih =>
    intro u hn hu
    by_cases hm : ∀ v, Sol al s0 m hom v → under v u = true → v = u
    · exact ⟨u, ⟨hu, hm⟩, under_refl u⟩
    · obtain ⟨v, hv⟩ := Classical.not_forall.mp hm
      obtain ⟨h1, hv⟩ := Classical.not_imp.mp hv
      obtain ⟨h2, h3⟩ := Classical.not_imp.mp hv
      have hl := h1.1.1.trans hu.1.1.symm
      have h4 := under_sum hl h2
      have h5 : v.sum ≠ u.sum := fun e => h3 (under_eq hl h2 e)
      have h6 := row_sum h1.1.2
      obtain ⟨w, hw, hwv⟩ := ih v (by omega) h1
      exact ⟨w, hw, under_trans (hw.1.1.1.trans h1.1.1.symm) hwv h2⟩
theorem dot_rep {s a : Int} : ∀ q : Nat, dot (List.replicate q s) (List.replicate q a) = q * (s * a)
  | 0 => by simp [dot]
  | q + 1 => by
    rw [List.replicate_succ, List.replicate_succ]
    show s * a + dot (List.replicate q s) (List.replicate q a) = _
    rw [dot_rep q]
    have : ((q + 1 : Nat) : Int) = q + 1 := by omega
    rw [this, Int.add_mul]
    omega
theorem addR_rep {s a : Int} : ∀ q : Nat, addR (List.replicate q s) (List.replicate q a) = List.replicate q (s + a)
  | 0 => rfl
  | q + 1 => by
    have ih := addR_rep (s := s) (a := a) q
    unfold addR at ih ⊢
    rw [List.replicate_succ, List.replicate_succ, List.zip_cons_cons, List.map_cons, ih, List.replicate_succ]
theorem even_rep {s : Int} {q : Nat} (hq : 1 ≤ q) : even (List.replicate q s) = decide (s = 0) := by
  unfold even
  by_cases h : s = 0
  · subst h
    simp
  · rw [decide_eq_false h, Bool.eq_false_iff]
    intro z
    have := List.all_eq_true.mp z s (by cases q with | zero => omega | succ q => simp)
    exact h (of_decide_eq_true this)
def colsQ (al : List Int) (q : Nat) : List (List Int) := al.map fun a => List.replicate q a
theorem cols_rep {al : List Int} {q : Nat} : cols (List.replicate q al) al.length = colsQ al q := by
  unfold cols colsQ
  refine List.ext_getElem? fun i => ?_
  rw [List.getElem?_map, List.getElem?_map]
  by_cases hi : i < al.length
  · rw [List.getElem?_range hi, List.getElem?_eq_getElem hi]
    simp only [Option.map_some, List.map_replicate, List.getD_eq_getElem?_getD, List.getElem?_eq_getElem hi, Option.getD_some]
  · rw [List.getElem?_eq_none (by simpa using hi), List.getElem?_eq_none (by simpa using hi)]
    rfl
theorem colsQ_at {al : List Int} {q j : Nat} {c : List Int} (h : (colsQ al q)[j]? = some c) : j < al.length ∧ c = List.replicate q (al.getD j 0) := by
  unfold colsQ at h
  rw [List.getElem?_map] at h
  cases hq : al[j]? with
  | none => rw [hq] at h; cases h
  | some a =>
    rw [hq] at h
    simp at h
    refine ⟨(List.getElem?_eq_some_iff.mp hq).1, ?_⟩
    rw [List.getD_eq_getElem?_getD, hq]
    exact h.symm
theorem colsQ_get {al : List Int} {q j : Nat} (h : j < al.length) : (colsQ al q)[j]? = some (List.replicate q (al.getD j 0)) := by
  unfold colsQ
  rw [List.getElem?_map, List.getElem?_eq_getElem h, List.getD_eq_getElem?_getD, List.getElem?_eq_getElem h]
  rfl
theorem neg_q {q : Nat} {x : Int} (hq : 1 ≤ q) : (q : Int) * x < 0 ↔ x < 0 := by
  constructor
  · intro h
    apply Classical.byContradiction
    intro hn
    have := Int.mul_nonneg (show (0 : Int) ≤ q by omega) (show 0 ≤ x by omega)
    omega
  · intro h
    exact Int.mul_neg_of_pos_of_neg (by omega) h
theorem get_mem {al : List Int} {j : Nat} (h : j < al.length) : al.getD j 0 ∈ al := by
  rw [List.getD_eq_getElem?_getD, List.getElem?_eq_getElem h]
  exact List.getElem_mem h
theorem sign_cases {t v : Int} (h : t * v < 0) : (0 < t ∧ v < 0) ∨ (t < 0 ∧ 0 < v) := by
  rcases Int.lt_trichotomy t 0 with h1 | h1 | h1
  · rcases Int.lt_trichotomy v 0 with h2 | h2 | h2
    · have := Int.mul_pos_of_neg_of_neg h1 h2; omega
    · subst h2; omega
    · exact .inr ⟨h1, h2⟩
  · subst h1; omega
  · rcases Int.lt_trichotomy v 0 with h2 | h2 | h2
    · exact .inl ⟨h1, h2⟩
    · subst h2; omega
    · have := Int.mul_pos h1 h2; omega
/-- what holds at the level of the rows of total k -/
structure GI (al : List Int) (s0 : Int) (m q : Nat) (hom : Prop) (barred : List (List Int)) (k0 k : Nat) (f : List (List Int)) (L : Lv) : Prop where
  lv : ∀ p ∈ L, Row m p.1 ∧ p.1.sum = k ∧ p.2 = List.replicate q (val al s0 p.1) ∧ (val al s0 p.1).natAbs ≤ 20
  nd : (L.map (·.1)).Nodup
  fs : ∀ r ∈ f, Min al s0 m hom r ∧ r.sum < k
  fc : ∀ w, Min al s0 m hom w → w.sum < k → w ∈ f
  lc : ∀ w, Min al s0 m hom w → (k : Int) ≤ w.sum → ∃ p ∈ L, under p.1 w = true
  fn : f.Nodup
  ab : k0 < k → ∀ p ∈ L, ∀ r ∈ f ++ barred, under r p.1 = false
  kk : k0 ≤ k
section
variable {al : List Int} {s0 : Int} {m q : Nat} {hom : Prop} {barred : List (List Int)} {k0 k : Nat} {f : List (List Int)} {L : Lv}
theorem above_false {r : List Int} {os : List (List Int)} : above r os = false ↔ ∀ o ∈ os, under o r = false := by
  unfold above
  rw [Bool.eq_false_iff]
  constructor
  · intro h o ho
    rw [Bool.eq_false_iff]
    intro z
    exact h (List.any_eq_true.mpr ⟨o, ho, z⟩)
  · intro h z
    obtain ⟨o, ho, z⟩ := List.any_eq_true.mp z
    rw [h o ho] at z
    cases z
theorem gi_evens (h : GI al s0 m q hom barred k0 k f L) (hq : 1 ≤ q) (hk : hom → 1 ≤ k0) (hk2 : ∀ w, Min al s0 m hom w → (k0 : Int) ≤ w.sum) : ∀ r, r ∈ evens L ↔ Min al s0 m hom r ∧ r.sum = k := by
  intro r
  constructor
  · intro hr
    obtain ⟨p, hp, rfl⟩ := List.mem_map.mp hr
    obtain ⟨hpL, he⟩ := List.mem_filter.mp hp
    obtain ⟨h1, h2, h3, h4⟩ := h.lv p hpL
    rw [h3, even_rep hq] at he
    have he := of_decide_eq_true he
    have hs : Sol al s0 m hom p.1 := ⟨h1, he, fun z => by have := hk z; have := h.kk; omega⟩
    refine ⟨⟨hs, fun u hu huv => ?_⟩, h2⟩
    obtain ⟨w, hw, hwu⟩ := min_ex _ u (Nat.le_refl _) hu
    have hlu := hu.1.1.trans h1.1.symm
    have hlw := hw.1.1.1.trans hu.1.1.symm
    have hwp := under_trans hlw hwu huv
    have hsw := under_sum (hw.1.1.1.trans h1.1.symm) hwp
    by_cases hc : w.sum < k
    · exfalso
      have hwf := h.fc w hw hc
      have h6 := hk2 w hw
      have := h.ab (by omega) p hpL w (List.mem_append_left _ hwf)
      rw [hwp] at this
      cases this
    · have h5 := under_sum hlw hwu
      have h6 := under_sum hlu huv
      exact under_eq hlu huv (by omega)
  · rintro ⟨hm, hs⟩
    obtain ⟨p, hp, hu⟩ := h.lc r hm (by omega)
    obtain ⟨h1, h2, h3, h4⟩ := h.lv p hp
    have e : p.1 = r := under_eq (h1.1.trans hm.1.1.1.symm) hu (by omega)
    refine List.mem_map.mpr ⟨p, List.mem_filter.mpr ⟨hp, ?_⟩, e⟩
    rw [h3, even_rep hq, e]
    exact decide_eq_true hm.1.2.1
theorem gi_step (h : GI al s0 m q hom barred k0 k f L) (hq : 1 ≤ q) (hal : al.length = m) (ha : ∀ a ∈ al, a.natAbs ≤ 3) (hk : hom → 1 ≤ k0) (hk2 : ∀ w, Min al s0 m hom w → (k0 : Int) ≤ w.sum)
    (hb : ∀ b ∈ barred, b.length = m ∧ ∀ w, Min al s0 m hom w → under b w = false) : GI al s0 m q hom barred k0 (k + 1) (f ++ evens L) (nextL L (colsQ al q) ((f ++ evens L) ++ barred)) := by
  have hev := gi_evens h hq hk hk2
  have hfs : ∀ r ∈ f ++ evens L, Min al s0 m hom r ∧ r.sum < ((k + 1 : Nat) : Int) := by
    intro r hr
    rcases List.mem_append.mp hr with hr | hr
    · have := h.fs r hr
      exact ⟨this.1, by omega⟩
    · have := (hev r).mp hr
      exact ⟨this.1, by omega⟩
  refine ⟨fun p' hp' => ?_, next_nodup, hfs, fun w hw hlt => ?_, fun w hw hle => ?_, ?_, fun _ p' hp' r hr => ?_, by have := h.kk; omega⟩
  · obtain ⟨p, hp, j, c, hc, hd, hab, rfl⟩ := next_from p' hp'
    obtain ⟨h1, h2, h3, h4⟩ := h.lv p hp
    obtain ⟨hj, rfl⟩ := colsQ_at hc
    have hjm : j < p.1.length := by rw [h1.1, ← hal]; exact hj
    rw [h3, dot_rep, neg_q hq] at hd
    have hv : val al s0 (oneMore p.1 j) = val al s0 p.1 + al.getD j 0 := by
      unfold val
      rw [more_dot hjm (by rw [hal, h1.1])]
      omega
    refine ⟨more_row h1 (by omega), by rw [more_sum hjm, h2]; omega, by rw [h3, addR_rep, hv], ?_⟩
    rw [hv]
    have h5 := ha _ (get_mem hj)
    have h6 := sign_cases hd
    omega
  · by_cases hlk : w.sum < k
    · exact List.mem_append_left _ (h.fc w hw hlk)
    · exact List.mem_append_right _ ((hev w).mpr ⟨hw, by omega⟩)
  · obtain ⟨p, hp, hu⟩ := h.lc w hw (by omega)
    obtain ⟨h1, h2, h3, h4⟩ := h.lv p hp
    have hlw : p.1.length = w.length := h1.1.trans hw.1.1.1.symm
    have hne : val al s0 p.1 ≠ 0 := by
      intro z
      have hs : Sol al s0 m hom p.1 := ⟨h1, z, fun y => by have := hk y; have := h.kk; omega⟩
      have := hw.2 p.1 hs hu
      rw [this] at h2
      omega
    have hdd : val al s0 p.1 * (dot al w - dot al p.1) < 0 := by
      have e1 : dot al w - dot al p.1 = - val al s0 p.1 := by
        have := hw.1.2.1
        unfold val at this ⊢
        omega
      rw [e1, Int.mul_neg]
      have : 0 < val al s0 p.1 * val al s0 p.1 := by
        rcases Int.lt_trichotomy (val al s0 p.1) 0 with z | z | z
        · exact Int.mul_pos_of_neg_of_neg z z
        · exact absurd z hne
        · exact Int.mul_pos z z
      omega
    obtain ⟨j, hj, hlt, hneg⟩ := near_ex (by rw [hal, h1.1]) hlw hu hdd
    have huw := more_under hj hlw hu hlt
    have hlo : (oneMore p.1 j).length = m := by rw [more_len' hj, h1.1]
    have hab : above (oneMore p.1 j) ((f ++ evens L) ++ barred) = false := by
      rw [above_false]
      intro o ho
      rw [Bool.eq_false_iff]
      intro z
      rcases List.mem_append.mp ho with ho | ho
      · obtain ⟨hmo, hso⟩ := hfs o ho
        have hz := under_trans (hmo.1.1.1.trans hlo.symm) z huw
        have := hw.2 o hmo.1 hz
        rw [this] at hso
        omega
      · obtain ⟨hbl, hbw⟩ := hb o ho
        have hz := under_trans (hbl.trans hlo.symm) z huw
        rw [hbw w hw] at hz
        cases hz
    obtain ⟨p', hp', e⟩ := next_has (L := L) (cs := colsQ al q) (barred := (f ++ evens L) ++ barred) hp (colsQ_get (q := q) (by rw [hal, ← h1.1]; exact hj)) (by rw [h3, dot_rep, neg_q hq]; exact hneg) hab
    exact ⟨p', hp', by rw [e]; exact huw⟩
  · rw [List.nodup_append]
    refine ⟨h.fn, ?_, ?_⟩
    · unfold evens
      exact List.Nodup.sublist (List.Sublist.map _ List.filter_sublist) h.nd
    · intro a ha b hb e
      have h1 := (h.fs a ha).2
      have h2 := ((hev b).mp hb).2
      rw [e] at h1
      omega
  · obtain ⟨p, hp, j, c, hc, hd, hab, rfl⟩ := next_from p' hp'
    exact above_false.mp hab r hr
end
end K25

namespace K25
open PySem PySem.Spec PyProof.Rows L2 DL
local macro_rules | `(tactic| walk_at "ev") => `(tactic| simp (disch := first | omega | (simp only [List.length_cons, List.length_nil, List.length_map, List.length_append, List.length_take, List.length_drop] <;> omega) | fail) only [cell_ok, pick_ok, startD, List.map_cons, List.map_nil, List.cons_append, List.nil_append, List.length_cons, List.length_nil, List.length_map, List.replicate, List.append_nil,
  ev_seq, ev_nx, ev_rt, ev_xc, ev_bk, ev_ct, ev_ss, ev_if, ev_ifT, ev_ifF, ev_stepN, lp_nx, lp_ct, lp_bk, lp_rt, lp_xc, wp_some,
  dSet, dSetO, dRet, dRetO, dRetVar, dNx, eS_ok, eS_mok, mbind_ok, mbind_mok, dTst, d2, d1, dVar, dVarS, dC, dCall, dCons, dNil, dFn, ev_ret, ev_exc, dAnd, dOr, dNot, dAndV, dOrV, dNotV, dTup, dLst, dApp, dSetIx, dAug, dYes, dIt, dItA,  wipeD, gN, gT, gCons', gNil', ev_appOk, ixN_ok, Option.bind_some,
  if_true, if_false, Bool.true_and, Bool.false_and, Bool.and_true, Bool.and_false, Bool.true_or, Bool.false_or, Bool.or_true, Bool.or_false, Bool.not_true, Bool.not_false, decide_true, decide_false, reduceIte, Bool.false_eq_true,
  Int.reduceToNat, Int.reduceAdd, Int.reduceSub, Int.reduceMul, Int.reduceMod, Int.reduceLT, Int.reduceLE, Int.reduceEq, Nat.reduceAdd, Nat.reduceSub, Nat.reduceEqDiff, Nat.reduceLT, Int.reducePow, gt_iff_lt, ge_iff_le, Int.reduceGT, Int.toNat_zero, Int.toNat_one, List.set_cons_zero, List.set_cons_succ, List.getD_cons_zero, List.getD_cons_succ, decide_eq_true_eq, decide_eq_false_iff_not,
  List.getElem?_cons_zero, List.getElem?_cons_succ, addD_int, iaddD_int, subD_int, ltD_int, leD_int, gtD_int, geD_int, eqD_int, neD_int, eqD_bool, asB_bool, lenD_list, lenD_tuple, tupleD_list, tupleD_tuple, listD_list, listD_tuple, resOf, mulD_r, mulD_l, modD_int, divD_int, powD_int, addD_list, addL_list, addD_tuple, cutD_toT, cutD_fromT, cutD_toL, cutD_fromL, cutO_toL, cutO_fromL, sortD_list, sortD_tuple, zipD_list, zipD_tuple, asLT_list, asLT_tuple, dFnO, dResO, dFnS, List.take_succ_cons, List.take_zero, List.drop_succ_cons, List.drop_zero, addD_T, iaddD_T, lenD_T, cutD_to, cutD_from, eqD_T, neD_T, isiD_str, dSl, dSome, dNo, asI_int, letter_small, letter_great, ev_andM, ev_orM, maxD_int, minD_int, absD_int, isiD_bool, getD'_ints, getD'_intsT, getD'_atC, getD'_atCT, rngD_one, rngD_two, isNotD_none, isD_none])
local macro_rules | `(tactic| walk_at "un") => `(tactic| simp (disch := first | omega | (simp only [List.length_cons, List.length_nil, List.length_map, List.length_append, List.length_take, List.length_drop] <;> omega) | fail) only [cell_ok, pick_ok, dFor, ev_forN, ev_forS, ev_lnx, ev_lct, ev_lbk, ev_lrt, ev_lxc, rngL_step, rngL_nil, range_0, range_1, range_2, range_3, range_4, range_5, startD, List.map_cons, List.map_nil, List.cons_append, List.nil_append, List.length_cons, List.length_nil, List.length_map, List.replicate, List.append_nil,
  ev_seq, ev_nx, ev_rt, ev_xc, ev_bk, ev_ct, ev_ss, ev_if, ev_ifT, ev_ifF, ev_stepN, lp_nx, lp_ct, lp_bk, lp_rt, lp_xc, wp_some,
  dSet, dSetO, dRet, dRetO, dRetVar, dNx, eS_ok, eS_mok, mbind_ok, mbind_mok, dTst, d2, d1, dVar, dVarS, dC, dCall, dCons, dNil, dFn, ev_ret, ev_exc, dAnd, dOr, dNot, dAndV, dOrV, dNotV, dTup, dLst, dApp, dSetIx, dAug, dYes, dIt, dItA,  wipeD, gN, gT, gCons', gNil', ev_appOk, ixN_ok, Option.bind_some,
  if_true, if_false, Bool.true_and, Bool.false_and, Bool.and_true, Bool.and_false, Bool.true_or, Bool.false_or, Bool.or_true, Bool.or_false, Bool.not_true, Bool.not_false, decide_true, decide_false, reduceIte, Bool.false_eq_true,
  Int.reduceToNat, Int.reduceAdd, Int.reduceSub, Int.reduceMul, Int.reduceMod, Int.reduceLT, Int.reduceLE, Int.reduceEq, Nat.reduceAdd, Nat.reduceSub, Nat.reduceEqDiff, Nat.reduceLT, Int.reducePow, gt_iff_lt, ge_iff_le, Int.reduceGT, Int.toNat_zero, Int.toNat_one, List.set_cons_zero, List.set_cons_succ, List.getD_cons_zero, List.getD_cons_succ, decide_eq_true_eq, decide_eq_false_iff_not,
  List.getElem?_cons_zero, List.getElem?_cons_succ, addD_int, iaddD_int, subD_int, ltD_int, leD_int, gtD_int, geD_int, eqD_int, neD_int, eqD_bool, asB_bool, lenD_list, lenD_tuple, tupleD_list, tupleD_tuple, listD_list, listD_tuple, resOf, mulD_r, mulD_l, modD_int, divD_int, powD_int, addD_list, addL_list, addD_tuple, cutD_toT, cutD_fromT, cutD_toL, cutD_fromL, cutO_toL, cutO_fromL, sortD_list, sortD_tuple, zipD_list, zipD_tuple, asLT_list, asLT_tuple, dFnO, dResO, dFnS, List.take_succ_cons, List.take_zero, List.drop_succ_cons, List.drop_zero, addD_T, iaddD_T, lenD_T, cutD_to, cutD_from, eqD_T, neD_T, isiD_str, dSl, dSome, dNo, asI_int, letter_small, letter_great, ev_andM, ev_orM, maxD_int, minD_int, absD_int, isiD_bool, getD'_ints, getD'_intsT, getD'_atC, getD'_atCT, rngD_one, rngD_two, isNotD_none, isD_none])
/-! ### rows under which no solution lies are short -/
theorem more_get : ∀ {v : List Int} {j k : Nat}, j < v.length → (oneMore v j).getD k 0 = if k = j then v.getD j 0 + 1 else v.getD k 0
  | [], _, _, h => by simp at h
  | x :: v, 0, 0, _ => by rw [more_cons_zero]; simp
  | x :: v, 0, k + 1, _ => by rw [more_cons_zero]; simp
  | x :: v, j + 1, 0, _ => by rw [more_cons_succ]; simp
  | x :: v, j + 1, k + 1, h => by
    rw [more_cons_succ, List.getD_cons_succ, List.getD_cons_succ, List.getD_cons_succ, more_get (by simpa using h)]
    by_cases e : k = j <;> simp [e]
def moreN (h : List Int) (j : Nat) : Nat → List Int
  | 0 => h
  | n + 1 => oneMore (moreN h j n) j
theorem moreN_ok {m j : Nat} {al h v : List Int} (hr : Row m h) (hj : j < m) (hal : al.length = m) (hv : v.length = m) (hu : under h v = true) : ∀ n : Nat, h.getD j 0 + n ≤ v.getD j 0 →
    Row m (moreN h j n) ∧ dot al (moreN h j n) = dot al h + n * al.getD j 0 ∧ (moreN h j n).sum = h.sum + n ∧ under (moreN h j n) v = true ∧ (moreN h j n).getD j 0 = h.getD j 0 + n ∧ ∀ k, k ≠ j → (moreN h j n).getD k 0 = h.getD k 0
  | 0, _ => ⟨hr, by simp [moreN], by simp [moreN], hu, by simp [moreN], fun _ _ => rfl⟩
  | n + 1, hn => by
    obtain ⟨h1, h2, h3, h4, h5, h6⟩ := moreN_ok (al := al) hr hj hal hv hu n (by omega)
    have hl : j < (moreN h j n).length := by rw [h1.1]; exact hj
    refine ⟨more_row h1 hj, ?_, ?_, ?_, ?_, fun k hk => ?_⟩
    · show dot al (oneMore (moreN h j n) j) = _
      rw [more_dot hl (by rw [hal, h1.1]), h2]
      have : ((n + 1 : Nat) : Int) = n + 1 := by omega
      rw [this, Int.add_mul]
      omega
    · show (oneMore (moreN h j n) j).sum = _
      rw [more_sum hl, h3]
      omega
    · exact more_under hl (h1.1.trans hv.symm) h4 (by rw [h5]; omega)
    · show (oneMore (moreN h j n) j).getD j 0 = _
      rw [more_get hl, if_pos rfl, h5]
      omega
    · show (oneMore (moreN h j n) j).getD k 0 = _
      rw [more_get hl, if_neg hk, h6 k hk]
theorem zeros_len {m : Nat} : (zeros m).length = m := by simp [zeros]
theorem zeros_row {m : Nat} : Row m (zeros m) := ⟨zeros_len, fun x hx => by have := List.eq_of_mem_replicate hx; omega⟩
theorem zeros_get {m j : Nat} : (zeros m).getD j 0 = 0 := by
  unfold zeros
  rw [List.getD_eq_getElem?_getD, List.getElem?_replicate]
  split <;> rfl
theorem zeros_sum : ∀ {m : Nat}, (zeros m).sum = 0
  | 0 => rfl
  | m + 1 => by
    have := zeros_sum (m := m)
    unfold zeros at this ⊢
    rw [List.replicate_succ, sum_cons', this]
    rfl
theorem zeros_dot : ∀ {m : Nat} {al : List Int}, dot al (zeros m) = 0
  | 0, [] => rfl
  | 0, _ :: _ => rfl
  | m + 1, [] => rfl
  | m + 1, a :: al => by
    have := zeros_dot (m := m) (al := al)
    unfold zeros at this ⊢
    rw [List.replicate_succ]
    show a * 0 + dot al (List.replicate m 0) = 0
    rw [this]
    omega
theorem zeros_under : ∀ {m : Nat} {v : List Int}, (∀ x ∈ v, 0 ≤ x) → under (zeros m) v = true
  | 0, _, _ => by simp [zeros, under]
  | m + 1, [], _ => by simp [zeros, List.replicate_succ, under]
  | m + 1, x :: v, h => by
    have := zeros_under (m := m) (v := v) fun y hy => h y (List.mem_cons_of_mem _ hy)
    unfold zeros at this ⊢
    rw [List.replicate_succ, under_cons]
    exact ⟨h x List.mem_cons_self, this⟩
def NoHom (al : List Int) (m : Nat) (v : List Int) : Prop := ∀ h, Row m h → dot al h = 0 → 1 ≤ h.sum → h.sum ≤ 6 → under h v = false
theorem pair_hom {m : Nat} {al v : List Int} (hv : Row m v) (hal : al.length = m) (hn : NoHom al m v) (ha : ∀ a ∈ al, a.natAbs ≤ 3) {i j : Nat} (hi : i < m) (hj : j < m) (h1 : 0 < al.getD i 0) (h2 : al.getD j 0 < 0) : v.getD i 0 ≤ 2 ∨ v.getD j 0 ≤ 2 := by
  apply Classical.byContradiction
  intro hc
  have a1 := ha _ (get_mem (by rw [hal]; exact hi))
  have a2 := ha _ (get_mem (by rw [hal]; exact hj))
  have hne : j ≠ i := by rintro rfl; omega
  obtain ⟨b1, b2, b3, b4, b5, b6⟩ := moreN_ok (al := al) zeros_row hi hal hv.1 (zeros_under hv.2) (al.getD j 0).natAbs (by rw [zeros_get]; omega)
  obtain ⟨c1, c2, c3, c4, c5, c6⟩ := moreN_ok (al := al) b1 hj hal hv.1 b4 (al.getD i 0).natAbs (by rw [b6 j hne, zeros_get]; omega)
  rw [b3, zeros_sum] at c3
  have := hn _ c1 (by
    rw [c2, b2, zeros_dot]
    have e1 : ((al.getD j 0).natAbs : Int) = - al.getD j 0 := by omega
    have e2 : ((al.getD i 0).natAbs : Int) = al.getD i 0 := by omega
    rw [e1, e2, Int.neg_mul, Int.mul_comm (al.getD i 0)]
    omega) (by omega) (by omega)
  rw [c4] at this
  cases this
theorem zero_hom {m : Nat} {al v : List Int} (hv : Row m v) (hal : al.length = m) (hn : NoHom al m v) {i : Nat} (hi : i < m) (h1 : al.getD i 0 = 0) : v.getD i 0 ≤ 0 := by
  apply Classical.byContradiction
  intro hc
  obtain ⟨b1, b2, b3, b4, b5, b6⟩ := moreN_ok (al := al) zeros_row hi hal hv.1 (zeros_under hv.2) 1 (by rw [zeros_get]; omega)
  rw [zeros_sum] at b3
  have := hn _ b1 (by rw [b2, zeros_dot, h1]; omega) (by omega) (by omega)
  rw [b4] at this
  cases this
theorem sum_le : ∀ {al v : List Int}, al.length = v.length → (∀ j, j < v.length → v.getD j 0 ≤ 8 + al.getD j 0 * v.getD j 0) → v.sum ≤ 8 * v.length + dot al v
  | [], [], _, _ => by simp [dot]
  | [], _ :: _, h, _ => by simp at h
  | _ :: _, [], h, _ => by simp at h
  | a :: al, x :: v, h, hj => by
    have ih := sum_le (al := al) (v := v) (by simpa using h) fun j hjl => hj (j + 1) (by simpa using hjl)
    have h0 := hj 0 (by simp)
    simp only [List.getD_cons_zero] at h0
    rw [sum_cons', List.length_cons]
    show x + v.sum ≤ 8 * ((v.length + 1 : Nat) : Int) + (a * x + dot al v)
    omega
theorem dot_neg : ∀ {al v : List Int}, dot (al.map fun x => - x) v = - dot al v
  | [], _ => rfl
  | _ :: _, [] => rfl
  | a :: al, x :: v => by
    show -a * x + dot (al.map fun x => - x) v = -(a * x + dot al v)
    rw [dot_neg, Int.neg_mul]
    omega
theorem get_neg {al : List Int} {j : Nat} : (al.map fun x => - x).getD j 0 = - al.getD j 0 := by
  rw [List.getD_eq_getElem?_getD, List.getD_eq_getElem?_getD, List.getElem?_map]
  cases al[j]? <;> rfl
theorem get_nn {v : List Int} (h : ∀ x ∈ v, 0 ≤ x) (j : Nat) : 0 ≤ v.getD j 0 := by
  rw [List.getD_eq_getElem?_getD]
  cases hq : v[j]? with
  | none => exact Int.le_refl _
  | some x => exact h x (List.mem_of_getElem? hq)
theorem small_mul {a x : Int} (h : a.natAbs ≤ 3) (h0 : 0 ≤ x) (h2 : (0 < a → x ≤ 2)) (hz : a = 0 → x ≤ 0) : x ≤ 8 + -a * x := by
  rcases Int.lt_trichotomy a 0 with h1 | h1 | h1
  · have : x ≤ -a * x := by
      have := Int.mul_le_mul_of_nonneg_right (show 1 ≤ -a by omega) h0
      omega
    omega
  · subst h1
    have := hz rfl
    omega
  · have h3 := h2 h1
    have h4 := Int.mul_le_mul_of_nonneg_right (show -3 ≤ -a by omega) h0
    omega
theorem short {m : Nat} {al v : List Int} (hv : Row m v) (hal : al.length = m) (ha : ∀ a ∈ al, a.natAbs ≤ 3) (hd : (dot al v).natAbs ≤ 40) (hn : NoHom al m v) : v.sum ≤ 8 * m + 40 := by
  by_cases hp : ∃ i, i < m ∧ 0 < al.getD i 0 ∧ 2 < v.getD i 0
  · obtain ⟨i, hi, hai, hvi⟩ := hp
    have := sum_le (al := al) (v := v) (by rw [hal, hv.1]) fun j hj => by
      rw [hv.1] at hj
      have := small_mul (a := - al.getD j 0) (x := v.getD j 0) (by have := ha _ (get_mem (by rw [hal]; exact hj)); omega) (get_nn hv.2 j) (fun h => by
        rcases pair_hom hv hal hn ha hi hj hai (by omega) with h | h
        · omega
        · exact h) (fun h => zero_hom hv hal hn hj (by omega))
      rwa [Int.neg_neg] at this
    rw [hv.1] at this
    omega
  · have := sum_le (al := al.map fun x => - x) (v := v) (by rw [List.length_map, hal, hv.1]) fun j hj => by
      rw [hv.1] at hj
      rw [get_neg]
      exact small_mul (ha _ (get_mem (by rw [hal]; exact hj))) (get_nn hv.2 j) (fun h => by
        apply Classical.byContradiction
        intro z
        exact hp ⟨j, hj, h, by omega⟩) (fun h => zero_hom hv hal hn hj h)
    rw [hv.1, dot_neg] at this
    omega
end K25

namespace K25
open PySem PySem.Spec PyProof.Rows L2 DL
local macro_rules | `(tactic| walk_at "ev") => `(tactic| simp (disch := first | omega | (simp only [List.length_cons, List.length_nil, List.length_map, List.length_append, List.length_take, List.length_drop] <;> omega) | fail) only [cell_ok, pick_ok, startD, List.map_cons, List.map_nil, List.cons_append, List.nil_append, List.length_cons, List.length_nil, List.length_map, List.replicate, List.append_nil,
  ev_seq, ev_nx, ev_rt, ev_xc, ev_bk, ev_ct, ev_ss, ev_if, ev_ifT, ev_ifF, ev_stepN, lp_nx, lp_ct, lp_bk, lp_rt, lp_xc, wp_some,
  dSet, dSetO, dRet, dRetO, dRetVar, dNx, eS_ok, eS_mok, mbind_ok, mbind_mok, dTst, d2, d1, dVar, dVarS, dC, dCall, dCons, dNil, dFn, ev_ret, ev_exc, dAnd, dOr, dNot, dAndV, dOrV, dNotV, dTup, dLst, dApp, dSetIx, dAug, dYes, dIt, dItA,  wipeD, gN, gT, gCons', gNil', ev_appOk, ixN_ok, Option.bind_some,
  if_true, if_false, Bool.true_and, Bool.false_and, Bool.and_true, Bool.and_false, Bool.true_or, Bool.false_or, Bool.or_true, Bool.or_false, Bool.not_true, Bool.not_false, decide_true, decide_false, reduceIte, Bool.false_eq_true,
  Int.reduceToNat, Int.reduceAdd, Int.reduceSub, Int.reduceMul, Int.reduceMod, Int.reduceLT, Int.reduceLE, Int.reduceEq, Nat.reduceAdd, Nat.reduceSub, Nat.reduceEqDiff, Nat.reduceLT, Int.reducePow, gt_iff_lt, ge_iff_le, Int.reduceGT, Int.toNat_zero, Int.toNat_one, List.set_cons_zero, List.set_cons_succ, List.getD_cons_zero, List.getD_cons_succ, decide_eq_true_eq, decide_eq_false_iff_not,
  List.getElem?_cons_zero, List.getElem?_cons_succ, addD_int, iaddD_int, subD_int, ltD_int, leD_int, gtD_int, geD_int, eqD_int, neD_int, eqD_bool, asB_bool, lenD_list, lenD_tuple, tupleD_list, tupleD_tuple, listD_list, listD_tuple, resOf, mulD_r, mulD_l, modD_int, divD_int, powD_int, addD_list, addL_list, addD_tuple, cutD_toT, cutD_fromT, cutD_toL, cutD_fromL, cutO_toL, cutO_fromL, sortD_list, sortD_tuple, zipD_list, zipD_tuple, asLT_list, asLT_tuple, dFnO, dResO, dFnS, List.take_succ_cons, List.take_zero, List.drop_succ_cons, List.drop_zero, addD_T, iaddD_T, lenD_T, cutD_to, cutD_from, eqD_T, neD_T, isiD_str, dSl, dSome, dNo, asI_int, letter_small, letter_great, ev_andM, ev_orM, maxD_int, minD_int, absD_int, isiD_bool, getD'_ints, getD'_intsT, getD'_atC, getD'_atCT, rngD_one, rngD_two, isNotD_none, isD_none])
local macro_rules | `(tactic| walk_at "un") => `(tactic| simp (disch := first | omega | (simp only [List.length_cons, List.length_nil, List.length_map, List.length_append, List.length_take, List.length_drop] <;> omega) | fail) only [cell_ok, pick_ok, dFor, ev_forN, ev_forS, ev_lnx, ev_lct, ev_lbk, ev_lrt, ev_lxc, rngL_step, rngL_nil, range_0, range_1, range_2, range_3, range_4, range_5, startD, List.map_cons, List.map_nil, List.cons_append, List.nil_append, List.length_cons, List.length_nil, List.length_map, List.replicate, List.append_nil,
  ev_seq, ev_nx, ev_rt, ev_xc, ev_bk, ev_ct, ev_ss, ev_if, ev_ifT, ev_ifF, ev_stepN, lp_nx, lp_ct, lp_bk, lp_rt, lp_xc, wp_some,
  dSet, dSetO, dRet, dRetO, dRetVar, dNx, eS_ok, eS_mok, mbind_ok, mbind_mok, dTst, d2, d1, dVar, dVarS, dC, dCall, dCons, dNil, dFn, ev_ret, ev_exc, dAnd, dOr, dNot, dAndV, dOrV, dNotV, dTup, dLst, dApp, dSetIx, dAug, dYes, dIt, dItA,  wipeD, gN, gT, gCons', gNil', ev_appOk, ixN_ok, Option.bind_some,
  if_true, if_false, Bool.true_and, Bool.false_and, Bool.and_true, Bool.and_false, Bool.true_or, Bool.false_or, Bool.or_true, Bool.or_false, Bool.not_true, Bool.not_false, decide_true, decide_false, reduceIte, Bool.false_eq_true,
  Int.reduceToNat, Int.reduceAdd, Int.reduceSub, Int.reduceMul, Int.reduceMod, Int.reduceLT, Int.reduceLE, Int.reduceEq, Nat.reduceAdd, Nat.reduceSub, Nat.reduceEqDiff, Nat.reduceLT, Int.reducePow, gt_iff_lt, ge_iff_le, Int.reduceGT, Int.toNat_zero, Int.toNat_one, List.set_cons_zero, List.set_cons_succ, List.getD_cons_zero, List.getD_cons_succ, decide_eq_true_eq, decide_eq_false_iff_not,
  List.getElem?_cons_zero, List.getElem?_cons_succ, addD_int, iaddD_int, subD_int, ltD_int, leD_int, gtD_int, geD_int, eqD_int, neD_int, eqD_bool, asB_bool, lenD_list, lenD_tuple, tupleD_list, tupleD_tuple, listD_list, listD_tuple, resOf, mulD_r, mulD_l, modD_int, divD_int, powD_int, addD_list, addL_list, addD_tuple, cutD_toT, cutD_fromT, cutD_toL, cutD_fromL, cutO_toL, cutO_fromL, sortD_list, sortD_tuple, zipD_list, zipD_tuple, asLT_list, asLT_tuple, dFnO, dResO, dFnS, List.take_succ_cons, List.take_zero, List.drop_succ_cons, List.drop_zero, addD_T, iaddD_T, lenD_T, cutD_to, cutD_from, eqD_T, neD_T, isiD_str, dSl, dSome, dNo, asI_int, letter_small, letter_great, ev_andM, ev_orM, maxD_int, minD_int, absD_int, isiD_bool, getD'_ints, getD'_intsT, getD'_atC, getD'_atCT, rngD_one, rngD_two, isNotD_none, isD_none])
/-! ### the run -/
theorem sum_app : ∀ (xs ys : List Int), (xs ++ ys).sum = xs.sum + ys.sum
  | [], ys => by simp
  | x :: xs, ys => by rw [List.cons_append, sum_cons', sum_cons', sum_app xs ys]; omega
theorem le_sum : ∀ {v : List Int}, (∀ x ∈ v, 0 ≤ x) → ∀ x ∈ v, x ≤ v.sum
  | [], _, x, hx => by cases hx
  | y :: v, h, x, hx => by
    have h1 := row_sum (v := v) fun z hz => h z (List.mem_cons_of_mem _ hz)
    have h2 := h y List.mem_cons_self
    rw [sum_cons']
    rcases List.mem_cons.mp hx with rfl | hx
    · omega
    · have := le_sum (fun z hz => h z (List.mem_cons_of_mem _ hz)) x hx
      omega
theorem last_split {v : List Int} {m : Nat} (h : v.length = m + 1) : v = v.take m ++ [v.getD m 0] := by
  have h1 : v.drop m = [v.getD m 0] := by
    rw [List.drop_eq_getElem_cons (by omega), List.drop_eq_nil_of_le (by omega), List.getD_eq_getElem?_getD, List.getElem?_eq_getElem (by omega)]
    rfl
  rw [← h1, List.take_append_drop]
theorem under_app {a b : List Int} {x y : Int} : a.length = b.length → under a b = true → x ≤ y → under (a ++ [x]) (b ++ [y]) = true := by
  induction a generalizing b with
  | nil =>
    intro h _ hxy
    cases b with
    | nil => simp [under, hxy]
    | cons _ _ => simp at h
  | cons p a ih =>
    intro h hu hxy
    cases b with
    | nil => simp at h
    | cons q b =>
      rw [under_cons] at hu
      rw [List.cons_append, List.cons_append, under_cons]
      exact ⟨hu.1, ih (by simpa using h) hu.2 hxy⟩
theorem pow_small {m : Nat} (h : m ≤ 3) : 76 ^ m ≤ 1000000 := by
  have : m = 0 ∨ m = 1 ∨ m = 2 ∨ m = 3 := by omega
  rcases this with rfl | rfl | rfl | rfl <;> decide
theorem level_few {m : Nat} {k : Int} {xs : List (List Int)} (hm : m ≤ 3) (hk : k ≤ 75) (hn : xs.Nodup) (hr : ∀ v ∈ xs, Row (m + 1) v ∧ v.sum = k) : xs.length ≤ 1000000 := by
  refine Nat.le_trans (rows_few (K := 76) (m := m) (by omega) hn (fun v hv => ?_) fun v hv w hw e => ?_) (pow_small hm)
  · obtain ⟨h1, h2⟩ := hr v hv
    refine ⟨h1.1, fun x hx => ⟨h1.2 x hx, ?_⟩⟩
    have := le_sum h1.2 x hx
    omega
  · obtain ⟨h1, h2⟩ := hr v hv
    obtain ⟨h3, h4⟩ := hr w hw
    have s1 := last_split h1.1
    have s2 := last_split h3.1
    rw [s1, sum_app] at h2
    rw [s2, sum_app, ← e] at h4
    have s3 : ∀ x : Int, [x].sum = x := fun x => by simp
    rw [s3] at h2 h4
    have e2 : v.getD m 0 = w.getD m 0 := by omega
    rw [s1, s2, e, e2]
theorem anti_few {m : Nat} {xs : List (List Int)} (hm : m ≤ 3) (hn : xs.Nodup) (hr : ∀ v ∈ xs, Row (m + 1) v ∧ v.sum ≤ 75) (ha : ∀ v ∈ xs, ∀ w ∈ xs, under v w = true → v = w) : xs.length ≤ 1000000 := by
  refine Nat.le_trans (rows_few (K := 76) (m := m) (by omega) hn (fun v hv => ?_) fun v hv w hw e => ?_) (pow_small hm)
  · obtain ⟨h1, h2⟩ := hr v hv
    refine ⟨h1.1, fun x hx => ⟨h1.2 x hx, ?_⟩⟩
    have := le_sum h1.2 x hx
    omega
  · obtain ⟨h1, h2⟩ := hr v hv
    obtain ⟨h3, h4⟩ := hr w hw
    have s1 := last_split h1.1
    have s2 := last_split h3.1
    rcases Int.le_total (v.getD m 0) (w.getD m 0) with hle | hle
    · refine ha v hv w hw ?_
      rw [s1, s2, e]
      exact under_app rfl (under_refl _) hle
    · refine (ha w hw v hv ?_).symm
      rw [s1, s2, e]
      exact under_app rfl (under_refl _) hle
section
variable {al : List Int} {s0 : Int} {m q : Nat} {hom : Prop} {barred : List (List Int)} {k0 : Nat}
theorem runs_of (hm1 : 1 ≤ m) (hm : m ≤ 4) (hq : 1 ≤ q) (hq2 : q ≤ 16) (hal : al.length = m) (ha : ∀ a ∈ al, a.natAbs ≤ 3) (hs0 : s0.natAbs ≤ 20) (hk0 : k0 ≤ 1) (hk : hom → 1 ≤ k0) (hk2 : ∀ w, Min al s0 m hom w → (k0 : Int) ≤ w.sum)
    (hb : ∀ b ∈ barred, b.length = m ∧ ∀ w, Min al s0 m hom w → under b w = false)
    (hh : ∀ w, Min al 0 m True w → w.sum ≤ 6 → w ∈ barred ∨ Min al s0 m hom w) :
    Runs (colsQ al q) barred (fun n f L => ∃ k, n + k = 75 ∧ GI al s0 m q hom barred k0 k f L) where
  stop := by
    rintro f L ⟨k, hk75, h⟩
    have hk75 : k = 75 := by omega
    subst hk75
    cases L with
    | nil => rfl
    | cons p L =>
      exfalso
      obtain ⟨h1, h2, h3, h4⟩ := h.lv p List.mem_cons_self
      have := short h1 hal ha (by unfold val at h4; omega) (fun u hu hd h5 h6 => by
        rw [Bool.eq_false_iff]
        intro z
        obtain ⟨w, hw, hwu⟩ := min_ex (al := al) (s0 := 0) (m := m) (hom := True) _ u (Nat.le_refl _) ⟨hu, by unfold val; omega, fun _ => h5⟩
        have hwl := hw.1.1.1.trans hu.1.symm
        have hws := under_sum hwl hwu
        have hwp := under_trans hwl hwu z
        have hmem : w ∈ f ++ barred := by
          rcases hh w hw (by omega) with h7 | h7
          · exact List.mem_append_right _ h7
          · exact List.mem_append_left _ (h.fc w h7 (by omega))
        have := h.ab (by omega) p List.mem_cons_self w hmem
        rw [hwp] at this
        cases this)
      omega
  step := by
    rintro n f L ⟨k, hk75, h⟩ _
    exact ⟨k + 1, by omega, gi_step h hq hal ha hk hk2 hb⟩
  ok := by
    rintro n f L ⟨k, hk75, h⟩
    have hcl : (colsQ al q).length = m := by unfold colsQ; rw [List.length_map, hal]
    obtain ⟨m', rfl⟩ : ∃ m', m = m' + 1 := ⟨m - 1, by omega⟩
    refine ⟨fun p hp => ?_, ?_, ?_, fun r hr z => ?_⟩
    · obtain ⟨h1, h2, h3, h4⟩ := h.lv p hp
      refine ⟨by rw [hcl]; exact h1.1, ?_, ?_⟩
      · intro x hx
        rw [h3] at hx
        have := List.eq_of_mem_replicate hx
        omega
      · rw [h3, List.length_replicate]
        omega
    · have := level_few (m := m') (k := k) (by omega) (by omega) h.nd fun v hv => by
        obtain ⟨p, hp, rfl⟩ := List.mem_map.mp hv
        obtain ⟨h1, h2, h3, h4⟩ := h.lv p hp
        exact ⟨h1, h2⟩
      rwa [List.length_map] at this
    · refine anti_few (m := m') (by omega) h.fn (fun v hv => ?_) fun v hv w hw hu => ?_
      · obtain ⟨h1, h2⟩ := h.fs v hv
        exact ⟨h1.1.1, by omega⟩
      · exact (h.fs w hw).1.2 v (h.fs v hv).1.1 hu
    · have := (h.fs r hr).1.1.1.1
      rw [z] at this
      simp at this
theorem gi_end {k : Nat} {f : List (List Int)} (h : GI al s0 m q hom barred k0 k f []) : f.Nodup ∧ ∀ w, w ∈ f ↔ Min al s0 m hom w := by
  refine ⟨h.fn, fun w => ⟨fun hw => (h.fs w hw).1, fun hw => ?_⟩⟩
  by_cases hc : w.sum < k
  · exact h.fc w hw hc
  · obtain ⟨p, hp, _⟩ := h.lc w hw (by omega)
    cases hp
end
theorem bad_rep {al : List Int} {m q : Nat} {r : Int} {qr : Nat} (hm : m ≤ 4) (hq2 : q ≤ 16) (ha : ∀ a ∈ al, a.natAbs ≤ 3) (hr : r.natAbs ≤ 20) : ¬ Bad (List.replicate q al) m (List.replicate qr r) := by
  rintro (h | h | ⟨x, hx, n, hn, h⟩ | ⟨n, hn, h⟩)
  · rw [List.length_replicate] at h; omega
  · omega
  · rw [List.eq_of_mem_replicate hx] at hn
    have := ha n hn
    omega
  · rw [List.eq_of_mem_replicate hn] at h
    omega
theorem pos_place : ∀ {w : List Int}, (∀ x ∈ w, 0 ≤ x) → 1 ≤ w.sum → ∃ j, j < w.length ∧ 0 < w.getD j 0
  | [], _, h => by simp at h
  | x :: w, hn, h => by
    by_cases hx : 0 < x
    · exact ⟨0, by simp, hx⟩
    · rw [sum_cons'] at h
      obtain ⟨j, h1, h2⟩ := pos_place (fun y hy => hn y (List.mem_cons_of_mem _ hy)) (show 1 ≤ w.sum by omega)
      exact ⟨j + 1, by simpa using h1, h2⟩
theorem zipIdx_nodup {α : Type} (xs : List α) : xs.zipIdx.Nodup := by
  have : (xs.zipIdx.map Prod.snd).Nodup := by rw [List.zipIdx_map_snd]; exact List.nodup_range'
  exact List.Pairwise.of_map Prod.snd (fun a b h e => h (by rw [e])) this
/-- least, told of one equation -/
theorem hom_all {E : Errs} {al : List Int} {m q : Nat} (hm1 : 1 ≤ m) (hm : m ≤ 4) (hq : 1 ≤ q) (hq2 : q ≤ 16) (hal : al.length = m) (ha : ∀ a ∈ al, a.natAbs ≤ 3) :
    ∃ f : List (List Int), f.Nodup ∧ (∀ w, w ∈ f ↔ Min al 0 m True w) ∧ f.length ≤ 1000000 ∧ G_least E [.list ((List.replicate q al).map rowD), .int m] = some (.ret true (.list (srt (f.map rowD)))) := by
  have hc : cols (List.replicate q al) m = colsQ al q := by rw [← hal]; exact cols_rep
  have hR := runs_of (al := al) (s0 := 0) (m := m) (q := q) (hom := True) (barred := []) (k0 := 1) hm1 hm hq hq2 hal ha (by decide) (by omega) (fun _ => by omega) (fun w hw => hw.1.2.2 trivial) (by intro b hb; cases hb) (fun w hw _ => .inr hw)
  have hst : GI al 0 m q True [] 1 1 [] (startL (colsQ al q) m) := by
    have hcl : (colsQ al q).length = m := by unfold colsQ; rw [List.length_map, hal]
    refine ⟨fun p hp => ?_, ?_, (fun r hr => by cases hr), fun w hw hlt => ?_, fun w hw hle => ?_, by simp, fun h => by omega, by omega⟩
    · obtain ⟨c, hc, rfl⟩ := List.mem_map.mp hp
      have hlt := zipIdx_lt hc
      rw [hcl] at hlt
      obtain ⟨h1, h2⟩ := colsQ_at (zipIdx_mem hc)
      have hzl : c.2 < (zeros m).length := by rw [zeros_len]; exact hlt
      have hv : val al 0 (unit m c.2) = al.getD c.2 0 := by
        unfold val unit
        rw [more_dot hzl (by rw [hal, zeros_len]), zeros_dot]
        omega
      refine ⟨more_row zeros_row hlt, ?_, ?_, ?_⟩
      · show (oneMore (zeros m) c.2).sum = _
        rw [more_sum hzl, zeros_sum]
        rfl
      · show c.1 = _
        rw [hv]
        exact h2
      · show (val al 0 (unit m c.2)).natAbs ≤ 20
        rw [hv]
        have := ha _ (get_mem h1)
        omega
    · unfold startL
      rw [List.map_map]
      refine nodup_map' ?_ fun c hc d hd e => ?_
      · exact zipIdx_nodup _
      · have h1 := zipIdx_lt hc
        have h2 := zipIdx_lt hd
        rw [hcl] at h1 h2
        have h3 : c.2 = d.2 := by
          apply Classical.byContradiction
          intro z
          exact unit_ne h1 h2 z e
        have h4 := zipIdx_mem hc
        have h5 := zipIdx_mem hd
        rw [h3, h5] at h4
        exact (Prod.ext (Option.some.inj h4) h3.symm).symm
    · have := hw.1.2.2 trivial
      omega
    · obtain ⟨j, hj, hp⟩ := pos_place hw.1.1.2 (by omega)
      rw [hw.1.1.1] at hj
      refine ⟨(unit m j, List.replicate q (al.getD j 0)), List.mem_map.mpr ⟨(List.replicate q (al.getD j 0), j), ?_, rfl⟩, ?_⟩
      · exact List.mem_of_getElem? (zipIdx_at (colsQ_get (by rw [hal]; exact hj)))
      · exact more_under (by rw [zeros_len]; exact hj) (by rw [zeros_len, hw.1.1.1]) (zeros_under hw.1.1.2) (by rw [zeros_get]; exact hp)
  obtain ⟨k, f, ⟨k', hk', hg⟩, he⟩ := least_ok (E := E) (t := false) (R := List.replicate q al) (m := m) (n := 74) hm1 (fun r hr => by rw [List.eq_of_mem_replicate hr, hal]) (bad_rep (qr := 0) (r := 0) hm hq2 ha (by decide)) (by rw [hc]; exact hR) (by rw [hc]; exact ⟨1, rfl, hst⟩) (by omega)
  obtain ⟨g1, g2⟩ := gi_end hg
  exact ⟨f, g1, g2, (hR.ok k f [] ⟨k', hk', hg⟩).2.2.1, he⟩
def subR (w b : List Int) : List Int := (w.zip b).map fun p => p.1 - p.2
theorem subR_ok {al : List Int} : ∀ {w b : List Int}, w.length = b.length → al.length = w.length → (∀ x ∈ b, 0 ≤ x) → under b w = true → (subR w b).length = w.length ∧ (∀ x ∈ subR w b, 0 ≤ x) ∧ dot al (subR w b) = dot al w - dot al b ∧ (subR w b).sum = w.sum - b.sum ∧ under (subR w b) w = true
  | [], [], _, h, _, _ => ⟨rfl, (by intro x hx; cases hx), by simp [subR, dot], by simp [subR], rfl⟩
  | [], _ :: _, h, _, _, _ => by simp at h
  | _ :: _, [], h, _, _, _ => by simp at h
  | x :: w, y :: b, h, h2, hn, hu => by
    cases al with
    | nil => simp at h2
    | cons a al =>
      rw [under_cons] at hu
      obtain ⟨i1, i2, i3, i4, i5⟩ := subR_ok (al := al) (w := w) (b := b) (by simpa using h) (by simpa using h2) (fun z hz => hn z (List.mem_cons_of_mem _ hz)) hu.2
      have hy := hn y List.mem_cons_self
      have e : subR (x :: w) (y :: b) = (x - y) :: subR w b := rfl
      rw [e]
      refine ⟨by rw [List.length_cons, List.length_cons, i1], fun z hz => ?_, ?_, ?_, ?_⟩
      · rcases List.mem_cons.mp hz with rfl | hz
        · omega
        · exact i2 z hz
      · show a * (x - y) + dot al (subR w b) = a * x + dot al w - (a * y + dot al b)
        rw [i3, Int.mul_sub]
        omega
      · rw [sum_cons', sum_cons', sum_cons', i4]
        omega
      · rw [under_cons]
        exact ⟨by omega, i5⟩
/-- least_to, told of one equation -/
theorem inhom_all {E : Errs} {al : List Int} {m q : Nat} {r : Int} (hm1 : 1 ≤ m) (hm : m ≤ 4) (hq : 1 ≤ q) (hq2 : q ≤ 16) (hal : al.length = m) (ha : ∀ a ∈ al, a.natAbs ≤ 3) (hr : r.natAbs ≤ 20) :
    ∃ f : List (List Int), f.Nodup ∧ (∀ w, w ∈ f ↔ Min al (0 - r) m False w) ∧ f.length ≤ 1000000 ∧ G_least_to E [.list ((List.replicate q al).map rowD), .int m, .tuple ((List.replicate q r).map .int)] = some (.ret true (.list (srt (f.map rowD)))) := by
  have hc : cols (List.replicate q al) m = colsQ al q := by rw [← hal]; exact cols_rep
  obtain ⟨g, gn, gm, gl, ge⟩ := hom_all (E := E) hm1 hm hq hq2 hal ha
  obtain ⟨bs, hbs, hperm⟩ := srt_rows g
  rw [hbs] at ge
  have hbm : ∀ b, b ∈ bs ↔ Min al 0 m True b := fun b => by rw [hperm.mem_iff, gm]
  have hR := runs_of (al := al) (s0 := 0 - r) (m := m) (q := q) (hom := False) (barred := bs) (k0 := 0) hm1 hm hq hq2 hal ha (by omega) (by omega) (fun h => h.elim) (fun w hw => row_sum hw.1.1.2) (fun b hb => by
      have hB := (hbm b).mp hb
      refine ⟨hB.1.1.1, fun w hw => ?_⟩
      rw [Bool.eq_false_iff]
      intro z
      obtain ⟨s1, s2, s3, s4, s5⟩ := subR_ok (al := al) (w := w) (b := b) (hw.1.1.1.trans hB.1.1.1.symm) (by rw [hal, hw.1.1.1]) hB.1.1.2 z
      have hv1 := hw.1.2.1
      have hv2 := hB.1.2.1
      unfold val at hv1 hv2
      have := hw.2 (subR w b) ⟨⟨s1.trans hw.1.1.1, s2⟩, by unfold val; omega, fun h => h.elim⟩ s5
      rw [this] at s4
      have := hB.1.2.2 trivial
      omega) (fun w hw _ => .inl ((hbm w).mpr hw))
  have hst : GI al (0 - r) m q False bs 0 0 [] [(zeros m, (List.replicate q r).map fun x => 0 - x)] := by
    have hv : val al (0 - r) (zeros m) = 0 - r := by unfold val; rw [zeros_dot]; omega
    refine ⟨fun p hp => ?_, by simp, (fun r hr => by cases hr), fun w hw hlt => ?_, fun w hw hle => ?_, by simp, fun h => by omega, by omega⟩
    · rw [List.mem_singleton.mp hp]
      refine ⟨zeros_row, zeros_sum, ?_, ?_⟩
      · show (List.replicate q r).map (fun x => 0 - x) = _
        rw [List.map_replicate, hv]
      · show (val al (0 - r) (zeros m)).natAbs ≤ 20
        rw [hv]
        omega
    · have := row_sum hw.1.1.2
      omega
    · exact ⟨_, List.mem_singleton_self _, zeros_under hw.1.1.2⟩
  obtain ⟨k, f, ⟨k', hk', hg⟩, he⟩ := least_to_ok (E := E) (t := false) (u := true) (R := List.replicate q al) (m := m) (n := 75) (bs := bs) (right := List.replicate q r) hm1 (fun r hr => by rw [List.eq_of_mem_replicate hr, hal]) (by rw [List.length_replicate]; omega) (bad_rep hm hq2 ha hr) ⟨true, ge⟩ (by rw [hperm.length_eq]; exact gl) (by rw [hc]; exact hR) (show ∃ k, 75 + k = 75 ∧ GI al (0 - r) m q False bs 0 k [] [(zeros m, (List.replicate q r).map fun x => 0 - x)] from ⟨0, rfl, hst⟩) (by omega)
  obtain ⟨g1, g2⟩ := gi_end hg
  exact ⟨f, g1, g2, (hR.ok k f [] ⟨k', hk', hg⟩).2.2.1, he⟩
end K25

namespace K25
open PySem PySem.Spec PyProof.Rows L2 DL
local macro_rules | `(tactic| walk_at "ev") => `(tactic| simp (disch := first | omega | (simp only [List.length_cons, List.length_nil, List.length_map, List.length_append, List.length_take, List.length_drop] <;> omega) | fail) only [cell_ok, pick_ok, startD, List.map_cons, List.map_nil, List.cons_append, List.nil_append, List.length_cons, List.length_nil, List.length_map, List.replicate, List.append_nil,
  ev_seq, ev_nx, ev_rt, ev_xc, ev_bk, ev_ct, ev_ss, ev_if, ev_ifT, ev_ifF, ev_stepN, lp_nx, lp_ct, lp_bk, lp_rt, lp_xc, wp_some,
  dSet, dSetO, dRet, dRetO, dRetVar, dNx, eS_ok, eS_mok, mbind_ok, mbind_mok, dTst, d2, d1, dVar, dVarS, dC, dCall, dCons, dNil, dFn, ev_ret, ev_exc, dAnd, dOr, dNot, dAndV, dOrV, dNotV, dTup, dLst, dApp, dSetIx, dAug, dYes, dIt, dItA,  wipeD, gN, gT, gCons', gNil', ev_appOk, ixN_ok, Option.bind_some,
  if_true, if_false, Bool.true_and, Bool.false_and, Bool.and_true, Bool.and_false, Bool.true_or, Bool.false_or, Bool.or_true, Bool.or_false, Bool.not_true, Bool.not_false, decide_true, decide_false, reduceIte, Bool.false_eq_true,
  Int.reduceToNat, Int.reduceAdd, Int.reduceSub, Int.reduceMul, Int.reduceMod, Int.reduceLT, Int.reduceLE, Int.reduceEq, Nat.reduceAdd, Nat.reduceSub, Nat.reduceEqDiff, Nat.reduceLT, Int.reducePow, gt_iff_lt, ge_iff_le, Int.reduceGT, Int.toNat_zero, Int.toNat_one, List.set_cons_zero, List.set_cons_succ, List.getD_cons_zero, List.getD_cons_succ, decide_eq_true_eq, decide_eq_false_iff_not,
  List.getElem?_cons_zero, List.getElem?_cons_succ, addD_int, iaddD_int, subD_int, ltD_int, leD_int, gtD_int, geD_int, eqD_int, neD_int, eqD_bool, asB_bool, lenD_list, lenD_tuple, tupleD_list, tupleD_tuple, listD_list, listD_tuple, resOf, mulD_r, mulD_l, modD_int, divD_int, powD_int, addD_list, addL_list, addD_tuple, cutD_toT, cutD_fromT, cutD_toL, cutD_fromL, cutO_toL, cutO_fromL, sortD_list, sortD_tuple, zipD_list, zipD_tuple, asLT_list, asLT_tuple, dFnO, dResO, dFnS, List.take_succ_cons, List.take_zero, List.drop_succ_cons, List.drop_zero, addD_T, iaddD_T, lenD_T, cutD_to, cutD_from, eqD_T, neD_T, isiD_str, dSl, dSome, dNo, asI_int, letter_small, letter_great, ev_andM, ev_orM, maxD_int, minD_int, absD_int, isiD_bool, getD'_ints, getD'_intsT, getD'_atC, getD'_atCT, rngD_one, rngD_two, isNotD_none, isD_none])
local macro_rules | `(tactic| walk_at "un") => `(tactic| simp (disch := first | omega | (simp only [List.length_cons, List.length_nil, List.length_map, List.length_append, List.length_take, List.length_drop] <;> omega) | fail) only [cell_ok, pick_ok, dFor, ev_forN, ev_forS, ev_lnx, ev_lct, ev_lbk, ev_lrt, ev_lxc, rngL_step, rngL_nil, range_0, range_1, range_2, range_3, range_4, range_5, startD, List.map_cons, List.map_nil, List.cons_append, List.nil_append, List.length_cons, List.length_nil, List.length_map, List.replicate, List.append_nil,
  ev_seq, ev_nx, ev_rt, ev_xc, ev_bk, ev_ct, ev_ss, ev_if, ev_ifT, ev_ifF, ev_stepN, lp_nx, lp_ct, lp_bk, lp_rt, lp_xc, wp_some,
  dSet, dSetO, dRet, dRetO, dRetVar, dNx, eS_ok, eS_mok, mbind_ok, mbind_mok, dTst, d2, d1, dVar, dVarS, dC, dCall, dCons, dNil, dFn, ev_ret, ev_exc, dAnd, dOr, dNot, dAndV, dOrV, dNotV, dTup, dLst, dApp, dSetIx, dAug, dYes, dIt, dItA,  wipeD, gN, gT, gCons', gNil', ev_appOk, ixN_ok, Option.bind_some,
  if_true, if_false, Bool.true_and, Bool.false_and, Bool.and_true, Bool.and_false, Bool.true_or, Bool.false_or, Bool.or_true, Bool.or_false, Bool.not_true, Bool.not_false, decide_true, decide_false, reduceIte, Bool.false_eq_true,
  Int.reduceToNat, Int.reduceAdd, Int.reduceSub, Int.reduceMul, Int.reduceMod, Int.reduceLT, Int.reduceLE, Int.reduceEq, Nat.reduceAdd, Nat.reduceSub, Nat.reduceEqDiff, Nat.reduceLT, Int.reducePow, gt_iff_lt, ge_iff_le, Int.reduceGT, Int.toNat_zero, Int.toNat_one, List.set_cons_zero, List.set_cons_succ, List.getD_cons_zero, List.getD_cons_succ, decide_eq_true_eq, decide_eq_false_iff_not,
  List.getElem?_cons_zero, List.getElem?_cons_succ, addD_int, iaddD_int, subD_int, ltD_int, leD_int, gtD_int, geD_int, eqD_int, neD_int, eqD_bool, asB_bool, lenD_list, lenD_tuple, tupleD_list, tupleD_tuple, listD_list, listD_tuple, resOf, mulD_r, mulD_l, modD_int, divD_int, powD_int, addD_list, addL_list, addD_tuple, cutD_toT, cutD_fromT, cutD_toL, cutD_fromL, cutO_toL, cutO_fromL, sortD_list, sortD_tuple, zipD_list, zipD_tuple, asLT_list, asLT_tuple, dFnO, dResO, dFnS, List.take_succ_cons, List.take_zero, List.drop_succ_cons, List.drop_zero, addD_T, iaddD_T, lenD_T, cutD_to, cutD_from, eqD_T, neD_T, isiD_str, dSl, dSome, dNo, asI_int, letter_small, letter_great, ev_andM, ev_orM, maxD_int, minD_int, absD_int, isiD_bool, getD'_ints, getD'_intsT, getD'_atC, getD'_atCT, rngD_one, rngD_two, isNotD_none, isD_none])
/-! ### the order of rows -/
abbrev leD (a b : D) : Bool := PySem.W.dataLe false id a b
theorem leD_eq (a b : D) : leD a b = !PySem.W.dataLt b a := rfl
theorem leD_total : PySem.W.TotalLe leD := PySem.W.sortLe_total _ _ _
theorem toks_ints : ∀ a b : List Int, PySem.W.keyToksAll (a.map PyData.int) = PySem.W.keyToksAll (b.map PyData.int) → a = b
  | [], [], _ => rfl
  | [], _ :: _, h => by
    rw [List.map_nil, List.map_cons, PySem.W.keyToksAll, PySem.W.keyToksAll] at h
    injection h with h
    injection h with h
    omega
  | _ :: _, [], h => by
    rw [List.map_nil, List.map_cons, PySem.W.keyToksAll, PySem.W.keyToksAll] at h
    injection h with h
    injection h with h
    omega
  | x :: a, y :: b, h => by
    rw [List.map_cons, List.map_cons, PySem.W.keyToksAll, PySem.W.keyToksAll] at h
    injection h with _ h
    rw [PySem.W.keyToks, PySem.W.keyToks, List.cons_append, List.cons_append, List.nil_append, List.nil_append] at h
    injection h with h1 h2
    injection h1 with h1
    rw [h1, toks_ints a b h2]
theorem lt_total {a b : List Int} (h1 : PySem.W.dataLt (rowD a) (rowD b) = false) (h2 : PySem.W.dataLt (rowD b) (rowD a) = false) : a = b := by
  have h := PyProof.Rows.lex_total (O := itemOrd) _ _ h1 h2
  unfold rowD at h
  rw [PySem.W.keyToks, PySem.W.keyToks] at h
  exact toks_ints a b h
theorem le_anti {a b : List Int} (h1 : leD (rowD a) (rowD b) = true) (h2 : leD (rowD b) (rowD a) = true) : a = b := by
  rw [leD_eq, Bool.not_eq_true'] at h1 h2
  exact lt_total h2 h1
theorem srt_pairwise (xs : List D) : (srt xs).Pairwise fun a b => leD a b = true := PySem.W.sort_pairwise leD_total xs
theorem srt_perm {f g : List (List Int)} (h : f.Perm g) : srt (f.map rowD) = srt (g.map rowD) := by
  have hp : (srt (f.map rowD)).Perm (srt (g.map rowD)) := (List.mergeSort_perm _ _).trans ((h.map rowD).trans (List.mergeSort_perm _ _).symm)
  refine List.Perm.eq_of_pairwise (le := fun a b => leD a b = true) (fun a b ha hb h1 h2 => ?_) (srt_pairwise _) (srt_pairwise _) hp
  obtain ⟨x, _, rfl⟩ := List.mem_map.mp (List.mem_mergeSort.mp ha)
  obtain ⟨y, _, rfl⟩ := List.mem_map.mp (List.mem_mergeSort.mp hb)
  rw [le_anti h1 h2]
/-- the sorted rows, each below the next -/
theorem srt_strict {f : List (List Int)} (hn : f.Nodup) : ∃ g : List (List Int), srt (f.map rowD) = g.map rowD ∧ g.Perm f ∧ g.Pairwise fun a b => PySem.W.dataLt (rowD a) (rowD b) = true := by
  obtain ⟨g, hg, hp⟩ := srt_rows f
  refine ⟨g, hg, hp, ?_⟩
  have h1 := srt_pairwise (f.map rowD)
  rw [hg, List.pairwise_map] at h1
  have h2 : g.Nodup := hp.nodup_iff.mpr hn
  refine (h1.and h2).imp fun {a b} h => ?_
  rw [← Bool.not_eq_false]
  intro z
  have h3 := h.1
  rw [leD_eq, Bool.not_eq_true'] at h3
  exact h.2 (lt_total z h3)
/-! ### pairs of a sum and a row -/
def pairD (r : List Int) : D := .tuple [.int r.sum, rowD r]
theorem pair_le {a b : List Int} (h : leD (pairD a) (pairD b) = true) : a.sum ≤ b.sum := by
  rw [leD_eq, Bool.not_eq_true'] at h
  unfold PySem.W.dataLt pairD at h
  simp only [PySem.W.keyToks, PySem.W.keyToksAll, List.cons_append, List.nil_append] at h
  have h0 := (PyProof.Rows.lex_self (O := itemOrd) _ _ _).symm.trans h
  have h1 := (PyProof.Rows.lex_false (O := itemOrd).mp h0).1
  have h1 : decide (b.sum < a.sum) = false := h1
  have := of_decide_eq_false h1
  omega
theorem srt_pairs (f : List (List Int)) : ∃ g : List (List Int), srt (f.map pairD) = g.map pairD ∧ g.Perm f ∧ g.Pairwise fun a b => a.sum ≤ b.sum := by
  refine ⟨f.mergeSort fun a b => leD (pairD a) (pairD b), ?_, List.mergeSort_perm _ _, ?_⟩
  · unfold srt
    exact (PySem.W.sort_maps pairD fun a _ b _ => rfl).symm
  · have := List.pairwise_mergeSort (le := fun a b => leD (pairD a) (pairD b)) (fun a b c h1 h2 => leD_total.trans _ _ _ h1 h2) (fun a b => Bool.or_eq_true_iff.mpr (leD_total.total _ _)) f
    exact this.imp fun h => pair_le h
/-! ### thinned -/
def thin1 (acc : List (List Int)) (r : List Int) : List (List Int) := if above r acc = true then acc else acc ++ [r]
def MinIn (rows : List (List Int)) (t : List Int) : Prop := t ∈ rows ∧ ∀ u ∈ rows, under u t = true → u = t
structure ThinI (pre acc : List (List Int)) : Prop where
  nd : acc.Nodup
  sub : ∀ t ∈ acc, t ∈ pre
  low : ∀ u ∈ pre, ∃ t ∈ acc, under t u = true
  min : ∀ t ∈ acc, ∀ u ∈ pre, under u t = true → u = t
theorem above_true {r : List Int} {os : List (List Int)} : above r os = true ↔ ∃ o ∈ os, under o r = true := by
  unfold above
  exact List.any_eq_true
theorem thin_step {pre acc : List (List Int)} {r : List Int} {n : Nat} (h : ThinI pre acc) (hl : ∀ u ∈ pre, u.length = n) (hr : r.length = n) (hs : ∀ u ∈ pre, u.sum ≤ r.sum) : ThinI (pre ++ [r]) (thin1 acc r) := by
  have hm : ∀ t ∈ acc, ∀ u ∈ pre ++ [r], under u t = true → u = t := by
    intro t ht u hu hut
    rcases List.mem_append.mp hu with hu | hu
    · exact h.min t ht u hu hut
    · rw [List.mem_singleton.mp hu] at hut ⊢
      have h1 := hs t (h.sub t ht)
      have hlt : r.length = t.length := by rw [hr, hl t (h.sub t ht)]
      have h2 := under_sum hlt hut
      exact under_eq hlt hut (by omega)
  unfold thin1
  by_cases hc : above r acc = true
  · rw [if_pos hc]
    obtain ⟨o, ho, hor⟩ := above_true.mp hc
    refine ⟨h.nd, fun t ht => List.mem_append_left _ (h.sub t ht), fun u hu => ?_, hm⟩
    rcases List.mem_append.mp hu with hu | hu
    · exact h.low u hu
    · rw [List.mem_singleton.mp hu]
      exact ⟨o, ho, hor⟩
  · rw [if_neg hc]
    have hc' : ∀ o ∈ acc, ¬ under o r = true := fun o ho z => hc (above_true.mpr ⟨o, ho, z⟩)
    refine ⟨?_, fun t ht => ?_, fun u hu => ?_, fun t ht u hu hut => ?_⟩
    · rw [List.nodup_append]
      refine ⟨h.nd, by simp, fun a ha b hb e => ?_⟩
      rw [List.mem_singleton.mp hb] at e
      exact hc' a ha (by rw [e]; exact under_refl r)
    · rcases List.mem_append.mp ht with ht | ht
      · exact List.mem_append_left _ (h.sub t ht)
      · exact List.mem_append_right _ ht
    · rcases List.mem_append.mp hu with hu | hu
      · obtain ⟨t, ht, htu⟩ := h.low u hu
        exact ⟨t, List.mem_append_left _ ht, htu⟩
      · rw [List.mem_singleton.mp hu]
        exact ⟨r, by simp, under_refl r⟩
    · rcases List.mem_append.mp ht with ht | ht
      · exact hm t ht u hu hut
      · rw [List.mem_singleton.mp ht] at hut ⊢
        rcases List.mem_append.mp hu with hu | hu
        · exfalso
          obtain ⟨t', ht', htu⟩ := h.low u hu
          exact hc' t' ht' (under_trans (by rw [hl _ (h.sub t' ht'), hl u hu]) htu hut)
        · exact List.mem_singleton.mp hu
theorem thin_end {pre acc : List (List Int)} (h : ThinI pre acc) (t : List Int) : t ∈ acc ↔ MinIn pre t := by
  constructor
  · exact fun ht => ⟨h.sub t ht, h.min t ht⟩
  · rintro ⟨h1, h2⟩
    obtain ⟨t', ht', hu⟩ := h.low t h1
    rw [← h2 t' (h.sub t' ht') hu]
    exact ht'
end K25

namespace K25
open PySem PySem.Spec PyProof.Rows L2 DL
local macro_rules | `(tactic| walk_at "ev") => `(tactic| simp (disch := first | omega | (simp only [List.length_cons, List.length_nil, List.length_map, List.length_append, List.length_take, List.length_drop] <;> omega) | fail) only [cell_ok, pick_ok, startD, List.map_cons, List.map_nil, List.cons_append, List.nil_append, List.length_cons, List.length_nil, List.length_map, List.replicate, List.append_nil,
  ev_seq, ev_nx, ev_rt, ev_xc, ev_bk, ev_ct, ev_ss, ev_if, ev_ifT, ev_ifF, ev_stepN, lp_nx, lp_ct, lp_bk, lp_rt, lp_xc, wp_some,
  dSet, dSetO, dRet, dRetO, dRetVar, dNx, eS_ok, eS_mok, mbind_ok, mbind_mok, dTst, d2, d1, dVar, dVarS, dC, dCall, dCons, dNil, dFn, ev_ret, ev_exc, dAnd, dOr, dNot, dAndV, dOrV, dNotV, dTup, dLst, dApp, dSetIx, dAug, dYes, dIt, dItA,  wipeD, gN, gT, gCons', gNil', ev_appOk, ixN_ok, Option.bind_some,
  if_true, if_false, Bool.true_and, Bool.false_and, Bool.and_true, Bool.and_false, Bool.true_or, Bool.false_or, Bool.or_true, Bool.or_false, Bool.not_true, Bool.not_false, decide_true, decide_false, reduceIte, Bool.false_eq_true,
  Int.reduceToNat, Int.reduceAdd, Int.reduceSub, Int.reduceMul, Int.reduceMod, Int.reduceLT, Int.reduceLE, Int.reduceEq, Nat.reduceAdd, Nat.reduceSub, Nat.reduceEqDiff, Nat.reduceLT, Int.reducePow, gt_iff_lt, ge_iff_le, Int.reduceGT, Int.toNat_zero, Int.toNat_one, List.set_cons_zero, List.set_cons_succ, List.getD_cons_zero, List.getD_cons_succ, decide_eq_true_eq, decide_eq_false_iff_not,
  List.getElem?_cons_zero, List.getElem?_cons_succ, addD_int, iaddD_int, subD_int, ltD_int, leD_int, gtD_int, geD_int, eqD_int, neD_int, eqD_bool, asB_bool, lenD_list, lenD_tuple, tupleD_list, tupleD_tuple, listD_list, listD_tuple, resOf, mulD_r, mulD_l, modD_int, divD_int, powD_int, addD_list, addL_list, addD_tuple, cutD_toT, cutD_fromT, cutD_toL, cutD_fromL, cutO_toL, cutO_fromL, sortD_list, sortD_tuple, zipD_list, zipD_tuple, asLT_list, asLT_tuple, dFnO, dResO, dFnS, List.take_succ_cons, List.take_zero, List.drop_succ_cons, List.drop_zero, addD_T, iaddD_T, lenD_T, cutD_to, cutD_from, eqD_T, neD_T, isiD_str, dSl, dSome, dNo, asI_int, letter_small, letter_great, ev_andM, ev_orM, maxD_int, minD_int, absD_int, isiD_bool, getD'_ints, getD'_intsT, getD'_atC, getD'_atCT, rngD_one, rngD_two, isNotD_none, isD_none])
local macro_rules | `(tactic| walk_at "un") => `(tactic| simp (disch := first | omega | (simp only [List.length_cons, List.length_nil, List.length_map, List.length_append, List.length_take, List.length_drop] <;> omega) | fail) only [cell_ok, pick_ok, dFor, ev_forN, ev_forS, ev_lnx, ev_lct, ev_lbk, ev_lrt, ev_lxc, rngL_step, rngL_nil, range_0, range_1, range_2, range_3, range_4, range_5, startD, List.map_cons, List.map_nil, List.cons_append, List.nil_append, List.length_cons, List.length_nil, List.length_map, List.replicate, List.append_nil,
  ev_seq, ev_nx, ev_rt, ev_xc, ev_bk, ev_ct, ev_ss, ev_if, ev_ifT, ev_ifF, ev_stepN, lp_nx, lp_ct, lp_bk, lp_rt, lp_xc, wp_some,
  dSet, dSetO, dRet, dRetO, dRetVar, dNx, eS_ok, eS_mok, mbind_ok, mbind_mok, dTst, d2, d1, dVar, dVarS, dC, dCall, dCons, dNil, dFn, ev_ret, ev_exc, dAnd, dOr, dNot, dAndV, dOrV, dNotV, dTup, dLst, dApp, dSetIx, dAug, dYes, dIt, dItA,  wipeD, gN, gT, gCons', gNil', ev_appOk, ixN_ok, Option.bind_some,
  if_true, if_false, Bool.true_and, Bool.false_and, Bool.and_true, Bool.and_false, Bool.true_or, Bool.false_or, Bool.or_true, Bool.or_false, Bool.not_true, Bool.not_false, decide_true, decide_false, reduceIte, Bool.false_eq_true,
  Int.reduceToNat, Int.reduceAdd, Int.reduceSub, Int.reduceMul, Int.reduceMod, Int.reduceLT, Int.reduceLE, Int.reduceEq, Nat.reduceAdd, Nat.reduceSub, Nat.reduceEqDiff, Nat.reduceLT, Int.reducePow, gt_iff_lt, ge_iff_le, Int.reduceGT, Int.toNat_zero, Int.toNat_one, List.set_cons_zero, List.set_cons_succ, List.getD_cons_zero, List.getD_cons_succ, decide_eq_true_eq, decide_eq_false_iff_not,
  List.getElem?_cons_zero, List.getElem?_cons_succ, addD_int, iaddD_int, subD_int, ltD_int, leD_int, gtD_int, geD_int, eqD_int, neD_int, eqD_bool, asB_bool, lenD_list, lenD_tuple, tupleD_list, tupleD_tuple, listD_list, listD_tuple, resOf, mulD_r, mulD_l, modD_int, divD_int, powD_int, addD_list, addL_list, addD_tuple, cutD_toT, cutD_fromT, cutD_toL, cutD_fromL, cutO_toL, cutO_fromL, sortD_list, sortD_tuple, zipD_list, zipD_tuple, asLT_list, asLT_tuple, dFnO, dResO, dFnS, List.take_succ_cons, List.take_zero, List.drop_succ_cons, List.drop_zero, addD_T, iaddD_T, lenD_T, cutD_to, cutD_from, eqD_T, neD_T, isiD_str, dSl, dSome, dNo, asI_int, letter_small, letter_great, ev_andM, ev_orM, maxD_int, minD_int, absD_int, isiD_bool, getD'_ints, getD'_intsT, getD'_atC, getD'_atCT, rngD_one, rngD_two, isNotD_none, isD_none])
/-! ### the law's helpers: rows looked at -/
theorem lu2_ok (xs ys : List Int) : G_l_under [rowD xs, rowD ys] = some (.ret false (.bool (under xs ys))) := lu_ok xs ys
theorem lau_ok (r : List Int) (os : List (List Int)) : G_l_any_under [.list (os.map rowD), rowD r] = some (.ret false (.bool (above r os))) := by
  refine run_wpR (R := fun x => x = some (.ret false (.bool (above r os)))) ?_
  unfold g_l_any_under
  walk_at "ev"
  refine wp_for (ds := os.map rowD) (by walk_at "ev") (fun i e => (∃ a, e = [some (.fz (.list (os.map rowD))), some (.fz (rowD r)), a]) ∧ ∀ o ∈ os.take i, under o r = false) ⟨⟨_, rfl⟩, by simp⟩ ?_ ?_
  · rintro i d e hi ⟨⟨a, rfl⟩, hj⟩
    obtain ⟨o, ho, rfl⟩ := map_at' hi
    have h := lu2_ok o r
    repeat (first | walk_at "ev" | simp only [h])
    refine wp_if ?_ ?_ <;> intro hc <;> walk_at "ev"
    · have : above r os = true := List.any_eq_true.mpr ⟨o, List.mem_of_getElem? ho, hc⟩
      rw [this]
    · refine ⟨⟨_, rfl⟩, fun q hq => ?_⟩
      rw [List.take_add_one, ho] at hq
      rcases List.mem_append.mp hq with hq | hq
      · exact hj q hq
      · simp at hq
        subst hq
        exact hc
  · rintro e ⟨⟨a, rfl⟩, hj⟩
    rw [List.length_map, List.take_length] at hj
    walk_at "ev"
    rw [above_false.mpr hj]
theorem whole_ok (x : Int) : G_l_whole [.int x] = some (.ret false (.bool true)) := rfl
theorem row_eqOk (r : List Int) : eqOk (rowD r) = true := (row_nd r).eqOk (by omega)
theorem geT_rows {a b : List Int} (h : PySem.W.dataLt (rowD a) (rowD b) = true) : geT (rowD a) (rowD b) = mok (.bool false) := by
  unfold geT
  have ha : PySem.W.alike (rowD a) (rowD b) = true := by
    unfold rowD
    rw [PySem.W.alike]
    exact alike_ints a b
  rw [if_pos ⟨ha, rfl, row_eqOk a, row_eqOk b⟩, h]
  rfl
theorem cutA_last {α : Type} {xs : List α} : cutA xs none (some (-1)) = xs.take (xs.length - 1) := by
  unfold cutA
  have e : HT.sIx xs.length xs.length (some (-1)) = xs.length - 1 := by
    show (if (-1 : Int) < 0 then ((-1 : Int) + (xs.length : Int)).toNat else min (-1 : Int).toNat xs.length) = _
    rw [if_pos (by decide)]
    omega
  rw [e, HT.sIx_none]
  rfl
theorem zip_next {g : List (List Int)} (hs : g.Pairwise fun a b => PySem.W.dataLt (rowD a) (rowD b) = true) {i : Nat} {d : D} (h : (zipL (cutA (g.map rowD) none (some (-1))) (cutA (g.map rowD) (some 1) none))[i]? = some d) : ∃ a b, d = .tuple [rowD a, rowD b] ∧ PySem.W.dataLt (rowD a) (rowD b) = true := by
  obtain ⟨x, y, hx, hy, rfl⟩ := DL.zip_get h
  rw [cutA_last] at hx
  rw [cutA_from (by decide)] at hy
  have hx : (g.map rowD)[i]? = some x := by
    rw [List.getElem?_take] at hx
    split at hx
    · exact hx
    · cases hx
  have hy : (g.map rowD)[1 + i]? = some y := by
    rw [List.getElem?_drop] at hy
    exact hy
  obtain ⟨a, ha, rfl⟩ := map_at' hx
  obtain ⟨b, hb, rfl⟩ := map_at' hy
  refine ⟨a, b, rfl, ?_⟩
  obtain ⟨hi, rfl⟩ := List.getElem?_eq_some_iff.mp ha
  obtain ⟨hj, rfl⟩ := List.getElem?_eq_some_iff.mp hb
  exact List.pairwise_iff_getElem.mp hs i (1 + i) hi hj (by omega)
theorem are_ok {m : Nat} {g : List (List Int)} (hr : ∀ r ∈ g, Row m r) (hs : g.Pairwise fun a b => PySem.W.dataLt (rowD a) (rowD b) = true) : G_l_are_rows [.list (g.map rowD), .int m] = some (.ret false (.bool true)) := by
  refine run_wpR (R := fun r => r = some (.ret false (.bool true))) ?_
  unfold g_l_are_rows
  have hi : isiD "list" (.list (g.map rowD)) = mok (.bool true) := rfl
  repeat (first | walk_at "ev" | simp only [hi])
  refine wp_for (ds := g.map rowD) (by walk_at "ev") (fun i e => ∃ a b, e = [some (.fz (.list (g.map rowD))), some (.fz (.int m)), a, b, none, none]) ⟨_, _, rfl⟩ ?_ ?_
  · rintro i d e hi ⟨a, b, rfl⟩
    obtain ⟨r, hrr, rfl⟩ := map_at' hi
    have hR := hr r (List.mem_of_getElem? hrr)
    have ht : isiD "tuple" (rowD r) = mok (.bool true) := rfl
    have hln : lenD [rowD r] = mok (.int m) := by
      unfold rowD
      rw [lenD_tuple, List.length_map, hR.1]
    repeat (first | walk_at "ev" | simp only [ht, hln])
    refine wp_for1 (ds := r.map .int) (by unfold rowD; walk_at "ev") (fun i e => ∃ b, e = [some (.fz (.list (g.map rowD))), some (.fz (.int m)), some (.fz (rowD r)), b, none, none]) ⟨_, rfl⟩ ?_ ?_
    · rintro j d e hj ⟨b, rfl⟩
      obtain ⟨x, hx, rfl⟩ := map_at' hj
      have h0 := hR.2 x (List.mem_of_getElem? hx)
      have hw := whole_ok x
      have hlt : decide (x < 0) = false := decide_eq_false (by omega)
      repeat (first | walk_at "ev" | simp only [hw, hlt])
      exact ⟨_, rfl⟩
    · rintro e ⟨b, rfl⟩
      exact ⟨_, _, rfl⟩
  · rintro e ⟨a, b, rfl⟩
    have hneg : negD (.int 1) = mok (.int (-1)) := rfl
    have hc : ∀ lo hi : Option Int, cutD (.list (g.map rowD)) lo hi = mok (.list (cutA (g.map rowD) lo hi)) := fun _ _ => rfl
    refine wp_for (ds := zipL (cutA (g.map rowD) none (some (-1))) (cutA (g.map rowD) (some 1) none)) ?_ (fun i e => ∃ a b c d, e = [some (.fz (.list (g.map rowD))), some (.fz (.int m)), a, b, c, d]) ⟨_, _, _, _, rfl⟩ ?_ ?_
    · rfl
    · rintro i d e hi ⟨a, b, c, f, rfl⟩
      obtain ⟨x, y, rfl, hlt⟩ := zip_next hs hi
      have hst : ∀ g (E : DEnv), stepO (gT 2 (gCons' (gN 4) (gCons' (gN 5) gNil'))) g (PyData.tuple [rowD x, rowD y]) E = g ((E.set 4 (some (.fz (rowD x)))).set 5 (some (.fz (rowD y)))) := fun _ _ => rfl
      rw [hst]
      have hg := geT_rows hlt
      repeat (first | walk_at "ev" | simp only [hg])
      exact ⟨_, _, _, _, rfl⟩
    · rintro e ⟨a, b, c, f, rfl⟩
      walk_at "ev"
theorem eqD_same {xs : List (List Int)} : eqD (.list (xs.map rowD)) (.list (xs.map rowD)) = mok (.bool true) := by
  have hk : eqOk (.list (xs.map rowD)) = true := (nd_list (n := 3) (by intro x hx; obtain ⟨r, _, rfl⟩ := List.mem_map.mp hx; exact row_nd r)).eqOk (by omega)
  unfold eqD
  rw [if_pos ⟨hk, hk⟩]
  have : ∀ ys : List (List Int), PyData.eqvAll (ys.map rowD) (ys.map rowD) = true := by
    intro ys
    induction ys with
    | nil => simp [PyData.eqvAll]
    | cons y ys ih => rw [List.map_cons, PyData.eqvAll, ih, eqv_row]; simp
  rw [PyData.eqv, this]
theorem same_ok {m : Nat} {f g : List (List Int)} (hn : f.Nodup) (hr : ∀ r ∈ f, Row m r) (hp : f.Perm g) : G_l_same [.list (srt (f.map rowD)), .list (srt (g.map rowD)), .int m] = some (.ret false (.bool true)) := by
  obtain ⟨k, hk, hkp, hks⟩ := srt_strict hn
  rw [← srt_perm hp, hk]
  refine run_rt ?_
  unfold g_l_same
  have h1 := are_ok (m := m) (g := k) (fun r hr' => hr r (hkp.mem_iff.mp hr')) hks
  have h2 := eqD_same (xs := k)
  repeat (first | walk_at "ev" | simp only [h1, h2])
/-! ### thinned, walked -/
theorem sub_len {α : Type} [DecidableEq α] : ∀ {xs ys : List α}, xs.Nodup → (∀ x ∈ xs, x ∈ ys) → xs.length ≤ ys.length
  | [], _, _, _ => by simp
  | x :: xs, ys, hn, hs => by
    rw [List.nodup_cons] at hn
    have hx := hs x List.mem_cons_self
    have := sub_len (xs := xs) (ys := ys.erase x) hn.2 fun z hz => (List.mem_erase_of_ne (fun e : z = x => hn.1 (by rw [← e]; exact hz))).mpr (hs z (List.mem_cons_of_mem _ hz))
    rw [List.length_erase_of_mem hx] at this
    have := List.length_pos_of_mem hx
    rw [List.length_cons]
    omega
theorem sort_pairs {rows : List (List Int)} : sortL (rows.map pairD) = mok (.list (srt (rows.map pairD))) := by
  unfold sortL
  rw [if_pos]
  refine ⟨?_, ?_⟩
  · unfold srtOk alikeL
    simp only [Bool.and_eq_true, List.all_eq_true, Bool.or_eq_true, decide_eq_true_eq]
    refine ⟨⟨fun x hx y hy => ?_, .inl (.inl fun x hx => ?_)⟩, fun x hx => ?_⟩
    · obtain ⟨a, ha, rfl⟩ := List.mem_map.mp hx
      obtain ⟨b, hb, rfl⟩ := List.mem_map.mp hy
      unfold pairD rowD
      simp [PySem.W.alike, PySem.W.alikeAll, alike_ints]
    · obtain ⟨a, ha, rfl⟩ := List.mem_map.mp hx
      rfl
    · obtain ⟨a, ha, rfl⟩ := List.mem_map.mp hx
      unfold pairD
      exact (nd_tuple (n := 3) (by intro z hz; rcases List.mem_cons.mp hz with rfl | hz; exact nd_int; rw [List.mem_singleton.mp hz]; exact row_nd a)).eqOk (by omega)
  · simp only [List.all_eq_true]
    intro x hx
    obtain ⟨a, ha, rfl⟩ := List.mem_map.mp hx
    rfl
theorem thinned_ok {n : Nat} {rows : List (List Int)} (hl : ∀ r ∈ rows, r.length = n) (hz : rows.length ≤ 1000000) : ∃ left : List (List Int), left.Nodup ∧ (∀ t, t ∈ left ↔ MinIn rows t) ∧ G_l_thinned [.list (rows.map rowD)] = some (.ret true (.list (left.map rowD))) := by
  obtain ⟨rs, hrs, hp, hsum⟩ := srt_pairs rows
  suffices hs : Wp (g_l_thinned (startD 4 [.list (rows.map rowD)])) (fun o => ∃ left : List (List Int), ThinI rs left ∧ o = .rt true (.list (left.map rowD))) by
    obtain ⟨o, ho, left, hL, rfl⟩ := hs
    refine ⟨left, hL.nd, fun t => ?_, run_rt ho⟩
    rw [thin_end hL]
    unfold MinIn
    simp only [hp.mem_iff]
  unfold g_l_thinned
  walk_at "ev"
  have hlc : dLc [2] (gN 2) (dIt asLT (dVar 0)) dYes (dTup (dCons (dCall sumT (dCons (dVarS 2) dNil)) (dCons (dVar 2) dNil))) [some (.fz (.list (rows.map rowD))), some (.ow (.list [])), none, none] = mok (.list (rows.map pairD)) := by
    refine dLc_all (ei := rowD) pairD (by walk_at "ev") (by omega) fun r hr => ⟨_, rfl, rfl, ?_⟩
    have hsm : sumT [rowD r] = mok (.int r.sum) := by
      unfold rowD sumT
      simp only [intsOf_map]
    repeat (first | walk_at "ev" | simp only [hsm])
    rfl
  refine wp_for (ds := rs.map pairD) (by simp only [dIt, dCall, dCons, dNil, hlc, mbind_mok, sortD_list, sort_pairs, hrs, asLT_list]) (fun i e => ∃ acc a b, ThinI (rs.take i) acc ∧ e = [some (.fz (.list (rows.map rowD))), some (.ow (.list (acc.map rowD))), a, b]) ⟨[], _, _, ⟨by simp, (by intro t ht; cases ht), (by intro t ht; simp at ht), (by intro t ht; cases ht)⟩, rfl⟩ ?_ ?_
  · rintro i d e hi ⟨acc, a, b, hI, rfl⟩
    obtain ⟨r, hr, rfl⟩ := map_at' hi
    have hst : ∀ g (E : DEnv), stepO (gT 2 (gCons' (gN 3) (gCons' (gN 2) gNil'))) g (pairD r) E = g ((E.set 3 (some (.fz (.int r.sum)))).set 2 (some (.fz (rowD r)))) := fun _ _ => rfl
    rw [hst]
    have hau := lau_ok r acc
    have hfl : ∀ b : Bool, flat (.bool b) = true := fun _ => rfl
    have hrm := hp.mem_iff.mp (List.mem_of_getElem? hr)
    obtain ⟨hi', hri⟩ := List.getElem?_eq_some_iff.mp hr
    have hacl : acc.length ≤ 1000000 := by
      have h1 : acc.length ≤ (rs.take i).length := sub_len hI.nd hI.sub
      rw [List.length_take] at h1
      have := hp.length_eq
      omega
    have hstep := thin_step (n := n) hI (fun u hu => hl u (hp.mem_iff.mp (List.mem_of_mem_take hu))) (hl r hrm) (fun u hu => by
      obtain ⟨j, hj⟩ := List.mem_iff_getElem?.mp hu
      rw [List.getElem?_take] at hj
      split at hj
      · rename_i hji
        obtain ⟨hj', rfl⟩ := List.getElem?_eq_some_iff.mp hj
        rw [← hri]
        exact List.pairwise_iff_getElem.mp hsum j i hj' hi' hji
      · cases hj)
    have htk : rs.take (i + 1) = rs.take i ++ [r] := by rw [List.take_add_one, hr]; rfl
    rw [← htk] at hstep
    repeat (first | walk_at "ev" | simp only [hau, hfl])
    unfold thin1 at hstep
    refine wp_if ?_ ?_ <;> intro hc
    · have hc : above r acc = false := by simpa using hc
      rw [if_neg (by rw [hc]; simp)] at hstep
      walk_at "ev"
      exact ⟨_, _, _, hstep, by rw [List.map_append]; rfl⟩
    · have hc : above r acc = true := by simpa using hc
      rw [if_pos hc] at hstep
      walk_at "ev"
      exact ⟨_, _, _, hstep, rfl⟩
  · rintro e ⟨acc, a, b, hI, rfl⟩
    rw [List.length_map, List.take_length] at hI
    walk_at "ev"
    exact ⟨acc, hI, rfl⟩
end K25

namespace K25
open PySem PySem.Spec PyProof.Rows L2 DL
local macro_rules | `(tactic| walk_at "ev") => `(tactic| simp (disch := first | omega | (simp only [List.length_cons, List.length_nil, List.length_map, List.length_append, List.length_take, List.length_drop] <;> omega) | fail) only [cell_ok, pick_ok, startD, List.map_cons, List.map_nil, List.cons_append, List.nil_append, List.length_cons, List.length_nil, List.length_map, List.replicate, List.append_nil,
  ev_seq, ev_nx, ev_rt, ev_xc, ev_bk, ev_ct, ev_ss, ev_if, ev_ifT, ev_ifF, ev_stepN, lp_nx, lp_ct, lp_bk, lp_rt, lp_xc, wp_some,
  dSet, dSetO, dRet, dRetO, dRetVar, dNx, eS_ok, eS_mok, mbind_ok, mbind_mok, dTst, d2, d1, dVar, dVarS, dC, dCall, dCons, dNil, dFn, ev_ret, ev_exc, dAnd, dOr, dNot, dAndV, dOrV, dNotV, dTup, dLst, dApp, dSetIx, dAug, dYes, dIt, dItA,  wipeD, gN, gT, gCons', gNil', ev_appOk, ixN_ok, Option.bind_some,
  if_true, if_false, Bool.true_and, Bool.false_and, Bool.and_true, Bool.and_false, Bool.true_or, Bool.false_or, Bool.or_true, Bool.or_false, Bool.not_true, Bool.not_false, decide_true, decide_false, reduceIte, Bool.false_eq_true,
  Int.reduceToNat, Int.reduceAdd, Int.reduceSub, Int.reduceMul, Int.reduceMod, Int.reduceLT, Int.reduceLE, Int.reduceEq, Nat.reduceAdd, Nat.reduceSub, Nat.reduceEqDiff, Nat.reduceLT, Int.reducePow, gt_iff_lt, ge_iff_le, Int.reduceGT, Int.toNat_zero, Int.toNat_one, List.set_cons_zero, List.set_cons_succ, List.getD_cons_zero, List.getD_cons_succ, decide_eq_true_eq, decide_eq_false_iff_not,
  List.getElem?_cons_zero, List.getElem?_cons_succ, addD_int, iaddD_int, subD_int, ltD_int, leD_int, gtD_int, geD_int, eqD_int, neD_int, eqD_bool, asB_bool, lenD_list, lenD_tuple, tupleD_list, tupleD_tuple, listD_list, listD_tuple, resOf, mulD_r, mulD_l, modD_int, divD_int, powD_int, addD_list, addL_list, addD_tuple, cutD_toT, cutD_fromT, cutD_toL, cutD_fromL, cutO_toL, cutO_fromL, sortD_list, sortD_tuple, zipD_list, zipD_tuple, asLT_list, asLT_tuple, dFnO, dResO, dFnS, List.take_succ_cons, List.take_zero, List.drop_succ_cons, List.drop_zero, addD_T, iaddD_T, lenD_T, cutD_to, cutD_from, eqD_T, neD_T, isiD_str, dSl, dSome, dNo, asI_int, letter_small, letter_great, ev_andM, ev_orM, maxD_int, minD_int, absD_int, isiD_bool, getD'_ints, getD'_intsT, getD'_atC, getD'_atCT, rngD_one, rngD_two, isNotD_none, isD_none])
local macro_rules | `(tactic| walk_at "un") => `(tactic| simp (disch := first | omega | (simp only [List.length_cons, List.length_nil, List.length_map, List.length_append, List.length_take, List.length_drop] <;> omega) | fail) only [cell_ok, pick_ok, dFor, ev_forN, ev_forS, ev_lnx, ev_lct, ev_lbk, ev_lrt, ev_lxc, rngL_step, rngL_nil, range_0, range_1, range_2, range_3, range_4, range_5, startD, List.map_cons, List.map_nil, List.cons_append, List.nil_append, List.length_cons, List.length_nil, List.length_map, List.replicate, List.append_nil,
  ev_seq, ev_nx, ev_rt, ev_xc, ev_bk, ev_ct, ev_ss, ev_if, ev_ifT, ev_ifF, ev_stepN, lp_nx, lp_ct, lp_bk, lp_rt, lp_xc, wp_some,
  dSet, dSetO, dRet, dRetO, dRetVar, dNx, eS_ok, eS_mok, mbind_ok, mbind_mok, dTst, d2, d1, dVar, dVarS, dC, dCall, dCons, dNil, dFn, ev_ret, ev_exc, dAnd, dOr, dNot, dAndV, dOrV, dNotV, dTup, dLst, dApp, dSetIx, dAug, dYes, dIt, dItA,  wipeD, gN, gT, gCons', gNil', ev_appOk, ixN_ok, Option.bind_some,
  if_true, if_false, Bool.true_and, Bool.false_and, Bool.and_true, Bool.and_false, Bool.true_or, Bool.false_or, Bool.or_true, Bool.or_false, Bool.not_true, Bool.not_false, decide_true, decide_false, reduceIte, Bool.false_eq_true,
  Int.reduceToNat, Int.reduceAdd, Int.reduceSub, Int.reduceMul, Int.reduceMod, Int.reduceLT, Int.reduceLE, Int.reduceEq, Nat.reduceAdd, Nat.reduceSub, Nat.reduceEqDiff, Nat.reduceLT, Int.reducePow, gt_iff_lt, ge_iff_le, Int.reduceGT, Int.toNat_zero, Int.toNat_one, List.set_cons_zero, List.set_cons_succ, List.getD_cons_zero, List.getD_cons_succ, decide_eq_true_eq, decide_eq_false_iff_not,
  List.getElem?_cons_zero, List.getElem?_cons_succ, addD_int, iaddD_int, subD_int, ltD_int, leD_int, gtD_int, geD_int, eqD_int, neD_int, eqD_bool, asB_bool, lenD_list, lenD_tuple, tupleD_list, tupleD_tuple, listD_list, listD_tuple, resOf, mulD_r, mulD_l, modD_int, divD_int, powD_int, addD_list, addL_list, addD_tuple, cutD_toT, cutD_fromT, cutD_toL, cutD_fromL, cutO_toL, cutO_fromL, sortD_list, sortD_tuple, zipD_list, zipD_tuple, asLT_list, asLT_tuple, dFnO, dResO, dFnS, List.take_succ_cons, List.take_zero, List.drop_succ_cons, List.drop_zero, addD_T, iaddD_T, lenD_T, cutD_to, cutD_from, eqD_T, neD_T, isiD_str, dSl, dSome, dNo, asI_int, letter_small, letter_great, ev_andM, ev_orM, maxD_int, minD_int, absD_int, isiD_bool, getD'_ints, getD'_intsT, getD'_atC, getD'_atCT, rngD_one, rngD_two, isNotD_none, isD_none])
/-! ### all rows of some kind, walked -/
structure Found (cond : Int → Int → Prop) (elt : Int → Int → List Int) (n2 X Y : Nat) (acc : List (List Int)) : Prop where
  len : acc.length ≤ X * n2 + Y
  mem : ∀ t, t ∈ acc ↔ ∃ x y : Int, 0 ≤ x ∧ 0 ≤ y ∧ ((x < X ∧ y < n2) ∨ (x = X ∧ y < Y)) ∧ cond x y ∧ t = elt x y
section
variable {cond : Int → Int → Prop} {elt : Int → Int → List Int} {n2 X Y : Nat} {acc : List (List Int)}
theorem Found.nil : Found cond elt n2 0 0 [] := by
  refine ⟨by simp, fun t => ⟨(fun h => by cases h), ?_⟩⟩
  rintro ⟨x, y, h1, h2, h3, _⟩
  omega
theorem Found.yes (h : Found cond elt n2 X Y acc) (hc : cond X Y) : Found cond elt n2 X (Y + 1) (acc ++ [elt X Y]) := by
  refine ⟨by have := h.len; rw [List.length_append, List.length_cons, List.length_nil]; omega, fun t => ?_⟩
  rw [List.mem_append, List.mem_singleton, h.mem]
  constructor
  · rintro (⟨x, y, h1, h2, h3, h4, h5⟩ | rfl)
    · exact ⟨x, y, h1, h2, by omega, h4, h5⟩
    · exact ⟨X, Y, by omega, by omega, by omega, hc, rfl⟩
  · rintro ⟨x, y, h1, h2, h3, h4, h5⟩
    by_cases e : x = X ∧ y = Y
    · right
      rw [h5, e.1, e.2]
    · left
      exact ⟨x, y, h1, h2, by omega, h4, h5⟩
theorem Found.no (h : Found cond elt n2 X Y acc) (hc : ¬ cond X Y) : Found cond elt n2 X (Y + 1) acc := by
  refine ⟨by have := h.len; omega, fun t => ?_⟩
  rw [h.mem]
  constructor
  · rintro ⟨x, y, h1, h2, h3, h4, h5⟩
    exact ⟨x, y, h1, h2, by omega, h4, h5⟩
  · rintro ⟨x, y, h1, h2, h3, h4, h5⟩
    by_cases e : x = X ∧ y = Y
    · rw [e.1, e.2] at h4
      exact absurd h4 hc
    · exact ⟨x, y, h1, h2, by omega, h4, h5⟩
theorem Found.row (h : Found cond elt n2 X n2 acc) : Found cond elt n2 (X + 1) 0 acc := by
  refine ⟨by have := h.len; rw [Nat.add_mul]; omega, fun t => ?_⟩
  rw [h.mem]
  constructor
  · rintro ⟨x, y, h1, h2, h3, h4, h5⟩
    exact ⟨x, y, h1, h2, by omega, h4, h5⟩
  · rintro ⟨x, y, h1, h2, h3, h4, h5⟩
    exact ⟨x, y, h1, h2, by omega, h4, h5⟩
end
theorem row3D {x y z : Int} : rowD [x, y, z] = .tuple [.int x, .int y, .int z] := rfl
def FreeIn (a b c : Int) (t : List Int) : Prop := ∃ x y : Int, 0 ≤ x ∧ 0 ≤ y ∧ x ≤ c ∧ y ≤ c ∧ 0 < x + y ∧ (a * x + b * y) % c = 0 ∧ t = [x, y, (a * x + b * y) / c]
theorem free_ok {a b c : Int} (ha : 0 ≤ a ∧ a ≤ 3) (hb : 0 ≤ b ∧ b ≤ 3) (hc : 1 ≤ c ∧ c ≤ 3) : ∃ rows left : List (List Int), (∀ t, t ∈ rows ↔ FreeIn a b c t) ∧ left.Nodup ∧ (∀ t, t ∈ left ↔ MinIn rows t) ∧ left.length ≤ 1000000 ∧ G_l_free [.int a, .int b, .int c] = some (.ret true (.list (left.map rowD))) := by
  obtain ⟨n, hn⟩ : ∃ n : Nat, c + 1 = n := ⟨(c + 1).toNat, by omega⟩
  suffices hs : Wp (g_l_free (startD 6 [.int a, .int b, .int c])) (fun o => ∃ rows left : List (List Int), (∀ t, t ∈ rows ↔ FreeIn a b c t) ∧ left.Nodup ∧ (∀ t, t ∈ left ↔ MinIn rows t) ∧ left.length ≤ 1000000 ∧ o = .rt true (.list (left.map rowD))) by
    obtain ⟨o, ho, rows, left, h1, h2, h3, h4, rfl⟩ := hs
    exact ⟨rows, left, h1, h2, h3, h4, run_rt ho⟩
  unfold g_l_free
  walk_at "ev"
  refine wp_for (ds := rngL 0 n) (by walk_at "ev"; rw [hn]) (fun i e => ∃ acc x y, Found (fun x y => 0 < x + y ∧ (a * x + b * y) % c = 0) (fun x y => [x, y, (a * x + b * y) / c]) n i 0 acc ∧ e = [some (.fz (.int a)), some (.fz (.int b)), some (.fz (.int c)), some (.ow (.list (acc.map rowD))), x, y]) ⟨[], _, _, .nil, rfl⟩ ?_ ?_
  · rintro i d e hi ⟨acc, x, y, hF, rfl⟩
    obtain ⟨h1, rfl⟩ := rng_at hi
    have hz : (0 + (i : Int)) = i := by omega
    rw [hz] at h1 ⊢
    walk_at "ev"
    refine wp_for1 (ds := rngL 0 n) (by walk_at "ev"; rw [hn]) (fun j e => ∃ acc y, Found (fun x y => 0 < x + y ∧ (a * x + b * y) % c = 0) (fun x y => [x, y, (a * x + b * y) / c]) n i j acc ∧ e = [some (.fz (.int a)), some (.fz (.int b)), some (.fz (.int c)), some (.ow (.list (acc.map rowD))), some (.fz (.int i)), y]) ⟨_, _, hF, rfl⟩ ?_ ?_
    · rintro j d e hj ⟨acc, y, hF, rfl⟩
      obtain ⟨h2, rfl⟩ := rng_at hj
      have hz : (0 + (j : Int)) = j := by omega
      rw [hz] at h2 ⊢
      have hlen := hF.len
      have hle : i * n ≤ 4 * 4 := Nat.mul_le_mul (by omega) (by omega)
      have hszl : acc.length < 16777216 := by omega
      walk_at "ev"
      refine wp_if ?_ ?_ <;> intro hcc
      · simp only [Bool.and_eq_true, decide_eq_true_eq] at hcc
        walk_at "ev"
        exact ⟨_, _, hF.yes hcc, by rw [List.map_append]; rfl⟩
      · have hcc : ¬ ((0 : Int) < i + j ∧ (a * i + b * j) % c = 0) := by
          intro z
          simp [z] at hcc
        walk_at "ev"
        exact ⟨_, _, hF.no hcc, rfl⟩
    · rintro e ⟨acc, y, hF, rfl⟩
      rw [rng_len] at hF
      have hnn : ((n : Int) - 0).toNat = n := by omega
      rw [hnn] at hF
      exact ⟨_, _, _, hF.row, rfl⟩
  · rintro e ⟨acc, x, y, hF, rfl⟩
    have hnn : ((n : Int) - 0).toNat = n := by omega
    rw [rng_len, hnn] at hF
    have hlen := hF.len
    have hle : n * n ≤ 4 * 4 := Nat.mul_le_mul (by omega) (by omega)
    have hmem : ∀ t, t ∈ acc ↔ FreeIn a b c t := fun t => by
      rw [hF.mem]
      constructor
      · rintro ⟨x, y, g1, g2, g3, g4, g5⟩
        exact ⟨x, y, g1, g2, by omega, by omega, g4.1, g4.2, g5⟩
      · rintro ⟨x, y, g1, g2, g3, g4, g5, g6, g7⟩
        exact ⟨x, y, g1, g2, .inl (by omega), ⟨g5, g6⟩, g7⟩
    obtain ⟨left, l1, l2, l3⟩ := thinned_ok (n := 3) (rows := acc) (fun r hr => by
      obtain ⟨x, y, _, _, _, _, _, _, rfl⟩ := (hmem r).mp hr
      rfl) (by omega)
    have hll : left.length ≤ acc.length := sub_len l1 fun t ht => ((l2 t).mp ht).1
    simp only [dFrz, frzE]
    repeat (first | walk_at "ev" | simp only [l3])
    exact ⟨acc, left, hmem, l1, l2, by omega, rfl⟩
/-! ### top and bound -/
def topF (a c r : Int) : Int := if a = 0 then 0 else max (c - 1) ((r + c * (a - 1)) / a)
theorem div_small {x a k : Int} (ha : 1 ≤ a) (hk : 0 ≤ k) (h : x ≤ k) : x / a ≤ k := by
  refine Int.le_trans (Int.ediv_le_ediv (by omega) h) ?_
  exact Int.ediv_le_self _ hk
theorem top_b {a c r : Int} (ha : 0 ≤ a ∧ a ≤ 3) (hc : 1 ≤ c ∧ c ≤ 3) (hr : -20 ≤ r ∧ r ≤ 20) : 0 ≤ topF a c r ∧ topF a c r ≤ 26 := by
  unfold topF
  split
  · omega
  · have h1 : c * (a - 1) ≤ 3 * 2 := Int.mul_le_mul hc.2 (by omega) (by omega) (by omega)
    have h2 := div_small (x := r + c * (a - 1)) (a := a) (k := 26) (by omega) (by omega) (by omega)
    omega
theorem top_ok {a c r : Int} (ha : 0 ≤ a ∧ a ≤ 3) (hc : 1 ≤ c ∧ c ≤ 3) (hr : -20 ≤ r ∧ r ≤ 20) : G_l_top [.int a, .int c, .int r] = some (.ret false (.int (topF a c r))) := by
  refine run_wpR (R := fun x => x = some (.ret false (.int (topF a c r)))) ?_
  unfold g_l_top topF
  walk_at "ev"
  refine wp_ifK ?_ ?_ <;> intro h
  · have h := of_decide_eq_true h
    walk_at "ev"
    rw [if_pos h]
  · have h := of_decide_eq_false h
    walk_at "ev"
    rw [if_neg h]
    congr 3
    split <;> omega
def BoundIn (a b c r : Int) (t : List Int) : Prop := ∃ x y : Int, 0 ≤ x ∧ 0 ≤ y ∧ x ≤ topF a c r ∧ y ≤ topF b c r ∧ 0 ≤ a * x + b * y - r ∧ (a * x + b * y - r) % c = 0 ∧ t = [x, y, (a * x + b * y - r) / c]
theorem bound_ok {a b c r : Int} (ha : 0 ≤ a ∧ a ≤ 3) (hb : 0 ≤ b ∧ b ≤ 3) (hc : 1 ≤ c ∧ c ≤ 3) (hr : -20 ≤ r ∧ r ≤ 20) : ∃ rows left : List (List Int), (∀ t, t ∈ rows ↔ BoundIn a b c r t) ∧ left.Nodup ∧ (∀ t, t ∈ left ↔ MinIn rows t) ∧ left.length ≤ 1000000 ∧ G_l_bound [.int a, .int b, .int c, .int r] = some (.ret true (.list (left.map rowD))) := by
  have ta := top_b ha hc hr
  have tb := top_b hb hc hr
  have ga := top_ok ha hc hr
  have gb := top_ok hb hc hr
  obtain ⟨n1, hn1⟩ : ∃ n : Nat, topF a c r + 1 = n := ⟨(topF a c r + 1).toNat, by omega⟩
  obtain ⟨n, hn⟩ : ∃ n : Nat, topF b c r + 1 = n := ⟨(topF b c r + 1).toNat, by omega⟩
  suffices hs : Wp (g_l_bound (startD 8 [.int a, .int b, .int c, .int r])) (fun o => ∃ rows left : List (List Int), (∀ t, t ∈ rows ↔ BoundIn a b c r t) ∧ left.Nodup ∧ (∀ t, t ∈ left ↔ MinIn rows t) ∧ left.length ≤ 1000000 ∧ o = .rt true (.list (left.map rowD))) by
    obtain ⟨o, ho, rows, left, h1, h2, h3, h4, rfl⟩ := hs
    exact ⟨rows, left, h1, h2, h3, h4, run_rt ho⟩
  unfold g_l_bound
  walk_at "ev"
  refine wp_for (ds := rngL 0 n1) (by (repeat (first | walk_at "ev" | simp only [ga])) <;> rw [hn1]) (fun i e => ∃ acc x y z, Found (fun x y => 0 ≤ a * x + b * y - r ∧ (a * x + b * y - r) % c = 0) (fun x y => [x, y, (a * x + b * y - r) / c]) n i 0 acc ∧ e = [some (.fz (.int a)), some (.fz (.int b)), some (.fz (.int c)), some (.fz (.int r)), some (.ow (.list (acc.map rowD))), x, y, z]) ⟨[], _, _, _, .nil, rfl⟩ ?_ ?_
  · rintro i d e hi ⟨acc, x, y, z, hF, rfl⟩
    obtain ⟨h1, rfl⟩ := rng_at hi
    have hz : (0 + (i : Int)) = i := by omega
    rw [hz] at h1 ⊢
    walk_at "ev"
    refine wp_for1 (ds := rngL 0 n) (by (repeat (first | walk_at "ev" | simp only [gb])) <;> rw [hn]) (fun j e => ∃ acc y z, Found (fun x y => 0 ≤ a * x + b * y - r ∧ (a * x + b * y - r) % c = 0) (fun x y => [x, y, (a * x + b * y - r) / c]) n i j acc ∧ e = [some (.fz (.int a)), some (.fz (.int b)), some (.fz (.int c)), some (.fz (.int r)), some (.ow (.list (acc.map rowD))), some (.fz (.int i)), y, z]) ⟨_, _, _, hF, rfl⟩ ?_ ?_
    · rintro j d e hj ⟨acc, y, z, hF, rfl⟩
      obtain ⟨h2, rfl⟩ := rng_at hj
      have hz : (0 + (j : Int)) = j := by omega
      rw [hz] at h2 ⊢
      have hlen := hF.len
      have hle : i * n ≤ 30 * 30 := Nat.mul_le_mul (by omega) (by omega)
      have hszl : acc.length < 16777216 := by omega
      walk_at "ev"
      refine wp_if ?_ ?_ <;> intro hcc
      · simp only [Bool.and_eq_true, decide_eq_true_eq] at hcc
        walk_at "ev"
        exact ⟨_, _, _, hF.yes hcc, by rw [List.map_append]; rfl⟩
      · have hcc : ¬ (0 ≤ a * i + b * j - r ∧ (a * i + b * j - r) % c = 0) := by
          intro z
          rw [decide_eq_true z.1, decide_eq_true z.2] at hcc
          cases hcc
        walk_at "ev"
        exact ⟨_, _, _, hF.no hcc, rfl⟩
    · rintro e ⟨acc, y, z, hF, rfl⟩
      rw [rng_len] at hF
      have hnn : ((n : Int) - 0).toNat = n := by omega
      rw [hnn] at hF
      exact ⟨_, _, _, _, hF.row, rfl⟩
  · rintro e ⟨acc, x, y, z, hF, rfl⟩
    have hnn : ((n1 : Int) - 0).toNat = n1 := by omega
    rw [rng_len, hnn] at hF
    have hlen := hF.len
    have hle : n1 * n ≤ 30 * 30 := Nat.mul_le_mul (by omega) (by omega)
    have hmem : ∀ t, t ∈ acc ↔ BoundIn a b c r t := fun t => by
      rw [hF.mem]
      constructor
      · rintro ⟨x, y, g1, g2, g3, g4, g5⟩
        exact ⟨x, y, g1, g2, by omega, by omega, g4.1, g4.2, g5⟩
      · rintro ⟨x, y, g1, g2, g3, g4, g5, g6, g7⟩
        exact ⟨x, y, g1, g2, .inl (by omega), ⟨g5, g6⟩, g7⟩
    obtain ⟨left, l1, l2, l3⟩ := thinned_ok (n := 3) (rows := acc) (fun r hr => by
      obtain ⟨x, y, _, _, _, _, _, _, rfl⟩ := (hmem r).mp hr
      rfl) (by omega)
    have hll : left.length ≤ acc.length := sub_len l1 fun t ht => ((l2 t).mp ht).1
    simp only [dFrz, frzE]
    repeat (first | walk_at "ev" | simp only [l3])
    exact ⟨acc, left, hmem, l1, l2, by omega, rfl⟩
end K25

namespace K25
open PySem PySem.Spec PyProof.Rows L2 DL
local macro_rules | `(tactic| walk_at "ev") => `(tactic| simp (disch := first | omega | (simp only [List.length_cons, List.length_nil, List.length_map, List.length_append, List.length_take, List.length_drop] <;> omega) | fail) only [cell_ok, pick_ok, startD, List.map_cons, List.map_nil, List.cons_append, List.nil_append, List.length_cons, List.length_nil, List.length_map, List.replicate, List.append_nil,
  ev_seq, ev_nx, ev_rt, ev_xc, ev_bk, ev_ct, ev_ss, ev_if, ev_ifT, ev_ifF, ev_stepN, lp_nx, lp_ct, lp_bk, lp_rt, lp_xc, wp_some,
  dSet, dSetO, dRet, dRetO, dRetVar, dNx, eS_ok, eS_mok, mbind_ok, mbind_mok, dTst, d2, d1, dVar, dVarS, dC, dCall, dCons, dNil, dFn, ev_ret, ev_exc, dAnd, dOr, dNot, dAndV, dOrV, dNotV, dTup, dLst, dApp, dSetIx, dAug, dYes, dIt, dItA,  wipeD, gN, gT, gCons', gNil', ev_appOk, ixN_ok, Option.bind_some,
  if_true, if_false, Bool.true_and, Bool.false_and, Bool.and_true, Bool.and_false, Bool.true_or, Bool.false_or, Bool.or_true, Bool.or_false, Bool.not_true, Bool.not_false, decide_true, decide_false, reduceIte, Bool.false_eq_true,
  Int.reduceToNat, Int.reduceAdd, Int.reduceSub, Int.reduceMul, Int.reduceMod, Int.reduceLT, Int.reduceLE, Int.reduceEq, Nat.reduceAdd, Nat.reduceSub, Nat.reduceEqDiff, Nat.reduceLT, Int.reducePow, gt_iff_lt, ge_iff_le, Int.reduceGT, Int.toNat_zero, Int.toNat_one, List.set_cons_zero, List.set_cons_succ, List.getD_cons_zero, List.getD_cons_succ, decide_eq_true_eq, decide_eq_false_iff_not,
  List.getElem?_cons_zero, List.getElem?_cons_succ, addD_int, iaddD_int, subD_int, ltD_int, leD_int, gtD_int, geD_int, eqD_int, neD_int, eqD_bool, asB_bool, lenD_list, lenD_tuple, tupleD_list, tupleD_tuple, listD_list, listD_tuple, resOf, mulD_r, mulD_l, modD_int, divD_int, powD_int, addD_list, addL_list, addD_tuple, cutD_toT, cutD_fromT, cutD_toL, cutD_fromL, cutO_toL, cutO_fromL, sortD_list, sortD_tuple, zipD_list, zipD_tuple, asLT_list, asLT_tuple, dFnO, dResO, dFnS, List.take_succ_cons, List.take_zero, List.drop_succ_cons, List.drop_zero, addD_T, iaddD_T, lenD_T, cutD_to, cutD_from, eqD_T, neD_T, isiD_str, dSl, dSome, dNo, asI_int, letter_small, letter_great, ev_andM, ev_orM, maxD_int, minD_int, absD_int, isiD_bool, getD'_ints, getD'_intsT, getD'_atC, getD'_atCT, rngD_one, rngD_two, isNotD_none, isD_none])
local macro_rules | `(tactic| walk_at "un") => `(tactic| simp (disch := first | omega | (simp only [List.length_cons, List.length_nil, List.length_map, List.length_append, List.length_take, List.length_drop] <;> omega) | fail) only [cell_ok, pick_ok, dFor, ev_forN, ev_forS, ev_lnx, ev_lct, ev_lbk, ev_lrt, ev_lxc, rngL_step, rngL_nil, range_0, range_1, range_2, range_3, range_4, range_5, startD, List.map_cons, List.map_nil, List.cons_append, List.nil_append, List.length_cons, List.length_nil, List.length_map, List.replicate, List.append_nil,
  ev_seq, ev_nx, ev_rt, ev_xc, ev_bk, ev_ct, ev_ss, ev_if, ev_ifT, ev_ifF, ev_stepN, lp_nx, lp_ct, lp_bk, lp_rt, lp_xc, wp_some,
  dSet, dSetO, dRet, dRetO, dRetVar, dNx, eS_ok, eS_mok, mbind_ok, mbind_mok, dTst, d2, d1, dVar, dVarS, dC, dCall, dCons, dNil, dFn, ev_ret, ev_exc, dAnd, dOr, dNot, dAndV, dOrV, dNotV, dTup, dLst, dApp, dSetIx, dAug, dYes, dIt, dItA,  wipeD, gN, gT, gCons', gNil', ev_appOk, ixN_ok, Option.bind_some,
  if_true, if_false, Bool.true_and, Bool.false_and, Bool.and_true, Bool.and_false, Bool.true_or, Bool.false_or, Bool.or_true, Bool.or_false, Bool.not_true, Bool.not_false, decide_true, decide_false, reduceIte, Bool.false_eq_true,
  Int.reduceToNat, Int.reduceAdd, Int.reduceSub, Int.reduceMul, Int.reduceMod, Int.reduceLT, Int.reduceLE, Int.reduceEq, Nat.reduceAdd, Nat.reduceSub, Nat.reduceEqDiff, Nat.reduceLT, Int.reducePow, gt_iff_lt, ge_iff_le, Int.reduceGT, Int.toNat_zero, Int.toNat_one, List.set_cons_zero, List.set_cons_succ, List.getD_cons_zero, List.getD_cons_succ, decide_eq_true_eq, decide_eq_false_iff_not,
  List.getElem?_cons_zero, List.getElem?_cons_succ, addD_int, iaddD_int, subD_int, ltD_int, leD_int, gtD_int, geD_int, eqD_int, neD_int, eqD_bool, asB_bool, lenD_list, lenD_tuple, tupleD_list, tupleD_tuple, listD_list, listD_tuple, resOf, mulD_r, mulD_l, modD_int, divD_int, powD_int, addD_list, addL_list, addD_tuple, cutD_toT, cutD_fromT, cutD_toL, cutD_fromL, cutO_toL, cutO_fromL, sortD_list, sortD_tuple, zipD_list, zipD_tuple, asLT_list, asLT_tuple, dFnO, dResO, dFnS, List.take_succ_cons, List.take_zero, List.drop_succ_cons, List.drop_zero, addD_T, iaddD_T, lenD_T, cutD_to, cutD_from, eqD_T, neD_T, isiD_str, dSl, dSome, dNo, asI_int, letter_small, letter_great, ev_andM, ev_orM, maxD_int, minD_int, absD_int, isiD_bool, getD'_ints, getD'_intsT, getD'_atC, getD'_atCT, rngD_one, rngD_two, isNotD_none, isD_none])
/-! ### places in another order -/
def back : List Nat → List Int → Nat → Int
  | j :: o, x :: v, i => if i = j then x else back o v i
  | _, _, _ => 0
theorem back_ok : ∀ {o : List Nat} {v : List Int}, o.Nodup → o.length = v.length → o.map (back o v) = v
  | [], [], _, _ => rfl
  | [], _ :: _, _, h => by simp at h
  | _ :: _, [], _, h => by simp at h
  | j :: o, x :: v, hn, h => by
    rw [List.nodup_cons] at hn
    rw [List.map_cons]
    have h1 : back (j :: o) (x :: v) j = x := by simp [back]
    have h2 : o.map (back (j :: o) (x :: v)) = o.map (back o v) := by
      refine List.map_congr_left fun i hi => ?_
      have : i ≠ j := fun e => hn.1 (e ▸ hi)
      simp [back, this]
    rw [h1, h2, back_ok hn.2 (by simpa using h)]
def tot (m : Nat) (h : Nat → Int) : Int := h 0 + h 1 + h 2 + (if m = 4 then h 3 else 0)
theorem perm_sum {xs ys : List Int} (h : xs.Perm ys) : xs.sum = ys.sum := by
  induction h with
  | nil => rfl
  | cons x _ ih => rw [sum_cons', sum_cons', ih]
  | swap x y l => rw [sum_cons', sum_cons', sum_cons', sum_cons']; omega
  | trans _ _ h1 h2 => rw [h1, h2]
structure Ord (o : List Nat) (m : Nat) : Prop where
  m34 : m = 3 ∨ m = 4
  perm : o.Perm (List.range m)
section
variable {o : List Nat} {m : Nat}
theorem Ord.nodup (h : Ord o m) : o.Nodup := h.perm.nodup_iff.mpr List.nodup_range
theorem Ord.len (h : Ord o m) : o.length = m := by rw [h.perm.length_eq, List.length_range]
theorem Ord.mem (h : Ord o m) {i : Nat} : i ∈ o ↔ i < m := by rw [h.perm.mem_iff, List.mem_range]
theorem Ord.sum (h : Ord o m) (f : Nat → Int) : (o.map f).sum = tot m f := by
  rw [perm_sum (h.perm.map f)]
  rcases h.m34 with rfl | rfl
  · show (f 0 + (f 1 + (f 2 + 0)) : Int) = f 0 + f 1 + f 2 + 0
    omega
  · show (f 0 + (f 1 + (f 2 + (f 3 + 0))) : Int) = f 0 + f 1 + f 2 + f 3
    omega
theorem all4 (hm : m = 3 ∨ m = 4) {P : Nat → Prop} : (∀ i, i < m → P i) ↔ P 0 ∧ P 1 ∧ P 2 ∧ (m = 4 → P 3) := by
  constructor
  · exact fun h => ⟨h 0 (by omega), h 1 (by omega), h 2 (by omega), fun e => h 3 (by omega)⟩
  · rintro ⟨h0, h1, h2, h3⟩ i hi
    have : i = 0 ∨ i = 1 ∨ i = 2 ∨ i = 3 := by omega
    rcases this with rfl | rfl | rfl | rfl
    · exact h0
    · exact h1
    · exact h2
    · exact h3 (by omega)
theorem map_dot (f g : Nat → Int) : ∀ o : List Nat, dot (o.map f) (o.map g) = (o.map fun i => f i * g i).sum
  | [] => rfl
  | i :: o => by
    rw [List.map_cons, List.map_cons, List.map_cons, sum_cons', ← map_dot f g o]
    rfl
theorem map_under (f g : Nat → Int) : ∀ o : List Nat, under (o.map f) (o.map g) = true ↔ ∀ i ∈ o, f i ≤ g i
  | [] => by simp [under]
  | i :: o => by
    rw [List.map_cons, List.map_cons, under_cons, map_under f g o]
    simp
theorem Ord.row (h : Ord o m) (f : Nat → Int) : Row m (o.map f) ↔ ∀ i, i < m → 0 ≤ f i := by
  constructor
  · exact fun hr i hi => hr.2 _ (List.mem_map_of_mem (h.mem.mpr hi))
  · refine fun hf => ⟨by rw [List.length_map, h.len], fun x hx => ?_⟩
    obtain ⟨i, hi, rfl⟩ := List.mem_map.mp hx
    exact hf i (h.mem.mp hi)
theorem Ord.under (h : Ord o m) (f g : Nat → Int) : K25.under (o.map f) (o.map g) = true ↔ ∀ i, i < m → f i ≤ g i := by
  rw [map_under]
  exact ⟨fun k i hi => k i (h.mem.mpr hi), fun k i hi => k i (h.mem.mp hi)⟩
theorem Ord.eq (h : Ord o m) (f g : Nat → Int) : o.map f = o.map g ↔ ∀ i, i < m → f i = g i := by
  rw [List.map_inj_left]
  exact ⟨fun k i hi => k i (h.mem.mpr hi), fun k i hi => k i (h.mem.mp hi)⟩
end
def fn3 (x y z : Int) (i : Nat) : Int := [x, y, z].getD i 0
def SolF (a b c r : Int) (m : Nat) (hom : Prop) (f : Nat → Int) : Prop := (∀ i, i < m → 0 ≤ f i) ∧ a * f 0 + b * f 1 = c * f 2 + r ∧ (hom → 1 ≤ tot m f)
section
variable {o : List Nat} {m : Nat} {a b c r s : Int} {hom : Prop}
theorem sol_fun (h : Ord o m) (hs : s = 1 ∨ s = -1) (f : Nat → Int) : Sol (o.map (fn3 (s * a) (s * b) (0 - s * c))) (0 - s * r) m hom (o.map f) ↔ SolF a b c r m hom f := by
  unfold Sol SolF val
  rw [h.row, map_dot, h.sum, h.sum]
  have e : tot m (fun i => fn3 (s * a) (s * b) (0 - s * c) i * f i) = s * a * f 0 + s * b * f 1 + (0 - s * c) * f 2 := by
    show s * a * f 0 + s * b * f 1 + (0 - s * c) * f 2 + (if m = 4 then 0 * f 3 else 0) = _
    split <;> omega
  rw [e]
  have e2 : s * a * f 0 + s * b * f 1 + (0 - s * c) * f 2 + (0 - s * r) = 0 ↔ a * f 0 + b * f 1 = c * f 2 + r := by
    rcases hs with rfl | rfl
    · simp only [Int.one_mul, Int.sub_mul, Int.zero_mul]
      omega
    · simp only [Int.neg_mul, Int.one_mul, Int.sub_mul, Int.zero_mul]
      omega
  rw [e2]
theorem min_fun (h : Ord o m) (hs : s = 1 ∨ s = -1) (f : Nat → Int) : Min (o.map (fn3 (s * a) (s * b) (0 - s * c))) (0 - s * r) m hom (o.map f) ↔ SolF a b c r m hom f ∧ ∀ g, SolF a b c r m hom g → (∀ i, i < m → g i ≤ f i) → ∀ i, i < m → g i = f i := by
  unfold Min
  rw [sol_fun h hs]
  refine and_congr_right fun _ => ⟨fun k g hg hu => ?_, fun k u hu huf => ?_⟩
  · exact (h.eq g f).mp (k (o.map g) ((sol_fun h hs g).mpr hg) ((h.under g f).mpr hu))
  · have e := back_ok h.nodup (h.len.trans hu.1.1.symm)
    rw [← e] at hu huf ⊢
    exact (h.eq _ f).mpr (k _ ((sol_fun h hs _).mp hu) ((h.under _ f).mp huf))
theorem min_back (h : Ord o m) {al : List Int} {s0 : Int} {w : List Int} (hw : Min al s0 m hom w) : ∃ f, w = o.map f := ⟨_, (back_ok h.nodup (h.len.trans hw.1.1.1.symm)).symm⟩
end
/-! ### the rows of the law -/
theorem div_iff {c n z : Int} (hc : 1 ≤ c) : (n % c = 0 ∧ z = n / c) ↔ n = c * z := by
  constructor
  · rintro ⟨h1, rfl⟩
    exact (Int.mul_ediv_cancel_of_emod_eq_zero h1).symm
  · rintro rfl
    exact ⟨Int.mul_emod_right c z, (Int.mul_ediv_cancel_left z (by omega)).symm⟩
theorem nn_of_mul {c z : Int} (hc : 1 ≤ c) (h : 0 ≤ c * z) : 0 ≤ z := by
  apply Classical.byContradiction
  intro hn
  have := Int.mul_neg_of_pos_of_neg (show 0 < c by omega) (show z < 0 by omega)
  omega
theorem free_iff {a b c : Int} (hc : 1 ≤ c) (t : List Int) : FreeIn a b c t ↔ ∃ x y z, t = [x, y, z] ∧ 0 ≤ x ∧ 0 ≤ y ∧ x ≤ c ∧ y ≤ c ∧ 0 < x + y ∧ a * x + b * y = c * z := by
  constructor
  · rintro ⟨x, y, h1, h2, h3, h4, h5, h6, rfl⟩
    exact ⟨x, y, _, rfl, h1, h2, h3, h4, h5, (div_iff hc).mp ⟨h6, rfl⟩⟩
  · rintro ⟨x, y, z, rfl, h1, h2, h3, h4, h5, h6⟩
    obtain ⟨g1, g2⟩ := (div_iff hc).mpr h6
    exact ⟨x, y, h1, h2, h3, h4, h5, g1, by rw [← g2]⟩
theorem bound_iff {a b c r : Int} (hc : 1 ≤ c) (t : List Int) : BoundIn a b c r t ↔ ∃ x y z, t = [x, y, z] ∧ 0 ≤ x ∧ 0 ≤ y ∧ x ≤ topF a c r ∧ y ≤ topF b c r ∧ 0 ≤ z ∧ a * x + b * y = c * z + r := by
  constructor
  · rintro ⟨x, y, h1, h2, h3, h4, h5, h6, rfl⟩
    have h7 := (div_iff hc).mp ⟨h6, rfl⟩
    refine ⟨x, y, _, rfl, h1, h2, h3, h4, nn_of_mul hc (by omega), by omega⟩
  · rintro ⟨x, y, z, rfl, h1, h2, h3, h4, h5, h6⟩
    have h7 := Int.mul_nonneg (show 0 ≤ c by omega) h5
    obtain ⟨g1, g2⟩ := (div_iff (n := a * x + b * y - r) (z := z) hc).mpr (by omega)
    exact ⟨x, y, h1, h2, h3, h4, by omega, g1, by rw [← g2]⟩
def turn (o : List Nat) (t : List Int) : List Int := o.map fun i => t.getD i 0
theorem under3 {x y z x' y' z' : Int} : under [x, y, z] [x', y', z'] = true ↔ x ≤ x' ∧ y ≤ y' ∧ z ≤ z' := by simp [under]
def unit3 (o : List Nat) : List Int := o.map fun i => if i = 3 then 1 else 0
section
variable {o : List Nat} {m : Nat} {a b c r s : Int} {rows : List (List Int)}
theorem hom_iff (h : Ord o m) (hs : s = 1 ∨ s = -1) (ha : 0 ≤ a) (hb : 0 ≤ b) (hc : 1 ≤ c) (hrows : ∀ t, t ∈ rows ↔ FreeIn a b c t) (w : List Int) :
    Min (o.map (fn3 (s * a) (s * b) (0 - s * c))) 0 m True w ↔ (∃ t, MinIn rows t ∧ w = turn o t) ∨ (m = 4 ∧ w = unit3 o) := by
  have mf := fun f => min_fun (a := a) (b := b) (c := c) (r := 0) (hom := True) h hs f
  simp only [Int.mul_zero, Int.sub_zero] at mf
  have hm := h.m34
  have key : ∀ f : Nat → Int, SolF a b c 0 m True f ↔ (0 ≤ f 0 ∧ 0 ≤ f 1 ∧ 0 ≤ f 2 ∧ (m = 4 → 0 ≤ f 3)) ∧ a * f 0 + b * f 1 = c * f 2 ∧ 1 ≤ tot m f := by
    intro f
    unfold SolF
    rw [all4 hm]
    simp
  constructor
  · intro hw
    obtain ⟨f, rfl⟩ := min_back h hw
    rw [mf] at hw
    obtain ⟨hS, hM⟩ := hw
    obtain ⟨⟨f0, f1, f2, f3⟩, hE, hT⟩ := (key f).mp hS
    by_cases hu : m = 4 ∧ 1 ≤ f 3
    · right
      refine ⟨hu.1, ((h.eq _ f).mpr (hM (fun i => if i = 3 then 1 else 0) ((key _).mpr ⟨by simp, by simp, by simp [tot, hu.1]⟩) ?_)).symm⟩
      rw [all4 hm]
      simp
      exact ⟨f0, f1, f2, fun _ => hu.2⟩
    · left
      have f3z : m = 4 → f 3 = 0 := fun e => by
        have := f3 e
        by_cases hq : 1 ≤ f 3
        · exact absurd ⟨e, hq⟩ hu
        · omega
      have hTe : tot m f = f 0 + f 1 + f 2 := by
        unfold tot
        split
        · rename_i e
          rw [f3z e]
          omega
        · omega
      have hx : f 0 ≤ c := by
        apply Classical.byContradiction
        intro hn
        have h1 : c * a ≤ c * f 2 := by
          have h2 := Int.mul_le_mul_of_nonneg_left (show c ≤ f 0 by omega) ha
          have h3 := Int.mul_nonneg hb f1
          rw [Int.mul_comm c a]
          omega
        have h2 : a ≤ f 2 := Int.le_of_mul_le_mul_left h1 (by omega)
        have := hM (fn3 c 0 a) ((key _).mpr ⟨⟨by show 0 ≤ c; omega, by show (0 : Int) ≤ 0; omega, ha, fun _ => by show (0 : Int) ≤ 0; omega⟩, by show a * c + b * 0 = c * a; rw [Int.mul_comm c a]; omega, by
          show 1 ≤ c + 0 + a + (if m = 4 then 0 else 0)
          split <;> omega⟩) (by
            rw [all4 hm]
            exact ⟨by show c ≤ f 0; omega, f1, h2, f3⟩) 0 (by omega)
        have this : c = f 0 := this
        omega
      have hy : f 1 ≤ c := by
        apply Classical.byContradiction
        intro hn
        have h1 : c * b ≤ c * f 2 := by
          have h2 := Int.mul_le_mul_of_nonneg_left (show c ≤ f 1 by omega) hb
          have h3 := Int.mul_nonneg ha f0
          rw [Int.mul_comm c b]
          omega
        have h2 : b ≤ f 2 := Int.le_of_mul_le_mul_left h1 (by omega)
        have := hM (fn3 0 c b) ((key _).mpr ⟨⟨by show (0 : Int) ≤ 0; omega, by show 0 ≤ c; omega, hb, fun _ => by show (0 : Int) ≤ 0; omega⟩, by show a * 0 + b * c = c * b; rw [Int.mul_comm c b]; omega, by
          show 1 ≤ 0 + c + b + (if m = 4 then 0 else 0)
          split <;> omega⟩) (by
            rw [all4 hm]
            exact ⟨f0, by show c ≤ f 1; omega, h2, f3⟩) 1 (by omega)
        have this : c = f 1 := this
        omega
      have hpos : 0 < f 0 + f 1 := by
        apply Classical.byContradiction
        intro hn
        have e0 : f 0 = 0 := by omega
        have e1 : f 1 = 0 := by omega
        rw [e0, e1] at hE
        have h2 := Int.mul_le_mul_of_nonneg_right hc (show 0 ≤ f 2 from f2)
        omega
      refine ⟨[f 0, f 1, f 2], ⟨(hrows _).mpr ((free_iff hc _).mpr ⟨_, _, _, rfl, f0, f1, hx, hy, hpos, hE⟩), fun u hu hut => ?_⟩, ?_⟩
      · obtain ⟨x, y, z, rfl, g1, g2, g3, g4, g5, g6⟩ := (free_iff hc _).mp ((hrows _).mp hu)
        rw [under3] at hut
        have gz : 0 ≤ z := nn_of_mul hc (by have := Int.mul_nonneg ha g1; have := Int.mul_nonneg hb g2; omega)
        have := hM (fn3 x y z) ((key _).mpr ⟨⟨g1, g2, gz, fun _ => by show (0 : Int) ≤ 0; omega⟩, g6, by
          show 1 ≤ x + y + z + (if m = 4 then 0 else 0)
          split <;> omega⟩) (by
            rw [all4 hm]
            exact ⟨hut.1, hut.2.1, hut.2.2, f3⟩)
        rw [all4 hm] at this
        obtain ⟨e0, e1, e2, _⟩ := this
        have e0 : x = f 0 := e0
        have e1 : y = f 1 := e1
        have e2 : z = f 2 := e2
        rw [e0, e1, e2]
      · unfold turn
        rw [h.eq, all4 hm]
        exact ⟨rfl, rfl, rfl, fun e => f3z e⟩
  · rintro (⟨t, ⟨ht, hmin⟩, rfl⟩ | ⟨hm4, rfl⟩)
    · obtain ⟨x, y, z, rfl, g1, g2, g3, g4, g5, g6⟩ := (free_iff hc _).mp ((hrows _).mp ht)
      have gz : 0 ≤ z := nn_of_mul hc (by have := Int.mul_nonneg ha g1; have := Int.mul_nonneg hb g2; omega)
      show Min _ 0 m True (o.map (fn3 x y z))
      rw [mf]
      refine ⟨(key _).mpr ⟨⟨g1, g2, gz, fun _ => by show (0 : Int) ≤ 0; omega⟩, g6, by
          show 1 ≤ x + y + z + (if m = 4 then 0 else 0)
          split <;> omega⟩, fun g hg hu => ?_⟩
      obtain ⟨⟨k0, k1, k2, k3⟩, hE, hT⟩ := (key g).mp hg
      rw [all4 hm] at hu ⊢
      obtain ⟨u0, u1, u2, u3⟩ := hu
      have u0 : g 0 ≤ x := u0
      have u1 : g 1 ≤ y := u1
      have u2 : g 2 ≤ z := u2
      have u3 : m = 4 → g 3 ≤ 0 := u3
      have hTe : tot m g = g 0 + g 1 + g 2 := by
        unfold tot
        split
        · rename_i e
          have := u3 e
          have := k3 e
          omega
        · omega
      have hpos : 0 < g 0 + g 1 := by
        apply Classical.byContradiction
        intro hn
        have e0 : g 0 = 0 := by omega
        have e1 : g 1 = 0 := by omega
        rw [e0, e1] at hE
        have h2 := Int.mul_le_mul_of_nonneg_right hc (show 0 ≤ g 2 from k2)
        omega
      have := hmin [g 0, g 1, g 2] ((hrows _).mpr ((free_iff hc _).mpr ⟨_, _, _, rfl, k0, k1, by omega, by omega, hpos, hE⟩)) (under3.mpr ⟨u0, u1, u2⟩)
      injection this with e0 this
      injection this with e1 this
      injection this with e2 this
      exact ⟨e0, e1, e2, fun e => by have := u3 e; have := k3 e; show g 3 = 0; omega⟩
    · unfold unit3
      rw [mf]
      refine ⟨(key _).mpr ⟨by simp, by simp, by simp [tot, hm4]⟩, fun g hg hu => ?_⟩
      obtain ⟨⟨k0, k1, k2, k3⟩, hE, hT⟩ := (key g).mp hg
      rw [all4 hm] at hu ⊢
      simp at hu ⊢
      obtain ⟨u0, u1, u2, u3⟩ := hu
      have u3 := u3 hm4
      unfold tot at hT
      rw [if_pos hm4] at hT
      exact ⟨by omega, by omega, by omega, fun _ => by omega⟩
end
end K25

namespace K25
open PySem PySem.Spec PyProof.Rows L2 DL
local macro_rules | `(tactic| walk_at "ev") => `(tactic| simp (disch := first | omega | (simp only [List.length_cons, List.length_nil, List.length_map, List.length_append, List.length_take, List.length_drop] <;> omega) | fail) only [cell_ok, pick_ok, startD, List.map_cons, List.map_nil, List.cons_append, List.nil_append, List.length_cons, List.length_nil, List.length_map, List.replicate, List.append_nil,
  ev_seq, ev_nx, ev_rt, ev_xc, ev_bk, ev_ct, ev_ss, ev_if, ev_ifT, ev_ifF, ev_stepN, lp_nx, lp_ct, lp_bk, lp_rt, lp_xc, wp_some,
  dSet, dSetO, dRet, dRetO, dRetVar, dNx, eS_ok, eS_mok, mbind_ok, mbind_mok, dTst, d2, d1, dVar, dVarS, dC, dCall, dCons, dNil, dFn, ev_ret, ev_exc, dAnd, dOr, dNot, dAndV, dOrV, dNotV, dTup, dLst, dApp, dSetIx, dAug, dYes, dIt, dItA,  wipeD, gN, gT, gCons', gNil', ev_appOk, ixN_ok, Option.bind_some,
  if_true, if_false, Bool.true_and, Bool.false_and, Bool.and_true, Bool.and_false, Bool.true_or, Bool.false_or, Bool.or_true, Bool.or_false, Bool.not_true, Bool.not_false, decide_true, decide_false, reduceIte, Bool.false_eq_true,
  Int.reduceToNat, Int.reduceAdd, Int.reduceSub, Int.reduceMul, Int.reduceMod, Int.reduceLT, Int.reduceLE, Int.reduceEq, Nat.reduceAdd, Nat.reduceSub, Nat.reduceEqDiff, Nat.reduceLT, Int.reducePow, gt_iff_lt, ge_iff_le, Int.reduceGT, Int.toNat_zero, Int.toNat_one, List.set_cons_zero, List.set_cons_succ, List.getD_cons_zero, List.getD_cons_succ, decide_eq_true_eq, decide_eq_false_iff_not,
  List.getElem?_cons_zero, List.getElem?_cons_succ, addD_int, iaddD_int, subD_int, ltD_int, leD_int, gtD_int, geD_int, eqD_int, neD_int, eqD_bool, asB_bool, lenD_list, lenD_tuple, tupleD_list, tupleD_tuple, listD_list, listD_tuple, resOf, mulD_r, mulD_l, modD_int, divD_int, powD_int, addD_list, addL_list, addD_tuple, cutD_toT, cutD_fromT, cutD_toL, cutD_fromL, cutO_toL, cutO_fromL, sortD_list, sortD_tuple, zipD_list, zipD_tuple, asLT_list, asLT_tuple, dFnO, dResO, dFnS, List.take_succ_cons, List.take_zero, List.drop_succ_cons, List.drop_zero, addD_T, iaddD_T, lenD_T, cutD_to, cutD_from, eqD_T, neD_T, isiD_str, dSl, dSome, dNo, asI_int, letter_small, letter_great, ev_andM, ev_orM, maxD_int, minD_int, absD_int, isiD_bool, getD'_ints, getD'_intsT, getD'_atC, getD'_atCT, rngD_one, rngD_two, isNotD_none, isD_none])
local macro_rules | `(tactic| walk_at "un") => `(tactic| simp (disch := first | omega | (simp only [List.length_cons, List.length_nil, List.length_map, List.length_append, List.length_take, List.length_drop] <;> omega) | fail) only [cell_ok, pick_ok, dFor, ev_forN, ev_forS, ev_lnx, ev_lct, ev_lbk, ev_lrt, ev_lxc, rngL_step, rngL_nil, range_0, range_1, range_2, range_3, range_4, range_5, startD, List.map_cons, List.map_nil, List.cons_append, List.nil_append, List.length_cons, List.length_nil, List.length_map, List.replicate, List.append_nil,
  ev_seq, ev_nx, ev_rt, ev_xc, ev_bk, ev_ct, ev_ss, ev_if, ev_ifT, ev_ifF, ev_stepN, lp_nx, lp_ct, lp_bk, lp_rt, lp_xc, wp_some,
  dSet, dSetO, dRet, dRetO, dRetVar, dNx, eS_ok, eS_mok, mbind_ok, mbind_mok, dTst, d2, d1, dVar, dVarS, dC, dCall, dCons, dNil, dFn, ev_ret, ev_exc, dAnd, dOr, dNot, dAndV, dOrV, dNotV, dTup, dLst, dApp, dSetIx, dAug, dYes, dIt, dItA,  wipeD, gN, gT, gCons', gNil', ev_appOk, ixN_ok, Option.bind_some,
  if_true, if_false, Bool.true_and, Bool.false_and, Bool.and_true, Bool.and_false, Bool.true_or, Bool.false_or, Bool.or_true, Bool.or_false, Bool.not_true, Bool.not_false, decide_true, decide_false, reduceIte, Bool.false_eq_true,
  Int.reduceToNat, Int.reduceAdd, Int.reduceSub, Int.reduceMul, Int.reduceMod, Int.reduceLT, Int.reduceLE, Int.reduceEq, Nat.reduceAdd, Nat.reduceSub, Nat.reduceEqDiff, Nat.reduceLT, Int.reducePow, gt_iff_lt, ge_iff_le, Int.reduceGT, Int.toNat_zero, Int.toNat_one, List.set_cons_zero, List.set_cons_succ, List.getD_cons_zero, List.getD_cons_succ, decide_eq_true_eq, decide_eq_false_iff_not,
  List.getElem?_cons_zero, List.getElem?_cons_succ, addD_int, iaddD_int, subD_int, ltD_int, leD_int, gtD_int, geD_int, eqD_int, neD_int, eqD_bool, asB_bool, lenD_list, lenD_tuple, tupleD_list, tupleD_tuple, listD_list, listD_tuple, resOf, mulD_r, mulD_l, modD_int, divD_int, powD_int, addD_list, addL_list, addD_tuple, cutD_toT, cutD_fromT, cutD_toL, cutD_fromL, cutO_toL, cutO_fromL, sortD_list, sortD_tuple, zipD_list, zipD_tuple, asLT_list, asLT_tuple, dFnO, dResO, dFnS, List.take_succ_cons, List.take_zero, List.drop_succ_cons, List.drop_zero, addD_T, iaddD_T, lenD_T, cutD_to, cutD_from, eqD_T, neD_T, isiD_str, dSl, dSome, dNo, asI_int, letter_small, letter_great, ev_andM, ev_orM, maxD_int, minD_int, absD_int, isiD_bool, getD'_ints, getD'_intsT, getD'_atC, getD'_atCT, rngD_one, rngD_two, isNotD_none, isD_none])
section
variable {o : List Nat} {m : Nat} {a b c r s : Int} {rows : List (List Int)}
theorem past_top {a c r x : Int} (ha : 0 < a) (h : topF a c r < x) : c ≤ x ∧ r + c * (a - 1) < a * x := by
  unfold topF at h
  rw [if_neg (by omega)] at h
  have h1 : (r + c * (a - 1)) / a < x := by omega
  rw [Int.ediv_lt_iff_lt_mul ha, Int.mul_comm x a] at h1
  exact ⟨by omega, h1⟩
theorem inhom_iff (h : Ord o m) (hs : s = 1 ∨ s = -1) (ha : 0 ≤ a) (hb : 0 ≤ b) (hc : 1 ≤ c) (hrows : ∀ t, t ∈ rows ↔ BoundIn a b c r t) (w : List Int) :
    Min (o.map (fn3 (s * a) (s * b) (0 - s * c))) (0 - s * r) m False w ↔ ∃ t, MinIn rows t ∧ w = turn o t := by
  have mf := fun f => min_fun (a := a) (b := b) (c := c) (r := r) (hom := False) h hs f
  have hm := h.m34
  have key : ∀ f : Nat → Int, SolF a b c r m False f ↔ (0 ≤ f 0 ∧ 0 ≤ f 1 ∧ 0 ≤ f 2 ∧ (m = 4 → 0 ≤ f 3)) ∧ a * f 0 + b * f 1 = c * f 2 + r := by
    intro f
    unfold SolF
    rw [all4 hm]
    simp
  have zz : (0 : Int) ≤ 0 := by omega
  constructor
  · intro hw
    obtain ⟨f, rfl⟩ := min_back h hw
    rw [mf] at hw
    obtain ⟨hS, hM⟩ := hw
    obtain ⟨⟨f0, f1, f2, f3⟩, hE⟩ := (key f).mp hS
    have f3z : m = 4 → f 3 = 0 := fun e => by
      have := hM (fn3 (f 0) (f 1) (f 2)) ((key _).mpr ⟨⟨f0, f1, f2, fun _ => zz⟩, hE⟩) (by
        rw [all4 hm]
        exact ⟨Int.le_refl _, Int.le_refl _, Int.le_refl _, f3⟩) 3 (by omega)
      exact this.symm
    have hx : f 0 ≤ topF a c r := by
      apply Classical.byContradiction
      intro hn
      by_cases ha0 : a = 0
      · have ht : topF a c r = 0 := by unfold topF; rw [if_pos ha0]
        have := hM (fn3 0 (f 1) (f 2)) ((key _).mpr ⟨⟨zz, f1, f2, fun _ => zz⟩, by
          show a * 0 + b * f 1 = c * f 2 + r
          rw [ha0] at hE ⊢
          omega⟩) (by
          rw [all4 hm]
          exact ⟨f0, Int.le_refl _, Int.le_refl _, f3⟩) 0 (by omega)
        have this : 0 = f 0 := this
        omega
      · obtain ⟨p1, p2⟩ := past_top (a := a) (c := c) (r := r) (x := f 0) (by omega) (by omega)
        have h3 := Int.mul_nonneg hb f1
        have h4 : c * (a - 1) < c * f 2 := by omega
        have h5 : a - 1 < f 2 := Int.lt_of_mul_lt_mul_left h4 (by omega)
        have := hM (fn3 (f 0 - c) (f 1) (f 2 - a)) ((key _).mpr ⟨⟨by show 0 ≤ f 0 - c; omega, f1, by show 0 ≤ f 2 - a; omega, fun _ => zz⟩, by
          show a * (f 0 - c) + b * f 1 = c * (f 2 - a) + r
          rw [Int.mul_sub, Int.mul_sub, Int.mul_comm c a]
          omega⟩) (by
          rw [all4 hm]
          exact ⟨by show f 0 - c ≤ f 0; omega, Int.le_refl _, by show f 2 - a ≤ f 2; omega, f3⟩) 0 (by omega)
        have this : f 0 - c = f 0 := this
        omega
    have hy : f 1 ≤ topF b c r := by
      apply Classical.byContradiction
      intro hn
      by_cases hb0 : b = 0
      · have ht : topF b c r = 0 := by unfold topF; rw [if_pos hb0]
        have := hM (fn3 (f 0) 0 (f 2)) ((key _).mpr ⟨⟨f0, zz, f2, fun _ => zz⟩, by
          show a * f 0 + b * 0 = c * f 2 + r
          rw [hb0] at hE ⊢
          omega⟩) (by
          rw [all4 hm]
          exact ⟨Int.le_refl _, f1, Int.le_refl _, f3⟩) 1 (by omega)
        have this : 0 = f 1 := this
        omega
      · obtain ⟨p1, p2⟩ := past_top (a := b) (c := c) (r := r) (x := f 1) (by omega) (by omega)
        have h3 := Int.mul_nonneg ha f0
        have h4 : c * (b - 1) < c * f 2 := by omega
        have h5 : b - 1 < f 2 := Int.lt_of_mul_lt_mul_left h4 (by omega)
        have := hM (fn3 (f 0) (f 1 - c) (f 2 - b)) ((key _).mpr ⟨⟨f0, by show 0 ≤ f 1 - c; omega, by show 0 ≤ f 2 - b; omega, fun _ => zz⟩, by
          show a * f 0 + b * (f 1 - c) = c * (f 2 - b) + r
          rw [Int.mul_sub, Int.mul_sub, Int.mul_comm c b]
          omega⟩) (by
          rw [all4 hm]
          exact ⟨Int.le_refl _, by show f 1 - c ≤ f 1; omega, by show f 2 - b ≤ f 2; omega, f3⟩) 1 (by omega)
        have this : f 1 - c = f 1 := this
        omega
    refine ⟨[f 0, f 1, f 2], ⟨(hrows _).mpr ((bound_iff hc _).mpr ⟨_, _, _, rfl, f0, f1, hx, hy, f2, hE⟩), fun u hu hut => ?_⟩, ?_⟩
    · obtain ⟨x, y, z, rfl, g1, g2, g3, g4, g5, g6⟩ := (bound_iff hc _).mp ((hrows _).mp hu)
      rw [under3] at hut
      have := hM (fn3 x y z) ((key _).mpr ⟨⟨g1, g2, g5, fun _ => zz⟩, g6⟩) (by
          rw [all4 hm]
          exact ⟨hut.1, hut.2.1, hut.2.2, f3⟩)
      rw [all4 hm] at this
      obtain ⟨e0, e1, e2, _⟩ := this
      have e0 : x = f 0 := e0
      have e1 : y = f 1 := e1
      have e2 : z = f 2 := e2
      rw [e0, e1, e2]
    · unfold turn
      rw [h.eq, all4 hm]
      exact ⟨rfl, rfl, rfl, fun e => f3z e⟩
  · rintro ⟨t, ⟨ht, hmin⟩, rfl⟩
    obtain ⟨x, y, z, rfl, g1, g2, g3, g4, g5, g6⟩ := (bound_iff hc _).mp ((hrows _).mp ht)
    show Min _ _ m False (o.map (fn3 x y z))
    rw [mf]
    refine ⟨(key _).mpr ⟨⟨g1, g2, g5, fun _ => zz⟩, g6⟩, fun g hg hu => ?_⟩
    obtain ⟨⟨k0, k1, k2, k3⟩, hE⟩ := (key g).mp hg
    rw [all4 hm] at hu ⊢
    obtain ⟨u0, u1, u2, u3⟩ := hu
    have u0 : g 0 ≤ x := u0
    have u1 : g 1 ≤ y := u1
    have u2 : g 2 ≤ z := u2
    have u3 : m = 4 → g 3 ≤ 0 := u3
    have := hmin [g 0, g 1, g 2] ((hrows _).mpr ((bound_iff hc _).mpr ⟨_, _, _, rfl, k0, k1, by omega, by omega, k2, hE⟩)) (under3.mpr ⟨u0, u1, u2⟩)
    injection this with e0 this
    injection this with e1 this
    injection this with e2 this
    exact ⟨e0, e1, e2, fun e => by have := u3 e; have := k3 e; show g 3 = 0; omega⟩
/-! ### turned, and the order drawn -/
theorem turn_inj (h : Ord o m) {t u : List Int} (ht : t.length = 3) (hu : u.length = 3) (e : turn o t = turn o u) : t = u := by
  unfold turn at e
  rw [h.eq, all4 h.m34] at e
  match t, u, ht, hu with
  | [x, y, z], [x', y', z'], _, _ =>
    obtain ⟨e0, e1, e2, _⟩ := e
    have e0 : x = x' := e0
    have e1 : y = y' := e1
    have e2 : z = z' := e2
    rw [e0, e1, e2]
theorem turn_unit (h : Ord o m) (hm4 : m = 4) {t : List Int} (ht : t.length = 3) : turn o t ≠ unit3 o := by
  intro e
  unfold turn unit3 at e
  rw [h.eq, all4 h.m34] at e
  match t, ht with
  | [x, y, z], _ =>
    have e3 : (0 : Int) = 1 := e.2.2.2 hm4
    omega
def natD (i : Nat) : D := .int (i : Int)
def ordD (o : List Nat) : D := .list (o.map natD)
theorem turned_ok (h : Ord o m) {T : List (List Int)} (hT : ∀ t ∈ T, t.length = 3) (hl : T.length ≤ 1000000) : G_l_turned [.list (T.map rowD), ordD o] = some (.ret true (.list (srt ((T.map (turn o)).map rowD)))) := by
  refine run_wpR (R := fun r => r = some (.ret true (.list (srt ((T.map (turn o)).map rowD))))) ?_
  unfold g_l_turned ordD
  have hm := h.m34
  have hol := h.len
  walk_at "ev"
  refine wp_for (ds := T.map rowD) (by walk_at "ev") (fun i e => ∃ x y, e = [some (.fz (.list (T.map rowD))), some (.fz (.list (o.map natD))), some (.ow (.list (((T.take i).map (turn o)).map rowD))), x, y, none]) ⟨_, _, rfl⟩ ?_ ?_
  · rintro i d e hi ⟨x, y, rfl⟩
    obtain ⟨t, ht, rfl⟩ := map_at' hi
    have ht3 := hT t (List.mem_of_getElem? ht)
    have hadd : addD (rowD t) (.tuple [.int 0]) = mok (rowD (t ++ [0])) := by
      unfold rowD
      rw [addD_tuple (by rw [List.length_map, ht3]; decide), List.map_append]
      rfl
    have hlc : ∀ x2 : Option Sl, dLc [5] (gN 5) (dIt asLT (dVar 1)) dYes (d2 getD' (dVarS 4) (dVarS 5)) [some (.fz (.list (T.map rowD))), some (.fz (.list (o.map natD))), x2, some (.fz (rowD t)), some (.fz (rowD (t ++ [0]))), none] = mok (.list ((turn o t).map .int)) := by
      intro x2
      have := dLc_all (vs := [5]) (p := gN 5) (s := dIt asLT (dVar 1)) (t := dYes) (f := d2 getD' (dVarS 4) (dVarS 5)) (env := [some (.fz (.list (T.map rowD))), some (.fz (.list (o.map natD))), x2, some (.fz (rowD t)), some (.fz (rowD (t ++ [0]))), none]) (ei := natD) (xs := o) (fun i => .int (t.getD i 0)) (by walk_at "ev") (by omega) fun j hj => ⟨_, rfl, rfl, ?_⟩
      · rw [this]
        unfold turn
        rw [List.map_map]
        rfl
      · have hj4 := h.mem.mp hj
        have g1 : getD' (rowD (t ++ [0])) (natD j) = mok (.int (t.getD j 0)) := by
          unfold rowD
          match t, ht3 with
          | [x, y, z], _ =>
            have : j = 0 ∨ j = 1 ∨ j = 2 ∨ j = 3 := by omega
            rcases this with rfl | rfl | rfl | rfl <;> rfl
        repeat (first | walk_at "ev" | simp only [g1])
    have hlen : (((T.take i).map (turn o)).map rowD).length < 16777216 := by
      simp only [List.length_map, List.length_take]
      omega
    repeat (first | walk_at "ev" | simp only [hadd])
    simp only [dApp, dCall, dCons, dNil, hlc, mbind_mok, tupleD_list, eS_mok, List.getElem?_cons_zero, List.getElem?_cons_succ, if_pos hlen, sizeLine, wp_some, lp_nx, List.set_cons_zero, List.set_cons_succ]
    refine ⟨some (.fz (rowD t)), some (.fz (rowD (t ++ [0]))), ?_⟩
    rw [List.take_add_one, ht, List.map_append, List.map_append]
    rfl
  · rintro e ⟨x, y, rfl⟩
    rw [List.length_map, List.take_length]
    have hso := sort_rows (f := T.map (turn o)) (fun r hr z => by
      obtain ⟨t, _, rfl⟩ := List.mem_map.mp hr
      have := congrArg List.length z
      unfold turn at this
      rw [List.length_map, hol] at this
      simp at this
      omega)
    repeat (first | walk_at "ev" | simp only [hso])
end
theorem order_ok (ns : List Int) {m : Nat} (hm : m = 3 ∨ m = 4) : ∃ o, Ord o m ∧ G_l_order [.list (ns.map .int), .int m] = some (.ret true (ordD o)) := by
  have p5 := pick_nn ns 5 6 (by omega)
  have p6 := pick_nn ns 6 4 (by omega)
  suffices hs : Wp (g_l_order (startD 3 [.list (ns.map .int), .int m])) (fun q => ∃ o, Ord o m ∧ q = .rt true (ordD o)) by
    obtain ⟨q, hq, o, ho, rfl⟩ := hs
    exact ⟨o, ho, run_rt hq⟩
  unfold g_l_order
  rw [ev_seq]
  refine wp_cutN (fun e => ∃ o3 : List Nat, o3.Perm (List.range 3) ∧ e = [some (.fz (.list (ns.map .int))), some (.fz (.int m)), some (.ow (ordD o3))]) ?_ ?_
  · repeat (first | walk_at "ev" | simp only [dPick])
    have : pickF ns 5 6 = 0 ∨ pickF ns 5 6 = 1 ∨ pickF ns 5 6 = 2 ∨ pickF ns 5 6 = 3 ∨ pickF ns 5 6 = 4 ∨ pickF ns 5 6 = 5 := by omega
    rcases this with q | q | q | q | q | q <;> rw [q]
    · exact ⟨_, rfl, _, rfl, [0, 1, 2], by decide, rfl⟩
    · exact ⟨_, rfl, _, rfl, [0, 2, 1], by decide, rfl⟩
    · exact ⟨_, rfl, _, rfl, [1, 0, 2], by decide, rfl⟩
    · exact ⟨_, rfl, _, rfl, [1, 2, 0], by decide, rfl⟩
    · exact ⟨_, rfl, _, rfl, [2, 0, 1], by decide, rfl⟩
    · exact ⟨_, rfl, _, rfl, [2, 1, 0], by decide, rfl⟩
  · rintro e ⟨o3, hp, rfl⟩
    walk_at "ev"
    have hol : o3.length = 3 := by rw [hp.length_eq]; rfl
    refine wp_ifK ?_ ?_ <;> intro hc
    · have hc := of_decide_eq_true hc
      have hm4 : m = 4 := by omega
      have hk : 0 ≤ pickF ns 6 4 ∧ pickF ns 6 4 < 1000000 ∧ o3.length < sizeLine := ⟨by omega, by omega, by rw [hol]; decide⟩
      unfold ordD
      repeat (first | walk_at "ev" | simp only [dIns, if_pos hk])
      refine ⟨o3.take (pickF ns 6 4).toNat ++ [3] ++ o3.drop (pickF ns 6 4).toNat, ⟨.inr hm4, ?_⟩, ?_⟩
      · rw [hm4, List.append_assoc]
        have hq : (o3.take (pickF ns 6 4).toNat ++ 3 :: o3.drop (pickF ns 6 4).toNat).Perm (3 :: o3) := by
          refine List.perm_middle.trans ?_
          rw [List.take_append_drop]
        exact hq.trans ((List.Perm.cons 3 hp).trans (by decide))
      · rw [List.map_append, List.map_append, List.map_take, List.map_drop]
        rfl
    · have hc := of_decide_eq_false hc
      have hm3 : m = 3 := by omega
      walk_at "ev"
      exact ⟨o3, ⟨.inl hm3, by rw [hm3]; exact hp⟩, rfl⟩
end K25

namespace K25
open PySem PySem.Spec PyProof.Rows L2 DL
local macro_rules | `(tactic| walk_at "ev") => `(tactic| simp (disch := first | omega | (simp only [List.length_cons, List.length_nil, List.length_map, List.length_append, List.length_take, List.length_drop] <;> omega) | fail) only [cell_ok, pick_ok, startD, List.map_cons, List.map_nil, List.cons_append, List.nil_append, List.length_cons, List.length_nil, List.length_map, List.replicate, List.append_nil,
  ev_seq, ev_nx, ev_rt, ev_xc, ev_bk, ev_ct, ev_ss, ev_if, ev_ifT, ev_ifF, ev_stepN, lp_nx, lp_ct, lp_bk, lp_rt, lp_xc, wp_some,
  dSet, dSetO, dRet, dRetO, dRetVar, dNx, eS_ok, eS_mok, mbind_ok, mbind_mok, dTst, d2, d1, dVar, dVarS, dC, dCall, dCons, dNil, dFn, ev_ret, ev_exc, dAnd, dOr, dNot, dAndV, dOrV, dNotV, dTup, dLst, dApp, dSetIx, dAug, dYes, dIt, dItA,  wipeD, gN, gT, gCons', gNil', ev_appOk, ixN_ok, Option.bind_some,
  if_true, if_false, Bool.true_and, Bool.false_and, Bool.and_true, Bool.and_false, Bool.true_or, Bool.false_or, Bool.or_true, Bool.or_false, Bool.not_true, Bool.not_false, decide_true, decide_false, reduceIte, Bool.false_eq_true,
  Int.reduceToNat, Int.reduceAdd, Int.reduceSub, Int.reduceMul, Int.reduceMod, Int.reduceLT, Int.reduceLE, Int.reduceEq, Nat.reduceAdd, Nat.reduceSub, Nat.reduceEqDiff, Nat.reduceLT, Int.reducePow, gt_iff_lt, ge_iff_le, Int.reduceGT, Int.toNat_zero, Int.toNat_one, List.set_cons_zero, List.set_cons_succ, List.getD_cons_zero, List.getD_cons_succ, decide_eq_true_eq, decide_eq_false_iff_not,
  List.getElem?_cons_zero, List.getElem?_cons_succ, addD_int, iaddD_int, subD_int, ltD_int, leD_int, gtD_int, geD_int, eqD_int, neD_int, eqD_bool, asB_bool, lenD_list, lenD_tuple, tupleD_list, tupleD_tuple, listD_list, listD_tuple, resOf, mulD_r, mulD_l, modD_int, divD_int, powD_int, addD_list, addL_list, addD_tuple, cutD_toT, cutD_fromT, cutD_toL, cutD_fromL, cutO_toL, cutO_fromL, sortD_list, sortD_tuple, zipD_list, zipD_tuple, asLT_list, asLT_tuple, dFnO, dResO, dFnS, List.take_succ_cons, List.take_zero, List.drop_succ_cons, List.drop_zero, addD_T, iaddD_T, lenD_T, cutD_to, cutD_from, eqD_T, neD_T, isiD_str, dSl, dSome, dNo, asI_int, letter_small, letter_great, ev_andM, ev_orM, maxD_int, minD_int, absD_int, isiD_bool, getD'_ints, getD'_intsT, getD'_atC, getD'_atCT, rngD_one, rngD_two, isNotD_none, isD_none])
local macro_rules | `(tactic| walk_at "un") => `(tactic| simp (disch := first | omega | (simp only [List.length_cons, List.length_nil, List.length_map, List.length_append, List.length_take, List.length_drop] <;> omega) | fail) only [cell_ok, pick_ok, dFor, ev_forN, ev_forS, ev_lnx, ev_lct, ev_lbk, ev_lrt, ev_lxc, rngL_step, rngL_nil, range_0, range_1, range_2, range_3, range_4, range_5, startD, List.map_cons, List.map_nil, List.cons_append, List.nil_append, List.length_cons, List.length_nil, List.length_map, List.replicate, List.append_nil,
  ev_seq, ev_nx, ev_rt, ev_xc, ev_bk, ev_ct, ev_ss, ev_if, ev_ifT, ev_ifF, ev_stepN, lp_nx, lp_ct, lp_bk, lp_rt, lp_xc, wp_some,
  dSet, dSetO, dRet, dRetO, dRetVar, dNx, eS_ok, eS_mok, mbind_ok, mbind_mok, dTst, d2, d1, dVar, dVarS, dC, dCall, dCons, dNil, dFn, ev_ret, ev_exc, dAnd, dOr, dNot, dAndV, dOrV, dNotV, dTup, dLst, dApp, dSetIx, dAug, dYes, dIt, dItA,  wipeD, gN, gT, gCons', gNil', ev_appOk, ixN_ok, Option.bind_some,
  if_true, if_false, Bool.true_and, Bool.false_and, Bool.and_true, Bool.and_false, Bool.true_or, Bool.false_or, Bool.or_true, Bool.or_false, Bool.not_true, Bool.not_false, decide_true, decide_false, reduceIte, Bool.false_eq_true,
  Int.reduceToNat, Int.reduceAdd, Int.reduceSub, Int.reduceMul, Int.reduceMod, Int.reduceLT, Int.reduceLE, Int.reduceEq, Nat.reduceAdd, Nat.reduceSub, Nat.reduceEqDiff, Nat.reduceLT, Int.reducePow, gt_iff_lt, ge_iff_le, Int.reduceGT, Int.toNat_zero, Int.toNat_one, List.set_cons_zero, List.set_cons_succ, List.getD_cons_zero, List.getD_cons_succ, decide_eq_true_eq, decide_eq_false_iff_not,
  List.getElem?_cons_zero, List.getElem?_cons_succ, addD_int, iaddD_int, subD_int, ltD_int, leD_int, gtD_int, geD_int, eqD_int, neD_int, eqD_bool, asB_bool, lenD_list, lenD_tuple, tupleD_list, tupleD_tuple, listD_list, listD_tuple, resOf, mulD_r, mulD_l, modD_int, divD_int, powD_int, addD_list, addL_list, addD_tuple, cutD_toT, cutD_fromT, cutD_toL, cutD_fromL, cutO_toL, cutO_fromL, sortD_list, sortD_tuple, zipD_list, zipD_tuple, asLT_list, asLT_tuple, dFnO, dResO, dFnS, List.take_succ_cons, List.take_zero, List.drop_succ_cons, List.drop_zero, addD_T, iaddD_T, lenD_T, cutD_to, cutD_from, eqD_T, neD_T, isiD_str, dSl, dSome, dNo, asI_int, letter_small, letter_great, ev_andM, ev_orM, maxD_int, minD_int, absD_int, isiD_bool, getD'_ints, getD'_intsT, getD'_atC, getD'_atCT, rngD_one, rngD_two, isNotD_none, isD_none])
/-! ### the law -/
theorem wp_nx {g h : DEnv → Option Out} {env e : DEnv} {Q : Out → Prop} (h1 : g env = some (.nx e)) (h2 : Wp (h e) Q) : Wp (dSeq g h env) Q := by
  rw [ev_seq, h1]
  exact h2
theorem wp_st {g h : DEnv → Option Out} {env : DEnv} {Q : Out → Prop} (P : DEnv → Prop) (h1 : Wp (g env) (fun o => ∃ e, o = .nx e ∧ P e)) (h2 : ∀ e, P e → Wp (h e) Q) : Wp (dSeq g h env) Q := by
  rw [ev_seq]
  exact wp_cutN P h1 h2
theorem nat_of {i : Int} (h : 0 ≤ i) : ∃ n : Nat, i = n := ⟨i.toNat, by omega⟩
theorem turn_nodup {o : List Nat} {m : Nat} (h : Ord o m) {T : List (List Int)} (hn : T.Nodup) (h3 : ∀ t ∈ T, t.length = 3) : (T.map (turn o)).Nodup :=
  nodup_map' hn fun t ht u hu e => turn_inj h (h3 t ht) (h3 u hu) e
theorem line_b {a b c s : Int} (ha : 0 ≤ a ∧ a ≤ 3) (hb : 0 ≤ b ∧ b ≤ 3) (hc : 1 ≤ c ∧ c ≤ 3) (hs : s = 1 ∨ s = -1) {o : List Nat} {m : Nat} (h : Ord o m) : ∀ x ∈ turn o [s * a, s * b, 0 - s * c], x.natAbs ≤ 3 := by
  intro x hx
  obtain ⟨i, hi, rfl⟩ := List.mem_map.mp hx
  have hi := h.mem.mp hi
  have hm := h.m34
  have h4 : i = 0 ∨ i = 1 ∨ i = 2 ∨ i = 3 := by omega
  rcases h4 with rfl | rfl | rfl | rfl
  · show (s * a).natAbs ≤ 3
    rcases hs with rfl | rfl <;> omega
  · show (s * b).natAbs ≤ 3
    rcases hs with rfl | rfl <;> omega
  · show (0 - s * c).natAbs ≤ 3
    rcases hs with rfl | rfl <;> omega
  · show (0 : Int).natAbs ≤ 3
    decide
theorem srt_one (x : D) : srt [x] = [x] := by simp [srt]
theorem rep_rows {q : Nat} {al : List Int} : ((List.range q).map fun _ => rowD al) = (List.replicate q al).map rowD := by
  rw [List.map_replicate]
  exact List.eq_replicate_iff.mpr ⟨by simp, by intro b hb; obtain ⟨_, _, rfl⟩ := List.mem_map.mp hb; rfl⟩
theorem law_ok (E : Errs) (hE : E.Good ["TooMany"]) (ns : List Int) (hl : ns.length ≤ 63) : ∃ b d, G_law E [.list (ns.map .int)] = some (.ret b d) ∧ d = .bool true := by
  refine run_wp ?_
  unfold g_law
  have p4 := pick_nn ns 4 2 (by omega)
  have p7 := pick_nn ns 7 2 (by omega)
  have p8 := pick_nn ns 8 3 (by omega)
  have e0 : startD 14 [.list (ns.map .int)] = [some (.fz (.list (ns.map .int))), none, none, none, none, none, none, none, none, none, none, none, none, none] := rfl
  rw [e0]
  -- a, b, c, right, many, sign
  refine wp_nx (by walk_at "ev"; exact rfl) ?_
  refine wp_nx (by walk_at "ev"; exact rfl) ?_
  refine wp_nx (by walk_at "ev"; exact rfl) ?_
  refine wp_nx (by walk_at "ev"; exact rfl) ?_
  refine wp_nx (by walk_at "ev"; exact rfl) ?_
  refine wp_nx (by walk_at "ev"; exact rfl) ?_
  try simp only [List.set_cons_zero, List.set_cons_succ]
  obtain ⟨a, ea, ha⟩ : ∃ a : Int, cellF ns 0 % 4 = a ∧ 0 ≤ a ∧ a ≤ 3 := ⟨_, rfl, by omega⟩
  obtain ⟨b, eb, hb⟩ : ∃ b : Int, cellF ns 1 % 4 = b ∧ 0 ≤ b ∧ b ≤ 3 := ⟨_, rfl, by omega⟩
  obtain ⟨c, ec, hc⟩ : ∃ c : Int, 1 + cellF ns 2 % 3 = c ∧ 1 ≤ c ∧ c ≤ 3 := ⟨_, rfl, by omega⟩
  obtain ⟨r, er, hr⟩ : ∃ r : Int, cellF ns 3 % 41 - 20 = r ∧ -20 ≤ r ∧ r ≤ 20 := ⟨_, rfl, by omega⟩
  obtain ⟨m, em⟩ := nat_of (i := 3 + pickF ns 4 2) (by omega)
  have hm : m = 3 ∨ m = 4 := by omega
  obtain ⟨s, es, hs⟩ : ∃ s : Int, 1 - 2 * pickF ns 7 2 = s ∧ (s = 1 ∨ s = -1) := ⟨_, rfl, by omega⟩
  obtain ⟨q, eq_⟩ := nat_of (i := 1 + pickF ns 8 3) (by omega)
  have hq : 1 ≤ q ∧ q ≤ 3 := by omega
  rw [ea, eb, ec, er, em, es]
  obtain ⟨o, ho, go⟩ := order_ok ns hm
  -- order
  refine wp_nx (by (repeat (first | walk_at "ev" | simp only [go])) <;> exact rfl) ?_
  try simp only [List.set_cons_zero, List.set_cons_succ]
  -- line
  have gt := turned_ok ho (T := [[s * a, s * b, 0 - s * c]]) (fun t ht => by rw [List.mem_singleton.mp ht]; rfl) (by simp)
  have gt : G_l_turned [.list [.tuple [.int (s * a), .int (s * b), .int (0 - s * c)]], ordD o] = some (.ret true (.list [rowD (turn o [s * a, s * b, 0 - s * c])])) := by
    have h1 := srt_one (rowD (turn o [s * a, s * b, 0 - s * c]))
    rw [← h1]
    exact gt
  have g0 : ∀ x : D, getD' (.list [x]) (.int 0) = mok x := fun x => rfl
  have hsb : -18446744073709551616 < s ∧ s < 18446744073709551616 := by omega
  refine wp_nx (by (repeat (first | walk_at "ev" | simp only [gt, g0])) <;> exact rfl) ?_
  try simp only [List.set_cons_zero, List.set_cons_succ]
  have hal : (turn o [s * a, s * b, 0 - s * c]).length = m := by unfold turn; rw [List.length_map, ho.len]
  have hab := line_b ha hb hc hs ho
  have hfun : turn o [s * a, s * b, 0 - s * c] = o.map (fn3 (s * a) (s * b) (0 - s * c)) := rfl
  obtain ⟨f, fn, fm, fl, fg⟩ := hom_all (E := E) (q := q) (by omega) (by omega) hq.1 (by omega) hal hab
  obtain ⟨f2, f2n, f2m, f2l, f2g⟩ := inhom_all (E := E) (q := q) (r := s * r) (by omega) (by omega) hq.1 (by omega) hal hab (by rcases hs with rfl | rfl <;> omega)
  obtain ⟨rows, T, hrows, Tn, Tm, Tl, Tg⟩ := free_ok ha hb hc
  obtain ⟨rows2, T2, hrows2, T2n, T2m, T2l, T2g⟩ := bound_ok ha hb hc hr
  have T3 : ∀ t ∈ T, t.length = 3 := fun t ht => by
    obtain ⟨x, y, _, _, _, _, _, _, rfl⟩ := (hrows t).mp ((Tm t).mp ht).1
    rfl
  have T23 : ∀ t ∈ T2, t.length = 3 := fun t ht => by
    obtain ⟨x, y, _, _, _, _, _, _, rfl⟩ := (hrows2 t).mp ((T2m t).mp ht).1
    rfl
  have gT1 := turned_ok ho T3 Tl
  have gT2 := turned_ok ho T23 T2l
  have fm' : ∀ w, w ∈ f ↔ (∃ t ∈ T, w = turn o t) ∨ (m = 4 ∧ w = unit3 o) := fun w => by
    rw [fm, hfun, hom_iff ho hs ha.1 hb.1 hc.1 hrows]
    simp only [Tm]
  have f2m' : ∀ w, w ∈ f2 ↔ ∃ t ∈ T2, w = turn o t := fun w => by
    rw [f2m, hfun, inhom_iff ho hs ha.1 hb.1 hc.1 hrows2]
    simp only [T2m]
  have fR : ∀ w ∈ f, Row m w := fun w hw => ((fm w).mp hw).1.1
  have f2R : ∀ w ∈ f2, Row m w := fun w hw => ((f2m w).mp hw).1.1
  have perm2 : f2.Perm (T2.map (turn o)) := by
    rw [List.perm_ext_iff_of_nodup f2n (turn_nodup ho T2n T23)]
    intro w
    rw [f2m', List.mem_map]
    exact ⟨fun ⟨t, h1, h2⟩ => ⟨t, h1, h2.symm⟩, fun ⟨t, h1, h2⟩ => ⟨t, h1, h2.symm⟩⟩
  generalize turn o [s * a, s * b, 0 - s * c] = al at *
  -- often, rows
  refine wp_nx (by walk_at "ev"; exact rfl) ?_
  try simp only [List.set_cons_zero, List.set_cons_succ]
  rw [eq_]
  have hlc : dLc [12] (gN 12) (dItA rngD (dCons (dVar 9) dNil)) dYes (dVar 8) [some (.fz (.list (ns.map .int))), some (.fz (.int (a))), some (.fz (.int (b))), some (.fz (.int (c))), some (.fz (.int (r))), some (.fz (.int (m))), some (.fz (.int (s))), some (.fz (ordD o)), some (.fz (rowD al)), some (.fz (.int (q))), none, none, none, none] = mok (.list ((List.replicate q al).map rowD)) := by
    rw [← rep_rows]
    have := dLc_rng (vs := [12]) (p := gN 12) (s := dItA rngD (dCons (dVar 9) dNil)) (t := dYes) (f := dVar 8) (env := [some (.fz (.list (ns.map .int))), some (.fz (.int (a))), some (.fz (.int (b))), some (.fz (.int (c))), some (.fz (.int (r))), some (.fz (.int (m))), some (.fz (.int (s))), some (.fz (ordD o)), some (.fz (rowD al)), some (.fz (.int (q))), none, none, none, none]) (n := (q : Int)) (fun _ => rowD al) (by walk_at "ev") (by omega) (fun k hk => ⟨_, rfl, rfl, rfl⟩)
    rwa [Int.toNat_natCast] at this
  refine wp_nx (e := [some (.fz (.list (ns.map .int))), some (.fz (.int (a))), some (.fz (.int (b))), some (.fz (.int (c))), some (.fz (.int (r))), some (.fz (.int (m))), some (.fz (.int (s))), some (.fz (ordD o)), some (.fz (rowD al)), some (.fz (.int (q))), some (.ow (.list ((List.replicate q al).map rowD))), none, none, none]) (by simp only [dSetO, hlc, eS_mok]; rfl) ?_
  show Wp (dSeq _ _ [some (.fz (.list (ns.map .int))), some (.fz (.int (a))), some (.fz (.int (b))), some (.fz (.int (c))), some (.fz (.int (r))), some (.fz (.int (m))), some (.fz (.int (s))), some (.fz (ordD o)), some (.fz (rowD al)), some (.fz (.int (q))), some (.fz (.list ((List.replicate q al).map rowD))), none, none, none]) _
  -- what is due
  refine wp_nx (e := [some (.fz (.list (ns.map .int))), some (.fz (.int (a))), some (.fz (.int (b))), some (.fz (.int (c))), some (.fz (.int (r))), some (.fz (.int (m))), some (.fz (.int (s))), some (.fz (ordD o)), some (.fz (rowD al)), some (.fz (.int (q))), some (.fz (.list ((List.replicate q al).map rowD))), some (.fz (.list (srt ((T.map (turn o)).map rowD)))), none, none]) (by (repeat (first | walk_at "ev" | simp only [Tg, gT1])) <;> exact rfl) ?_
  have hrow0 : ∀ k : List (List Int), (∀ w ∈ k, w.length = m) → ∀ w ∈ k, w ≠ [] := fun k hk w hw z => by
    have := hk w hw
    rw [z] at this
    simp at this
    omega
  refine wp_st (fun e => ∃ g : List (List Int), f.Perm g ∧ e = [some (.fz (.list (ns.map .int))), some (.fz (.int (a))), some (.fz (.int (b))), some (.fz (.int (c))), some (.fz (.int (r))), some (.fz (.int (m))), some (.fz (.int (s))), some (.fz (ordD o)), some (.fz (rowD al)), some (.fz (.int (q))), some (.fz (.list ((List.replicate q al).map rowD))), some (.fz (.list (srt (g.map rowD)))), none, none]) ?_ ?_
  · refine wp_eS (by walk_at "ev"; exact rfl) ?_
    refine wp_if ?_ ?_ <;> intro hcc
    · have hcc := of_decide_eq_true hcc
      have hm4 : m = 4 := by omega
      obtain ⟨G, hG, hGp⟩ := srt_rows (T.map (turn o))
      have hul : dLc [13] (gN 13) (dIt asLT (dVar 7)) dYes (dCall intD (dCons (d2 eqD (dVarS 13) (dC (.int 3))) dNil)) [some (.fz (.list (ns.map .int))), some (.fz (.int (a))), some (.fz (.int (b))), some (.fz (.int (c))), some (.fz (.int (r))), some (.fz (.int (m))), some (.fz (.int (s))), some (.fz (ordD o)), some (.fz (rowD al)), some (.fz (.int (q))), some (.fz (.list ((List.replicate q al).map rowD))), some (.fz (.list (srt ((T.map (turn o)).map rowD)))), none, none] = mok (.list ((unit3 o).map .int)) := by
        have := dLc_all (vs := [13]) (p := gN 13) (s := dIt asLT (dVar 7)) (t := dYes) (f := dCall intD (dCons (d2 eqD (dVarS 13) (dC (.int 3))) dNil)) (env := [some (.fz (.list (ns.map .int))), some (.fz (.int (a))), some (.fz (.int (b))), some (.fz (.int (c))), some (.fz (.int (r))), some (.fz (.int (m))), some (.fz (.int (s))), some (.fz (ordD o)), some (.fz (rowD al)), some (.fz (.int (q))), some (.fz (.list ((List.replicate q al).map rowD))), some (.fz (.list (srt ((T.map (turn o)).map rowD)))), none, none]) (ei := natD) (xs := o) (fun i => .int (if i = 3 then 1 else 0)) (by unfold ordD; walk_at "ev") (by rw [ho.len]; omega) (fun i hi => ⟨_, rfl, rfl, by
          have hint : ∀ b : Bool, intD [.bool b] = mok (.int (if b then 1 else 0)) := fun _ => rfl
          have hi := ho.mem.mp hi
          have h4 : i = 0 ∨ i = 1 ∨ i = 2 ∨ i = 3 := by omega
          unfold natD
          rcases h4 with rfl | rfl | rfl | rfl <;> ((repeat (first | walk_at "ev" | simp only [hint])) <;> rfl)⟩)
        rw [this]
        unfold unit3
        rw [List.map_map]
        rfl
      have hul2 : dCall tupleD (dCons (dLc [13] (gN 13) (dIt asLT (dVar 7)) dYes (dCall intD (dCons (d2 eqD (dVarS 13) (dC (.int 3))) dNil))) dNil) [some (.fz (.list (ns.map .int))), some (.fz (.int (a))), some (.fz (.int (b))), some (.fz (.int (c))), some (.fz (.int (r))), some (.fz (.int (m))), some (.fz (.int (s))), some (.fz (ordD o)), some (.fz (rowD al)), some (.fz (.int (q))), some (.fz (.list ((List.replicate q al).map rowD))), some (.fz (.list (srt ((T.map (turn o)).map rowD)))), none, none] = mok (rowD (unit3 o)) := by
        simp only [dCall, dCons, dNil, hul, mbind_mok, tupleD_list]
        rfl
      have hadd : addD (.list (srt ((T.map (turn o)).map rowD))) (.list [rowD (unit3 o)]) = mok (.list ((G ++ [unit3 o]).map rowD)) := by
        rw [hG, addD_list (by rw [List.length_map, hGp.length_eq, List.length_map]; simp; omega), List.map_append]
        rfl
      have hsl : ∀ w ∈ G ++ [unit3 o], w.length = m := fun w hw => by
        rcases List.mem_append.mp hw with hw | hw
        · obtain ⟨t, _, rfl⟩ := List.mem_map.mp (hGp.mem_iff.mp hw)
          unfold turn
          rw [List.length_map, ho.len]
        · rw [List.mem_singleton.mp hw]
          unfold unit3
          rw [List.length_map, ho.len]
      have hso := sort_rows (hrow0 _ hsl)
      have hperm : f.Perm (G ++ [unit3 o]) := by
        have hGn : G.Nodup := hGp.nodup_iff.mpr (turn_nodup ho Tn T3)
        rw [List.perm_ext_iff_of_nodup fn]
        · intro w
          rw [fm', List.mem_append, List.mem_singleton, hGp.mem_iff, List.mem_map]
          constructor
          · rintro (⟨t, h1, rfl⟩ | ⟨_, rfl⟩)
            · exact .inl ⟨t, h1, rfl⟩
            · exact .inr rfl
          · rintro (⟨t, h1, rfl⟩ | rfl)
            · exact .inl ⟨t, h1, rfl⟩
            · exact .inr ⟨hm4, rfl⟩
        · rw [List.nodup_append]
          refine ⟨hGn, by simp, fun x hx y hy e => ?_⟩
          rw [List.mem_singleton.mp hy] at e
          obtain ⟨t, ht, rfl⟩ := List.mem_map.mp (hGp.mem_iff.mp hx)
          exact turn_unit ho hm4 (T3 t ht) e
      refine ⟨_, ?_, _, rfl, G ++ [unit3 o], hperm, rfl⟩
      have h11 : dVarS 11 [some (.fz (.list (ns.map .int))), some (.fz (.int (a))), some (.fz (.int (b))), some (.fz (.int (c))), some (.fz (.int (r))), some (.fz (.int (m))), some (.fz (.int (s))), some (.fz (ordD o)), some (.fz (rowD al)), some (.fz (.int (q))), some (.fz (.list ((List.replicate q al).map rowD))), some (.fz (.list (srt ((T.map (turn o)).map rowD)))), none, none] = mok (.list (srt ((T.map (turn o)).map rowD))) := rfl
      have hul3 : dCons (dCall tupleD (dCons (dLc [13] (gN 13) (dIt asLT (dVar 7)) dYes (dCall intD (dCons (d2 eqD (dVarS 13) (dC (.int 3))) dNil))) dNil)) dNil [some (.fz (.list (ns.map .int))), some (.fz (.int (a))), some (.fz (.int (b))), some (.fz (.int (c))), some (.fz (.int (r))), some (.fz (.int (m))), some (.fz (.int (s))), some (.fz (ordD o)), some (.fz (rowD al)), some (.fz (.int (q))), some (.fz (.list ((List.replicate q al).map rowD))), some (.fz (.list (srt ((T.map (turn o)).map rowD)))), none, none] = mok [rowD (unit3 o)] := by
        show mbind _ _ = _
        rw [hul2]
        rfl
      have hlst : dLst (dCons (dCall tupleD (dCons (dLc [13] (gN 13) (dIt asLT (dVar 7)) dYes (dCall intD (dCons (d2 eqD (dVarS 13) (dC (.int 3))) dNil))) dNil)) dNil) [some (.fz (.list (ns.map .int))), some (.fz (.int (a))), some (.fz (.int (b))), some (.fz (.int (c))), some (.fz (.int (r))), some (.fz (.int (m))), some (.fz (.int (s))), some (.fz (ordD o)), some (.fz (rowD al)), some (.fz (.int (q))), some (.fz (.list ((List.replicate q al).map rowD))), some (.fz (.list (srt ((T.map (turn o)).map rowD)))), none, none] = mok (.list [rowD (unit3 o)]) := by
        show mbind _ _ = _
        rw [hul3]
        rfl
      have hd2 : ∀ X : DEnv → M D, X [some (.fz (.list (ns.map .int))), some (.fz (.int (a))), some (.fz (.int (b))), some (.fz (.int (c))), some (.fz (.int (r))), some (.fz (.int (m))), some (.fz (.int (s))), some (.fz (ordD o)), some (.fz (rowD al)), some (.fz (.int (q))), some (.fz (.list ((List.replicate q al).map rowD))), some (.fz (.list (srt ((T.map (turn o)).map rowD)))), none, none] = mok (.list [rowD (unit3 o)]) → dCall sortD (dCons (d2 addD (dVarS 11) X) dNil) [some (.fz (.list (ns.map .int))), some (.fz (.int (a))), some (.fz (.int (b))), some (.fz (.int (c))), some (.fz (.int (r))), some (.fz (.int (m))), some (.fz (.int (s))), some (.fz (ordD o)), some (.fz (rowD al)), some (.fz (.int (q))), some (.fz (.list ((List.replicate q al).map rowD))), some (.fz (.list (srt ((T.map (turn o)).map rowD)))), none, none] = mok (.list (srt ((G ++ [unit3 o]).map rowD))) := by
        intro X hX
        simp only [dCall, dCons, dNil, d2, h11, hX, hadd, mbind_mok, sortD_list, hso]
      rw [dSet, hd2 _ hlst, eS_mok]
      rfl
    · have hcc := of_decide_eq_false hcc
      have hm4 : m ≠ 4 := by omega
      walk_at "ev"
      refine ⟨_, rfl, T.map (turn o), ?_, rfl⟩
      rw [List.perm_ext_iff_of_nodup fn (turn_nodup ho Tn T3)]
      intro w
      rw [fm', List.mem_map]
      constructor
      · rintro (⟨t, h1, rfl⟩ | ⟨h1, _⟩)
        · exact ⟨t, h1, rfl⟩
        · exact absurd h1 hm4
      · rintro ⟨t, h1, rfl⟩
        exact .inl ⟨t, h1, rfl⟩
  rintro e ⟨g, hfg, rfl⟩
  -- least
  have gs1 := same_ok fn fR hfg
  refine wp_nx (e := [some (.fz (.list (ns.map .int))), some (.fz (.int (a))), some (.fz (.int (b))), some (.fz (.int (c))), some (.fz (.int (r))), some (.fz (.int (m))), some (.fz (.int (s))), some (.fz (ordD o)), some (.fz (rowD al)), some (.fz (.int (q))), some (.fz (.list ((List.replicate q al).map rowD))), some (.fz (.list (srt (g.map rowD)))), none, none]) (by (repeat (first | walk_at "ev" | simp only [fg, gs1])) <;> exact rfl) ?_
  -- for a right
  refine wp_nx (e := [some (.fz (.list (ns.map .int))), some (.fz (.int (a))), some (.fz (.int (b))), some (.fz (.int (c))), some (.fz (.int (r))), some (.fz (.int (m))), some (.fz (.int (s))), some (.fz (ordD o)), some (.fz (rowD al)), some (.fz (.int (q))), some (.fz (.list ((List.replicate q al).map rowD))), some (.fz (.list (srt ((T2.map (turn o)).map rowD)))), none, none]) (by (repeat (first | walk_at "ev" | simp only [T2g, gT2])) <;> exact rfl) ?_
  have gs2 := same_ok f2n f2R perm2
  have hrl : dLc [8] (gN 8) (dIt asLT (dVar 10)) dYes (d2 mulD (dVarS 6) (dVarS 4)) [some (.fz (.list (ns.map .int))), some (.fz (.int (a))), some (.fz (.int (b))), some (.fz (.int (c))), some (.fz (.int (r))), some (.fz (.int (m))), some (.fz (.int (s))), some (.fz (ordD o)), some (.fz (rowD al)), some (.fz (.int (q))), some (.fz (.list ((List.replicate q al).map rowD))), some (.fz (.list (srt ((T2.map (turn o)).map rowD)))), none, none] = mok (.list ((List.replicate q (s * r)).map .int)) := by
    have := dLc_all (vs := [8]) (p := gN 8) (s := dIt asLT (dVar 10)) (t := dYes) (f := d2 mulD (dVarS 6) (dVarS 4)) (env := [some (.fz (.list (ns.map .int))), some (.fz (.int (a))), some (.fz (.int (b))), some (.fz (.int (c))), some (.fz (.int (r))), some (.fz (.int (m))), some (.fz (.int (s))), some (.fz (ordD o)), some (.fz (rowD al)), some (.fz (.int (q))), some (.fz (.list ((List.replicate q al).map rowD))), some (.fz (.list (srt ((T2.map (turn o)).map rowD)))), none, none]) (ei := rowD) (xs := List.replicate q al) (fun _ => .int (s * r)) (by walk_at "ev") (by rw [List.length_replicate]; omega) (fun k hk => ⟨_, rfl, rfl, by walk_at "ev"⟩)
    rw [this, List.map_replicate, List.map_replicate]
  have htl : dCall tupleD (dCons (dLc [8] (gN 8) (dIt asLT (dVar 10)) dYes (d2 mulD (dVarS 6) (dVarS 4))) dNil) [some (.fz (.list (ns.map .int))), some (.fz (.int (a))), some (.fz (.int (b))), some (.fz (.int (c))), some (.fz (.int (r))), some (.fz (.int (m))), some (.fz (.int (s))), some (.fz (ordD o)), some (.fz (rowD al)), some (.fz (.int (q))), some (.fz (.list ((List.replicate q al).map rowD))), some (.fz (.list (srt ((T2.map (turn o)).map rowD)))), none, none] = mok (.tuple ((List.replicate q (s * r)).map .int)) := by
    simp only [dCall, dCons, dNil, hrl, mbind_mok, tupleD_list]
  have hlt : ∀ X : DEnv → M D, X [some (.fz (.list (ns.map .int))), some (.fz (.int (a))), some (.fz (.int (b))), some (.fz (.int (c))), some (.fz (.int (r))), some (.fz (.int (m))), some (.fz (.int (s))), some (.fz (ordD o)), some (.fz (rowD al)), some (.fz (.int (q))), some (.fz (.list ((List.replicate q al).map rowD))), some (.fz (.list (srt ((T2.map (turn o)).map rowD)))), none, none] = mok (.tuple ((List.replicate q (s * r)).map .int)) → dFn (fun ds => (G_least_to E) (ds ++ [])) (dCons (dVar 10) (dCons (dVar 5) (dCons X dNil))) [some (.fz (.list (ns.map .int))), some (.fz (.int (a))), some (.fz (.int (b))), some (.fz (.int (c))), some (.fz (.int (r))), some (.fz (.int (m))), some (.fz (.int (s))), some (.fz (ordD o)), some (.fz (rowD al)), some (.fz (.int (q))), some (.fz (.list ((List.replicate q al).map rowD))), some (.fz (.list (srt ((T2.map (turn o)).map rowD)))), none, none] = mok (.list (srt (f2.map rowD))) := by
    intro X hX
    have v10 : dVar 10 [some (.fz (.list (ns.map .int))), some (.fz (.int (a))), some (.fz (.int (b))), some (.fz (.int (c))), some (.fz (.int (r))), some (.fz (.int (m))), some (.fz (.int (s))), some (.fz (ordD o)), some (.fz (rowD al)), some (.fz (.int (q))), some (.fz (.list ((List.replicate q al).map rowD))), some (.fz (.list (srt ((T2.map (turn o)).map rowD)))), none, none] = mok (.list ((List.replicate q al).map rowD)) := rfl
    have v5 : dVar 5 [some (.fz (.list (ns.map .int))), some (.fz (.int (a))), some (.fz (.int (b))), some (.fz (.int (c))), some (.fz (.int (r))), some (.fz (.int (m))), some (.fz (.int (s))), some (.fz (ordD o)), some (.fz (rowD al)), some (.fz (.int (q))), some (.fz (.list ((List.replicate q al).map rowD))), some (.fz (.list (srt ((T2.map (turn o)).map rowD)))), none, none] = mok (.int m) := rfl
    simp only [dFn, dCons, dNil, v10, v5, hX, mbind_mok, List.append_nil, f2g, dRes]
  have hfin : ∀ Y : DEnv → M D, Y [some (.fz (.list (ns.map .int))), some (.fz (.int (a))), some (.fz (.int (b))), some (.fz (.int (c))), some (.fz (.int (r))), some (.fz (.int (m))), some (.fz (.int (s))), some (.fz (ordD o)), some (.fz (rowD al)), some (.fz (.int (q))), some (.fz (.list ((List.replicate q al).map rowD))), some (.fz (.list (srt ((T2.map (turn o)).map rowD)))), none, none] = mok (.list (srt (f2.map rowD))) → dFn (fun ds => G_l_same (ds ++ [])) (dCons Y (dCons (dVar 11) (dCons (dVar 5) dNil))) [some (.fz (.list (ns.map .int))), some (.fz (.int (a))), some (.fz (.int (b))), some (.fz (.int (c))), some (.fz (.int (r))), some (.fz (.int (m))), some (.fz (.int (s))), some (.fz (ordD o)), some (.fz (rowD al)), some (.fz (.int (q))), some (.fz (.list ((List.replicate q al).map rowD))), some (.fz (.list (srt ((T2.map (turn o)).map rowD)))), none, none] = mok (.bool true) := by
    intro Y hY
    have v11 : dVar 11 [some (.fz (.list (ns.map .int))), some (.fz (.int (a))), some (.fz (.int (b))), some (.fz (.int (c))), some (.fz (.int (r))), some (.fz (.int (m))), some (.fz (.int (s))), some (.fz (ordD o)), some (.fz (rowD al)), some (.fz (.int (q))), some (.fz (.list ((List.replicate q al).map rowD))), some (.fz (.list (srt ((T2.map (turn o)).map rowD)))), none, none] = mok (.list (srt ((T2.map (turn o)).map rowD))) := rfl
    have v5 : dVar 5 [some (.fz (.list (ns.map .int))), some (.fz (.int (a))), some (.fz (.int (b))), some (.fz (.int (c))), some (.fz (.int (r))), some (.fz (.int (m))), some (.fz (.int (s))), some (.fz (ordD o)), some (.fz (rowD al)), some (.fz (.int (q))), some (.fz (.list ((List.replicate q al).map rowD))), some (.fz (.list (srt ((T2.map (turn o)).map rowD)))), none, none] = mok (.int m) := rfl
    simp only [dFn, dCons, dNil, v11, v5, hY, mbind_mok, List.append_nil, gs2, dRes]
  refine ⟨_, by rw [dRet, hfin _ (hlt _ htl), eS_mok], ?_⟩
  exact ⟨_, _, rfl, rfl⟩
end K25

namespace K25
open PySem PySem.Spec PyProof.Rows L2 DL
/-! ### what the top has written -/
set_option maxHeartbeats 0 in
theorem all_mk {P : Program} {w : World} {K : PySem.W.Frag} {h : Heap} {mg : Str → Option Value} {fa : Addr} (X : K.In h) (G : h.Ns mainGlobals mg) (hfa : mg "law" = some (.ref fa))
    {f0 : Addr} {od0 an0 : Option Addr} {sl0 : Array (Option Value)} {oc0 kV0 dc0 pm0 cd0 ct0 : Value}
    (a0 : PySem.W.nsIn K mainGlobals "weighed" = some (some (.ref f0))) (l0 : K.lookup f0 = some ⟨oc0, od0, .func (PySem.W.fnOf "weighed" "weighed" (defArgs s_weighed) (defBody s_weighed) (defScope s_weighed) .none kV0 dc0 pm0 an0 cd0 ct0), sl0⟩) (c0 : PySem.W.codeIn K cd0 "weighed" = true) (k0 : PySem.W.keepIn K (.ref f0) = true)
    {f1 : Addr} {od1 an1 : Option Addr} {sl1 : Array (Option Value)} {oc1 kV1 dc1 pm1 cd1 ct1 : Value}
    (a1 : PySem.W.nsIn K mainGlobals "ask_bounds" = some (some (.ref f1))) (l1 : K.lookup f1 = some ⟨oc1, od1, .func (PySem.W.fnOf "ask_bounds" "ask_bounds" (defArgs s_ask_bounds) (defBody s_ask_bounds) (defScope s_ask_bounds) .none kV1 dc1 pm1 an1 cd1 ct1), sl1⟩) (c1 : PySem.W.codeIn K cd1 "ask_bounds" = true) (k1 : PySem.W.keepIn K (.ref f1) = true)
    {f2 : Addr} {od2 an2 : Option Addr} {sl2 : Array (Option Value)} {oc2 kV2 dc2 pm2 cd2 ct2 : Value}
    (a2 : PySem.W.nsIn K mainGlobals "lies_under" = some (some (.ref f2))) (l2 : K.lookup f2 = some ⟨oc2, od2, .func (PySem.W.fnOf "lies_under" "lies_under" (defArgs s_lies_under) (defBody s_lies_under) (defScope s_lies_under) .none kV2 dc2 pm2 an2 cd2 ct2), sl2⟩) (c2 : PySem.W.codeIn K cd2 "lies_under" = true) (k2 : PySem.W.keepIn K (.ref f2) = true)
    {f3 : Addr} {od3 an3 : Option Addr} {sl3 : Array (Option Value)} {oc3 kV3 dc3 pm3 cd3 ct3 : Value}
    (a3 : PySem.W.nsIn K mainGlobals "lies_above" = some (some (.ref f3))) (l3 : K.lookup f3 = some ⟨oc3, od3, .func (PySem.W.fnOf "lies_above" "lies_above" (defArgs s_lies_above) (defBody s_lies_above) (defScope s_lies_above) .none kV3 dc3 pm3 an3 cd3 ct3), sl3⟩) (c3 : PySem.W.codeIn K cd3 "lies_above" = true) (k3 : PySem.W.keepIn K (.ref f3) = true)
    {f4 : Addr} {od4 an4 : Option Addr} {sl4 : Array (Option Value)} {oc4 kV4 dc4 pm4 cd4 ct4 : Value}
    (a4 : PySem.W.nsIn K mainGlobals "columns_of" = some (some (.ref f4))) (l4 : K.lookup f4 = some ⟨oc4, od4, .func (PySem.W.fnOf "columns_of" "columns_of" (defArgs s_columns_of) (defBody s_columns_of) (defScope s_columns_of) .none kV4 dc4 pm4 an4 cd4 ct4), sl4⟩) (c4 : PySem.W.codeIn K cd4 "columns_of" = true) (k4 : PySem.W.keepIn K (.ref f4) = true)
    {f5 : Addr} {od5 an5 : Option Addr} {sl5 : Array (Option Value)} {oc5 kV5 dc5 pm5 cd5 ct5 : Value}
    (a5 : PySem.W.nsIn K mainGlobals "is_even" = some (some (.ref f5))) (l5 : K.lookup f5 = some ⟨oc5, od5, .func (PySem.W.fnOf "is_even" "is_even" (defArgs s_is_even) (defBody s_is_even) (defScope s_is_even) .none kV5 dc5 pm5 an5 cd5 ct5), sl5⟩) (c5 : PySem.W.codeIn K cd5 "is_even" = true) (k5 : PySem.W.keepIn K (.ref f5) = true)
    {f6 : Addr} {od6 an6 : Option Addr} {sl6 : Array (Option Value)} {oc6 kV6 dc6 pm6 cd6 ct6 : Value}
    (a6 : PySem.W.nsIn K mainGlobals "one_more" = some (some (.ref f6))) (l6 : K.lookup f6 = some ⟨oc6, od6, .func (PySem.W.fnOf "one_more" "one_more" (defArgs s_one_more) (defBody s_one_more) (defScope s_one_more) .none kV6 dc6 pm6 an6 cd6 ct6), sl6⟩) (c6 : PySem.W.codeIn K cd6 "one_more" = true) (k6 : PySem.W.keepIn K (.ref f6) = true)
    {f7 : Addr} {od7 an7 : Option Addr} {sl7 : Array (Option Value)} {oc7 kV7 dc7 pm7 cd7 ct7 : Value}
    (a7 : PySem.W.nsIn K mainGlobals "summed" = some (some (.ref f7))) (l7 : K.lookup f7 = some ⟨oc7, od7, .func (PySem.W.fnOf "summed" "summed" (defArgs s_summed) (defBody s_summed) (defScope s_summed) .none kV7 dc7 pm7 an7 cd7 ct7), sl7⟩) (c7 : PySem.W.codeIn K cd7 "summed" = true) (k7 : PySem.W.keepIn K (.ref f7) = true)
    {f8 : Addr} {od8 an8 : Option Addr} {sl8 : Array (Option Value)} {oc8 kV8 dc8 pm8 cd8 ct8 : Value}
    (a8 : PySem.W.nsIn K mainGlobals "next_level" = some (some (.ref f8))) (l8 : K.lookup f8 = some ⟨oc8, od8, .func (PySem.W.fnOf "next_level" "next_level" (defArgs s_next_level) (defBody s_next_level) (defScope s_next_level) .none kV8 dc8 pm8 an8 cd8 ct8), sl8⟩) (c8 : PySem.W.codeIn K cd8 "next_level" = true) (k8 : PySem.W.keepIn K (.ref f8) = true)
    {f9 : Addr} {od9 an9 : Option Addr} {sl9 : Array (Option Value)} {oc9 kV9 dc9 pm9 cd9 ct9 : Value}
    (a9 : PySem.W.nsIn K mainGlobals "grown" = some (some (.ref f9))) (l9 : K.lookup f9 = some ⟨oc9, od9, .func (PySem.W.fnOf "grown" "grown" (defArgs s_grown) (defBody s_grown) (defScope s_grown) .none kV9 dc9 pm9 an9 cd9 ct9), sl9⟩) (c9 : PySem.W.codeIn K cd9 "grown" = true) (k9 : PySem.W.keepIn K (.ref f9) = true)
    {f10 : Addr} {od10 an10 : Option Addr} {sl10 : Array (Option Value)} {oc10 kV10 dc10 pm10 cd10 ct10 : Value}
    (a10 : PySem.W.nsIn K mainGlobals "least" = some (some (.ref f10))) (l10 : K.lookup f10 = some ⟨oc10, od10, .func (PySem.W.fnOf "least" "least" (defArgs s_least) (defBody s_least) (defScope s_least) .none kV10 dc10 pm10 an10 cd10 ct10), sl10⟩) (c10 : PySem.W.codeIn K cd10 "least" = true) (k10 : PySem.W.keepIn K (.ref f10) = true)
    {f11 : Addr} {od11 an11 : Option Addr} {sl11 : Array (Option Value)} {oc11 kV11 dc11 pm11 cd11 ct11 : Value}
    (a11 : PySem.W.nsIn K mainGlobals "least_to" = some (some (.ref f11))) (l11 : K.lookup f11 = some ⟨oc11, od11, .func (PySem.W.fnOf "least_to" "least_to" (defArgs s_least_to) (defBody s_least_to) (defScope s_least_to) .none kV11 dc11 pm11 an11 cd11 ct11), sl11⟩) (c11 : PySem.W.codeIn K cd11 "least_to" = true) (k11 : PySem.W.keepIn K (.ref f11) = true)
    {f12 : Addr} {od12 an12 : Option Addr} {sl12 : Array (Option Value)} {oc12 kV12 dc12 pm12 cd12 ct12 : Value}
    (a12 : PySem.W.nsIn K mainGlobals "_law_cell" = some (some (.ref f12))) (l12 : K.lookup f12 = some ⟨oc12, od12, .func (PySem.W.fnOf "_law_cell" "_law_cell" (defArgs s_l_cell) (defBody s_l_cell) (defScope s_l_cell) .none kV12 dc12 pm12 an12 cd12 ct12), sl12⟩) (c12 : PySem.W.codeIn K cd12 "_law_cell" = true) (k12 : PySem.W.keepIn K (.ref f12) = true)
    {f13 : Addr} {od13 an13 : Option Addr} {sl13 : Array (Option Value)} {oc13 kV13 dc13 pm13 cd13 ct13 : Value}
    (a13 : PySem.W.nsIn K mainGlobals "_law_pick" = some (some (.ref f13))) (l13 : K.lookup f13 = some ⟨oc13, od13, .func (PySem.W.fnOf "_law_pick" "_law_pick" (defArgs s_l_pick) (defBody s_l_pick) (defScope s_l_pick) .none kV13 dc13 pm13 an13 cd13 ct13), sl13⟩) (c13 : PySem.W.codeIn K cd13 "_law_pick" = true) (k13 : PySem.W.keepIn K (.ref f13) = true)
    {f14 : Addr} {od14 an14 : Option Addr} {sl14 : Array (Option Value)} {oc14 kV14 dc14 pm14 cd14 ct14 : Value}
    (a14 : PySem.W.nsIn K mainGlobals "_law_whole" = some (some (.ref f14))) (l14 : K.lookup f14 = some ⟨oc14, od14, .func (PySem.W.fnOf "_law_whole" "_law_whole" (defArgs s_l_whole) (defBody s_l_whole) (defScope s_l_whole) .none kV14 dc14 pm14 an14 cd14 ct14), sl14⟩) (c14 : PySem.W.codeIn K cd14 "_law_whole" = true) (k14 : PySem.W.keepIn K (.ref f14) = true)
    {f15 : Addr} {od15 an15 : Option Addr} {sl15 : Array (Option Value)} {oc15 kV15 dc15 pm15 cd15 ct15 : Value}
    (a15 : PySem.W.nsIn K mainGlobals "_law_under" = some (some (.ref f15))) (l15 : K.lookup f15 = some ⟨oc15, od15, .func (PySem.W.fnOf "_law_under" "_law_under" (defArgs s_l_under) (defBody s_l_under) (defScope s_l_under) .none kV15 dc15 pm15 an15 cd15 ct15), sl15⟩) (c15 : PySem.W.codeIn K cd15 "_law_under" = true) (k15 : PySem.W.keepIn K (.ref f15) = true)
    {f16 : Addr} {od16 an16 : Option Addr} {sl16 : Array (Option Value)} {oc16 kV16 dc16 pm16 cd16 ct16 : Value}
    (a16 : PySem.W.nsIn K mainGlobals "_law_any_under" = some (some (.ref f16))) (l16 : K.lookup f16 = some ⟨oc16, od16, .func (PySem.W.fnOf "_law_any_under" "_law_any_under" (defArgs s_l_any_under) (defBody s_l_any_under) (defScope s_l_any_under) .none kV16 dc16 pm16 an16 cd16 ct16), sl16⟩) (c16 : PySem.W.codeIn K cd16 "_law_any_under" = true) (k16 : PySem.W.keepIn K (.ref f16) = true)
    {f17 : Addr} {od17 an17 : Option Addr} {sl17 : Array (Option Value)} {oc17 kV17 dc17 pm17 cd17 ct17 : Value}
    (a17 : PySem.W.nsIn K mainGlobals "_law_are_rows" = some (some (.ref f17))) (l17 : K.lookup f17 = some ⟨oc17, od17, .func (PySem.W.fnOf "_law_are_rows" "_law_are_rows" (defArgs s_l_are_rows) (defBody s_l_are_rows) (defScope s_l_are_rows) .none kV17 dc17 pm17 an17 cd17 ct17), sl17⟩) (c17 : PySem.W.codeIn K cd17 "_law_are_rows" = true) (k17 : PySem.W.keepIn K (.ref f17) = true)
    {f18 : Addr} {od18 an18 : Option Addr} {sl18 : Array (Option Value)} {oc18 kV18 dc18 pm18 cd18 ct18 : Value}
    (a18 : PySem.W.nsIn K mainGlobals "_law_thinned" = some (some (.ref f18))) (l18 : K.lookup f18 = some ⟨oc18, od18, .func (PySem.W.fnOf "_law_thinned" "_law_thinned" (defArgs s_l_thinned) (defBody s_l_thinned) (defScope s_l_thinned) .none kV18 dc18 pm18 an18 cd18 ct18), sl18⟩) (c18 : PySem.W.codeIn K cd18 "_law_thinned" = true) (k18 : PySem.W.keepIn K (.ref f18) = true)
    {f19 : Addr} {od19 an19 : Option Addr} {sl19 : Array (Option Value)} {oc19 kV19 dc19 pm19 cd19 ct19 : Value}
    (a19 : PySem.W.nsIn K mainGlobals "_law_free" = some (some (.ref f19))) (l19 : K.lookup f19 = some ⟨oc19, od19, .func (PySem.W.fnOf "_law_free" "_law_free" (defArgs s_l_free) (defBody s_l_free) (defScope s_l_free) .none kV19 dc19 pm19 an19 cd19 ct19), sl19⟩) (c19 : PySem.W.codeIn K cd19 "_law_free" = true) (k19 : PySem.W.keepIn K (.ref f19) = true)
    {f20 : Addr} {od20 an20 : Option Addr} {sl20 : Array (Option Value)} {oc20 kV20 dc20 pm20 cd20 ct20 : Value}
    (a20 : PySem.W.nsIn K mainGlobals "_law_top" = some (some (.ref f20))) (l20 : K.lookup f20 = some ⟨oc20, od20, .func (PySem.W.fnOf "_law_top" "_law_top" (defArgs s_l_top) (defBody s_l_top) (defScope s_l_top) .none kV20 dc20 pm20 an20 cd20 ct20), sl20⟩) (c20 : PySem.W.codeIn K cd20 "_law_top" = true) (k20 : PySem.W.keepIn K (.ref f20) = true)
    {f21 : Addr} {od21 an21 : Option Addr} {sl21 : Array (Option Value)} {oc21 kV21 dc21 pm21 cd21 ct21 : Value}
    (a21 : PySem.W.nsIn K mainGlobals "_law_bound" = some (some (.ref f21))) (l21 : K.lookup f21 = some ⟨oc21, od21, .func (PySem.W.fnOf "_law_bound" "_law_bound" (defArgs s_l_bound) (defBody s_l_bound) (defScope s_l_bound) .none kV21 dc21 pm21 an21 cd21 ct21), sl21⟩) (c21 : PySem.W.codeIn K cd21 "_law_bound" = true) (k21 : PySem.W.keepIn K (.ref f21) = true)
    {f22 : Addr} {od22 an22 : Option Addr} {sl22 : Array (Option Value)} {oc22 kV22 dc22 pm22 cd22 ct22 : Value}
    (a22 : PySem.W.nsIn K mainGlobals "_law_order" = some (some (.ref f22))) (l22 : K.lookup f22 = some ⟨oc22, od22, .func (PySem.W.fnOf "_law_order" "_law_order" (defArgs s_l_order) (defBody s_l_order) (defScope s_l_order) .none kV22 dc22 pm22 an22 cd22 ct22), sl22⟩) (c22 : PySem.W.codeIn K cd22 "_law_order" = true) (k22 : PySem.W.keepIn K (.ref f22) = true)
    {f23 : Addr} {od23 an23 : Option Addr} {sl23 : Array (Option Value)} {oc23 kV23 dc23 pm23 cd23 ct23 : Value}
    (a23 : PySem.W.nsIn K mainGlobals "_law_turned" = some (some (.ref f23))) (l23 : K.lookup f23 = some ⟨oc23, od23, .func (PySem.W.fnOf "_law_turned" "_law_turned" (defArgs s_l_turned) (defBody s_l_turned) (defScope s_l_turned) .none kV23 dc23 pm23 an23 cd23 ct23), sl23⟩) (c23 : PySem.W.codeIn K cd23 "_law_turned" = true) (k23 : PySem.W.keepIn K (.ref f23) = true)
    {f24 : Addr} {od24 an24 : Option Addr} {sl24 : Array (Option Value)} {oc24 kV24 dc24 pm24 cd24 ct24 : Value}
    (a24 : PySem.W.nsIn K mainGlobals "_law_same" = some (some (.ref f24))) (l24 : K.lookup f24 = some ⟨oc24, od24, .func (PySem.W.fnOf "_law_same" "_law_same" (defArgs s_l_same) (defBody s_l_same) (defScope s_l_same) .none kV24 dc24 pm24 an24 cd24 ct24), sl24⟩) (c24 : PySem.W.codeIn K cd24 "_law_same" = true) (k24 : PySem.W.keepIn K (.ref f24) = true)
    {f25 : Addr} {od25 an25 : Option Addr} {sl25 : Array (Option Value)} {oc25 kV25 dc25 pm25 cd25 ct25 : Value}
    (a25 : PySem.W.nsIn K mainGlobals "law" = some (some (.ref f25))) (l25 : K.lookup f25 = some ⟨oc25, od25, .func (PySem.W.fnOf "law" "law" (defArgs s_law) (defBody s_law) (defScope s_law) .none kV25 dc25 pm25 an25 cd25 ct25), sl25⟩) (c25 : PySem.W.codeIn K cd25 "law" = true) (k25 : PySem.W.keepIn K (.ref f25) = true)
    (z_abs : PySem.W.nsIn K mainGlobals "abs" = some none)
    (z_bool : PySem.W.nsIn K mainGlobals "bool" = some none)
    (z_enumerate : PySem.W.nsIn K mainGlobals "enumerate" = some none)
    (z_int : PySem.W.nsIn K mainGlobals "int" = some none)
    (z_isinstance : PySem.W.nsIn K mainGlobals "isinstance" = some none)
    (z_len : PySem.W.nsIn K mainGlobals "len" = some none)
    (z_list : PySem.W.nsIn K mainGlobals "list" = some none)
    (z_max : PySem.W.nsIn K mainGlobals "max" = some none)
    (z_range : PySem.W.nsIn K mainGlobals "range" = some none)
    (z_sorted : PySem.W.nsIn K mainGlobals "sorted" = some none)
    (z_sum : PySem.W.nsIn K mainGlobals "sum" = some none)
    (z_tuple : PySem.W.nsIn K mainGlobals "tuple" = some none)
    (z_zip : PySem.W.nsIn K mainGlobals "zip" = some none)
    {ct_MOST_MANY : Tok} (c_MOST_MANY : PySem.W.nsIn K mainGlobals "MOST_MANY" = some (some (.int 4 ct_MOST_MANY)))
    {ct_MOST_NUMBER : Tok} (c_MOST_NUMBER : PySem.W.nsIn K mainGlobals "MOST_NUMBER" = some (some (.int 3 ct_MOST_NUMBER)))
    {ct_MOST_RIGHT : Tok} (c_MOST_RIGHT : PySem.W.nsIn K mainGlobals "MOST_RIGHT" = some (some (.int 20 ct_MOST_RIGHT)))
    {ct_MOST_ROWS : Tok} (c_MOST_ROWS : PySem.W.nsIn K mainGlobals "MOST_ROWS" = some (some (.int 16 ct_MOST_ROWS)))
    {C_MixError : Addr} (ac_MixError : PySem.W.nsIn K mainGlobals "MixError" = some (some (.ref C_MixError)))
    {C_TooMany : Addr} (ac_TooMany : PySem.W.nsIn K mainGlobals "TooMany" = some (some (.ref C_TooMany)))
    (xq_TooMany : PySem.W.excIn K C_TooMany HandSPX.veTail "ValueError.__new__" = true) (xk_TooMany : PySem.W.keepIn K (.ref C_TooMany) = true) (xt_TooMany : PySem.W.typeIn K (.ref C_TooMany) = some (.type "type"))
    (x1_TooMany : PySem.W.findIn K (.ref C_TooMany) "__getattribute__" = some (some (.builtin "BaseException.__getattribute__"))) (x2_TooMany : PySem.W.findIn K (.ref C_TooMany) "__getattr__" = some none) (x3_TooMany : PySem.W.subIn K (.ref C_TooMany) (.type "BaseException") = some true) (x4_TooMany : PySem.W.hasDictIn K C_TooMany = true)
    (x5_TooMany : PySem.W.findIn K (.ref C_TooMany) "__class__" = some (some (.builtin "object.__class__"))) (x6_TooMany : PySem.W.specialIn K (.builtin "object.__class__") "__get__" = some (some (.builtin "getset_descriptor.__get__"))) (x7_TooMany : PySem.W.takesIn K (.builtin "object.__class__") = some true) (x8_TooMany : PySem.W.mroIn K C_TooMany (.type "object") = some true)
    (xv_TooMany : PySem.W.kitOne K (.ref C_TooMany) (.type "ValueError") = some true) (xm_TooMany : PySem.W.exmOne K (.ref C_TooMany) (.ref C_MixError) = some true)
    (kt_TooMany_MixError : PySem.W.kitOne K (.ref C_TooMany) (.ref C_MixError) = some true)
    (kt_TooMany_TooMany : PySem.W.kitOne K (.ref C_TooMany) (.ref C_TooMany) = some true)
    : ∃ fd : FuncData, (∀ (s : Shared) (v : Value), BindsTo s fd ⟨[v], []⟩ [("_law_script", v)]) ∧ ∀ base : Heap, K.In base → base.Ns mainGlobals mg → FnOk P w K mg base (L2.CX P w) 7 fa fd ["_law_script"] (spE K w ["TooMany"] G_law) := by
  have e : f25 = fa := by have z := (PySem.W.mg_of X G a25).symm.trans hfa; cases z; rfl
  subst e
  have F0 := fun_mk (st := s_weighed) l0 c0 k0
  have F1 := fun_mk (st := s_ask_bounds) l1 c1 k1
  have F2 := fun_mk (st := s_lies_under) l2 c2 k2
  have F3 := fun_mk (st := s_lies_above) l3 c3 k3
  have F4 := fun_mk (st := s_columns_of) l4 c4 k4
  have F5 := fun_mk (st := s_is_even) l5 c5 k5
  have F6 := fun_mk (st := s_one_more) l6 c6 k6
  have F7 := fun_mk (st := s_summed) l7 c7 k7
  have F8 := fun_mk (st := s_next_level) l8 c8 k8
  have F9 := fun_mk (st := s_grown) l9 c9 k9
  have F10 := fun_mk (st := s_least) l10 c10 k10
  have F11 := fun_mk (st := s_least_to) l11 c11 k11
  have F12 := fun_mk (st := s_l_cell) l12 c12 k12
  have F13 := fun_mk (st := s_l_pick) l13 c13 k13
  have F14 := fun_mk (st := s_l_whole) l14 c14 k14
  have F15 := fun_mk (st := s_l_under) l15 c15 k15
  have F16 := fun_mk (st := s_l_any_under) l16 c16 k16
  have F17 := fun_mk (st := s_l_are_rows) l17 c17 k17
  have F18 := fun_mk (st := s_l_thinned) l18 c18 k18
  have F19 := fun_mk (st := s_l_free) l19 c19 k19
  have F20 := fun_mk (st := s_l_top) l20 c20 k20
  have F21 := fun_mk (st := s_l_bound) l21 c21 k21
  have F22 := fun_mk (st := s_l_order) l22 c22 k22
  have F23 := fun_mk (st := s_l_turned) l23 c23 k23
  have F24 := fun_mk (st := s_l_same) l24 c24 k24
  have F25 := fun_mk (st := s_law) l25 c25 k25
  let Ec : String → Addr := fun n => ([("MixError", C_MixError), ("TooMany", C_TooMany)].lookup n).getD 0
  let E : Errs := ⟨Ec, fun v => [(Value.ref C_TooMany, "TooMany")].lookup v⟩
  have eo : ErrsOk K mg E ["TooMany"] ["MixError", "TooMany"] := by
    refine ⟨?_, ?_, ?_, ?_, ?_, ?_⟩
    · intro n hn; simp only [List.mem_cons, List.not_mem_nil, or_false] at hn; rcases hn with rfl | rfl
      · exact PySem.W.mg_of X G ac_MixError
      · exact PySem.W.mg_of X G ac_TooMany
    · intro v n h
      exact errs_nm (l := [(Value.ref C_TooMany, "TooMany")]) (Ec := Ec) (by intro p hp; simp only [List.mem_cons, List.not_mem_nil, or_false] at hp; rcases hp with rfl <;> exact ⟨by simp, rfl⟩) h
    · intro n hn; simp only [List.mem_cons, List.not_mem_nil, or_false] at hn; rcases hn with rfl
      · exact ⟨xq_TooMany, xk_TooMany, ⟨x1_TooMany, x2_TooMany, x3_TooMany, x4_TooMany, x5_TooMany, x6_TooMany, x7_TooMany, x8_TooMany⟩, xt_TooMany⟩
    · intro n hn m hm; simp only [List.mem_cons, List.not_mem_nil, or_false] at hn hm; rcases hn with rfl <;> rcases hm with rfl | rfl
      · exact kt_TooMany_MixError
      · exact kt_TooMany_TooMany
    · intro n hn; simp only [List.mem_cons, List.not_mem_nil, or_false] at hn; rcases hn with rfl
      · exact xv_TooMany
    · intro n hn; simp only [List.mem_cons, List.not_mem_nil, or_false] at hn; rcases hn with rfl
      · exact xm_TooMany
  have good : E.Good ["TooMany"] := by
    intro n hn; simp only [List.mem_cons, List.not_mem_nil, or_false] at hn; rcases hn with rfl
    · show [(Value.ref C_TooMany, "TooMany")].lookup (Value.ref C_TooMany) = some "TooMany"; simp [List.lookup]
  have T : ∃ T : Top K mg, T.E = E ∧ T.f_law = f25 ∧ T.d_law = PySem.W.fnOf "law" "law" (defArgs s_law) (defBody s_law) (defScope s_law) .none kV25 dc25 pm25 an25 cd25 ct25 :=
    ⟨{ f_weighed := f0, d_weighed := (PySem.W.fnOf "weighed" "weighed" (defArgs s_weighed) (defBody s_weighed) (defScope s_weighed) .none kV0 dc0 pm0 an0 cd0 ct0), F_weighed := F0, b_weighed := F0.binds (ps := ["line", "row"]) (fun _ _ _ _ _ _ us hl => match us, hl with | [_, _], _ => rfl), m_weighed := PySem.W.mg_of X G a0,
        f_ask_bounds := f1, d_ask_bounds := (PySem.W.fnOf "ask_bounds" "ask_bounds" (defArgs s_ask_bounds) (defBody s_ask_bounds) (defScope s_ask_bounds) .none kV1 dc1 pm1 an1 cd1 ct1), F_ask_bounds := F1, b_ask_bounds := F1.binds (ps := ["rows", "many", "right"]) (fun _ _ _ _ _ _ us hl => match us, hl with | [_, _, _], _ => rfl), m_ask_bounds := PySem.W.mg_of X G a1,
        f_lies_under := f2, d_lies_under := (PySem.W.fnOf "lies_under" "lies_under" (defArgs s_lies_under) (defBody s_lies_under) (defScope s_lies_under) .none kV2 dc2 pm2 an2 cd2 ct2), F_lies_under := F2, b_lies_under := F2.binds (ps := ["one", "other"]) (fun _ _ _ _ _ _ us hl => match us, hl with | [_, _], _ => rfl), m_lies_under := PySem.W.mg_of X G a2,
        f_lies_above := f3, d_lies_above := (PySem.W.fnOf "lies_above" "lies_above" (defArgs s_lies_above) (defBody s_lies_above) (defScope s_lies_above) .none kV3 dc3 pm3 an3 cd3 ct3), F_lies_above := F3, b_lies_above := F3.binds (ps := ["row", "others"]) (fun _ _ _ _ _ _ us hl => match us, hl with | [_, _], _ => rfl), m_lies_above := PySem.W.mg_of X G a3,
        f_columns_of := f4, d_columns_of := (PySem.W.fnOf "columns_of" "columns_of" (defArgs s_columns_of) (defBody s_columns_of) (defScope s_columns_of) .none kV4 dc4 pm4 an4 cd4 ct4), F_columns_of := F4, b_columns_of := F4.binds (ps := ["rows", "many"]) (fun _ _ _ _ _ _ us hl => match us, hl with | [_, _], _ => rfl), m_columns_of := PySem.W.mg_of X G a4,
        f_is_even := f5, d_is_even := (PySem.W.fnOf "is_even" "is_even" (defArgs s_is_even) (defBody s_is_even) (defScope s_is_even) .none kV5 dc5 pm5 an5 cd5 ct5), F_is_even := F5, b_is_even := F5.binds (ps := ["sums"]) (fun _ _ _ _ _ _ us hl => match us, hl with | [_], _ => rfl), m_is_even := PySem.W.mg_of X G a5,
        f_one_more := f6, d_one_more := (PySem.W.fnOf "one_more" "one_more" (defArgs s_one_more) (defBody s_one_more) (defScope s_one_more) .none kV6 dc6 pm6 an6 cd6 ct6), F_one_more := F6, b_one_more := F6.binds (ps := ["row", "at"]) (fun _ _ _ _ _ _ us hl => match us, hl with | [_, _], _ => rfl), m_one_more := PySem.W.mg_of X G a6,
        f_summed := f7, d_summed := (PySem.W.fnOf "summed" "summed" (defArgs s_summed) (defBody s_summed) (defScope s_summed) .none kV7 dc7 pm7 an7 cd7 ct7), F_summed := F7, b_summed := F7.binds (ps := ["one", "other"]) (fun _ _ _ _ _ _ us hl => match us, hl with | [_, _], _ => rfl), m_summed := PySem.W.mg_of X G a7,
        f_next_level := f8, d_next_level := (PySem.W.fnOf "next_level" "next_level" (defArgs s_next_level) (defBody s_next_level) (defScope s_next_level) .none kV8 dc8 pm8 an8 cd8 ct8), F_next_level := F8, b_next_level := F8.binds (ps := ["level", "columns", "barred"]) (fun _ _ _ _ _ _ us hl => match us, hl with | [_, _, _], _ => rfl), m_next_level := PySem.W.mg_of X G a8,
        f_grown := f9, d_grown := (PySem.W.fnOf "grown" "grown" (defArgs s_grown) (defBody s_grown) (defScope s_grown) .none kV9 dc9 pm9 an9 cd9 ct9), F_grown := F9, b_grown := F9.binds (ps := ["level", "columns", "barred"]) (fun _ _ _ _ _ _ us hl => match us, hl with | [_, _, _], _ => rfl), m_grown := PySem.W.mg_of X G a9,
        f_least := f10, d_least := (PySem.W.fnOf "least" "least" (defArgs s_least) (defBody s_least) (defScope s_least) .none kV10 dc10 pm10 an10 cd10 ct10), F_least := F10, b_least := F10.binds (ps := ["rows", "many"]) (fun _ _ _ _ _ _ us hl => match us, hl with | [_, _], _ => rfl), m_least := PySem.W.mg_of X G a10,
        f_least_to := f11, d_least_to := (PySem.W.fnOf "least_to" "least_to" (defArgs s_least_to) (defBody s_least_to) (defScope s_least_to) .none kV11 dc11 pm11 an11 cd11 ct11), F_least_to := F11, b_least_to := F11.binds (ps := ["rows", "many", "right"]) (fun _ _ _ _ _ _ us hl => match us, hl with | [_, _, _], _ => rfl), m_least_to := PySem.W.mg_of X G a11,
        f_l_cell := f12, d_l_cell := (PySem.W.fnOf "_law_cell" "_law_cell" (defArgs s_l_cell) (defBody s_l_cell) (defScope s_l_cell) .none kV12 dc12 pm12 an12 cd12 ct12), F_l_cell := F12, b_l_cell := F12.binds (ps := ["_law_script", "_law_k"]) (fun _ _ _ _ _ _ us hl => match us, hl with | [_, _], _ => rfl), m_l_cell := PySem.W.mg_of X G a12,
        f_l_pick := f13, d_l_pick := (PySem.W.fnOf "_law_pick" "_law_pick" (defArgs s_l_pick) (defBody s_l_pick) (defScope s_l_pick) .none kV13 dc13 pm13 an13 cd13 ct13), F_l_pick := F13, b_l_pick := F13.binds (ps := ["_law_script", "_law_k", "_law_many"]) (fun _ _ _ _ _ _ us hl => match us, hl with | [_, _, _], _ => rfl), m_l_pick := PySem.W.mg_of X G a13,
        f_l_whole := f14, d_l_whole := (PySem.W.fnOf "_law_whole" "_law_whole" (defArgs s_l_whole) (defBody s_l_whole) (defScope s_l_whole) .none kV14 dc14 pm14 an14 cd14 ct14), F_l_whole := F14, b_l_whole := F14.binds (ps := ["_law_found"]) (fun _ _ _ _ _ _ us hl => match us, hl with | [_], _ => rfl), m_l_whole := PySem.W.mg_of X G a14,
        f_l_under := f15, d_l_under := (PySem.W.fnOf "_law_under" "_law_under" (defArgs s_l_under) (defBody s_l_under) (defScope s_l_under) .none kV15 dc15 pm15 an15 cd15 ct15), F_l_under := F15, b_l_under := F15.binds (ps := ["_law_one", "_law_other"]) (fun _ _ _ _ _ _ us hl => match us, hl with | [_, _], _ => rfl), m_l_under := PySem.W.mg_of X G a15,
        f_l_any_under := f16, d_l_any_under := (PySem.W.fnOf "_law_any_under" "_law_any_under" (defArgs s_l_any_under) (defBody s_l_any_under) (defScope s_l_any_under) .none kV16 dc16 pm16 an16 cd16 ct16), F_l_any_under := F16, b_l_any_under := F16.binds (ps := ["_law_rows", "_law_row"]) (fun _ _ _ _ _ _ us hl => match us, hl with | [_, _], _ => rfl), m_l_any_under := PySem.W.mg_of X G a16,
        f_l_are_rows := f17, d_l_are_rows := (PySem.W.fnOf "_law_are_rows" "_law_are_rows" (defArgs s_l_are_rows) (defBody s_l_are_rows) (defScope s_l_are_rows) .none kV17 dc17 pm17 an17 cd17 ct17), F_l_are_rows := F17, b_l_are_rows := F17.binds (ps := ["_law_found", "_law_many"]) (fun _ _ _ _ _ _ us hl => match us, hl with | [_, _], _ => rfl), m_l_are_rows := PySem.W.mg_of X G a17,
        f_l_thinned := f18, d_l_thinned := (PySem.W.fnOf "_law_thinned" "_law_thinned" (defArgs s_l_thinned) (defBody s_l_thinned) (defScope s_l_thinned) .none kV18 dc18 pm18 an18 cd18 ct18), F_l_thinned := F18, b_l_thinned := F18.binds (ps := ["_law_rows"]) (fun _ _ _ _ _ _ us hl => match us, hl with | [_], _ => rfl), m_l_thinned := PySem.W.mg_of X G a18,
        f_l_free := f19, d_l_free := (PySem.W.fnOf "_law_free" "_law_free" (defArgs s_l_free) (defBody s_l_free) (defScope s_l_free) .none kV19 dc19 pm19 an19 cd19 ct19), F_l_free := F19, b_l_free := F19.binds (ps := ["_law_a", "_law_b", "_law_c"]) (fun _ _ _ _ _ _ us hl => match us, hl with | [_, _, _], _ => rfl), m_l_free := PySem.W.mg_of X G a19,
        f_l_top := f20, d_l_top := (PySem.W.fnOf "_law_top" "_law_top" (defArgs s_l_top) (defBody s_l_top) (defScope s_l_top) .none kV20 dc20 pm20 an20 cd20 ct20), F_l_top := F20, b_l_top := F20.binds (ps := ["_law_a", "_law_c", "_law_right"]) (fun _ _ _ _ _ _ us hl => match us, hl with | [_, _, _], _ => rfl), m_l_top := PySem.W.mg_of X G a20,
        f_l_bound := f21, d_l_bound := (PySem.W.fnOf "_law_bound" "_law_bound" (defArgs s_l_bound) (defBody s_l_bound) (defScope s_l_bound) .none kV21 dc21 pm21 an21 cd21 ct21), F_l_bound := F21, b_l_bound := F21.binds (ps := ["_law_a", "_law_b", "_law_c", "_law_right"]) (fun _ _ _ _ _ _ us hl => match us, hl with | [_, _, _, _], _ => rfl), m_l_bound := PySem.W.mg_of X G a21,
        f_l_order := f22, d_l_order := (PySem.W.fnOf "_law_order" "_law_order" (defArgs s_l_order) (defBody s_l_order) (defScope s_l_order) .none kV22 dc22 pm22 an22 cd22 ct22), F_l_order := F22, b_l_order := F22.binds (ps := ["_law_script", "_law_many"]) (fun _ _ _ _ _ _ us hl => match us, hl with | [_, _], _ => rfl), m_l_order := PySem.W.mg_of X G a22,
        f_l_turned := f23, d_l_turned := (PySem.W.fnOf "_law_turned" "_law_turned" (defArgs s_l_turned) (defBody s_l_turned) (defScope s_l_turned) .none kV23 dc23 pm23 an23 cd23 ct23), F_l_turned := F23, b_l_turned := F23.binds (ps := ["_law_rows", "_law_order_here"]) (fun _ _ _ _ _ _ us hl => match us, hl with | [_, _], _ => rfl), m_l_turned := PySem.W.mg_of X G a23,
        f_l_same := f24, d_l_same := (PySem.W.fnOf "_law_same" "_law_same" (defArgs s_l_same) (defBody s_l_same) (defScope s_l_same) .none kV24 dc24 pm24 an24 cd24 ct24), F_l_same := F24, b_l_same := F24.binds (ps := ["_law_found", "_law_due", "_law_many"]) (fun _ _ _ _ _ _ us hl => match us, hl with | [_, _, _], _ => rfl), m_l_same := PySem.W.mg_of X G a24,
        f_law := f25, d_law := (PySem.W.fnOf "law" "law" (defArgs s_law) (defBody s_law) (defScope s_law) .none kV25 dc25 pm25 an25 cd25 ct25), F_law := F25, b_law := F25.binds (ps := ["_law_script"]) (fun _ _ _ _ _ _ us hl => match us, hl with | [_], _ => rfl), m_law := PySem.W.mg_of X G a25,
        z_abs := PySem.W.mg_none_of X G z_abs,
        z_bool := PySem.W.mg_none_of X G z_bool,
        z_enumerate := PySem.W.mg_none_of X G z_enumerate,
        z_int := PySem.W.mg_none_of X G z_int,
        z_isinstance := PySem.W.mg_none_of X G z_isinstance,
        z_len := PySem.W.mg_none_of X G z_len,
        z_list := PySem.W.mg_none_of X G z_list,
        z_max := PySem.W.mg_none_of X G z_max,
        z_range := PySem.W.mg_none_of X G z_range,
        z_sorted := PySem.W.mg_none_of X G z_sorted,
        z_sum := PySem.W.mg_none_of X G z_sum,
        z_tuple := PySem.W.mg_none_of X G z_tuple,
        z_zip := PySem.W.mg_none_of X G z_zip,
        c_MOST_MANY := ⟨ct_MOST_MANY, PySem.W.mg_of X G c_MOST_MANY⟩,
        c_MOST_NUMBER := ⟨ct_MOST_NUMBER, PySem.W.mg_of X G c_MOST_NUMBER⟩,
        c_MOST_RIGHT := ⟨ct_MOST_RIGHT, PySem.W.mg_of X G c_MOST_RIGHT⟩,
        c_MOST_ROWS := ⟨ct_MOST_ROWS, PySem.W.mg_of X G c_MOST_ROWS⟩,
        E := E, eo := eo }, rfl, rfl, rfl⟩
  obtain ⟨T, e0, e1, e2⟩ := T
  refine ⟨PySem.W.fnOf "law" "law" (defArgs s_law) (defBody s_law) (defScope s_law) .none kV25 dc25 pm25 an25 cd25 ct25, fun s v => .of_eq rfl, fun base _ _ => ?_⟩
  have := ok_law (P := P) (w := w) (base := base) T
  rw [e1, e2, e0] at this
  exact spE_ok good this
end K25
open PySem PySem.W PyProof.Rows
set_option maxHeartbeats 0 in
theorem PySem.Challenge.cw_mixform_k25_one_equation_holds : PySem.Challenge.rw_mixform_k25_one_equation.Holds := by
  w_on; o_law; k_head; (case hw => w_witness2)
  k_fill
  refine L2.walk_of (l := PySem.Challenge.rw_mixform_k25_one_equation) (n := 63) (k := 7) (x := "_law_script") (CX := fun w => L2.CX PySem.Challenge.pw_mixform_k25_one_equation w) (sp := fun w => DL.spE _ w ["TooMany"] K25.G_law) rfl (by decide) rfl ⟨rfl, by decide, by decide⟩ (fun w h Y => PySem.W.kIn_of Y) ?F (fun _ _ a ns hl _ hS => DL.law_spE hS (fun E hE => K25.law_ok E hE ns hl)) (fun _ _ _ _ _ h => DL.cx_no h)
  case F =>
    intro w mg fa h KX G hmg
    refine' K25.all_mk KX G hmg ?a0 ?l0 ?c0 ?k0 ?a1 ?l1 ?c1 ?k1 ?a2 ?l2 ?c2 ?k2 ?a3 ?l3 ?c3 ?k3 ?a4 ?l4 ?c4 ?k4 ?a5 ?l5 ?c5 ?k5 ?a6 ?l6 ?c6 ?k6 ?a7 ?l7 ?c7 ?k7 ?a8 ?l8 ?c8 ?k8 ?a9 ?l9 ?c9 ?k9 ?a10 ?l10 ?c10 ?k10 ?a11 ?l11 ?c11 ?k11 ?a12 ?l12 ?c12 ?k12 ?a13 ?l13 ?c13 ?k13 ?a14 ?l14 ?c14 ?k14 ?a15 ?l15 ?c15 ?k15 ?a16 ?l16 ?c16 ?k16 ?a17 ?l17 ?c17 ?k17 ?a18 ?l18 ?c18 ?k18 ?a19 ?l19 ?c19 ?k19 ?a20 ?l20 ?c20 ?k20 ?a21 ?l21 ?c21 ?k21 ?a22 ?l22 ?c22 ?k22 ?a23 ?l23 ?c23 ?k23 ?a24 ?l24 ?c24 ?k24 ?a25 ?l25 ?c25 ?k25 ?z_abs ?z_bool ?z_enumerate ?z_int ?z_isinstance ?z_len ?z_list ?z_max ?z_range ?z_sorted ?z_sum ?z_tuple ?z_zip ?c_MOST_MANY ?c_MOST_NUMBER ?c_MOST_RIGHT ?c_MOST_ROWS ?ac_MixError ?ac_TooMany ?xq_TooMany ?xk_TooMany ?xt_TooMany ?x1_TooMany ?x2_TooMany ?x3_TooMany ?x4_TooMany ?x5_TooMany ?x6_TooMany ?x7_TooMany ?x8_TooMany ?xv_TooMany ?xm_TooMany ?kt_TooMany_MixError ?kt_TooMany_TooMany
    (case a0 => k_is); (case l0 => k_is); (case c0 => k_is); (case k0 => k_is); (case a1 => k_is); (case l1 => k_is); (case c1 => k_is); (case k1 => k_is); (case a2 => k_is); (case l2 => k_is); (case c2 => k_is); (case k2 => k_is); (case a3 => k_is); (case l3 => k_is); (case c3 => k_is); (case k3 => k_is); (case a4 => k_is); (case l4 => k_is); (case c4 => k_is); (case k4 => k_is); (case a5 => k_is); (case l5 => k_is); (case c5 => k_is); (case k5 => k_is); (case a6 => k_is); (case l6 => k_is); (case c6 => k_is); (case k6 => k_is); (case a7 => k_is); (case l7 => k_is); (case c7 => k_is); (case k7 => k_is); (case a8 => k_is); (case l8 => k_is); (case c8 => k_is); (case k8 => k_is); (case a9 => k_is); (case l9 => k_is); (case c9 => k_is); (case k9 => k_is); (case a10 => k_is); (case l10 => k_is); (case c10 => k_is); (case k10 => k_is); (case a11 => k_is); (case l11 => k_is); (case c11 => k_is); (case k11 => k_is); (case a12 => k_is); (case l12 => k_is); (case c12 => k_is); (case k12 => k_is); (case a13 => k_is); (case l13 => k_is); (case c13 => k_is); (case k13 => k_is); (case a14 => k_is); (case l14 => k_is); (case c14 => k_is); (case k14 => k_is); (case a15 => k_is); (case l15 => k_is); (case c15 => k_is); (case k15 => k_is); (case a16 => k_is); (case l16 => k_is); (case c16 => k_is); (case k16 => k_is); (case a17 => k_is); (case l17 => k_is); (case c17 => k_is); (case k17 => k_is); (case a18 => k_is); (case l18 => k_is); (case c18 => k_is); (case k18 => k_is); (case a19 => k_is); (case l19 => k_is); (case c19 => k_is); (case k19 => k_is); (case a20 => k_is); (case l20 => k_is); (case c20 => k_is); (case k20 => k_is); (case a21 => k_is); (case l21 => k_is); (case c21 => k_is); (case k21 => k_is); (case a22 => k_is); (case l22 => k_is); (case c22 => k_is); (case k22 => k_is); (case a23 => k_is); (case l23 => k_is); (case c23 => k_is); (case k23 => k_is); (case a24 => k_is); (case l24 => k_is); (case c24 => k_is); (case k24 => k_is); (case a25 => k_is); (case l25 => k_is); (case c25 => k_is); (case k25 => k_is); (case z_abs => k_is); (case z_bool => k_is); (case z_enumerate => k_is); (case z_int => k_is); (case z_isinstance => k_is); (case z_len => k_is); (case z_list => k_is); (case z_max => k_is); (case z_range => k_is); (case z_sorted => k_is); (case z_sum => k_is); (case z_tuple => k_is); (case z_zip => k_is); (case c_MOST_MANY => k_is); (case c_MOST_NUMBER => k_is); (case c_MOST_RIGHT => k_is); (case c_MOST_ROWS => k_is); (case ac_MixError => k_is); (case ac_TooMany => k_is); (case xq_TooMany => k_exc); (case xk_TooMany => k_is); (case xt_TooMany => k_is); (case x1_TooMany => k_is); (case x2_TooMany => k_is); (case x3_TooMany => k_is); (case x4_TooMany => k_is); (case x5_TooMany => k_is); (case x6_TooMany => k_is); (case x7_TooMany => k_is); (case x8_TooMany => k_is); (case xv_TooMany => kit_is); (case xm_TooMany => kts_exm); (case kt_TooMany_MixError => kit_is); (case kt_TooMany_TooMany => kit_is)

